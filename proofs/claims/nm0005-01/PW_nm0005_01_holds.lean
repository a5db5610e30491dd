import PyProof.Rows.All
import Wide.All
import OpenK.AllK
import Wide.FinOn
import Open.Row
import KE.KIntText
import KE.KRevSl
import KE.KSetDisp
import PySem.Challenge.RW_nm0005_01
set_option Elab.async false
set_option linter.all false
section
open PySem PySem.Calls PyProof.Rows PySem.W
namespace Mine

def Sub (K h : Heap) : Prop := ∀ b o, K.get? b = some o → h.get? b = some o
theorem Sub.refl (K : Heap) : Sub K K := fun _ _ e => e
theorem Sub.trans {a b c : Heap} (x : Sub a b) (y : Sub b c) : Sub a c := fun n o e => y n o (x n o e)

def ghost : Obj := { cls := .none, data := .freed }
/-- h seen at the places of p alone -/
def mask (h : Heap) (p : Nat → Bool) : Heap := ⟨h.objs.mapIdx fun i o => if p i then o else ghost, h.life⟩
theorem mask_get (h : Heap) (p : Nat → Bool) (b : Addr) : (mask h p).get? b = if p b then h.get? b else none := by
  unfold mask Heap.get?
  simp only [Array.getElem?_mapIdx]
  cases e : h.objs[b]? with
  | none => cases p b <;> rfl
  | some o => cases p b <;> simp [ghost]
theorem mask_size (h : Heap) (p : Nat → Bool) : (mask h p).objs.size = h.objs.size := by simp [mask]

/-- K with one place more -/
theorem grow {K h : Heap} (s : Sub K h) {a : Addr} {o : Obj} (e : h.get? a = some o) :
    ∃ K', Sub K K' ∧ Sub K' h ∧ K'.get? a = some o ∧ ∀ b o', K'.get? b = some o' → K.get? b = some o' ∨ b = a := by
  refine ⟨mask h fun b => (K.get? b).isSome || b == a, fun b o' eb => ?_, fun b o' eb => ?_, ?_, fun b o' eb => ?_⟩
  · rw [mask_get, eb]; exact s b o' eb
  · rw [mask_get] at eb
    split at eb
    · exact eb
    · cases eb
  · rw [mask_get]; simp [e]
  · rw [mask_get] at eb
    split at eb
    · rename_i hp
      cases q : K.get? b with
      | some o'' => exact .inl ((s b o'' q).symm.trans eb ▸ rfl)
      | none => simp only [q, Option.isSome_none, Bool.false_or, beq_iff_eq] at hp; exact .inr hp
    · cases eb

/-- what a name holds: a datum, a very object, a range from nought, or a tuple of such -/
inductive LV where
  | d (x : PyData)
  | r (a : Addr)
  | rg (n : Int)
  | tp (ls : List LV)
abbrev LV.i (x : Int) : LV := .d (.int x)
abbrev LV.s (x : Str) : LV := .d (.str x)
abbrev LV.b (x : Bool) : LV := .d (.bool x)

mutual
def LV.Is (K : Heap) (v : Value) : LV → Prop
  | .d x => ∃ as, Reads K v x as
  | .r a => v = .ref a
  | .rg n => ∃ a t u w, v = .ref a ∧ IsRange K a 0 n 1 t u w
  | .tp ls => ∃ a vs, v = .ref a ∧ K.IsTuple a (vs : List Value).toArray ∧ AllIs K vs ls
def AllIs (K : Heap) (vs : List Value) : List LV → Prop
  | [] => vs = []
  | l :: ls => ∃ v r, vs = v :: r ∧ l.Is K v ∧ AllIs K r ls
end
theorem allIs_nil {K : Heap} : AllIs K [] [] := by unfold AllIs; rfl
theorem allIs_cons {K : Heap} {v : Value} {vs : List Value} {l : LV} {ls : List LV} (h : l.Is K v) (r : AllIs K vs ls) : AllIs K (v :: vs) (l :: ls) := by unfold AllIs; exact ⟨v, vs, rfl, h, r⟩
theorem allIs_of_nil {K : Heap} {vs : List Value} (h : AllIs K vs []) : vs = [] := by unfold AllIs at h; exact h
theorem allIs_of_cons {K : Heap} {vs : List Value} {l : LV} {ls : List LV} (h : AllIs K vs (l :: ls)) : ∃ v r, vs = v :: r ∧ l.Is K v ∧ AllIs K r ls := by unfold AllIs at h; exact h
mutual
theorem LV.Is.mono {K K' : Heap} (s : Sub K K') : ∀ {l : LV} {v : Value}, l.Is K v → l.Is K' v
  | .d _, _, h => by unfold LV.Is at h ⊢; obtain ⟨as, h⟩ := h; exact ⟨as, Reads.keeps s h⟩
  | .r _, _, h => by unfold LV.Is at h ⊢; exact h
  | .rg _, _, h => by unfold LV.Is at h ⊢; obtain ⟨a, t, u, w, e, h⟩ := h; exact ⟨a, t, u, w, e, s _ _ h⟩
  | .tp _, _, h => by unfold LV.Is at h ⊢; obtain ⟨a, vs, e, ⟨o, h1, h2⟩, h3⟩ := h; exact ⟨a, vs, e, ⟨o, s _ _ h1, h2⟩, AllIs.mono s h3⟩
theorem AllIs.mono {K K' : Heap} (s : Sub K K') : ∀ {ls : List LV} {vs : List Value}, AllIs K vs ls → AllIs K' vs ls
  | [], _, h => by obtain rfl := allIs_of_nil h; exact allIs_nil
  | _ :: _, _, h => by obtain ⟨v, r, rfl, a, b⟩ := allIs_of_cons h; exact allIs_cons (LV.Is.mono s a) (AllIs.mono s b)
end
theorem AllIs.length {K : Heap} : ∀ {ls : List LV} {vs : List Value}, AllIs K vs ls → vs.length = ls.length
  | [], _, h => by obtain rfl := allIs_of_nil h; rfl
  | _ :: _, _, h => by obtain ⟨v, r, rfl, _, b⟩ := allIs_of_cons h; exact congrArg (· + 1) b.length
theorem AllIs.get {K : Heap} : ∀ {ls : List LV} {vs : List Value}, AllIs K vs ls → ∀ {i : Nat} {l : LV}, ls[i]? = some l → ∃ v, vs[i]? = some v ∧ l.Is K v
  | [], _, _, _, _, e => by simp at e
  | _ :: _, _, h, i, _, e => by
    obtain ⟨v, r, rfl, a, b⟩ := allIs_of_cons h
    cases i with
    | zero => exact ⟨v, rfl, Option.some.inj e ▸ a⟩
    | succ i => exact b.get (i := i) (by simpa using e)
theorem AllIs.append {K : Heap} : ∀ {ls : List LV} {vs : List Value}, AllIs K vs ls → ∀ {ws : List Value} {ms : List LV}, AllIs K ws ms → AllIs K (vs ++ ws) (ls ++ ms)
  | [], _, h, _, _, x => by obtain rfl := allIs_of_nil h; exact x
  | _ :: _, _, h, _, _, x => by obtain ⟨v, r, rfl, a, b⟩ := allIs_of_cons h; exact allIs_cons a (b.append x)
theorem AllIs.set {K : Heap} : ∀ {ls : List LV} {vs : List Value}, AllIs K vs ls → ∀ (i : Nat) {v : Value} {l : LV}, l.Is K v → AllIs K (vs.set i v) (ls.set i l)
  | [], _, h, _, _, _, _ => by obtain rfl := allIs_of_nil h; exact allIs_nil
  | _ :: _, _, h, i, _, _, x => by
    obtain ⟨v, r, rfl, a, b⟩ := allIs_of_cons h
    cases i with
    | zero => exact allIs_cons x b
    | succ i => exact allIs_cons a (b.set i x)
theorem allIs_of_reads {K : Heap} : ∀ {vs : List Value} {ds : List PyData} {as : List Addr}, ReadsAll K vs ds as → AllIs K vs (ds.map .d)
  | _, _, _, .nil => allIs_nil
  | _, _, _, .cons h r => allIs_cons (by unfold LV.Is; exact ⟨_, h⟩) (allIs_of_reads r)
theorem reads_of_allIs {K : Heap} : ∀ {ds : List PyData} {vs : List Value}, AllIs K vs (ds.map .d) → ∃ as, ReadsAll K vs ds as
  | [], _, h => by obtain rfl := allIs_of_nil h; exact ⟨[], .nil⟩
  | _ :: _, _, h => by
    obtain ⟨v, r, rfl, a, b⟩ := allIs_of_cons h
    unfold LV.Is at a
    obtain ⟨as, a⟩ := a
    obtain ⟨bs, h⟩ := reads_of_allIs b
    exact ⟨as ++ bs, .cons a h⟩

/-- a list of the call's own, as it stands now -/
def GIs (K h : Heap) (g : Addr × List LV) : Prop := ∃ vs : List Value, h.PlainList g.1 vs.toArray ∧ AllIs K vs g.2
theorem GIs.mono {K K' h : Heap} (s : Sub K K') {g : Addr × List LV} : GIs K h g → GIs K' h g := fun ⟨vs, a, d⟩ => ⟨vs, a, d.mono s⟩
theorem GIs.heap {K h h' : Heap} {g : Addr × List LV} (e : ∀ o, h.get? g.1 = some o → h'.get? g.1 = some o) : GIs K h g → GIs K h' g := fun ⟨vs, a, r⟩ => ⟨vs, a.at e, r⟩
theorem GIs.here {K h : Heap} {g : Addr × List LV} : GIs K h g → ∃ o, h.get? g.1 = some o := fun ⟨_, ⟨_, e⟩, _⟩ => ⟨_, e⟩

/-- what does not change in the whole call of the law -/
structure Bs where
  prog : Program
  w : World
  base : Heap
  os : OsState
  mg : Str → Option Value
  mb : Str → Option Value
  hmg : base.Ns mainGlobals mg
  hmb : base.Ns builtinsNs mb
  hlim : base.NoLimit

abbrev Gs := List (Addr × List LV)

structure Gi (B : Bs) (K : Heap) (G : Gs) (s : Shared) : Prop where
  sub : Sub K s.heap
  base : Sub B.base K
  gl : ∀ g ∈ G, GIs K s.heap g
  out : ∀ g ∈ G, K.get? g.1 = none
  nd : (G.map (·.1)).Nodup
  gens : s.gens = #[]
  os : s.os = B.os

theorem Gi.toks {B : Bs} {K : Heap} {G : Gs} {s : Shared} (g : Gi B K G s) (n : Nat) : Gi B K G { s with toks := n } := ⟨g.sub, g.base, g.gl, g.out, g.nd, g.gens, g.os⟩

/-- a def: its name, its block, its local names -/
structure Fd where
  name : Str
  scope : Scope
  names : List Str
  hk : scope.kind = .function
  hn : ∀ x ∈ names, scope.names.lookup x = some .local
  hnd : names.Nodup
  hdb : ∀ x ∈ names, (x == ("__debug__" : Str)) = false

/-- one run of a def -/
structure Cx (B : Bs) (F : Fd) where
  A : Around
  L : Addr
  fa : Option Addr
  fr : Option Addr
  cells : List (Str × Addr)
  cd : Value
  entry : Heap
  K₀ : Heap
  gin : List Addr
  held : List (Addr × Obj)
  hh : A.handled = none
  hu : A.units + 64 < cLine
def Cx.env {B : Bs} {F : Fd} (C : Cx B F) : Env := { scope := F.scope, locals := C.L, globals := mainGlobals, cells := C.cells, qual := F.name ++ ".<locals>.", func := C.fa, code := C.cd, frame := C.fr, builtins := builtinsNs }
abbrev Cx.M {B : Bs} {F : Fd} (_ : Cx B F) : Model := model B.prog B.w

abbrev Loc := List (Option LV)

structure Inv {B : Bs} {F : Fd} (C : Cx B F) (K : Heap) (Λ : Loc) (G : Gs) (s : Shared) : Prop where
  gi : Gi B K G s
  loc : ∃ m, s.heap.Ns C.L m ∧ ∀ (i : Nat) (l : LV), Λ[i]? = some (some l) → ∃ x v, F.names[i]? = some x ∧ m x = some v ∧ l.Is K v
  len : Λ.length = F.names.length
  outL : K.get? C.L = none
  lowL : C.entry.objs.size ≤ C.L
  new : ∀ b o, K.get? b = some o → C.K₀.get? b = some o ∨ C.entry.objs.size ≤ b
  old : ∀ b o, C.entry.get? b = some o → b ∉ C.gin → s.heap.get? b = some o
  gap : ∀ g ∈ G, g.1 ≠ C.L ∧ (g.1 ∈ C.gin ∨ C.entry.objs.size ≤ g.1)
  hld : ∀ p ∈ C.held, s.heap.get? p.1 = some p.2 ∧ K.get? p.1 = none ∧ p.1 ≠ C.L ∧ (∀ g ∈ G, g.1 ≠ p.1) ∧ C.entry.objs.size ≤ p.1

theorem Inv.toks {B : Bs} {F : Fd} {C : Cx B F} {K : Heap} {Λ : Loc} {G : Gs} {s : Shared} (g : Inv C K Λ G s) (n : Nat) : Inv C K Λ G { s with toks := n } := ⟨g.gi.toks n, g.loc, g.len, g.outL, g.lowL, g.new, g.old, g.gap, g.hld⟩
theorem Inv.ltL {B : Bs} {F : Fd} {C : Cx B F} {K : Heap} {Λ : Loc} {G : Gs} {s : Shared} (g : Inv C K Λ G s) : C.L < s.heap.objs.size := by
  obtain ⟨m, ⟨o, es, ep, h, _⟩, _⟩ := g.loc
  exact Heap.lt_size h

/-- a new object that never turns -/
theorem Inv.alloc {B : Bs} {F : Fd} {C : Cx B F} {K : Heap} {Λ : Loc} {G : Gs} {s : Shared} (g : Inv C K Λ G s) (o : Obj) (hf : o.isFreed = false) :
    ∃ K', Sub K K' ∧ K'.get? s.heap.objs.size = some o ∧ Inv C K' Λ G { s with heap := s.heap.push o } := by
  have hs : Sub K (s.heap.push o) := fun b o' e => Heap.get?_push_of_some o (g.gi.sub b o' e)
  obtain ⟨K', a, b, c, d⟩ := grow hs (Heap.get?_push_size s.heap hf)
  have hp : ∀ q o', s.heap.get? q = some o' → (s.heap.push o).get? q = some o' := fun q o' e => Heap.get?_push_of_some o e
  refine ⟨K', a, c, ⟨⟨b, g.gi.base.trans a, fun x hx => ?_, fun x hx => ?_, g.gi.nd, g.gi.gens, g.gi.os⟩, ?_, g.len, ?_, g.lowL, fun q o' e => ?_, fun q o' e n => hp _ _ (g.old q o' e n), g.gap, fun p hpm => ?_⟩⟩
  · exact GIs.mono a (GIs.heap (hp _) (g.gi.gl x hx))
  · cases q : K'.get? x.1 with
    | none => rfl
    | some o' =>
      rcases d _ _ q with z | z
      · rw [g.gi.out x hx] at z; cases z
      · obtain ⟨o'', e1⟩ := (g.gi.gl x hx).here
        exact absurd (Heap.lt_size e1) (by rw [z]; exact Nat.lt_irrefl _)
  · obtain ⟨m, hns, hl⟩ := g.loc
    exact ⟨m, hns.push o, fun i l e => let ⟨x, v, p, q, r⟩ := hl i l e; ⟨x, v, p, q, r.mono a⟩⟩
  · cases q : K'.get? C.L with
    | none => rfl
    | some o' =>
      rcases d _ _ q with z | z
      · rw [g.outL] at z; cases z
      · exact absurd g.ltL (by rw [z]; exact Nat.lt_irrefl _)
  · rcases d _ _ e with z | z
    · exact g.new _ _ z
    · refine .inr ?_
      rw [z]
      exact Nat.le_trans g.lowL (Nat.le_of_lt g.ltL)
  · obtain ⟨h1, h2, h3⟩ := g.hld p hpm
    refine ⟨hp _ _ h1, ?_, h3⟩
    cases q : K'.get? p.1 with
    | none => rfl
    | some o' =>
      rcases d _ _ q with z | z
      · rw [h2] at z; cases z
      · exact absurd (Heap.lt_size h1) (by rw [z]; exact Nat.lt_irrefl _)

/-- a store into a name -/
theorem Inv.store {B : Bs} {F : Fd} {C : Cx B F} {K : Heap} {Λ : Loc} {G : Gs} {s : Shared} (g : Inv C K Λ G s) {i : Nat} {x : Str} (hx : F.names[i]? = some x) {v : Value} {l : LV} (hl : l.Is K v) {h' : Heap}
    (hn : ∀ m, s.heap.Ns C.L m → h'.Ns C.L (fun y => if y = x then some v else m y)) (hb : Heap.SameBut C.L s.heap h') (n : Nat) : Inv C K (Λ.set i (some l)) G { s with heap := h', toks := n } := by
  have hi : i < F.names.length := (List.getElem?_eq_some_iff.mp hx).1
  refine ⟨⟨fun b o e => ?_, g.gi.base, fun y hy => ?_, g.gi.out, g.gi.nd, g.gi.gens, g.gi.os⟩, ?_, by rw [List.length_set]; exact g.len, g.outL, g.lowL, g.new, fun b o e q => ?_, g.gap, fun p hp => ⟨(hb.2 _ (g.hld p hp).2.2.1).trans (g.hld p hp).1, (g.hld p hp).2⟩⟩
  · have : b ≠ C.L := fun z => by rw [z, g.outL] at e; cases e
    exact (hb.2 b this).trans (g.gi.sub b o e)
  · exact GIs.heap (fun o e => (hb.2 _ (g.gap y hy).1).trans e) (g.gi.gl y hy)
  · obtain ⟨m, hns, hm⟩ := g.loc
    refine ⟨_, hn m hns, fun j l' e => ?_⟩
    rw [List.getElem?_set] at e
    by_cases q : i = j
    · subst q
      rw [if_pos rfl, if_pos (by rw [g.len]; exact hi)] at e
      cases e
      exact ⟨x, v, hx, if_pos rfl, hl⟩
    · rw [if_neg q] at e
      obtain ⟨x', v', p1, p2, p3⟩ := hm j l' e
      refine ⟨x', v', p1, ?_, p3⟩
      have : x' ≠ x := fun z => by
        subst z
        obtain ⟨h1, e1⟩ := List.getElem?_eq_some_iff.mp hx
        obtain ⟨h2, e2⟩ := List.getElem?_eq_some_iff.mp p1
        exact q ((List.getElem?_inj hi F.hnd).mp (hx.trans p1.symm))
      rw [if_neg this]; exact p2
  · have : b ≠ C.L := fun z => absurd (Heap.lt_size e) (by rw [z]; exact Nat.not_lt.mpr g.lowL)
    exact (hb.2 b this).trans (g.old b o e q)

/-- forgetting -/
def SubLoc (Λ' Λ : Loc) : Prop := Λ'.length = Λ.length ∧ ∀ (i : Nat) (l : LV), Λ'[i]? = some (some l) → Λ[i]? = some (some l)
theorem Inv.weak {B : Bs} {F : Fd} {C : Cx B F} {K : Heap} {Λ Λ' : Loc} {G : Gs} {s : Shared} (g : Inv C K Λ G s) (h : SubLoc Λ' Λ) : Inv C K Λ' G s :=
  ⟨g.gi, let ⟨m, a, b⟩ := g.loc; ⟨m, a, fun i l e => b i l (h.2 i l e)⟩, h.1.trans g.len, g.outL, g.lowL, g.new, g.old, g.gap, g.hld⟩

/-- an expression: from these names and lists to a value and lists -/
def EvG {B : Bs} {F : Fd} (C : Cx B F) (Λ : Loc) (G : Gs) (t : Sem Value) (P : LV → Gs → Prop) : Prop :=
  ∀ K s, Inv C K Λ G s → ∀ (Q : Value → Shared → Prop) (E : Value → Shared → Prop),
    (∀ K' v s' l G', Sub K K' → P l G' → Inv C K' Λ G' s' → l.Is K' v → Q v s') → wpAny C.M C.A t Q E s
def Ev {B : Bs} {F : Fd} (C : Cx B F) (Λ : Loc) (G : Gs) (t : Sem Value) (l : LV) : Prop :=
  ∀ K s, Inv C K Λ G s → ∀ (Q : Value → Shared → Prop) (E : Value → Shared → Prop),
    (∀ K' v s', Sub K K' → Inv C K' Λ G s' → l.Is K' v → Q v s') → wpAny C.M C.A t Q E s
theorem Ev.g {B : Bs} {F : Fd} {C : Cx B F} {Λ : Loc} {G : Gs} {t : Sem Value} {l : LV} (h : Ev C Λ G t l) {P : LV → Gs → Prop} (p : P l G) : EvG C Λ G t P := fun K s g Q E k => h K s g Q E fun K' v s' a b c => k K' v s' l G a p b c
theorem EvG.one {B : Bs} {F : Fd} {C : Cx B F} {Λ : Loc} {G : Gs} {t : Sem Value} {l : LV} (h : EvG C Λ G t fun l' G' => l' = l ∧ G' = G) : Ev C Λ G t l := fun K s g Q E k => h K s g Q E fun K' v s' l' G' a p b c => by obtain ⟨rfl, rfl⟩ := p; exact k K' v s' a b c

/-- a test -/
def Ts {B : Bs} {F : Fd} (C : Cx B F) (Λ : Loc) (G : Gs) (t : Sem Bool) (b : Bool) : Prop :=
  ∀ K s, Inv C K Λ G s → ∀ (Q : Bool → Shared → Prop) (E : Value → Shared → Prop),
    (∀ K' s', Sub K K' → Inv C K' Λ G s' → Q b s') → wpAny C.M C.A t Q E s

inductive Out where
  | nx (Λ : Loc) (G : Gs)
  | rt (l : LV) (G : Gs)
  | br (Λ : Loc) (G : Gs)
  | ct (Λ : Loc) (G : Gs)
def Out.Is {B : Bs} {F : Fd} (C : Cx B F) (K : Heap) (f : Flow) (s : Shared) : Out → Prop
  | .nx Λ G => f = .next ∧ Inv C K Λ G s
  | .rt l G => ∃ v Λ, f = .ret v ∧ l.Is K v ∧ Inv C K Λ G s
  | .br Λ G => f = .brk ∧ Inv C K Λ G s
  | .ct Λ G => f = .cont ∧ Inv C K Λ G s

def Ex {B : Bs} {F : Fd} (C : Cx B F) (Λ : Loc) (G : Gs) (t : Sem Flow) (O : Out → Prop) : Prop :=
  ∀ K s, Inv C K Λ G s → ∀ (Q : Flow → Shared → Prop) (E : Value → Shared → Prop),
    (∀ K' f s' o, Sub K K' → O o → o.Is C K' f s' → Q f s') → wpAny C.M C.A t Q E s

def Thn {B : Bs} {F : Fd} (C : Cx B F) (rest : List Stmt) (O : Out → Prop) : Out → Prop
  | .nx Λ G => Ex C Λ G (execs rest C.env) O
  | .rt l G => O (.rt l G)
  | .br Λ G => O (.br Λ G)
  | .ct Λ G => O (.ct Λ G)

section
variable {B : Bs} {F : Fd} {C : Cx B F} {Λ : Loc} {G : Gs} {O : Out → Prop}

theorem Ex.weak {Λ' : Loc} {t : Sem Flow} (h : SubLoc Λ' Λ) (k : Ex C Λ' G t O) : Ex C Λ G t O := fun K s g Q E q => k K s (g.weak h) Q E q
theorem Ex.mono {t : Sem Flow} {O' : Out → Prop} (h : ∀ o, O o → O' o) (k : Ex C Λ G t O) : Ex C Λ G t O' := fun K s g Q E q => k K s g Q E fun K' f s' o a b c => q K' f s' o a (h o b) c

theorem ex_nil (h : O (.nx Λ G)) : Ex C Λ G (execs [] C.env) O := fun K s g Q E q => wpAny_execs_nil (q K .next s _ (Sub.refl K) h ⟨rfl, g⟩)
theorem ex_cons {st : Stmt} {rest : List Stmt} (h : Ex C Λ G (exec st C.env) (Thn C rest O)) : Ex C Λ G (execs (st :: rest) C.env) O := fun K s g Q E q => by
  refine wpAny_execs_cons (h K s g _ E fun K' f s' o a b c => ?_)
  cases o with
  | nx Λ' G' => obtain ⟨rfl, i⟩ := c; exact b K' s' i Q E fun K'' f s'' o x y z => q K'' f s'' o (a.trans x) y z
  | rt l G' => obtain ⟨v, Λ', rfl, i⟩ := c; exact q K' _ s' _ a b ⟨v, Λ', rfl, i⟩
  | br Λ' G' => obtain ⟨rfl, i⟩ := c; exact q K' _ s' _ a b ⟨rfl, i⟩
  | ct Λ' G' => obtain ⟨rfl, i⟩ := c; exact q K' _ s' _ a b ⟨rfl, i⟩

theorem ex_if {test : PySem.Expr} {body orelse : List Stmt} {pos : Pos} {b : Bool} (ht : Ts C Λ G (isTrue test C.env (eval test C.env)) b)
    (h1 : b = true → Ex C Λ G (execs body C.env) O) (h2 : b = false → Ex C Λ G (execs orelse C.env) O) : Ex C Λ G (exec (.If test body orelse pos) C.env) O := fun K s g Q E q => by
  refine wpAny_If (ht K s g _ E fun K' s' a i => ?_)
  cases b with
  | true => exact h1 rfl K' s' i Q E fun K'' f s'' o x y z => q K'' f s'' o (a.trans x) y z
  | false => exact h2 rfl K' s' i Q E fun K'' f s'' o x y z => q K'' f s'' o (a.trans x) y z

theorem ex_break {pos : Pos} (h : O (.br Λ G)) : Ex C Λ G (exec (.Break pos) C.env) O := fun K s g Q E q => wpAny_Break (q K .brk s _ (Sub.refl K) h ⟨rfl, g⟩)
theorem ex_continue {pos : Pos} (h : O (.ct Λ G)) : Ex C Λ G (exec (.Continue pos) C.env) O := fun K s g Q E q => wpAny_Continue (q K .cont s _ (Sub.refl K) h ⟨rfl, g⟩)
theorem ex_return {e : PySem.Expr} {pos : Pos} {P : LV → Gs → Prop} (he : EvG C Λ G (eval e C.env) P) (h : ∀ l G', P l G' → O (.rt l G')) : Ex C Λ G (exec (.Return (some e) pos) C.env) O := fun K s g Q E q =>
  wpAny_Return_some (he K s g _ E fun K' v s' l G' a p i c => q K' _ s' _ a (h l G' p) ⟨v, Λ, rfl, c, i⟩)
theorem ex_return1 {e : PySem.Expr} {pos : Pos} {l : LV} (he : Ev C Λ G (eval e C.env) l) (h : O (.rt l G)) : Ex C Λ G (exec (.Return (some e) pos) C.env) O :=
  ex_return (he.g (P := fun l' G' => l' = l ∧ G' = G) ⟨rfl, rfl⟩) fun _ _ p => by obtain ⟨rfl, rfl⟩ := p; exact h

theorem kind_local {B : Bs} {F : Fd} {C : Cx B F} {i : Nat} {x : Str} (hx : F.names[i]? = some x) : C.env.kindOf x = some .local := F.hn x (List.mem_of_getElem? hx)

theorem ev_name {i : Nat} {x : Str} {pos : Pos} {l : LV} (hx : F.names[i]? = some x) (hl : Λ[i]? = some (some l)) : Ev C Λ G (eval (.Name x pos) C.env) l := fun K s g Q E q => by
  obtain ⟨m, hns, hm⟩ := g.loc
  obtain ⟨x', v, p1, p2, p3⟩ := hm i l hl
  obtain rfl : x = x' := Option.some.inj (hx.symm.trans p1)
  exact wpAny_Name (wpAny_loadName_local F.hk (kind_local hx) hns p2 (q K v s (Sub.refl K) g p3)) (F.hdb x (List.mem_of_getElem? hx))

theorem ev_load {i : Nat} {x : Str} {l : LV} (hx : F.names[i]? = some x) (hl : Λ[i]? = some (some l)) : Ev C Λ G (loadName C.env x) l := fun K s g Q E q => by
  obtain ⟨m, hns, hm⟩ := g.loc
  obtain ⟨x', v, p1, p2, p3⟩ := hm i l hl
  obtain rfl : x = x' := Option.some.inj (hx.symm.trans p1)
  exact wpAny_loadName_local F.hk (kind_local hx) hns p2 (q K v s (Sub.refl K) g p3)

theorem store_name {i : Nat} {x : Str} (hx : F.names[i]? = some x) {K : Heap} {s : Shared} (g : Inv C K Λ G s) {v : Value} {l : LV} (hl : l.Is K v) {Q : Unit → Shared → Prop} {E : Value → Shared → Prop}
    (q : ∀ s', Inv C K (Λ.set i (some l)) G s' → Q () s') : wpAny C.M C.A (storeName C.env x v) Q E s := by
  obtain ⟨m, hns, hm⟩ := g.loc
  refine wpAny_storeName_local (kind_local hx) hns (fun h' hn hb => q _ ?_) (by show (F.scope.kind == .class || (F.scope.kind == .module && C.L != mainGlobals)) = false; rw [F.hk]; rfl)
  refine g.store hx hl (fun m' hm' => ?_) hb _
  have : m' = m := by
    obtain ⟨o, es, ep, e1, e2, e3, e4⟩ := hns
    obtain ⟨o', es', ep', f1, f2, f3, f4⟩ := hm'
    obtain rfl : o = o' := Option.some.inj (e1.symm.trans f1)
    have := e2.symm.trans f2
    cases this
    funext y
    exact ((f4 y).symm.trans (e4 y))
  rw [this]; exact hn

theorem ex_assign {i : Nat} {x : Str} {p' pos : Pos} {e : PySem.Expr} {P : LV → Gs → Prop} (hx : F.names[i]? = some x) (he : EvG C Λ G (eval e C.env) P) (h : ∀ l G', P l G' → O (.nx (Λ.set i (some l)) G'))
    (hs : swapsWith e (some (.Name x p')) pos.line C.env = pure false := by rfl) : Ex C Λ G (exec (.Assign [.Name x p'] e pos) C.env) O := fun K s g Q E q =>
  wpAny_Assign_Name (he K s g _ E fun K' v s' l G' a p i' c => store_name hx i' c fun s'' i'' => q K' _ s'' _ a (h l G' p) ⟨rfl, i''⟩) hs
theorem ex_assign1 {i : Nat} {x : Str} {p' pos : Pos} {e : PySem.Expr} {l : LV} (hx : F.names[i]? = some x) (he : Ev C Λ G (eval e C.env) l) (h : O (.nx (Λ.set i (some l)) G))
    (hs : swapsWith e (some (.Name x p')) pos.line C.env = pure false := by rfl) : Ex C Λ G (exec (.Assign [.Name x p'] e pos) C.env) O :=
  ex_assign hx (he.g (P := fun l' G' => l' = l ∧ G' = G) ⟨rfl, rfl⟩) (fun _ _ p => by obtain ⟨rfl, rfl⟩ := p; exact h) hs

theorem ex_while {σ : Type} {test : PySem.Expr} {body orelse : List Stmt} {pos : Pos} (Λf : σ → Loc) (Gf : σ → Gs) (J : σ → Prop) (μ : σ → Nat) (b : σ → Bool)
    (ht : ∀ x, J x → Ts C (Λf x) (Gf x) (isTrue test C.env (eval test C.env)) (b x))
    (hb : ∀ x, J x → b x = true → Ex C (Λf x) (Gf x) (execs body C.env) fun o => match o with
      | .nx Λ' G' | .ct Λ' G' => ∃ y, J y ∧ μ y < μ x ∧ SubLoc (Λf y) Λ' ∧ G' = Gf y
      | .br Λ' G' => O (.nx Λ' G')
      | .rt l G' => O (.rt l G'))
    (he : ∀ x, J x → b x = false → Ex C (Λf x) (Gf x) (execs orelse C.env) O) (x : σ) (hx : J x) (hΛ : SubLoc (Λf x) Λ) (hG : G = Gf x) : Ex C Λ G (exec (.While test body orelse pos) C.env) O := fun K s g Q E q => by
  refine wpAny_While ?_
  subst hG
  refine codeAny_whileLoop (fun n s' => ∃ K' x, Sub K K' ∧ J x ∧ μ x = n ∧ Inv C K' (Λf x) (Gf x) s') (fun n s' hI => ?_) (μ x) ⟨K, x, Sub.refl K, hx, rfl, g.weak hΛ⟩
  obtain ⟨K', y, hK, hy, rfl, i⟩ := hI
  refine ht y hy K' s' i _ _ fun K₂ s₂ h₂ i₂ => ?_
  cases hby : b y with
  | true =>
    simp only [if_true]
    refine hb y hy hby K₂ s₂ i₂ _ _ fun K₃ f s₃ o h₃ ho hi => ?_
    cases o with
    | nx Λ' G' => obtain ⟨rfl, j⟩ := hi; obtain ⟨z, jz, lz, sz, rfl⟩ := ho; exact ⟨_, lz, K₃, z, hK.trans (h₂.trans h₃), jz, rfl, j.weak sz⟩
    | ct Λ' G' => obtain ⟨rfl, j⟩ := hi; obtain ⟨z, jz, lz, sz, rfl⟩ := ho; exact ⟨_, lz, K₃, z, hK.trans (h₂.trans h₃), jz, rfl, j.weak sz⟩
    | br Λ' G' => obtain ⟨rfl, j⟩ := hi; exact q K₃ _ s₃ _ (hK.trans (h₂.trans h₃)) ho ⟨rfl, j⟩
    | rt l G' => obtain ⟨v, Λ', rfl, j⟩ := hi; exact q K₃ _ s₃ _ (hK.trans (h₂.trans h₃)) ho ⟨v, Λ', rfl, j⟩
  | false =>
    simp only [Bool.false_eq_true, if_false]
    exact he y hy hby K₂ s₂ i₂ _ _ fun K₃ f s₃ o h₃ ho hi => q K₃ f s₃ o (hK.trans (h₂.trans h₃)) ho hi
end
end Mine
end
section
open PySem PySem.Calls PyProof.Rows PySem.W
namespace Mine

section
variable {B : Bs} {F : Fd} {C : Cx B F} {Λ : Loc} {G : Gs} {O : Out → Prop}

theorem is_int {K : Heap} {v : Value} {x : Int} (h : (LV.i x).Is K v) : ∃ t, v = .int x t := by unfold LV.Is at h; obtain ⟨as, h⟩ := h; cases h; exact ⟨_, rfl⟩
theorem is_str {K : Heap} {v : Value} {x : Str} (h : (LV.s x).Is K v) : ∃ t, v = .str x t := by unfold LV.Is at h; obtain ⟨as, h⟩ := h; cases h; exact ⟨_, rfl⟩
theorem is_bool {K : Heap} {v : Value} {x : Bool} (h : (LV.b x).Is K v) : v = .bool x := by unfold LV.Is at h; obtain ⟨as, h⟩ := h; cases h; rfl
theorem is_none {K : Heap} {v : Value} (h : (LV.d .none).Is K v) : v = .none := by unfold LV.Is at h; obtain ⟨as, h⟩ := h; cases h; rfl
theorem int_is (K : Heap) (x : Int) (t : Tok) : (LV.i x).Is K (.int x t) := by unfold LV.Is; exact ⟨_, .int x t⟩
theorem str_is (K : Heap) (x : Str) (t : Tok) : (LV.s x).Is K (.str x t) := by unfold LV.Is; exact ⟨_, .str x t⟩
theorem bool_is (K : Heap) (x : Bool) : (LV.b x).Is K (.bool x) := by unfold LV.Is; exact ⟨_, .bool x⟩
theorem none_is (K : Heap) : (LV.d .none).Is K .none := by unfold LV.Is; exact ⟨_, .none⟩
theorem is_d {K : Heap} {v : Value} {x : PyData} (h : (LV.d x).Is K v) : ∃ as, Reads K v x as := by unfold LV.Is at h; exact h
theorem d_is {K : Heap} {v : Value} {x : PyData} {as : List Addr} (h : Reads K v x as) : (LV.d x).Is K v := by unfold LV.Is; exact ⟨as, h⟩
theorem is_r {K : Heap} {v : Value} {a : Addr} (h : (LV.r a).Is K v) : v = .ref a := by unfold LV.Is at h; exact h
theorem r_is (K : Heap) (a : Addr) : (LV.r a).Is K (.ref a) := by unfold LV.Is; rfl
theorem is_tuple {K : Heap} {v : Value} {xs : List PyData} (h : (LV.d (.tuple xs)).Is K v) : ∃ a vs, v = .ref a ∧ K.IsTuple a (vs : List Value).toArray ∧ AllIs K vs (xs.map .d) := by
  obtain ⟨as, h⟩ := is_d h
  cases h with
  | tuple h1 h2 h3 h4 => exact ⟨_, _, rfl, ⟨_, h1, h2, _, by rw [h3]⟩, allIs_of_reads h4⟩
theorem tuple_is {K : Heap} {a : Addr} {vs : List Value} {xs : List PyData} (h : K.IsTuple a vs.toArray) (hv : AllIs K vs (xs.map .d)) : (LV.d (.tuple xs)).Is K (.ref a) := by
  obtain ⟨o, h1, h2, n, h3⟩ := h
  obtain ⟨as, r⟩ := reads_of_allIs hv
  exact d_is (.tuple h1 h2 h3 (by simpa using r))
theorem is_list {K : Heap} {v : Value} {xs : List PyData} (h : (LV.d (.list xs)).Is K v) : ∃ a vs, v = .ref a ∧ K.IsList a (vs : List Value).toArray ∧ AllIs K vs (xs.map .d) := by
  obtain ⟨as, h⟩ := is_d h
  cases h with
  | list h1 h2 h3 h4 => exact ⟨_, _, rfl, ⟨_, h1, h2, _, by rw [h3]⟩, allIs_of_reads h4⟩
theorem list_is {K : Heap} {a : Addr} {vs : List Value} {xs : List PyData} (h : K.IsList a vs.toArray) (hv : AllIs K vs (xs.map .d)) : (LV.d (.list xs)).Is K (.ref a) := by
  obtain ⟨o, h1, h2, n, h3⟩ := h
  obtain ⟨as, r⟩ := reads_of_allIs hv
  exact d_is (.list h1 h2 h3 (by simpa using r))
theorem isList_sub {K h : Heap} (s : Sub K h) {a : Addr} {items : Array Value} (x : K.IsList a items) : h.IsList a items := let ⟨o, e, r⟩ := x; ⟨o, s _ _ e, r⟩
theorem isTuple_sub {K h : Heap} (s : Sub K h) {a : Addr} {items : Array Value} (x : K.IsTuple a items) : h.IsTuple a items := let ⟨o, e, r⟩ := x; ⟨o, s _ _ e, r⟩

-- CONSTANTS
theorem ev_int {i : Int} {k : Nat} {pos : Pos} : Ev C Λ G (eval (.Constant (.int i) k pos) C.env) (.i i) := fun K s g Q E q => wpAny_Constant_int (q K _ _ (Sub.refl K) (g.toks _) (int_is K i _))
theorem ev_str {x : Str} {k : Nat} {pos : Pos} : Ev C Λ G (eval (.Constant (.str x) k pos) C.env) (.s x) := fun K s g Q E q => Calls.Constant_str (q K _ _ (Sub.refl K) (g.toks _) (str_is K x _))
theorem ev_none {k : Nat} {pos : Pos} : Ev C Λ G (eval (.Constant .none k pos) C.env) (.d .none) := fun K s g Q E q => wpAny_Constant_none (q K _ _ (Sub.refl K) g (none_is K))
theorem ev_bool {b : Bool} {k : Nat} {pos : Pos} : Ev C Λ G (eval (.Constant (.bool b) k pos) C.env) (.b b) := fun K s g Q E q => wpAny_Constant_bool (q K _ _ (Sub.refl K) g (bool_is K b))

-- NAMES of the top
theorem ev_global {x : Str} {pos : Pos} {v : Value} {l : LV} (hx : F.scope.names.lookup x = some .globalImplicit) (hm : B.mg x = some v) (hl : l.Is B.base v)
    (hd : (x == ("__debug__" : Str)) = false := by decide) : Ev C Λ G (eval (.Name x pos) C.env) l := fun K s g Q E q =>
  Calls.Name_function_global F.hk hx (Calls.loadGlobal_global (B.hmg.keeps (g.gi.base.trans g.gi.sub)) hm (q K v s (Sub.refl K) g (hl.mono g.gi.base))) hd
theorem wp_builtin {x : Str} {pos : Pos} {v : Value} {K : Heap} {s : Shared} (g : Inv C K Λ G s) {Q : Value → Shared → Prop} {E : Value → Shared → Prop} (hx : F.scope.names.lookup x = some .globalImplicit) (hm : B.mg x = none) (hb : B.mb x = some v)
    (q : Q v s) (hd : (x == ("__debug__" : Str)) = false := by decide) : wpAny C.M C.A (eval (.Name x pos) C.env) Q E s :=
  Calls.Name_function_global F.hk hx (Calls.loadGlobal_builtin (B.hmg.keeps (g.gi.base.trans g.gi.sub)) hm (B.hmb.keeps (g.gi.base.trans g.gi.sub)) hb q) hd

-- TWO OPERANDS
def BinR (C : Cx B F) (Λ : Loc) (G : Gs) (op : Operator) (a b c : LV) : Prop :=
  ∀ K s x y, Inv C K Λ G s → a.Is K x → b.Is K y → ∀ (Q : Value → Shared → Prop) (E : Value → Shared → Prop),
    (∀ K' v s', Sub K K' → Inv C K' Λ G s' → c.Is K' v → Q v s') → wpAny C.M C.A (binaryOp op x y) Q E s
theorem ev_bin {l r : PySem.Expr} {op : Operator} {pos : Pos} {a b c : LV} (hl : Ev C Λ G (eval l C.env) a) (hr : Ev C Λ G (eval r C.env) b) (h : BinR C Λ G op a b c) : Ev C Λ G (eval (.BinOp l op r pos) C.env) c := fun K s g Q E q =>
  wpAny_BinOp (hl K s g _ E fun K₁ x s₁ k₁ g₁ i₁ => hr K₁ s₁ g₁ _ E fun K₂ y s₂ k₂ g₂ i₂ => h K₂ s₂ x y g₂ (i₁.mono k₂) i₂ _ E fun K₃ v s₃ k₃ g₃ i₃ => q K₃ v s₃ (k₁.trans (k₂.trans k₃)) g₃ i₃)
theorem evG_bin {l r : PySem.Expr} {op : Operator} {pos : Pos} {P P' : LV → Gs → Prop} (hl : EvG C Λ G (eval l C.env) P) (hr : ∀ a G₁, P a G₁ → EvG C Λ G₁ (eval r C.env) fun b G₂ => ∃ c, BinR C Λ G₂ op a b c ∧ P' c G₂) :
    EvG C Λ G (eval (.BinOp l op r pos) C.env) P' := fun K s g Q E q =>
  wpAny_BinOp (hl K s g _ E fun K₁ x s₁ a G₁ k₁ p₁ g₁ i₁ => hr a G₁ p₁ K₁ s₁ g₁ _ E fun K₂ y s₂ b G₂ k₂ ⟨c, h, p₂⟩ g₂ i₂ => h K₂ s₂ x y g₂ (i₁.mono k₂) i₂ _ E fun K₃ v s₃ k₃ g₃ i₃ => q K₃ v s₃ c G₂ (k₁.trans (k₂.trans k₃)) p₂ g₃ i₃)

theorem bin_add {a b : Int} : BinR C Λ G .Add (.i a) (.i b) (.i (a + b)) := fun K s x y g ha hb Q E q => by
  obtain ⟨t, rfl⟩ := is_int ha; obtain ⟨u, rfl⟩ := is_int hb
  exact add_int (q K _ _ (Sub.refl K) (g.toks _) (int_is K _ _))
theorem bin_sub {a b : Int} : BinR C Λ G .Sub (.i a) (.i b) (.i (a - b)) := fun K s x y g ha hb Q E q => by
  obtain ⟨t, rfl⟩ := is_int ha; obtain ⟨u, rfl⟩ := is_int hb
  exact sub_int (q K _ _ (Sub.refl K) (g.toks _) (int_is K _ _))
theorem bin_mul {a b : Int} (hm : IntMulOk a b) : BinR C Λ G .Mult (.i a) (.i b) (.i (a * b)) := fun K s x y g ha hb Q E q => by
  obtain ⟨t, rfl⟩ := is_int ha; obtain ⟨u, rfl⟩ := is_int hb
  exact mul_int (q K _ _ (Sub.refl K) (g.toks _) (int_is K _ _)) hm
theorem bin_mod {a b : Int} (hb0 : b ≠ 0) (hp : Builtin.divisionGoesByPylong a b = false) : BinR C Λ G .Mod (.i a) (.i b) (.i (a.fmod b)) := fun K s x y g ha hb Q E q => by
  obtain ⟨t, rfl⟩ := is_int ha; obtain ⟨u, rfl⟩ := is_int hb
  exact mod_int hb0 (q K _ _ (Sub.refl K) (g.toks _) (int_is K _ _))
theorem bin_floordiv {a b : Int} (hb0 : b ≠ 0) (hp : Builtin.divisionGoesByPylong a b = false) : BinR C Λ G .FloorDiv (.i a) (.i b) (.i (a.fdiv b)) := fun K s x y g ha hb Q E q => by
  obtain ⟨t, rfl⟩ := is_int ha; obtain ⟨u, rfl⟩ := is_int hb
  exact floordiv_int hb0 (q K _ _ (Sub.refl K) (g.toks _) (int_is K _ _)) (.inl hp)
theorem bin_pow {a n : Int} (hn : 0 ≤ n) (hsz : (Builtin.Int.intBits a : Int) * n ≤ 2 ^ 27) : BinR C Λ G .Pow (.i a) (.i n) (.i (a ^ n.toNat)) := fun K s x y g ha hb Q E q => by
  obtain ⟨t, rfl⟩ := is_int ha; obtain ⟨u, rfl⟩ := is_int hb
  exact pow_int hn hsz (q K _ _ (Sub.refl K) (g.toks _) (int_is K _ _))
theorem bin_cat {a b : Str} (h : a.length + b.length ≤ sizeLine) : BinR C Λ G .Add (.s a) (.s b) (.s (a ++ b)) := fun K s x y g ha hb Q E q => by
  obtain ⟨t, rfl⟩ := is_str ha; obtain ⟨u, rfl⟩ := is_str hb
  exact add_str (fun t' tk => q K _ _ (Sub.refl K) (g.toks _) (str_is K _ _)) h

-- COMPARISONS
def CmpR (C : Cx B F) (Λ : Loc) (G : Gs) (op : CmpOp) (a b : LV) (c : Bool) : Prop :=
  ∀ K s x y, Inv C K Λ G s → a.Is K x → b.Is K y → ∀ (Q : Value → Shared → Prop) (E : Value → Shared → Prop),
    (∀ K' s', Sub K K' → Inv C K' Λ G s' → Q (.bool c) s') → wpAny C.M C.A (compareOp op x y) Q E s
theorem ts_cmp {l r : PySem.Expr} {op : CmpOp} {pos : Pos} {a b : LV} {c : Bool} {whole : Sem Value} (hl : Ev C Λ G (eval l C.env) a) (hr : Ev C Λ G (eval r C.env) b) (h : CmpR C Λ G op a b c) (hm : behindInMarks op r = false := by rfl) :
    Ts C Λ G (isTrue (.Compare l [op] [r] pos) C.env whole) c := fun K s g Q E q =>
  wpAny_isTrue_Compare1 (hl K s g _ E fun K₁ x s₁ k₁ g₁ i₁ => hr K₁ s₁ g₁ _ E fun K₂ y s₂ k₂ g₂ i₂ => h K₂ s₂ x y g₂ (i₁.mono k₂) i₂ _ E fun K₃ s₃ k₃ g₃ => wpAny_truthy_bool (q K₃ s₃ (k₁.trans (k₂.trans k₃)) g₃)) hm
theorem ev_cmp {l r : PySem.Expr} {op : CmpOp} {pos : Pos} {a b : LV} {c : Bool} (hl : Ev C Λ G (eval l C.env) a) (hr : Ev C Λ G (eval r C.env) b) (h : CmpR C Λ G op a b c) (hm : behindInMarks op r = false := by rfl) :
    Ev C Λ G (eval (.Compare l [op] [r] pos) C.env) (.b c) := fun K s g Q E q =>
  wpAny_Compare1 (hl K s g _ E fun K₁ x s₁ k₁ g₁ i₁ => hr K₁ s₁ g₁ _ E fun K₂ y s₂ k₂ g₂ i₂ => h K₂ s₂ x y g₂ (i₁.mono k₂) i₂ _ E fun K₃ s₃ k₃ g₃ => q K₃ _ s₃ (k₁.trans (k₂.trans k₃)) g₃ (bool_is K₃ c)) hm

theorem cmp_lt {a b : Int} : CmpR C Λ G .Lt (.i a) (.i b) (decide (a < b)) := fun K s x y g ha hb Q E q => by
  obtain ⟨t, rfl⟩ := is_int ha; obtain ⟨u, rfl⟩ := is_int hb
  exact lt_int (q K _ (Sub.refl K) g)
theorem cmp_gt {a b : Int} : CmpR C Λ G .Gt (.i a) (.i b) (decide (b < a)) := fun K s x y g ha hb Q E q => by
  obtain ⟨t, rfl⟩ := is_int ha; obtain ⟨u, rfl⟩ := is_int hb
  exact gt_int (q K _ (Sub.refl K) g)
theorem cmp_eqS {a b : Str} : CmpR C Λ G .Eq (.s a) (.s b) (a == b) := fun K s x y g ha hb Q E q => by
  obtain ⟨t, rfl⟩ := is_str ha; obtain ⟨u, rfl⟩ := is_str hb
  exact eq_str (q K _ (Sub.refl K) g)
theorem cmp_neS {a b : Str} : CmpR C Λ G .NotEq (.s a) (.s b) (a != b) := fun K s x y g ha hb Q E q => by
  obtain ⟨t, rfl⟩ := is_str ha; obtain ⟨u, rfl⟩ := is_str hb
  exact ne_str (q K _ (Sub.refl K) g)
theorem cmp_eqI {a b : Int} : CmpR C Λ G .Eq (.i a) (.i b) (a == b) := fun K s x y g ha hb Q E q => by
  obtain ⟨t, rfl⟩ := is_int ha; obtain ⟨u, rfl⟩ := is_int hb
  exact eq_int (q K _ (Sub.refl K) g)
theorem cmp_inS {a b : Str} : CmpR C Λ G .In (.s a) (.s b) (Txt.contains b a) := fun K s x y g ha hb Q E q => by
  obtain ⟨t, rfl⟩ := is_str ha; obtain ⟨u, rfl⟩ := is_str hb
  exact SB.contains (q K _ (Sub.refl K) g)
theorem cmp_notinS {a b : Str} : CmpR C Λ G .NotIn (.s a) (.s b) (!Txt.contains b a) := fun K s x y g ha hb Q E q => by
  obtain ⟨t, rfl⟩ := is_str ha; obtain ⟨u, rfl⟩ := is_str hb
  exact SB.notContains (q K _ (Sub.refl K) g)
theorem setOf_sub {K h : Heap} (s : Sub K h) {prog : Program} {w : World} {a : Addr} {S : Str → Bool} {n : Nat} (x : K.SetOf (strKind prog w) a S n) : h.SetOf (strKind prog w) a S n := let ⟨o, es, ep, t, e, r⟩ := x; ⟨o, es, ep, t, s _ _ e, r⟩
theorem mapOf_sub {K h : Heap} (s : Sub K h) {prog : Program} {w : World} {a : Addr} {f : Str → Option Value} (x : K.MapOf (strKind prog w) a f) : h.MapOf (strKind prog w) a f := let ⟨o, es, ep, e, r⟩ := x; ⟨o, es, ep, s _ _ e, r⟩
theorem cmp_inSet {x : Str} {a : Addr} {S : Str → Bool} {n : Nat} (hS : B.base.SetOf (strKind B.prog B.w) a S n) : CmpR C Λ G .In (.s x) (.r a) (S x) := fun K s v y g ha hb Q E q => by
  obtain ⟨t, rfl⟩ := is_str ha; obtain rfl := is_r hb
  exact wpAny_inSet_of (strKind_is _ _ x t) rfl (setOf_sub (g.gi.base.trans g.gi.sub) hS) (q K _ (Sub.refl K) (g.toks _))
theorem cmp_notinSet {x : Str} {a : Addr} {S : Str → Bool} {n : Nat} (hS : B.base.SetOf (strKind B.prog B.w) a S n) : CmpR C Λ G .NotIn (.s x) (.r a) (!S x) := fun K s v y g ha hb Q E q => by
  obtain ⟨t, rfl⟩ := is_str ha; obtain rfl := is_r hb
  exact wpAny_notInSet_of (strKind_is _ _ x t) rfl (setOf_sub (g.gi.base.trans g.gi.sub) hS) (q K _ (Sub.refl K) (g.toks _))
theorem cmp_inDict {x : Str} {a : Addr} {f : Str → Option Value} (hS : B.base.MapOf (strKind B.prog B.w) a f) (hs : (a == sysModules) = false) : CmpR C Λ G .In (.s x) (.r a) (f x).isSome := fun K s v y g ha hb Q E q => by
  obtain ⟨t, rfl⟩ := is_str ha; obtain rfl := is_r hb
  exact wpAny_in_of (strKind_is _ _ x t) hs (mapOf_sub (g.gi.base.trans g.gi.sub) hS) (q K _ (Sub.refl K) (g.toks _))
def isNoneD : PyData → Bool
  | .none => true
  | _ => false
theorem cmp_isNone {x : PyData} : CmpR C Λ G .Is (.d x) (.d .none) (isNoneD x) := fun K s v y g ha hb Q E q => by
  obtain rfl := is_none hb
  refine PySem.is_none ?_
  have : (v == Value.none) = isNoneD x := by
    obtain ⟨as, h⟩ := is_d ha
    cases h <;> rfl
  rw [this]
  exact q K _ (Sub.refl K) g
theorem cmp_neD {x y : PyData} (hx : SeqAt.shaped x = true) (hy : SeqAt.shaped y = true) : CmpR C Λ G .NotEq (.d x) (.d y) (!PyData.eqv x y) := fun K s v u g ha hb Q E q => by
  obtain ⟨as, ha⟩ := is_d ha; obtain ⟨bs, hb⟩ := is_d hb
  exact SeqAt.compareNe_shaped (Reads.keeps g.gi.sub ha) (Reads.keeps g.gi.sub hb) hx hy C.hu (q K _ (Sub.refl K) g)
theorem cmp_eqD {x y : PyData} (hx : SeqAt.shaped x = true) (hy : SeqAt.shaped y = true) : CmpR C Λ G .Eq (.d x) (.d y) (PyData.eqv x y) := fun K s v u g ha hb Q E q => by
  obtain ⟨as, ha⟩ := is_d ha; obtain ⟨bs, hb⟩ := is_d hb
  exact SeqAt.compareEq_shaped (Reads.keeps g.gi.sub ha) (Reads.keeps g.gi.sub hb) hx hy C.hu (q K _ (Sub.refl K) g)

-- TESTS
theorem ts_val {e : PySem.Expr} {b : Bool} (h : Ev C Λ G (eval e C.env) (.b b)) (he : isTrue e C.env (eval e C.env) = (do let v ← eval e C.env; standAt e.pos; holding [v] (truthy v)) := by rfl) : Ts C Λ G (isTrue e C.env (eval e C.env)) b := fun K s g Q E q =>
  wpAny_isTrue_value (h K s g _ E fun K' v s' k g' i => by rw [is_bool i]; exact wpAny_truthy_bool (q K' s' k g')) he
theorem ts_not {x : PySem.Expr} {pos : Pos} {whole : Sem Value} {b : Bool} (h : Ts C Λ G (isTrue x C.env (eval x C.env)) b) : Ts C Λ G (isTrue (.UnaryOp .Not x pos) C.env whole) (!b) := fun K s g Q E q =>
  wpAny_isTrue_Not (h K s g _ E fun K' s' k g' => q K' s' k g')
theorem ts_bool {op : BoolOp} {vs : List PySem.Expr} {pos : Pos} {whole : Sem Value} {b : Bool} (h : Ts C Λ G (allTrue op vs C.env) b) : Ts C Λ G (isTrue (.BoolOp op vs pos) C.env whole) b := fun K s g Q E q =>
  wpAny_isTrue_BoolOp (h K s g Q E q)
theorem ts_and_nil : Ts C Λ G (allTrue .And [] C.env) true := fun K s g Q E q => wpAny_allTrue_And_nil (q K s (Sub.refl K) g)
theorem ts_or_nil : Ts C Λ G (allTrue .Or [] C.env) false := fun K s g Q E q => wpAny_allTrue_Or_nil (q K s (Sub.refl K) g)
theorem ts_and {x : PySem.Expr} {rest : List PySem.Expr} {a b : Bool} (h : Ts C Λ G (isTrue x C.env (eval x C.env)) a) (h2 : a = true → Ts C Λ G (allTrue .And rest C.env) b) : Ts C Λ G (allTrue .And (x :: rest) C.env) (a && b) := fun K s g Q E q =>
  wpAny_allTrue_And_cons (h K s g _ E fun K' s' k g' => by
    cases a with
    | true => exact h2 rfl K' s' g' Q E fun K'' s'' k' g'' => q K'' s'' (k.trans k') g''
    | false => exact q K' s' k g')
theorem ts_or {x : PySem.Expr} {rest : List PySem.Expr} {a b : Bool} (h : Ts C Λ G (isTrue x C.env (eval x C.env)) a) (h2 : a = false → Ts C Λ G (allTrue .Or rest C.env) b) : Ts C Λ G (allTrue .Or (x :: rest) C.env) (a || b) := fun K s g Q E q =>
  wpAny_allTrue_Or_cons (h K s g _ E fun K' s' k g' => by
    cases a with
    | false => exact h2 rfl K' s' g' Q E fun K'' s'' k' g'' => q K'' s'' (k.trans k') g''
    | true => exact q K' s' k g')
theorem ts_eq {t : Sem Bool} {a b : Bool} (h : Ts C Λ G t a) (e : a = b) : Ts C Λ G t b := e ▸ h
theorem ev_eq {t : Sem Value} {a b : LV} (h : Ev C Λ G t a) (e : a = b) : Ev C Λ G t b := e ▸ h

theorem evG_ifexp {test body orelse : PySem.Expr} {pos : Pos} {b : Bool} {P : LV → Gs → Prop} (ht : Ts C Λ G (isTrue test C.env (eval test C.env)) b) (h1 : b = true → EvG C Λ G (eval body C.env) P) (h2 : b = false → EvG C Λ G (eval orelse C.env) P) :
    EvG C Λ G (eval (.IfExp test body orelse pos) C.env) P := fun K s g Q E q =>
  wpAny_IfExp (ht K s g _ E fun K' s' k g' => by
    cases b with
    | true => exact h1 rfl K' s' g' Q E fun K'' v s'' l G' k' p g'' i => q K'' v s'' l G' (k.trans k') p g'' i
    | false => exact h2 rfl K' s' g' Q E fun K'' v s'' l G' k' p g'' i => q K'' v s'' l G' (k.trans k') p g'' i)
theorem ev_ifexp {test body orelse : PySem.Expr} {pos : Pos} {b : Bool} {x y : LV} (ht : Ts C Λ G (isTrue test C.env (eval test C.env)) b) (h1 : b = true → Ev C Λ G (eval body C.env) x) (h2 : b = false → Ev C Λ G (eval orelse C.env) y) :
    Ev C Λ G (eval (.IfExp test body orelse pos) C.env) (if b = true then x else y) := EvG.one (evG_ifexp ht (fun h => (h1 h).g ⟨by rw [h]; rfl, rfl⟩) fun h => (h2 h).g ⟨by rw [h]; rfl, rfl⟩)

-- 0 <= place < base
theorem ts_between {l a b : PySem.Expr} {o₁ o₂ : CmpOp} {pos : Pos} {whole : Sem Value} {x y z : LV} {c d : Bool} (hl : Ev C Λ G (eval l C.env) x) (ha : Ev C Λ G (eval a C.env) y) (h1 : CmpR C Λ G o₁ x y c) (hb : Ev C Λ G (eval b C.env) z) (h2 : CmpR C Λ G o₂ y z d)
    (hm : lastMarks [o₁, o₂] [a, b] = false := by rfl) : Ts C Λ G (isTrue (.Compare l [o₁, o₂] [a, b] pos) C.env whole) (c && d) := fun K s g Q E q => by
  refine isTrue_chain (rs := []) (ops := []) (hl K s g _ E fun K₁ v s₁ k₁ g₁ i₁ => ?_) hm
  refine test_link (ha K₁ s₁ g₁ _ E fun K₂ u s₂ k₂ g₂ i₂ => h1 K₂ s₂ v u g₂ (i₁.mono k₂) i₂ _ E fun K₃ s₃ k₃ g₃ => wpAny_truthy_bool ?_)
  cases c with
  | false => exact q K₃ s₃ (k₁.trans (k₂.trans k₃)) g₃
  | true => exact test_last (hb K₃ s₃ g₃ _ E fun K₄ u' s₄ k₄ g₄ i₄ => h2 K₄ s₄ u u' g₄ (i₂.mono (k₃.trans k₄)) i₄ _ E fun K₅ s₅ k₅ g₅ => wpAny_truthy_bool (q K₅ s₅ (k₁.trans (k₂.trans (k₃.trans (k₄.trans k₅)))) g₅))
end
end Mine
end
section
open PySem PySem.Calls PyProof.Rows PySem.W PySem.Builtin PySem.Builtin.Str
namespace Mine

/-- a text by its signs -/
def tx (l : List Nat) : Str := ⟨l.toArray⟩
abbrev LV.t (l : List Nat) : LV := .s (tx l)
theorem tx_eta (x : Str) : x = tx x.cps.toList := by cases x; simp [tx]
theorem tx_length (l : List Nat) : (tx l).length = l.length := by simp [tx, Str.length]
theorem tx_inj {a b : List Nat} : tx a = tx b ↔ a = b := by simp [tx]
theorem tx_append (a b : List Nat) : tx a ++ tx b = tx (a ++ b) := Str.ext' (by simp [tx, Str.cps_append])
theorem tx_cps (l : List Nat) : (tx l).cps.toList = l := by simp [tx]
theorem tx_beq (a b : List Nat) : (tx a == tx b) = (a == b) := by
  rw [Bool.eq_iff_iff, beq_iff_eq, beq_iff_eq]; exact tx_inj
theorem tx_bne (a b : List Nat) : (tx a != tx b) = (a != b) := congrArg (fun b => !b) (tx_beq a b)
def cs (x : String) : List Nat := (Str.ofString x).cps.toList
theorem tx_cs (x : String) : Str.ofString x = tx (cs x) := tx_eta _

theorem item_tx (l : List Nat) {i : Int} (h0 : 0 ≤ i) (h : i < l.length) : Txt.item (tx l) i = tx [l.getD i.toNat 0] := by
  unfold Txt.item Txt.charAt
  rw [tx_length, StrLaws.seqIndex_nonneg h0 h]
  simp [tx, List.getD]

/-- l[lo:hi] -/
def sl (l : List Nat) (lo hi : Option Int) : List Nat := (l.take (hi.elim l.length (clipAt l.length))).drop (lo.elim 0 (clipAt l.length))
theorem clipAt_le (n : Nat) (i : Int) : clipAt n i ≤ n := by unfold clipAt; omega
theorem slice_tx (l : List Nat) (lo hi : Option Int) : Txt.slice (tx l) lo hi = tx (sl l lo hi) := by
  have hidx : strSliceIndices lo hi 1 l.length = (List.range (hi.elim l.length (clipAt l.length) - lo.elim 0 (clipAt l.length))).map ((lo.elim 0 (clipAt l.length)) + ·) := by
    unfold strSliceIndices
    simp only [show ((1 : Int) > 0) = True by simp, if_true]
    have e1 : (match lo with | none => (0 : Int) | some i => max 0 (min (if i < 0 then i + (l.length : Int) else i) (l.length : Int))) = ((lo.elim 0 (clipAt l.length) : Nat) : Int) := by
      cases lo with
      | none => rfl
      | some i => exact (clipAt_cast _ _).symm
    have e2 : (match hi with | none => (l.length : Int) | some i => max 0 (min (if i < 0 then i + (l.length : Int) else i) (l.length : Int))) = ((hi.elim l.length (clipAt l.length) : Nat) : Int) := by
      cases hi with
      | none => rfl
      | some i => exact (clipAt_cast _ _).symm
    refine Eq.trans ?_ (sliceRange_one _ _)
    rw [← e1, ← e2]
    rfl
  have hb : hi.elim l.length (clipAt l.length) ≤ l.length := by cases hi with | none => exact Nat.le_refl _ | some i => exact clipAt_le _ _
  have hpick : ((strSliceIndices lo hi 1 l.length).filterMap ((tx l).cps[·]?)) = sl l lo hi := by
    rw [hidx]
    have := pick_run l.toArray (lo.elim 0 (clipAt l.length)) (hi.elim l.length (clipAt l.length) - lo.elim 0 (clipAt l.length))
    refine Eq.trans this ?_
    unfold sl
    rw [List.drop_take]
  unfold Txt.slice
  rw [tx_length, hpick]
  split
  · rename_i h
    simp only [beq_self_eq_true, Bool.true_and, beq_iff_eq] at h
    rw [hidx, List.length_map, List.length_range] at h
    unfold sl
    have h1 : lo.elim 0 (clipAt l.length) = 0 ∨ l.length = 0 := by omega
    have h2 : hi.elim l.length (clipAt l.length) = l.length := by omega
    rw [h2, List.take_length]
    rcases h1 with h1 | h1
    · rw [h1]; rfl
    · rw [List.length_eq_zero_iff.mp h1]; simp
  · rfl
theorem sl_nn (l : List Nat) {a b : Int} (ha : 0 ≤ a) (hb : 0 ≤ b) : sl l (some a) (some b) = (l.take b.toNat).drop a.toNat := by
  unfold sl
  have e1 : clipAt l.length a = min a.toNat l.length := by unfold clipAt; rw [if_neg (by omega)]; omega
  have e2 : clipAt l.length b = min b.toNat l.length := by unfold clipAt; rw [if_neg (by omega)]; omega
  simp only [Option.elim, e1, e2]
  rw [← List.take_take, List.take_length]
  by_cases h : a.toNat ≤ l.length
  · rw [Nat.min_eq_left h]
  · rw [Nat.min_eq_right (by omega), List.drop_eq_nil_of_le (by simp; omega), List.drop_eq_nil_of_le (by simp; omega)]
theorem sl_to (l : List Nat) {b : Int} (hb : 0 ≤ b) : sl l none (some b) = l.take b.toNat := by
  unfold sl
  have e2 : clipAt l.length b = min b.toNat l.length := by unfold clipAt; rw [if_neg (by omega)]; omega
  simp only [Option.elim, e2, List.drop_zero]
  rw [← List.take_take, List.take_length]
theorem sl_from (l : List Nat) {a : Int} (ha : 0 ≤ a) : sl l (some a) none = l.drop a.toNat := by
  unfold sl
  have e1 : clipAt l.length a = min a.toNat l.length := by unfold clipAt; rw [if_neg (by omega)]; omega
  simp only [Option.elim, e1, List.take_length]
  by_cases h : a.toNat ≤ l.length
  · rw [Nat.min_eq_left h]
  · rw [Nat.min_eq_right (by omega), List.drop_eq_nil_of_le (by simp), List.drop_eq_nil_of_le (by omega)]
theorem sl_inner (l : List Nat) : sl l (some 1) (some (-1)) = (l.take (l.length - 1)).drop 1 := by
  unfold sl
  have e1 : clipAt l.length 1 = min 1 l.length := by unfold clipAt; rw [if_neg (by omega)]; omega
  have e2 : clipAt l.length (-1) = l.length - 1 := by unfold clipAt; rw [if_pos (by omega)]; omega
  simp only [Option.elim, e1, e2]
  cases l with
  | nil => simp
  | cons a r => rw [Nat.min_eq_left (by simp)]
theorem sl_le (l : List Nat) (lo hi : Option Int) : (sl l lo hi).length ≤ l.length := by unfold sl; simp; omega

section
variable {B : Bs} {F : Fd} {C : Cx B F} {Λ : Loc} {G : Gs} {O : Out → Prop}

theorem Inv.push {K : Heap} {s : Shared} (g : Inv C K Λ G s) (o : Obj) (n : Nat) : Inv C K Λ G { s with heap := s.heap.push o, toks := n } := by
  have hp : ∀ q o', s.heap.get? q = some o' → (s.heap.push o).get? q = some o' := fun q o' e => Heap.get?_push_of_some o e
  refine ⟨⟨fun b o' e => hp _ _ (g.gi.sub b o' e), g.gi.base, fun x hx => ?_, g.gi.out, g.gi.nd, g.gi.gens, g.gi.os⟩, ?_, g.len, g.outL, g.lowL, g.new, fun b o' e n => hp _ _ (g.old b o' e n), g.gap, fun p hpm => ⟨hp _ _ (g.hld p hpm).1, (g.hld p hpm).2⟩⟩
  · exact GIs.heap (hp _) (g.gi.gl x hx)
  · obtain ⟨m, hns, hl⟩ := g.loc
    exact ⟨m, hns.push o, hl⟩
theorem keptInv {K : Heap} : KeptByPush (fun s => Inv C K Λ G s) := fun s ob k g => g.push ob k

theorem ev_text {x : String} {k : Nat} {pos : Pos} : Ev C Λ G (eval (.Constant (.str (Str.ofString x)) k pos) C.env) (.t (cs x)) := ev_eq ev_str (congrArg LV.s (tx_cs x))
theorem bin_catT {a b : List Nat} (h : a.length + b.length ≤ sizeLine) : BinR C Λ G .Add (.t a) (.t b) (.t (a ++ b)) := by
  have := bin_cat (C := C) (Λ := Λ) (G := G) (a := tx a) (b := tx b) (by rw [tx_length, tx_length]; exact h)
  rw [tx_append] at this; exact this
theorem cmp_eqT {a b : List Nat} : CmpR C Λ G .Eq (.t a) (.t b) (a == b) := by have := cmp_eqS (C := C) (Λ := Λ) (G := G) (a := tx a) (b := tx b); rw [tx_beq] at this; exact this
theorem cmp_neT {a b : List Nat} : CmpR C Λ G .NotEq (.t a) (.t b) (a != b) := by have := cmp_neS (C := C) (Λ := Λ) (G := G) (a := tx a) (b := tx b); rw [tx_bne] at this; exact this

-- ITEMS
def SubR (C : Cx B F) (Λ : Loc) (G : Gs) (value slice : PySem.Expr) (a b c : LV) : Prop :=
  ∀ K s x y, Inv C K Λ G s → a.Is K x → b.Is K y → ∀ (Q : Value → Shared → Prop) (E : Value → Shared → Prop),
    (∀ K' v s', Sub K K' → Inv C K' Λ G s' → c.Is K' v → Q v s') → wpAny C.M C.A (subscriptTail value slice x y) Q E s
theorem ev_sub {v sl : PySem.Expr} {pos : Pos} {a b c : LV} (hl : Ev C Λ G (eval v C.env) a) (hr : Ev C Λ G (eval sl C.env) b) (h : SubR C Λ G v sl a b c) : Ev C Λ G (eval (.Subscript v sl pos) C.env) c := fun K s g Q E q =>
  Subscript_ (hl K s g _ E fun K₁ x s₁ k₁ g₁ i₁ => hr K₁ s₁ g₁ _ E fun K₂ y s₂ k₂ g₂ i₂ => h K₂ s₂ x y g₂ (i₁.mono k₂) i₂ _ E fun K₃ v s₃ k₃ g₃ i₃ => q K₃ v s₃ (k₁.trans (k₂.trans k₃)) g₃ i₃)
theorem evG_sub {v sl : PySem.Expr} {pos : Pos} {P P' : LV → Gs → Prop} (hl : EvG C Λ G (eval v C.env) P) (hr : ∀ a G₁, P a G₁ → EvG C Λ G₁ (eval sl C.env) fun b G₂ => ∃ c, SubR C Λ G₂ v sl a b c ∧ P' c G₂) :
    EvG C Λ G (eval (.Subscript v sl pos) C.env) P' := fun K s g Q E q =>
  Subscript_ (hl K s g _ E fun K₁ x s₁ a G₁ k₁ p₁ g₁ i₁ => hr a G₁ p₁ K₁ s₁ g₁ _ E fun K₂ y s₂ b G₂ k₂ ⟨c, h, p₂⟩ g₂ i₂ => h K₂ s₂ x y g₂ (i₁.mono k₂) i₂ _ E fun K₃ v s₃ k₃ g₃ i₃ => q K₃ v s₃ c G₂ (k₁.trans (k₂.trans k₃)) p₂ g₃ i₃)

def noSlice : PySem.Expr → Bool
  | .Slice .. => false
  | _ => true
theorem sub_plain {slice : PySem.Expr} (h : noSlice slice = true) (o i : Value) : subscripted slice false o i = operate [o, i] (getItem o i) := by
  cases slice <;> first | rfl | (cases h)

theorem fits_of {i : Int} {n : Nat} (h0 : 0 ≤ i) (h : i < n) (hn : n ≤ sizeLine) : fitsSsize i = true := by
  unfold fitsSsize
  rw [sizeLine_eq] at hn
  have : (decide (i < -(2 ^ 63 : Int)) || decide (i ≥ 2 ^ 63)) = false := by
    rw [Bool.or_eq_false_iff]
    exact ⟨decide_eq_false (by omega), decide_eq_false (by omega)⟩
  rw [this]; rfl

theorem sub_text {v slice : PySem.Expr} {l : List Nat} {i : Int} (h0 : 0 ≤ i) (h : i < l.length) (hn : l.length ≤ sizeLine) (hs : noSlice slice = true := by rfl) : SubR C Λ G v slice (.t l) (.i i) (.t [l.getD i.toNat 0]) := fun K s x y g ha hb Q E q => by
  obtain ⟨t, rfl⟩ := is_str ha; obtain ⟨u, rfl⟩ := is_int hb
  refine item_str (i := i) (fits_of h0 h hn) (by rw [tx_length]; omega) (by rw [tx_length]; exact h) (fun _ => q K _ _ (Sub.refl K) (g.toks _) ?_) (sub_plain hs _ _) (fun r => by cases v <;> rfl)
  rw [item_tx l h0 h]; exact str_is K _ _
theorem sub_list {v slice : PySem.Expr} {xs : List PyData} {i : Int} {x : PyData} (h0 : 0 ≤ i) (h : xs[i.toNat]? = some x) (hf : i < 2 ^ 63) (hs : noSlice slice = true := by rfl) : SubR C Λ G v slice (.d (.list xs)) (.i i) (.d x) := fun K s o y g ha hb Q E q => by
  obtain ⟨a, vs, rfl, h1, h2⟩ := is_list ha; obtain ⟨u, rfl⟩ := is_int hb
  obtain ⟨w, e, hw⟩ := h2.get (i := i.toNat) (l := .d x) (by simp [h])
  have hL := isList_sub g.gi.sub h1
  exact tail_any hL.typeIs slot_list_getitem.lookup (wpAny_getItem_list hL h0 hf (by simpa using e) (q K _ _ (Sub.refl K) g hw)) (sub_plain hs _ _)
theorem sub_tuple {v slice : PySem.Expr} {xs : List PyData} {i : Int} {x : PyData} (h0 : 0 ≤ i) (h : xs[i.toNat]? = some x) (hf : i < 2 ^ 63) (hs : noSlice slice = true := by rfl) : SubR C Λ G v slice (.d (.tuple xs)) (.i i) (.d x) := fun K s o y g ha hb Q E q => by
  obtain ⟨a, vs, rfl, h1, h2⟩ := is_tuple ha; obtain ⟨u, rfl⟩ := is_int hb
  obtain ⟨w, e, hw⟩ := h2.get (i := i.toNat) (l := .d x) (by simp [h])
  have hL : IsTup s.heap a vs.toArray := isTuple_sub g.gi.sub h1
  have hlt : i.toNat < vs.length := (List.getElem?_eq_some_iff.mp e).1
  exact item_tupleT hL (by omega) hf (StrLaws.seqIndex_nonneg h0 (by omega)) e (q K _ _ (Sub.refl K) g hw) (sub_plain hs _ _)
theorem sub_own {v slice : PySem.Expr} {a : Addr} {ls : List LV} {i : Int} {l : LV} (hg : (a, ls) ∈ G) (h0 : 0 ≤ i) (h : ls[i.toNat]? = some l) (hf : i < 2 ^ 63) (hs : noSlice slice = true := by rfl) : SubR C Λ G v slice (.r a) (.i i) l := fun K s o y g ha hb Q E q => by
  obtain rfl := is_r ha
  obtain ⟨u, rfl⟩ := is_int hb
  obtain ⟨vs, e1, e4⟩ := g.gi.gl _ hg
  obtain ⟨w, e, hw⟩ := e4.get (i := i.toNat) h
  have hL : s.heap.IsList a vs.toArray := e1.isList
  exact tail_any hL.typeIs slot_list_getitem.lookup (wpAny_getItem_list hL h0 hf (by simpa using e) (q K _ _ (Sub.refl K) g hw)) (sub_plain hs _ _)
theorem sub_dict {v slice : PySem.Expr} {x : Str} {a : Addr} {f : Str → Option Value} {r : Value} {l : LV} (hS : B.base.MapOf (strKind B.prog B.w) a f) (hf : f x = some r) (hl : l.Is B.base r) (hs : noSlice slice = true := by rfl) : SubR C Λ G v slice (.r a) (.s x) l := fun K s o y g ha hb Q E q => by
  obtain rfl := is_r ha
  obtain ⟨t, rfl⟩ := is_str hb
  have hm := mapOf_sub (g.gi.base.trans g.gi.sub) hS
  exact tail_any hm.typeIs slot_dict_getitem.lookup (wpAny_getItem_of (strKind_is _ _ x t) hm hf (q K _ _ (Sub.refl K) (g.toks _) (hl.mono g.gi.base))) (sub_plain hs _ _)

-- SLICES of a text
def EvO (C : Cx B F) (Λ : Loc) (G : Gs) (e : Option PySem.Expr) (i : Option Int) : Prop := match e, i with
  | none, none => True
  | some e, some i => Ev C Λ G (eval e C.env) (.i i)
  | _, _ => False
theorem part_of {e : Option PySem.Expr} {i : Option Int} (h : EvO C Λ G e i) {K : Heap} {s : Shared} (g : Inv C K Λ G s) {Q : Value → Shared → Prop} {E : Value → Shared → Prop}
    (q : ∀ K' v s' (p : Option (Int × Tok)), Sub K K' → Inv C K' Λ G s' → v = partValue p → p.map (·.1) = i → Q v s') : wpAny C.M C.A (evalPart e C.env) Q E s := by
  cases e <;> cases i
  · exact wpAny_pure (q K .none s none (Sub.refl K) g rfl rfl)
  · exact h.elim
  · exact h.elim
  · refine h K s g _ E fun K' v s' k g' i' => ?_
    obtain ⟨t, rfl⟩ := is_int i'
    exact q K' _ s' (some (_, t)) k g' rfl rfl
theorem ev_slice {v : PySem.Expr} {lo hi : Option PySem.Expr} {p pos : Pos} {l : List Nat} {a b : Option Int} (hv : Ev C Λ G (eval v C.env) (.t l)) (ha : EvO C Λ G lo a) (hb : EvO C Λ G hi b) (hn : l.length ≤ sizeLine) :
    Ev C Λ G (eval (.Subscript v (.Slice lo hi none p) pos) C.env) (.t (sl l a b)) := fun K s g Q E q =>
  Subscript_ (hv K s g _ E fun K₁ x s₁ k₁ g₁ i₁ => wpAny_Slice (part_of ha g₁ fun K₂ vl s₂ pl k₂ g₂ el al => part_of hb g₂ fun K₃ vu s₃ pu k₃ g₃ eu au => by
    obtain ⟨t, rfl⟩ := is_str i₁
    subst el; subst eu; subst al; subst au
    refine wpAny_pure ?_
    have hm : sliceMade (tx l) t pl pu none = (if ((1 : Int) == 1 && (strSliceIndices (pl.map (·.1)) (pu.map (·.1)) 1 (tx l).length).length == (tx l).length) = true then .val (.str (tx l) t) else .str ⟨((strSliceIndices (pl.map (·.1)) (pu.map (·.1)) 1 (tx l).length).filterMap ((tx l).cps[·]?)).toArray⟩) := rfl
    have hp : (sliceMade (tx l) t pl pu none).post Q { s₃ with heap := s₃.heap.push { cls := .type "slice", data := .fields #[partValue pl, partValue pu, .none] } } := by
      rw [hm]
      refine post_val_or_str ⟨?_, fun t' k => ?_⟩
      · exact Nat.le_trans (Txt.slice_le (tx l) _ _) (by rw [tx_length]; exact hn)
      · have : (if ((1 : Int) == 1 && (strSliceIndices (pl.map (·.1)) (pu.map (·.1)) 1 (tx l).length).length == (tx l).length) = true then tx l else ⟨((strSliceIndices (pl.map (·.1)) (pu.map (·.1)) 1 (tx l).length).filterMap ((tx l).cps[·]?)).toArray⟩) = tx (sl l (pl.map (·.1)) (pu.map (·.1))) := slice_tx l _ _
        rw [this]
        exact q K₃ _ _ (k₁.trans (k₂.trans k₃)) (g₃.push _ _) (str_is K₃ _ t')
    exact tail_any (typeIs_str _ _ _) _root_.PySem.F.slot_str_getitem.lookup (wpAny_getItem_str_slice (l := pl) (u := pu) (st := none) ⟨_, Heap.get?_push_size _ rfl, rfl, rfl⟩ rfl hp) rfl))
end
end Mine
end
section
open PySem PySem.Calls PyProof.Rows PySem.W PySem.Builtin PySem.Builtin.Str
namespace Mine

section
variable {B : Bs} {F : Fd} {C : Cx B F} {Λ : Loc} {G : Gs} {O : Out → Prop}

theorem Inv.keeps {K : Heap} {s : Shared} (g : Inv C K Λ G s) {h' : Heap} (hp : ∀ b o, s.heap.get? b = some o → h'.get? b = some o) (n : Nat) : Inv C K Λ G { s with heap := h', toks := n } := by
  refine ⟨⟨fun b o' e => hp _ _ (g.gi.sub b o' e), g.gi.base, fun x hx => ?_, g.gi.out, g.gi.nd, g.gi.gens, g.gi.os⟩, ?_, g.len, g.outL, g.lowL, g.new, fun b o' e n => hp _ _ (g.old b o' e n), g.gap, fun p hpm => ⟨hp _ _ (g.hld p hpm).1, (g.hld p hpm).2⟩⟩
  · exact GIs.heap (hp _) (g.gi.gl x hx)
  · obtain ⟨m, hns, hl⟩ := g.loc
    exact ⟨m, hns.keeps hp, hl⟩

/-- an object of the call's own, taken among those that never turn -/
theorem Inv.adopt {K : Heap} {s : Shared} (g : Inv C K Λ G s) {a : Addr} {o : Obj} (e : s.heap.get? a = some o) (hL : a ≠ C.L) (hG : ∀ x ∈ G, x.1 ≠ a) (hh : ∀ p ∈ C.held, p.1 ≠ a) (hlow : C.entry.objs.size ≤ a) :
    ∃ K', Sub K K' ∧ K'.get? a = some o ∧ Inv C K' Λ G s := by
  obtain ⟨K', k1, k2, k3, k4⟩ := grow g.gi.sub e
  refine ⟨K', k1, k3, ⟨⟨k2, g.gi.base.trans k1, fun x hx => (g.gi.gl x hx).mono k1, fun x hx => ?_, g.gi.nd, g.gi.gens, g.gi.os⟩, ?_, g.len, ?_, g.lowL, fun b o' e' => ?_, g.old, g.gap, fun p hp => ?_⟩⟩
  · cases q : K'.get? x.1 with
    | none => rfl
    | some o' => rcases k4 _ _ q with z | z
                 · rw [g.gi.out x hx] at z; cases z
                 · exact absurd z (hG x hx)
  · obtain ⟨m, hns, hl⟩ := g.loc
    exact ⟨m, hns, fun i l e => let ⟨x, v, p, q, r⟩ := hl i l e; ⟨x, v, p, q, r.mono k1⟩⟩
  · cases q : K'.get? C.L with
    | none => rfl
    | some o' => rcases k4 _ _ q with z | z
                 · rw [g.outL] at z; cases z
                 · exact absurd z.symm hL
  · rcases k4 _ _ e' with z | z
    · exact g.new _ _ z
    · rw [z]; exact .inr hlow
  · obtain ⟨h1, h2, h3⟩ := g.hld p hp
    refine ⟨h1, ?_, h3⟩
    cases q : K'.get? p.1 with
    | none => rfl
    | some o' => rcases k4 _ _ q with z | z
                 · rw [h2] at z; cases z
                 · exact absurd z (hh p hp)

-- ASSIGNMENTS to a target
def As (C : Cx B F) (Λ : Loc) (G : Gs) (t : PySem.Expr) (l : LV) (Λ' : Loc) : Prop :=
  ∀ K s v, Inv C K Λ G s → l.Is K v → ∀ (Q : Unit → Shared → Prop) (E : Value → Shared → Prop), (∀ K' s', Sub K K' → Inv C K' Λ' G s' → Q () s') → wpAny C.M C.A (assign t C.env v) Q E s
theorem as_name {i : Nat} {x : Str} {pos : Pos} {l : LV} (hx : F.names[i]? = some x) : As C Λ G (.Name x pos) l (Λ.set i (some l)) := fun K s v g hl Q E q =>
  assign_Name (store_name hx g hl fun s' g' => q K s' (Sub.refl K) g')

/-- several names, in order -/
def AsAll (C : Cx B F) (Λ : Loc) (G : Gs) (ts : List (Value → Sem Unit)) (ls : List LV) (Λ' : Loc) : Prop :=
  ∀ K s vs, Inv C K Λ G s → AllIs K vs ls → ∀ (Q : Unit → Shared → Prop) (E : Value → Shared → Prop), (∀ K' s', Sub K K' → Inv C K' Λ' G s' → Q () s') → wpAny C.M C.A (assignInOrder ts vs) Q E s
theorem asAll_nil : AsAll C Λ G [] [] Λ := fun K s vs g h Q E q => by
  obtain rfl := allIs_of_nil h
  exact wpAny_pure (q K s (Sub.refl K) g)
theorem asAll_cons {t : PySem.Expr} {ts : List (Value → Sem Unit)} {l : LV} {ls : List LV} {Λ₁ Λ₂ : Loc} (h : As C Λ G t l Λ₁) (h2 : AsAll C Λ₁ G ts ls Λ₂) : AsAll C Λ G (assign t C.env :: ts) (l :: ls) Λ₂ := fun K s vs g hv Q E q => by
  obtain ⟨v, vs, rfl, hv1, hv2⟩ := allIs_of_cons hv
  show wpAny C.M C.A (do holding vs (assign t C.env v); assignInOrder ts vs) Q E s
  exact wpAny_bind (wpAny_holding (h K s v g hv1 _ E fun K' s' k g' => h2 K' s' vs g' (hv2.mono k) Q E fun K'' s'' k' g'' => q K'' s'' (k.trans k') g''))
theorem asAll_bind {i : Nat} {x : Str} {ts : List (Value → Sem Unit)} {l : LV} {ls : List LV} {Λ₂ : Loc} (hx : F.names[i]? = some x) (h2 : AsAll C (Λ.set i (some l)) G ts ls Λ₂) : AsAll C Λ G (bindName C.env x :: ts) (l :: ls) Λ₂ := fun K s vs g hv Q E q => by
  obtain ⟨v, vs, rfl, hv1, hv2⟩ := allIs_of_cons hv
  show wpAny C.M C.A (do holding vs (bindName C.env x v); assignInOrder ts vs) Q E s
  exact wpAny_bind (wpAny_holding (wpAny_bindName (store_name hx g hv1 fun s' g' => h2 K s' vs g' hv2 Q E fun K'' s'' k' g'' => q K'' s'' k' g'')))
theorem AllIs.reverse {K : Heap} : ∀ {ls : List LV} {vs : List Value}, AllIs K vs ls → AllIs K vs.reverse ls.reverse
  | [], _, h => by obtain rfl := allIs_of_nil h; exact allIs_nil
  | l :: ls, _, h => by
    obtain ⟨v, r, rfl, a, b⟩ := allIs_of_cons h
    rw [List.reverse_cons, List.reverse_cons]
    exact (AllIs.reverse b).append (allIs_cons a allIs_nil)

theorem extBut_all {h h' : Heap} (x : Heap.ExtBut h.objs.size h h') : ∀ b o, h.get? b = some o → h'.get? b = some o := fun b o e => x b o (Nat.ne_of_lt (Heap.lt_size e)) e

theorem wp_drawL {A : Around} {E : Value → Shared → Prop} {it t : Addr} {items : Array Value} (hne : t ≠ it) : ∀ (n i : Nat) (s : Shared) (Q : List Value → Shared → Prop), s.heap.IsListIter it t i → s.heap.IsList t items → i + n ≤ items.size →
    (∀ h', h'.IsListIter it t (i + n) → Heap.SameBut it s.heap h' → Q ((items.toList.drop i).take n) { s with heap := h' }) → wpAny (model B.prog B.w) A (draw (.ref it) n) Q E s
  | 0, i, s, Q, hit, _, _, hQ => wpAny_pure (by simpa using hQ s.heap hit (Heap.SameBut.refl ..))
  | n + 1, i, s, Q, hit, ht, hle, hQ => by
    have hlt : i < items.size := by omega
    show wpAny _ _ (pyNext (.ref it) >>= _) Q E s
    refine wpAny_bind (wpAny_pyNext_list_item hit ht (x := items[i]) (by simp [hlt]) fun h₁ hit₁ hs₁ => ?_)
    refine wpAny_bind (wpAny_holding (wp_drawL hne n (i + 1) _ _ hit₁ (ht.extBut hs₁.extBut hne) (by omega) fun h₂ hit₂ hs₂ => wpAny_pure ?_))
    have hd : items.toList.drop i = items[i] :: items.toList.drop (i + 1) := by simp [List.drop_eq_getElem_cons, hlt]
    have := hQ h₂ (by rw [show i + (n + 1) = i + 1 + n by omega]; exact hit₂) (hs₁.trans hs₂)
    rw [hd, List.take_succ_cons] at this
    exact this
theorem wp_unpackL {A : Around} {E : Value → Shared → Prop} {s : Shared} {t : Addr} {items : Array Value} {Q : List Value → Shared → Prop} (hh : A.handled = none) (ht : s.heap.IsList t items)
    (hQ : ∀ h', Heap.ExtBut s.heap.objs.size s.heap h' → Q items.toList { s with heap := h' }) : wpAny (model B.prog B.w) A (unpackItems (.ref t) items.size none) Q E s := by
  have hlt : t ≠ s.heap.objs.size := by obtain ⟨o, ho, _⟩ := ht; exact Nat.ne_of_lt (Heap.lt_size ho)
  unfold unpackItems
  refine wpAny_bind ?_
  unfold notIterableAtAll
  refine wpAny_bind (wpAny_specialOf ht.typeIs slot_list_iter.lookup ?_)
  refine wpAny_pure ?_
  simp only [Bool.false_eq_true, if_false]
  refine wpAny_bind (wpAny_holding (wpAny_pyIter_list ht ?_))
  refine wpAny_bind (wpAny_holding (wp_drawL hlt items.size 0 _ _ ⟨_, Heap.get?_push_size _ rfl, rfl, rfl⟩ (isList_sub (fun b o e => Heap.get?_push_of_some _ e) ht) (by omega) fun h₁ hit₁ hs₁ => ?_))
  have hall : List.take items.size (List.drop 0 items.toList) = items.toList := by
    rw [List.drop_zero]; exact List.take_of_length_le (by simp)
  rw [hall]
  rw [if_neg (by simp)]
  have ht₁ : h₁.IsList t items := (isList_sub (fun b o e => Heap.get?_push_of_some _ e) ht).extBut hs₁.extBut hlt
  refine wpAny_bind (wpAny_holding (wpAny_pyNext_list_end hh hit₁ ht₁ (by simp) fun h₂ he₂ => ?_))
  simp only [Option.isSome_none, Bool.false_eq_true, if_false]
  exact wpAny_pure (hQ h₂ fun b o hb e => he₂ b o hb (hs₁.extBut b o hb (Heap.get?_push_of_some _ e)))

/-- what can be unpacked -/
inductive Many (G : Gs) : LV → List LV → Prop
  | tuple (xs : List PyData) : Many G (.d (.tuple xs)) (xs.map .d)
  | list (xs : List PyData) : Many G (.d (.list xs)) (xs.map .d)
  | own (a : Addr) (ls : List LV) (h : (a, ls) ∈ G) : Many G (.r a) ls
  | tp (ls : List LV) : Many G (.tp ls) ls
theorem wp_unpackItems {l : LV} {ls : List LV} (hm : Many G l ls) {K : Heap} {s : Shared} {v : Value} (g : Inv C K Λ G s) (hl : l.Is K v) {n : Nat} (hn : n = ls.length) {Q : List Value → Shared → Prop} {E : Value → Shared → Prop}
    (q : ∀ vs s', Inv C K Λ G s' → AllIs K vs ls → Q vs s') : wpAny C.M C.A (unpackItems v n none) Q E s := by
  cases hm with
  | tuple xs =>
    obtain ⟨a, vs, rfl, h1, h2⟩ := is_tuple hl
    have e : n = vs.toArray.size := by rw [hn, ← h2.length]; simp
    rw [e]
    exact wpAny_unpackItems_tuple C.hh (isTuple_sub g.gi.sub h1) fun h' he => q _ _ (g.keeps (extBut_all he) _) (by simpa using h2)
  | list xs =>
    obtain ⟨a, vs, rfl, h1, h2⟩ := is_list hl
    have e : n = vs.toArray.size := by rw [hn, ← h2.length]; simp
    rw [e]
    exact wp_unpackL C.hh (isList_sub g.gi.sub h1) fun h' he => q _ _ (g.keeps (extBut_all he) _) (by simpa using h2)
  | own a ls hG =>
    obtain rfl := is_r hl
    obtain ⟨vs, e1, e4⟩ := g.gi.gl _ hG
    have e : n = vs.toArray.size := by rw [hn, ← e4.length]; simp
    rw [e]
    exact wp_unpackL C.hh e1.isList fun h' he => q _ _ (g.keeps (extBut_all he) _) (by simpa using e4)
  | tp ls =>
    unfold LV.Is at hl
    obtain ⟨a, vs, rfl, h1, h2⟩ := hl
    have e : n = vs.toArray.size := by rw [hn, ← h2.length]; simp
    rw [e]
    exact wpAny_unpackItems_tuple C.hh (isTuple_sub g.gi.sub h1) fun h' he => q _ _ (g.keeps (extBut_all he) _) (by simpa using h2)

theorem as_tuple {elts : List PySem.Expr} {k : Nat} {pos : Pos} {l : LV} {ls : List LV} {Λ' : Loc} (hm : Many G l ls) (hn : (assignEach elts C.env).length = ls.length) (hstar : (assignEach elts C.env).findIdx? (·.1) = none)
    (h : AsAll C Λ G ((assignEach elts C.env).map (·.2)) ls Λ') : As C Λ G (.Tuple elts k pos) l Λ' := fun K s v g hl Q E q => by
  rw [arm_assign_Tuple]
  refine wpAny_bind (wpAny_standAt ?_)
  unfold unpack
  rw [hstar]
  exact wpAny_bind (wpAny_holding (wp_unpackItems hm g hl hn fun vs s' g' hv => h K s' vs g' hv Q E q))
theorem ex_assignT {elts : List PySem.Expr} {k : Nat} {tpos pos : Pos} {value : PySem.Expr} {P : LV → Gs → Prop} (he : EvG C Λ G (eval value C.env) P) (h : ∀ l G', P l G' → ∃ Λ', As C Λ G' (.Tuple elts k tpos) l Λ' ∧ O (.nx Λ' G'))
    (hs : swapsWithSole [.Tuple elts k tpos] value pos.line C.env = pure false := by rfl) (hw : swappedStores [.Tuple elts k tpos] value C.env = pure none := by rfl) :
    Ex C Λ G (exec (.Assign [.Tuple elts k tpos] value pos) C.env) O := fun K s g Q E q =>
  Assign_Tuple (he K s g _ E fun K' v s' l G' a p i' c => by
    obtain ⟨Λ', h1, h2⟩ := h l G' p
    exact h1 K' s' v i' c _ E fun K'' s'' k'' g'' => q K'' _ s'' _ (a.trans k'') h2 ⟨rfl, g''⟩) hs hw
theorem ex_assignS {elts : List PySem.Expr} {k : Nat} {tpos pos : Pos} {value : PySem.Expr} {names : List Str} {P : LV → Gs → Prop} (he : EvG C Λ G (eval value C.env) P)
    (hw : swappedStores [.Tuple elts k tpos] value C.env = pure (some names))
    (h : ∀ l G', P l G' → ∃ ls Λ', Many G' l ls ∧ names.length = ls.length ∧ AsAll C Λ G' (names.reverse.map fun n => bindName C.env n) ls.reverse Λ' ∧ O (.nx Λ' G'))
    (hs : swapsWithSole [.Tuple elts k tpos] value pos.line C.env = pure false := by rfl) :
    Ex C Λ G (exec (.Assign [.Tuple elts k tpos] value pos) C.env) O := fun K s g Q E q =>
  Assign_Tuple_swapped (he K s g _ E fun K' v s' l G' a p i' c => by
    obtain ⟨ls, Λ', h1, hn, h2, h3⟩ := h l G' p
    exact wp_unpackItems h1 i' c hn fun vs s'' g'' hv => h2 K' s'' _ g'' hv.reverse _ E fun K₃ s₃ k₃ g₃ => q K₃ _ s₃ _ (a.trans k₃) h3 ⟨rfl, g₃⟩) hs hw

-- FOR
def Cx.hold (C : Cx B F) (a : Addr) (o : Obj) : Cx B F := { C with held := (a, o) :: C.held }
theorem Inv.drop {K : Heap} {s : Shared} {a : Addr} {o : Obj} (g : Inv (C.hold a o) K Λ G s) : Inv C K Λ G s := ⟨g.gi, g.loc, g.len, g.outL, g.lowL, g.new, g.old, g.gap, fun p hp => g.hld p (.tail _ hp)⟩

def ItR (C : Cx B F) (Λ : Loc) (G : Gs) (l : LV) (ls : List LV) : Prop :=
  ∀ K s v, Inv C K Λ G s → l.Is K v → ∀ (Q : Value → Shared → Prop) (E : Value → Shared → Prop),
    (∀ (o : Obj) (P : Nat → Value → Prop) (St : Nat → Heap → Prop) (ax : List Addr), Walks B.prog B.w C.A s.heap.objs.size (s.heap.objs.size :: ax) [s.heap.objs.size] ls.length P St → St 0 (s.heap.push o) →
      (∀ i h, St i h → ∃ o' n, h.get? s.heap.objs.size = some o' ∧ o'.cls = .type n ∧ (["enumerate", "zip", "dict_itemiterator", "dict_reverseitemiterator", "odict_iterator", "itertools.zip_longest", "itertools.pairwise"].contains n) = false) →
      (∀ b ∈ ax, ∃ o', K.get? b = some o') → (∀ (i : Nat) (u : Value), i < ls.length → P i u → ∃ l, ls[i]? = some l ∧ LV.Is K u l) → Q (.ref s.heap.objs.size) { s with heap := s.heap.push o }) → wpAny C.M C.A (pyIter v) Q E s

theorem wp_letOwned {t : PySem.Expr} {I : Addr} {v : Value} {s : Shared} {o : Obj} {n : String} {Q : Unit → Shared → Prop} {E : Value → Shared → Prop} {M : Model} {A : Around} (ho : s.heap.get? I = some o) (hc : o.cls = .type n)
    (hn : (["enumerate", "zip", "dict_itemiterator", "dict_reverseitemiterator", "odict_iterator", "itertools.zip_longest", "itertools.pairwise"].contains n) = false) (q : Q () s) : wpAny M A (letOwnedTupleGo t (.ref I) v) Q E s := by
  have fin : wpAny M A (match Value.ref I, v with
      | .ref r, .ref a => (do
        let o ← load r
        match o.cls, o.data with
        | .type n, .fields vs =>
          if ["enumerate", "zip", "dict_itemiterator", "dict_reverseitemiterator", "odict_iterator", "itertools.zip_longest", "itertools.pairwise"].contains n && vs[0]? == some (rawInt a) then
            rule "for.unpacks-the-owned-tuple"
            updateField r 0 .none
        | _, _ => pure ())
      | _, _ => pure ()) Q E s := by
    cases v <;> first
      | exact wpAny_pure q
      | (refine wpAny_bind (wpAny_load ho ?_)
         rw [hc]
         cases o.data <;> first
           | exact wpAny_pure q
           | (dsimp only; rw [hn]; exact wpAny_pure q))
  unfold letOwnedTupleGo
  cases t <;> first
    | exact wpAny_pure q
    | (cases v <;> first | exact fin | exact wpAny_pure q)

theorem ex_for {σ : Type} {target iter : PySem.Expr} {body : List Stmt} {pos : Pos} {P : LV → Gs → Prop} (he : EvG C Λ G (eval iter C.env) P)
    (h : ∀ l G₀, P l G₀ → ∃ (ls : List LV) (Λf Λm : Nat → σ → Loc) (Gf : Nat → σ → Gs) (J : Nat → σ → Prop) (x : σ),
      ItR C Λ G₀ l ls ∧ J 0 x ∧ SubLoc (Λf 0 x) Λ ∧ G₀ = Gf 0 x ∧
      (∀ i x l, J i x → ls[i]? = some l → ∀ a o, As (C.hold a o) (Λf i x) (Gf i x) target l (Λm i x)) ∧
      (∀ i x, i < ls.length → J i x → ∀ a o, Ex (C.hold a o) (Λm i x) (Gf i x) (execs body C.env) fun o => match o with
        | .nx Λ' G' | .ct Λ' G' => ∃ y, J (i + 1) y ∧ SubLoc (Λf (i + 1) y) Λ' ∧ G' = Gf (i + 1) y
        | .br Λ' G' => O (.nx Λ' G')
        | .rt l G' => O (.rt l G')) ∧
      (∀ x, J ls.length x → O (.nx (Λf ls.length x) (Gf ls.length x))))
    (hfold : ∀ x, foldedSetIterable iter C.env x = pure x := by intro _; rfl) : Ex C Λ G (exec (.For target iter body [] pos) C.env) O := fun K s g Q E q => by
  rw [arm_exec_For]
  refine wpAny_bind (wpAny_standAt (wpAny_bind (he K s g _ E fun K₀ v s₀ l G₀ k₀ p₀ g₀ i₀ => ?_)))
  obtain ⟨ls, Λf, Λm, Gf, J, x, hit, hx, hsub, rfl, has, hbody, hend⟩ := h l G₀ p₀
  rw [hfold]
  refine wpAny_bind (wpAny_pure (wpAny_bind (wpAny_standAt (wpAny_bind (wpAny_holding (hit K₀ s₀ v g₀ i₀ _ E fun ob P St ax W st0 hI hax hP => ?_))))))
  refine wpAny_runOwn ?_
  generalize hIa : s₀.heap.objs.size = I at *
  have gI : ∀ (K' : Heap) (s' : Shared), Inv C K' (Λf 0 x) (Gf 0 x) s' → True := fun _ _ _ => trivial
  have g₁ : Inv C K₀ Λ (Gf 0 x) { s₀ with heap := s₀.heap.push ob } := g₀.push ob s₀.toks
  have hfresh : s₀.heap.get? I = none := by
    cases e : s₀.heap.get? I with
    | none => rfl
    | some o => exact absurd (Heap.lt_size e) (by rw [hIa]; exact Nat.lt_irrefl _)
  have hKI : K₀.get? I = none := by
    cases e : K₀.get? I with
    | none => rfl
    | some o => rw [g₀.gi.sub _ _ e] at hfresh; cases hfresh
  have hLI : I ≠ C.L := fun e => absurd g₀.ltL (by rw [hIa, e]; exact Nat.lt_irrefl _)
  have hGI : ∀ y ∈ Gf 0 x, y.1 ≠ I := fun y hy e => by
    obtain ⟨o, e1⟩ := (g₀.gi.gl y hy).here
    rw [e, hfresh] at e1; cases e1
  have hlow : C.entry.objs.size ≤ I := by rw [← hIa]; exact Nat.le_trans g₀.lowL (Nat.le_of_lt g₀.ltL)
  have hheld : ∀ p ∈ C.held, p.1 ≠ I := fun p hp e => by
    have := (g₀.hld p hp).1
    rw [e, hfresh] at this; cases this
  have key : codeAny C.M C.A (.forLoop target (.ref I) body [] C.env) (fun r s' => match r with
      | .ok f => Q f s'
      | .error e => cameBackBy C.M C.A C.env E e s') { s₀ with heap := s₀.heap.push ob } := by
    refine codeAny_forLoop_any (fun n s' => ∃ K' i y, Sub K₀ K' ∧ J i y ∧ n = ls.length - i ∧ i ≤ ls.length ∧ Inv C K' (Λf i y) (Gf i y) s' ∧ St i s'.heap ∧ K'.get? I = none ∧ ∀ z ∈ Gf i y, z.1 ≠ I) (fun n s' hI' => ?_) (ls.length - 0)
      ⟨K₀, 0, x, Sub.refl _, hx, rfl, Nat.zero_le _, g₁.weak hsub, st0, hKI, hGI⟩
    obtain ⟨K', i, y, k', hy, rfl, hi, g', st', hKI', hGI'⟩ := hI'
    by_cases hlt : i < ls.length
    · refine W.item i s' _ _ hlt st' fun u h' tk hPu st'' hkeep => ?_
      obtain ⟨o', nm, e1, e2, e3⟩ := hI _ _ st''
      obtain ⟨l, hl, hul⟩ := hP i u hlt hPu
      have gh : Inv (C.hold I o') K' (Λf i y) (Gf i y) { s' with heap := h', toks := tk } := by
        have hk : ∀ b o, b ≠ I → s'.heap.get? b = some o → h'.get? b = some o := fun b o hb e => hkeep b o (by simpa using hb) e
        have hne : ∀ b o, K'.get? b = some o → b ≠ I := fun b o e z => by rw [z, hKI'] at e; cases e
        refine ⟨⟨fun b o e => hk b o (hne b o e) (g'.gi.sub b o e), g'.gi.base, fun z hz => ?_, g'.gi.out, g'.gi.nd, g'.gi.gens, g'.gi.os⟩, ?_, g'.len, g'.outL, g'.lowL, g'.new, fun b o e n => ?_, g'.gap, fun p hp => ?_⟩
        · exact GIs.heap (fun o e => hk _ o (hGI' z hz) e) (g'.gi.gl z hz)
        · obtain ⟨m, hns, hm⟩ := g'.loc
          obtain ⟨oL, es, ep, eL, r⟩ := hns
          exact ⟨m, ⟨oL, es, ep, hk _ _ (Ne.symm hLI) eL, r⟩, hm⟩
        · exact hk b o (fun z => absurd (Heap.lt_size e) (by rw [z]; exact Nat.not_lt.mpr hlow)) (g'.old b o e n)
        · cases hp with
          | head => exact ⟨e1, hKI', hLI, hGI', hlow⟩
          | tail _ hp => exact ⟨hk _ _ (hheld p hp) (g'.hld p hp).1, (g'.hld p hp).2⟩
      refine wp_letOwned e1 e2 e3 ?_
      refine has i y l hy hl I o' K' _ u gh (hul.mono k') _ _ fun K₂ s₂ k₂ g₂ => ?_
      refine hbody i y hlt hy I o' K₂ s₂ g₂ _ _ fun K₃ f s₃ o k₃ ho hi' => ?_
      have fin : ∀ (Λ' : Loc) (G' : Gs), Inv (C.hold I o') K₃ Λ' G' s₃ → ∀ z, J (i + 1) z → SubLoc (Λf (i + 1) z) Λ' → G' = Gf (i + 1) z → ∃ m, m < ls.length - i ∧ ∃ K' i y, Sub K₀ K' ∧ J i y ∧ m = ls.length - i ∧ i ≤ ls.length ∧ Inv C K' (Λf i y) (Gf i y) s₃ ∧ St i s₃.heap ∧ K'.get? I = none ∧ ∀ z ∈ Gf i y, z.1 ≠ I := by
        rintro Λ' G' g₃ z hz hs rfl
        have hd := g₃.hld (I, o') (.head _)
        refine ⟨ls.length - (i + 1), by omega, K₃, i + 1, z, k'.trans (k₂.trans k₃), hz, rfl, hlt, (g₃.drop).weak hs, W.frame _ _ _ st'' fun b hb o e => ?_, hd.2.1, hd.2.2.2.1⟩
        rcases List.mem_cons.mp hb with rfl | hb
        · have e' : h'.get? b = some o := e
          rw [e1] at e'; cases e'; exact hd.1
        · obtain ⟨o₂, e₂⟩ := hax b hb
          have a1 : h'.get? b = some o₂ := gh.gi.sub _ _ (k' _ _ e₂)
          have a2 : s₃.heap.get? b = some o₂ := g₃.gi.sub _ _ (k₃ _ _ (k₂ _ _ (k' _ _ e₂)))
          have e' : h'.get? b = some o := e
          rw [a1] at e'; cases e'; exact a2
      cases o with
      | nx Λ' G' => obtain ⟨rfl, j⟩ := hi'; obtain ⟨z, jz, sz, ez⟩ := ho; exact fin Λ' G' j z jz sz ez
      | ct Λ' G' => obtain ⟨rfl, j⟩ := hi'; obtain ⟨z, jz, sz, ez⟩ := ho; exact fin Λ' G' j z jz sz ez
      | br Λ' G' => obtain ⟨rfl, j⟩ := hi'; exact q K₃ _ s₃ _ (k₀.trans (k'.trans (k₂.trans k₃))) ho ⟨rfl, j.drop⟩
      | rt l G' => obtain ⟨v, Λ', rfl, hv, j⟩ := hi'; exact q K₃ _ s₃ _ (k₀.trans (k'.trans (k₂.trans k₃))) ho ⟨v, Λ', rfl, hv, j.drop⟩
    · obtain rfl : i = ls.length := by omega
      refine W.done s' _ _ st' fun h' tk hkeep => ?_
      refine wpAny_execs_nil (q K' _ _ _ (k₀.trans k') (hend y hy) ⟨rfl, ?_⟩)
      have hk : ∀ b o, b ≠ I → s'.heap.get? b = some o → h'.get? b = some o := fun b o hb e => hkeep b o (by simpa using hb) e
      have hne : ∀ b o, K'.get? b = some o → b ≠ I := fun b o e z => by rw [z, hKI'] at e; cases e
      refine ⟨⟨fun b o e => hk b o (hne b o e) (g'.gi.sub b o e), g'.gi.base, fun z hz => ?_, g'.gi.out, g'.gi.nd, g'.gi.gens, g'.gi.os⟩, ?_, g'.len, g'.outL, g'.lowL, g'.new, fun b o e n => ?_, g'.gap, fun p hp => ?_⟩
      · exact GIs.heap (fun o e => hk _ o (hGI' z hz) e) (g'.gi.gl z hz)
      · obtain ⟨m, hns, hm⟩ := g'.loc
        obtain ⟨oL, es, ep, eL, r⟩ := hns
        exact ⟨m, ⟨oL, es, ep, hk _ _ (Ne.symm hLI) eL, r⟩, hm⟩
      · exact hk b o (fun z => absurd (Heap.lt_size e) (by rw [z]; exact Nat.not_lt.mpr hlow)) (g'.old b o e n)
      · exact ⟨hk _ _ (hheld p hp) (g'.hld p hp).1, (g'.hld p hp).2⟩
  exact key
end
end Mine
end
section
open PySem PySem.Calls PyProof.Rows PySem.W PySem.Builtin PySem.Builtin.Str
namespace Mine

section
variable {B : Bs} {F : Fd} {C : Cx B F} {Λ : Loc} {G : Gs} {O : Out → Prop}

theorem is_rg {K : Heap} {v : Value} {n : Int} (h : (LV.rg n).Is K v) : ∃ a t u w, v = .ref a ∧ IsRange K a 0 n 1 t u w := by unfold LV.Is at h; exact h
theorem is_tp {K : Heap} {v : Value} {ls : List LV} (h : (LV.tp ls).Is K v) : ∃ a vs, v = .ref a ∧ K.IsTuple a (vs : List Value).toArray ∧ AllIs K vs ls := by unfold LV.Is at h; exact h
theorem tp_is {K : Heap} {a : Addr} {vs : List Value} {ls : List LV} (h : K.IsTuple a vs.toArray) (hv : AllIs K vs ls) : (LV.tp ls).Is K (.ref a) := by unfold LV.Is; exact ⟨a, vs, rfl, h, hv⟩
theorem tp_tuple {K : Heap} {v : Value} {xs : List PyData} (h : (LV.tp (xs.map .d)).Is K v) : (LV.d (.tuple xs)).Is K v := by
  obtain ⟨a, vs, rfl, h1, h2⟩ := is_tp h
  exact tuple_is h1 h2
theorem ev_tp {t : Sem Value} {xs : List PyData} (h : Ev C Λ G t (.tp (xs.map .d))) : Ev C Λ G t (.d (.tuple xs)) := fun K s g Q E q => h K s g Q E fun K' v s' k g' i => q K' v s' k g' (tp_tuple i)

-- ITERABLES
theorem itR_text {l : List Nat} : ItR C Λ G (.t l) (l.map fun c => .t [c]) := fun K s v g hl Q E q => by
  obtain ⟨t, rfl⟩ := is_str hl
  have hn : (tx l).cps.size = (l.map fun c => LV.t [c]).length := by simp [tx]
  have hP : ∀ (i : Nat) (u : Value), i < (l.map fun c => LV.t [c]).length → SignAt (tx l) i u → ∃ x, (l.map fun c => LV.t [c])[i]? = some x ∧ LV.Is K u x := by
    rintro i u - ⟨c, tk, hc, rfl⟩
    have : l[i]? = some c := by simpa [tx] using hc
    exact ⟨.t [c], by simp [this], str_is K _ tk⟩
  cases ha : (tx l).cps.all (· < 128)
  · refine wpAny_pyIter_wide ha (q _ _ (fun i h => h.IsStrIter _ "str_iterator" (tx l) t i) [] (hn ▸ Walks.strWide C.hh _ _ _) ⟨_, Heap.get?_push_size _ rfl, rfl, rfl⟩ (fun i h st => ?_) (fun b hb => nomatch hb) hP)
    obtain ⟨o, h1, h2, _⟩ := st
    exact ⟨o, _, h1, h2, by decide⟩
  · refine wpAny_pyIter_ascii ha (q _ _ (fun i h => h.IsStrIter _ "str_ascii_iterator" (tx l) t i) [] (hn ▸ Walks.strAscii C.hh _ _ _) ⟨_, Heap.get?_push_size _ rfl, rfl, rfl⟩ (fun i h st => ?_) (fun b hb => nomatch hb) hP)
    obtain ⟨o, h1, h2, _⟩ := st
    exact ⟨o, _, h1, h2, by decide⟩
theorem hP_list {K : Heap} {vs : List Value} {ls : List LV} (h : AllIs K vs ls) : ∀ (i : Nat) (u : Value), i < ls.length → vs.toArray[i]? = some u → ∃ x, ls[i]? = some x ∧ LV.Is K u x := fun i u _ e => by
  have e' : vs[i]? = some u := by simpa using e
  have hi : i < ls.length := by rw [← h.length]; exact (List.getElem?_eq_some_iff.mp e').1
  obtain ⟨w, e2, hw⟩ := h.get (i := i) (l := ls[i]) (by simp [hi])
  rw [e'] at e2
  cases e2
  exact ⟨_, by simp [hi], hw⟩
theorem ne_size {h : Heap} {a : Addr} {o : Obj} (e : h.get? a = some o) : a ≠ h.objs.size := Nat.ne_of_lt (Heap.lt_size e)
theorem itR_list {xs : List PyData} : ItR C Λ G (.d (.list xs)) (xs.map .d) := fun K s v g hl Q E q => by
  obtain ⟨a, vs, rfl, h1, h2⟩ := is_list hl
  have hL := isList_sub g.gi.sub h1
  obtain ⟨o, e, r⟩ := id h1
  have hn : vs.toArray.size = (xs.map LV.d).length := by rw [← h2.length]; simp
  refine wpAny_pyIter_list hL (q _ _ (fun i h => h.IsListIter _ a i ∧ h.IsList a vs.toArray) [a] (hn ▸ Walks.list C.hh _ a (ne_size (g.gi.sub _ _ e)) _) ⟨⟨_, Heap.get?_push_size _ rfl, rfl, rfl⟩, isList_sub (fun b o e => Heap.get?_push_of_some _ e) hL⟩ (fun i h st => ?_) (fun b hb => ?_) (hP_list h2))
  · obtain ⟨⟨o, h1, h2, _⟩, _⟩ := st
    exact ⟨o, _, h1, h2, by decide⟩
  · obtain rfl : b = a := by simpa using hb
    exact ⟨o, e⟩
theorem itR_tp {ls : List LV} : ItR C Λ G (.tp ls) ls := fun K s v g hl Q E q => by
  obtain ⟨a, vs, rfl, h1, h2⟩ := is_tp hl
  have hL := isTuple_sub g.gi.sub h1
  obtain ⟨o, e, r⟩ := id h1
  have hn : vs.toArray.size = ls.length := by rw [← h2.length]; simp
  refine wpAny_pyIter_tuple hL (q _ _ (fun i h => h.IsTupleIter _ a i ∧ h.IsTuple a vs.toArray) [a] (hn ▸ Walks.tuple C.hh _ a (ne_size (g.gi.sub _ _ e)) _) ⟨⟨_, Heap.get?_push_size _ rfl, rfl, rfl⟩, isTuple_sub (fun b o e => Heap.get?_push_of_some _ e) hL⟩ (fun i h st => ?_) (fun b hb => ?_) (hP_list h2))
  · obtain ⟨⟨o, h1, h2, _⟩, _⟩ := st
    exact ⟨o, _, h1, h2, by decide⟩
  · obtain rfl : b = a := by simpa using hb
    exact ⟨o, e⟩
theorem itR_tuple {xs : List PyData} : ItR C Λ G (.d (.tuple xs)) (xs.map .d) := fun K s v g hl Q E q => by
  obtain ⟨a, vs, rfl, h1, h2⟩ := is_tuple hl
  exact itR_tp K s _ g (tp_is h1 h2) Q E q
theorem itR_range {n : Int} (h0 : 0 ≤ n) (h1 : n < 2 ^ 62) : ItR C Λ G (.rg n) ((List.range n.toNat).map fun i => .i (i : Nat)) := fun K s v g hl Q E q => by
  obtain ⟨a, t, u, w, rfl, h⟩ := is_rg hl
  have hs := g.gi.sub _ _ h
  have hz : Builtin.Range.rangeSize 0 n 1 = ((n.toNat : Nat) : Int) := by rw [rangeSize_one]; split <;> omega
  have hn : n.toNat = ((List.range n.toNat).map fun i => LV.i (i : Nat)).length := by simp
  refine wpAny_pyIter_range hs (small_one (by decide) (by decide) (by omega) h1) ?_
  rw [hz]
  have W := Walks.range (prog := B.prog) (w := B.w) C.hh s.heap.objs.size 0 1 n.toNat
  rw [hn] at W
  refine q _ _ _ [] W ?_ (fun i h st => ⟨_, _, st, rfl, by decide⟩) (fun b hb => nomatch hb) (fun i u hi ⟨tk, e⟩ => ?_)
  · show IsRangeIter _ _ _ _ _
    have := Heap.get?_push_size s.heap (o := { cls := .type "range_iterator", data := .fields #[rawInt 0, rawInt ((n.toNat : Nat) : Int), rawInt 1] }) rfl
    rw [← hn]; simpa using this
  · have hi' : i < n.toNat := by simpa using hi
    refine ⟨.i (i : Nat), by simp [hi'], ?_⟩
    rw [e, Int.zero_add, Int.mul_one]
    exact int_is K _ _
end
end Mine
end
section
open PySem PySem.Calls PyProof.Rows PySem.W PySem.Builtin PySem.Builtin.Str
namespace Mine

section
variable {B : Bs} {F : Fd} {C : Cx B F} {Λ : Loc} {G : Gs} {O : Out → Prop}

-- LISTS OF EXPRESSIONS
def EvLG (C : Cx B F) (Λ : Loc) (G : Gs) (es : List PySem.Expr) (P : List LV → Gs → Prop) : Prop :=
  ∀ K s, Inv C K Λ G s → ∀ (pos : Pos) (Q : List Value → Shared → Prop) (E : Value → Shared → Prop),
    (∀ K' vs s' ls G', Sub K K' → P ls G' → Inv C K' Λ G' s' → AllIs K' vs ls → Q vs s') → wpAny C.M C.A (spliced (backTo pos (starEach es C.env))) Q E s
def EvL (C : Cx B F) (Λ : Loc) (G : Gs) (es : List PySem.Expr) (ls : List LV) : Prop := EvLG C Λ G es fun ls' G' => ls' = ls ∧ G' = G
theorem starEach_cons {e : PySem.Expr} (h : isStarred e = false) (es : List PySem.Expr) (env : Env) : starEach (e :: es) env = (false, eval e env) :: starEach es env := by
  cases e <;> first | rfl | (cases h)
theorem evLG_nil {P : List LV → Gs → Prop} (h : P [] G) : EvLG C Λ G [] P := fun K s g pos Q E q => spliced_nil (q K [] s [] G (Sub.refl K) h g allIs_nil)
theorem evLG_cons {e : PySem.Expr} {es : List PySem.Expr} {P₁ : LV → Gs → Prop} {P : List LV → Gs → Prop} (h1 : EvG C Λ G (eval e C.env) P₁) (h2 : ∀ l G₁, P₁ l G₁ → EvLG C Λ G₁ es fun ls G₂ => P (l :: ls) G₂) (hs : isStarred e = false := by rfl) : EvLG C Λ G (e :: es) P := fun K s g pos Q E q => by
  rw [starEach_cons hs]
  refine spliced_cons (h1 K s g _ E fun K₁ v s₁ l G₁ k₁ p₁ g₁ i₁ => ?_)
  exact h2 l G₁ p₁ K₁ s₁ g₁ pos _ E fun K₂ vs s₂ ls G₂ k₂ p₂ g₂ i₂ => q K₂ (v :: vs) s₂ (l :: ls) G₂ (k₁.trans k₂) p₂ g₂ (allIs_cons (i₁.mono k₂) i₂)
theorem evL_nil : EvL C Λ G [] [] := evLG_nil ⟨rfl, rfl⟩
theorem evL_cons {e : PySem.Expr} {es : List PySem.Expr} {l : LV} {ls : List LV} (h1 : Ev C Λ G (eval e C.env) l) (h2 : EvL C Λ G es ls) (hs : isStarred e = false := by rfl) : EvL C Λ G (e :: es) (l :: ls) :=
  evLG_cons (h1.g (P := fun l' G' => l' = l ∧ G' = G) ⟨rfl, rfl⟩) (fun l' G₁ p => by
    obtain ⟨rfl, rfl⟩ := p
    intro K s g pos Q E q
    exact h2 K s g pos Q E fun K' vs s' ls' G' k p => by
      obtain ⟨rfl, rfl⟩ := p
      exact q K' vs s' _ _ k ⟨rfl, rfl⟩) hs

-- DISPLAYS
theorem evG_tuple {es : List PySem.Expr} {k : Nat} {pos : Pos} {P : List LV → Gs → Prop} (h : EvLG C Λ G es P) (hn : ∀ ls G', P ls G' → ls.length ≤ sizeLine) : EvG C Λ G (eval (.Tuple es k pos) C.env) fun l G' => ∃ ls, l = .tp ls ∧ P ls G' := fun K s g Q E q => by
  refine Tuple_ (h K s g pos _ E fun K' vs s' ls G' k' p g' i => ?_)
  obtain ⟨K'', k'', e, g''⟩ := g'.alloc { cls := .type "tuple", data := .seq vs.toArray } rfl
  exact wpAny_newObj_type (q K'' _ _ _ G' (k'.trans k'') ⟨ls, rfl, p⟩ g'' (tp_is ⟨_, e, rfl, _, rfl⟩ (i.mono k''))) (by show vs.toArray.size ≤ sizeLine; rw [List.size_toArray, i.length]; exact hn ls G' p)
theorem ev_tuple {es : List PySem.Expr} {k : Nat} {pos : Pos} {ls : List LV} (h : EvL C Λ G es ls) (hn : ls.length ≤ sizeLine := by decide) : Ev C Λ G (eval (.Tuple es k pos) C.env) (.tp ls) :=
  EvG.one fun K s g Q E q => evG_tuple h (fun ls' G' p => by obtain ⟨rfl, _⟩ := p; exact hn) K s g Q E fun K' v s' l G' k' p => by
    obtain ⟨ls', rfl, rfl, rfl⟩ := p
    exact q K' v s' _ _ k' ⟨rfl, rfl⟩
theorem ev_tupleD {es : List PySem.Expr} {k : Nat} {pos : Pos} {xs : List PyData} (h : EvL C Λ G es (xs.map .d)) (hn : xs.length ≤ sizeLine := by decide) : Ev C Λ G (eval (.Tuple es k pos) C.env) (.d (.tuple xs)) :=
  ev_tp (ev_tuple h (by rw [List.length_map]; exact hn))

/-- a new list of the call's own -/
theorem Inv.own {K : Heap} {s : Shared} (g : Inv C K Λ G s) {vs : List Value} {ls : List LV} (hv : AllIs K vs ls) :
    Inv C K Λ ((s.heap.objs.size, ls) :: G) { s with heap := s.heap.push { cls := .type "list", data := .seq vs.toArray } } := by
  have g' := g.push { cls := .type "list", data := .seq vs.toArray } s.toks
  have hfresh : s.heap.get? s.heap.objs.size = none := by
    cases e : s.heap.get? s.heap.objs.size with
    | none => rfl
    | some o => exact absurd (Heap.lt_size e) (Nat.lt_irrefl _)
  have hne : ∀ y ∈ G, y.1 ≠ s.heap.objs.size := fun y hy e => by
    obtain ⟨o, e1⟩ := (g.gi.gl y hy).here
    rw [e, hfresh] at e1; cases e1
  refine ⟨⟨g'.gi.sub, g'.gi.base, fun x hx => ?_, fun x hx => ?_, ?_, g'.gi.gens, g'.gi.os⟩, g'.loc, g'.len, g'.outL, g'.lowL, g'.new, g'.old, fun x hx => ?_, fun p hp => ?_⟩
  · cases hx with
    | head => exact ⟨vs, ⟨_, Heap.get?_push_size _ rfl⟩, hv⟩
    | tail _ hx => exact g'.gi.gl x hx
  · cases hx with
    | head =>
      cases e : K.get? s.heap.objs.size with
      | none => rfl
      | some o => have := g.gi.sub _ _ e; rw [hfresh] at this; cases this
    | tail _ hx => exact g'.gi.out x hx
  · rw [List.map_cons, List.nodup_cons]
    exact ⟨fun h => by obtain ⟨y, hy, e⟩ := List.mem_map.mp h; exact hne y hy e, g'.gi.nd⟩
  · cases hx with
    | head => exact ⟨fun e => absurd g.ltL (by rw [← e]; exact Nat.lt_irrefl _), .inr (Nat.le_trans g.lowL (Nat.le_of_lt g.ltL))⟩
    | tail _ hx => exact g'.gap x hx
  · obtain ⟨h1, h2, h3, h4, h5⟩ := g'.hld p hp
    refine ⟨h1, h2, h3, fun y hy => ?_, h5⟩
    cases hy with
    | head => exact fun e => by have := (g.hld p hp).1; rw [← e, hfresh] at this; cases this
    | tail _ hy => exact h4 y hy
theorem evG_own {es : List PySem.Expr} {pos : Pos} {P : List LV → Gs → Prop} (h : EvLG C Λ G es P) (hn : ∀ ls G', P ls G' → ls.length ≤ sizeLine) : EvG C Λ G (eval (.List es pos) C.env) fun l G' => ∃ a ls G₁, l = .r a ∧ G' = (a, ls) :: G₁ ∧ P ls G₁ := fun K s g Q E q => by
  refine List_ (h K s g pos _ E fun K' vs s' ls G' k' p g' i => ?_)
  exact wpAny_newObj_type (q K' _ _ _ _ k' ⟨_, ls, G', rfl, rfl, p⟩ (g'.own i) (r_is _ _)) (by show vs.toArray.size ≤ sizeLine; rw [List.size_toArray, i.length]; exact hn ls G' p)
theorem ev_list {es : List PySem.Expr} {pos : Pos} {xs : List PyData} (h : EvL C Λ G es (xs.map .d)) (hn : xs.length ≤ sizeLine := by decide) : Ev C Λ G (eval (.List es pos) C.env) (.d (.list xs)) := fun K s g Q E q => by
  refine List_ (h K s g pos _ E fun K' vs s' ls G' k' p g' i => ?_)
  obtain ⟨rfl, rfl⟩ := p
  obtain ⟨K'', k'', e, g''⟩ := g'.alloc { cls := .type "list", data := .seq vs.toArray } rfl
  exact wpAny_newObj_type (q K'' _ _ (k'.trans k'') g'' (list_is ⟨_, e, rfl, _, rfl⟩ (i.mono k''))) (by show vs.toArray.size ≤ sizeLine; rw [List.size_toArray, i.length, List.length_map]; exact hn)

/-- an own list that turns no more -/
theorem Inv.freeze {K : Heap} {s : Shared} {a : Addr} {ls : List LV} {G₁ G₂ : Gs} (g : Inv C K Λ (G₁ ++ (a, ls) :: G₂) s) (ha : C.entry.objs.size ≤ a) :
    ∃ K' vs, Sub K K' ∧ K'.IsList a (vs : List Value).toArray ∧ AllIs K' vs ls ∧ Inv C K' Λ (G₁ ++ G₂) s := by
  have hm : (a, ls) ∈ G₁ ++ (a, ls) :: G₂ := by simp
  obtain ⟨vs, ⟨n, e⟩, hv⟩ := g.gi.gl _ hm
  have hmem : ∀ x ∈ G₁ ++ G₂, x ∈ G₁ ++ (a, ls) :: G₂ := fun x hx => by
    rcases List.mem_append.mp hx with h | h
    · exact List.mem_append_left _ h
    · exact List.mem_append_right _ (.tail _ h)
  have hnd := g.gi.nd
  rw [List.map_append, List.map_cons, List.nodup_append] at hnd
  obtain ⟨n1, n2, n3⟩ := hnd
  rw [List.nodup_cons] at n2
  have g₀ : Inv C K Λ (G₁ ++ G₂) s := by
    refine ⟨⟨g.gi.sub, g.gi.base, fun x hx => g.gi.gl x (hmem x hx), fun x hx => g.gi.out x (hmem x hx), ?_, g.gi.gens, g.gi.os⟩, g.loc, g.len, g.outL, g.lowL, g.new, g.old, fun x hx => g.gap x (hmem x hx), fun p hp => ?_⟩
    · rw [List.map_append, List.nodup_append]
      exact ⟨n1, n2.2, fun x hx y hy => n3 x hx y (.tail _ hy)⟩
    · obtain ⟨h1, h2, h3, h4, h5⟩ := g.hld p hp
      exact ⟨h1, h2, h3, fun y hy => h4 y (hmem y hy), h5⟩
  have hne : ∀ x ∈ G₁ ++ G₂, x.1 ≠ a := fun x hx q => by
    rcases List.mem_append.mp hx with h | h
    · exact n3 x.1 (List.mem_map_of_mem h) a (.head _) q
    · exact n2.1 (List.mem_map.mpr ⟨x, h, q⟩)
  obtain ⟨K', k1, k2, g₁⟩ := g₀.adopt e (g.gap _ hm).1 hne (fun p hp q => (g.hld p hp).2.2.2.1 _ hm q.symm) ha
  exact ⟨K', vs, k1, ⟨_, k2, rfl, _, rfl⟩, hv.mono k1, g₁⟩

-- CALLS OF DEFS
/-- the def stands at f -/
structure DefAt (B : Bs) (f : Addr) (F : Fd) (ps : List Str) (body : List Stmt) where
  o : Obj
  params : Arguments
  pm : Value
  cd : Value
  doc : Value
  at_ : B.base.get? f = some o
  data : o.data = .func (Calls.docDef F.name params body F.scope pm cd doc)
  code : B.base.CodeRec cd F.name
  bind : ∀ args : List Value, args.length = ps.length → bindArgs (Calls.docDef F.name params body F.scope pm cd doc) ⟨args, []⟩ = pure (ps.zip args)
  co : F.scope.isCoroutine = false
  gen : F.scope.isGenerator = false

/-- a call of f with these: what it gives, which lists stand behind it -/
def Spec (B : Bs) (f : Addr) (k : Nat) (args : List LV) (G : Gs) (P : LV → Gs → Prop) : Prop :=
  ∀ (A : Around) (K : Heap) (s : Shared) (vs : List Value), A.handled = none → A.depth + k < recursionLimit → A.units + 4 * k + 70 < cLine → Gi B K G s → AllIs K vs args →
    ∀ R : Result → Shared → Prop, (∀ K' v s' l G', Sub K K' → Gi B K' G' s' → (∀ b o, K'.get? b = some o → K.get? b = some o ∨ s.heap.objs.size ≤ b) → (∀ b o, s.heap.get? b = some o → b ∉ G.map (·.1) → s'.heap.get? b = some o) →
      (∀ g' ∈ G', g'.1 ∈ G.map (·.1)) → P l G' → l.Is K' v → R (.ok (.ret v)) s') → codeAny (model B.prog B.w) A (.call (.ref f) ⟨vs, []⟩) R s

theorem lookup_zip_rev : ∀ (ps : List Str) (args : List Value), ps.length = args.length → ps.Nodup → ∀ (i : Nat) (p : Str) (v : Value), ps[i]? = some p → args[i]? = some v → (ps.zip args).reverse.lookup p = some v
  | [], _, _, _, i, p, v, h, _ => by simp at h
  | q :: ps, [], h, _, _, _, _, _, _ => by simp at h
  | q :: ps, w :: args, hl, hnd, i, p, v, hp, hv => by
    rw [List.zip_cons_cons, List.reverse_cons]
    rw [List.nodup_cons] at hnd
    have app : ∀ (l : List (Str × Value)) (m : List (Str × Value)) (x : Str), (l ++ m).lookup x = (l.lookup x).or (m.lookup x) := fun l m x => by
      induction l with
      | nil => simp
      | cons a l ih =>
        obtain ⟨a1, a2⟩ := a
        simp only [List.cons_append, List.lookup_cons]
        cases x == a1 <;> simp [ih]
    rw [app]
    cases i with
    | zero =>
      obtain rfl : q = p := by simpa using hp
      obtain rfl : w = v := by simpa using hv
      have none_of : (ps.zip args).reverse.lookup q = none := by
        rw [List.lookup_eq_none_iff]
        intro x hx
        have hx' : x ∈ ps.zip args := by simpa using hx
        have : x.1 ∈ ps := (List.of_mem_zip hx').1
        have hne : q ≠ x.1 := fun e => hnd.1 (e ▸ this)
        simpa using hne
      rw [none_of]; simp
    | succ i =>
      have := lookup_zip_rev ps args (by simpa using hl) hnd.2 i p v (by simpa using hp) (by simpa using hv)
      rw [this]; rfl

theorem spec_of {f : Addr} {ps : List Str} {body : List Stmt} (D : DefAt B f F ps body) (hfirst : ∃ rest, F.names = ps ++ rest) (hnocell : ∀ x ∈ F.scope.names, x.2 ≠ .cell) {k : Nat} {args : List LV} {G : Gs} {P : LV → Gs → Prop} (hlen : args.length = ps.length)
    (h : ∀ C : Cx B F, C.gin = G.map (·.1) → C.A.depth + k < recursionLimit → C.A.units + 4 * k + 70 < cLine → Ex C (args.map some ++ List.replicate (F.names.length - args.length) none) G (execs body C.env) fun o => ∃ l G', o = .rt l G' ∧ (∀ g' ∈ G', g'.1 ∈ G.map (·.1)) ∧ P l G') :
    Spec B f (k + 1) args G P := fun A K s vs hh hd hu g hv R q => by
  have hvl : vs.length = ps.length := hv.length.trans hlen
  have hbase : Sub B.base s.heap := g.base.trans g.sub
  obtain ⟨rest, hrest⟩ := hfirst
  have hpn : ∀ x ∈ ps, x ∈ F.names := fun x hx => by rw [hrest]; exact List.mem_append_left _ hx
  refine call_plain_ret (by omega) (hbase _ _ D.at_) D.data (B.hlim.keeps hbase) (?_ : s.heap.CodeRec D.cd F.name) (D.bind vs hvl) (fun x hx => F.hn _ (hpn _ (List.of_mem_zip hx).1)) (fun h₁ Fr₁ => ?_) D.co D.gen F.hk hnocell
  · obtain ⟨c, o, ws, t, e1, e2, e3⟩ := D.code
    exact ⟨c, o, ws, t, e1, hbase _ _ e2, e3⟩
  · let C : Cx B F := { A := A.deeper (envOf F.name F.scope s.heap.objs.size f D.cd), L := s.heap.objs.size, fa := some f, fr := some s.heap.objs.size, cells := [], cd := D.cd, entry := s.heap, K₀ := K, gin := G.map (·.1), held := [], hh := hh, hu := by show A.units + 3 + 64 < cLine; omega }
    have hfresh : s.heap.get? s.heap.objs.size = none := by
      cases e : s.heap.get? s.heap.objs.size with
      | none => rfl
      | some o => exact absurd (Heap.lt_size e) (Nat.lt_irrefl _)
    have gI : Inv C K (args.map some ++ List.replicate (F.names.length - args.length) none) G { s with heap := h₁, toks := s.toks + (ps.zip vs).length } := by
      refine ⟨⟨g.sub.trans Fr₁.keep, g.base, fun x hx => GIs.heap (Fr₁.keep _) (g.gl x hx), g.out, g.nd, g.gens, g.os⟩, ⟨_, Fr₁.ns, fun i l e => ?_⟩, ?_, ?_, Nat.le_refl _, fun b o e => .inl e, fun b o e _ => Fr₁.keep b o e, fun x hx => ?_, fun p hp => nomatch hp⟩
      · have hi : i < args.length := by
          rcases Nat.lt_or_ge i args.length with h | h
          · exact h
          · rw [List.getElem?_append_right (by simpa using h)] at e
            have := List.mem_of_getElem? e
            rw [List.mem_replicate] at this
            cases this.2
        rw [List.getElem?_append_left (by simpa using hi), List.getElem?_map] at e
        obtain ⟨l', e', e2⟩ := Option.map_eq_some_iff.mp e
        cases e2
        obtain ⟨v, ev, iv⟩ := hv.get e'
        have hip : i < ps.length := by omega
        refine ⟨ps[i], v, ?_, ?_, iv⟩
        · rw [hrest, List.getElem?_append_left hip]; simp [hip]
        · have hnd : ps.Nodup := by
            have := F.hnd
            rw [hrest, List.nodup_append] at this
            exact this.1
          exact lookup_zip_rev ps vs hvl.symm hnd i _ v (by simp [hip]) ev
      · rw [List.length_append, List.length_map, List.length_replicate]
        have : ps.length ≤ F.names.length := by rw [hrest]; simp
        omega
      · cases e : K.get? s.heap.objs.size with
        | none => rfl
        | some o => have := g.sub _ _ e; rw [hfresh] at this; cases this
      · refine ⟨fun e => ?_, .inl (List.mem_map_of_mem hx)⟩
        obtain ⟨o, e1⟩ := (g.gl x hx).here
        rw [e] at e1
        have : s.heap.get? s.heap.objs.size = some o := e1
        rw [hfresh] at this; cases this
    refine h C rfl (by show A.depth + 1 + k < recursionLimit; omega) (by show A.units + 3 + 4 * k + 70 < cLine; omega) K _ gI _ _ fun K' fl s' o k' ho hi => ?_
    obtain ⟨l, G', rfl, hG', hP⟩ := ho
    obtain ⟨v, Λ', rfl, hl, g'⟩ := hi
    exact q K' v s' l G' k' g'.gi g'.new (fun b o e n => g'.old b o e n) hG' hP hl

/-- behind a call -/
theorem Inv.back {K K' : Heap} {G' : Gs} {s s' : Shared} (g : Inv C K Λ G s) (k : Sub K K') (g' : Gi B K' G' s') (hnew : ∀ b o, K'.get? b = some o → K.get? b = some o ∨ s.heap.objs.size ≤ b)
    (hold : ∀ b o, s.heap.get? b = some o → b ∉ G.map (·.1) → s'.heap.get? b = some o) (hG : ∀ g' ∈ G', g'.1 ∈ G.map (·.1)) : Inv C K' Λ G' s' := by
  have hLG : C.L ∉ G.map (·.1) := fun h => by obtain ⟨x, hx, e⟩ := List.mem_map.mp h; exact (g.gap x hx).1 e
  refine ⟨g', ?_, g.len, ?_, g.lowL, fun b o e => ?_, fun b o e n => ?_, fun x hx => ?_, fun p hp => ?_⟩
  · obtain ⟨m, ⟨oL, es, ep, eL, r⟩, hm⟩ := g.loc
    exact ⟨m, ⟨oL, es, ep, hold _ _ eL hLG, r⟩, fun i l e => let ⟨x, v, a, b, c⟩ := hm i l e; ⟨x, v, a, b, c.mono k⟩⟩
  · cases e : K'.get? C.L with
    | none => rfl
    | some o =>
      rcases hnew _ _ e with z | z
      · rw [g.outL] at z; cases z
      · exact absurd g.ltL (Nat.not_lt.mpr z)
  · rcases hnew _ _ e with z | z
    · exact g.new _ _ z
    · exact .inr (Nat.le_trans g.lowL (Nat.le_trans (Nat.le_of_lt g.ltL) z))
  · refine hold b o (g.old b o e n) fun h => ?_
    obtain ⟨x, hx, rfl⟩ := List.mem_map.mp h
    rcases (g.gap x hx).2 with z | z
    · exact n z
    · exact absurd (Heap.lt_size e) (Nat.not_lt.mpr z)
  · obtain ⟨y, hy, e⟩ := List.mem_map.mp (hG x hx)
    rw [← e]; exact g.gap y hy
  · obtain ⟨h1, h2, h3, h4, h5⟩ := g.hld p hp
    refine ⟨hold _ _ h1 fun h => ?_, ?_, h3, fun y hy e => ?_, h5⟩
    · obtain ⟨x, hx, e⟩ := List.mem_map.mp h; exact h4 x hx e
    · cases e : K'.get? p.1 with
      | none => rfl
      | some o =>
        rcases hnew _ _ e with z | z
        · rw [h2] at z; cases z
        · exact absurd (Heap.lt_size h1) (Nat.not_lt.mpr z)
    · obtain ⟨x, hx, e'⟩ := List.mem_map.mp (hG y hy); exact h4 x hx (e'.trans e)

theorem evG_callv {fn e : PySem.Expr} {es : List PySem.Expr} {pos : Pos} {f : Addr} {k : Nat} {Pf : LV → Gs → Prop} {Pa : List LV → Gs → Prop} {P : LV → Gs → Prop}
    (hev : eval (.Call fn (e :: es) [] pos) C.env = (do callWith pos (← eval fn C.env) [] (backTo pos (starEach (e :: es) C.env)) (backToKw pos (keywordEach [] C.env))) := by rfl)
    (hf : EvG C Λ G (eval fn C.env) Pf) (ha : ∀ l G₁, Pf l G₁ → ∃ (F' : Fd) (f : Addr) (k : Nat) (ps : List Str) (body : List Stmt), Nonempty (DefAt B f F' ps body) ∧ l = .r f ∧ C.A.depth + k < recursionLimit ∧ C.A.units + 4 * k + 70 < cLine ∧ EvLG C Λ G₁ (e :: es) fun ls G₂ => Spec B f k ls G₂ P)
    (hs : isStarred e = false := by rfl) : EvG C Λ G (eval (.Call fn (e :: es) [] pos) C.env) P := fun K s g Q E q => by
  rw [hev]
  refine wpAny_bind (hf K s g _ E fun K₀ fv s₀ l G₀ k₀ p₀ g₀ i₀ => ?_)
  obtain ⟨F', f, k, ps, body, ⟨D⟩, rfl, hd, hu, hargs⟩ := ha l G₀ p₀
  obtain rfl := is_r i₀
  refine callWith_function (o := D.o) (fd := Calls.docDef F'.name D.params body F'.scope D.pm D.cd D.doc) ?_
  have hsp := starEach_cons hs es C.env
  show wpAny C.M C.A (evalArgs (.ref f) true (backTo pos (starEach (e :: es) C.env)) []) _ E s₀
  have hb : backTo pos (starEach (e :: es) C.env) = (false, eval e C.env) :: backTo pos (starEach es C.env) := by rw [hsp]; rfl
  rw [hb]
  refine evalArgs_plain ?_
  rw [← hb]
  refine hargs K₀ s₀ g₀ pos _ E fun K₁ vs s₁ ls G₁ k₁ p₁ g₁ i₁ => ?_
  refine ⟨⟨(g₁.gi.base.trans g₁.gi.sub) _ _ D.at_, D.data⟩, ?_⟩
  refine wpAny_call ?_
  rw [List.nil_append]
  exact p₁ C.A K₁ s₁ vs C.hh hd hu g₁.gi i₁ _ fun K₂ v s₂ l₂ G₂ k₂ g₂ hnew hold hG hP hl => q K₂ v s₂ l₂ G₂ (k₀.trans (k₁.trans k₂)) hP (g₁.back k₂ g₂ hnew hold hG) hl
/-- a def called by its name -/
theorem evG_call {x : Str} {p : Pos} {e : PySem.Expr} {es : List PySem.Expr} {pos : Pos} {F' : Fd} {f : Addr} {k : Nat} {ps : List Str} {body : List Stmt} {P : LV → Gs → Prop} (D : DefAt B f F' ps body)
    (hx : F.scope.names.lookup x = some .globalImplicit) (hm : B.mg x = some (.ref f)) (hd : C.A.depth + k < recursionLimit) (hu : C.A.units + 4 * k + 70 < cLine)
    (ha : EvLG C Λ G (e :: es) fun ls G₂ => Spec B f k ls G₂ P) (hdb : (x == ("__debug__" : Str)) = false := by decide) (hs : isStarred e = false := by rfl) : EvG C Λ G (eval (.Call (.Name x p) (e :: es) [] pos) C.env) P :=
  evG_callv (f := f) (k := k) (Pa := fun _ _ => True) rfl ((ev_global (l := .r f) hx hm (r_is _ _) hdb).g (P := fun l' G' => l' = .r f ∧ G' = G) ⟨rfl, rfl⟩) (fun l G₁ p => by
    obtain ⟨rfl, rfl⟩ := p
    exact ⟨F', f, k, ps, body, ⟨D⟩, rfl, hd, hu, ha⟩) hs
end
end Mine
end
section
open PySem PySem.Calls PyProof.Rows PySem.W PySem.Builtin PySem.Builtin.Str
namespace Mine

section
variable {B : Bs} {F : Fd} {C : Cx B F} {Λ : Loc} {G : Gs} {O : Out → Prop}

-- CALLS OF BUILT-INS
theorem plain_args (pos : Pos) (env : Env) : ∀ es : List PySem.Expr, es.all (fun e => !isStarred e) = true → (backTo pos (starEach es env)).any (·.1) = false
  | [], _ => rfl
  | e :: es, h => by
    rw [List.all_cons, Bool.and_eq_true] at h
    have he : isStarred e = false := by simpa using h.1
    rw [starEach_cons he]
    show (false || (backTo pos (starEach es env)).any (·.1)) = false
    rw [Bool.false_or]; exact plain_args pos env es h.2
def CallB (C : Cx B F) (Λ : Loc) (G : Gs) (v : Value) (ls : List LV) (l : LV) : Prop :=
  ∀ K s vs, Inv C K Λ G s → AllIs K vs ls → ∀ (Q : Value → Shared → Prop) (E : Value → Shared → Prop), (∀ K' w s', Sub K K' → Inv C K' Λ G s' → l.Is K' w → Q w s') → wpAny C.M C.A (call v vs) Q E s
inductive BV : Value → Prop
  | fn (id : String) : BV (.builtin id)
  | ty (T : String) : BV (.type T)
theorem evG_callB {x : Str} {p pos : Pos} {e : PySem.Expr} {es : List PySem.Expr} {v : Value} {P : LV → Gs → Prop} (hv : BV v) (hx : F.scope.names.lookup x = some .globalImplicit) (hm : B.mg x = none) (hb : B.mb x = some v)
    (ha : EvLG C Λ G (e :: es) fun ls G' => ∃ l, CallB C Λ G' v ls l ∧ P l G') (hs : (e :: es).all (fun e => !isStarred e) = true := by rfl) (hd : (x == ("__debug__" : Str)) = false := by decide) : EvG C Λ G (eval (.Call (.Name x p) (e :: es) [] pos) C.env) P := fun K s g Q E q => by
  show wpAny C.M C.A (do callWith pos (← eval (.Name x p) C.env) [] (backTo pos (starEach (e :: es) C.env)) (backToKw pos (keywordEach [] C.env))) Q E s
  refine wpAny_bind (wp_builtin g hx hm hb ?_ hd)
  have hpl := plain_args pos C.env (e :: es) hs
  have he : isStarred e = false := by rw [List.all_cons, Bool.and_eq_true] at hs; simpa using hs.1
  have hbt : backTo pos (starEach (e :: es) C.env) = (false, eval e C.env) :: backTo pos (starEach es C.env) := by rw [starEach_cons he]; rfl
  have go : ∀ f : Value, wpAny C.M C.A (evalArgs f true (backTo pos (starEach (e :: es) C.env)) []) (fun a s₁ => wpAny C.M C.A (call v ([] ++ a.pos) a.kw) Q E s₁) E s := fun f => by
    rw [hbt]
    refine evalArgs_plain ?_
    rw [← hbt]
    exact ha K s g pos _ E fun K₁ vs s₁ ls G₁ k₁ ⟨l, hc, hp⟩ g₁ i₁ => hc K₁ s₁ vs g₁ i₁ Q E fun K₂ w s₂ k₂ g₂ i₂ => q K₂ w s₂ l G₁ (k₁.trans k₂) hp g₂ i₂
  cases hv with
  | fn id => exact Calls.callWith_builtin hpl (go _)
  | ty T => exact PySem.callWith_type hpl (go _)
theorem ev_callB {x : Str} {p pos : Pos} {e : PySem.Expr} {es : List PySem.Expr} {v : Value} {ls : List LV} {l : LV} (hv : BV v) (hx : F.scope.names.lookup x = some .globalImplicit) (hm : B.mg x = none) (hb : B.mb x = some v)
    (ha : EvL C Λ G (e :: es) ls) (hc : CallB C Λ G v ls l) (hs : (e :: es).all (fun e => !isStarred e) = true := by rfl) (hd : (x == ("__debug__" : Str)) = false := by decide) : Ev C Λ G (eval (.Call (.Name x p) (e :: es) [] pos) C.env) l :=
  EvG.one (evG_callB hv hx hm hb (fun K s g pos Q E q => ha K s g pos Q E fun K' vs s' ls' G' k p g' i => by
    obtain ⟨rfl, rfl⟩ := p
    exact q K' vs s' _ _ k ⟨l, hc, rfl, rfl⟩ g' i) hs hd)

theorem allIs_one {K : Heap} {vs : List Value} {l : LV} (h : AllIs K vs [l]) : ∃ v, vs = [v] ∧ l.Is K v := by
  obtain ⟨v, r, rfl, a, b⟩ := allIs_of_cons h
  obtain rfl := allIs_of_nil b
  exact ⟨v, rfl, a⟩
theorem allIs_two {K : Heap} {vs : List Value} {l m : LV} (h : AllIs K vs [l, m]) : ∃ v w, vs = [v, w] ∧ l.Is K v ∧ m.Is K w := by
  obtain ⟨v, r, rfl, a, b⟩ := allIs_of_cons h
  obtain ⟨w, rfl, c⟩ := allIs_one b
  exact ⟨v, w, rfl, a, c⟩

theorem small_len {n : Nat} (h : n ≤ sizeLine) : ¬ ((n : Int) ≥ 2 ^ 63) := by rw [sizeLine_eq] at h; omega
theorem call_len {l : List Nat} (h : l.length ≤ sizeLine) : CallB C Λ G (.builtin "len") [.t l] (.i l.length) := fun K s vs g hv Q E q => by
  obtain ⟨v, rfl, a⟩ := allIs_one hv
  obtain ⟨t, rfl⟩ := is_str a
  refine len_str (by rw [tx_length]; exact small_len h) ?_
  rw [tx_length]
  exact q K _ _ (Sub.refl K) (g.toks _) (int_is K _ _)
theorem call_lenL {xs : List PyData} (h : xs.length ≤ sizeLine) : CallB C Λ G (.builtin "len") [.d (.list xs)] (.i xs.length) := fun K s vs g hv Q E q => by
  obtain ⟨v, rfl, a⟩ := allIs_one hv
  obtain ⟨ad, ws, rfl, h1, h2⟩ := is_list a
  have e : ws.toArray.size = xs.length := by have := h2.length; simpa using this
  refine Calls.call_len_list (isList_sub g.gi.sub h1) (by rw [e]; have := small_len h; omega) ?_
  rw [e]
  exact q K _ _ (Sub.refl K) (g.toks _) (int_is K _ _)
theorem call_lenT {xs : List PyData} (h : xs.length ≤ sizeLine) : CallB C Λ G (.builtin "len") [.d (.tuple xs)] (.i xs.length) := fun K s vs g hv Q E q => by
  obtain ⟨v, rfl, a⟩ := allIs_one hv
  obtain ⟨ad, ws, rfl, h1, h2⟩ := is_tuple a
  have e : ws.toArray.size = xs.length := by have := h2.length; simpa using this
  refine len_tuple (isTuple_sub g.gi.sub h1) (by rw [e]; have := small_len h; omega) ?_
  rw [e]
  exact q K _ _ (Sub.refl K) (g.toks _) (int_is K _ _)
theorem call_lenO {a : Addr} {ls : List LV} (hG : (a, ls) ∈ G) (h : ls.length ≤ sizeLine) : CallB C Λ G (.builtin "len") [.r a] (.i ls.length) := fun K s vs g hv Q E q => by
  obtain ⟨v, rfl, a'⟩ := allIs_one hv
  obtain rfl := is_r a'
  obtain ⟨ws, e1, e4⟩ := g.gi.gl _ hG
  have e : ws.toArray.size = ls.length := by have := e4.length; simpa using this
  refine Calls.call_len_list e1.isList (by rw [e]; have := small_len h; omega) ?_
  rw [e]
  exact q K _ _ (Sub.refl K) (g.toks _) (int_is K _ _)
theorem call_ord {c : Nat} : CallB C Λ G (.builtin "ord") [.t [c]] (.i c) := fun K s vs g hv Q E q => by
  obtain ⟨v, rfl, a⟩ := allIs_one hv
  obtain ⟨t, rfl⟩ := is_str a
  refine ord_of_one (by rw [tx_length]; rfl) ?_
  show Q (.int (([c].toArray.getD 0 0 : Nat) : Int) _) _
  exact q K _ _ (Sub.refl K) (g.toks _) (int_is K _ _)
theorem call_intI {n : Int} : CallB C Λ G (.type "int") [.i n] (.i n) := fun K s vs g hv Q E q => by
  obtain ⟨v, rfl, a⟩ := allIs_one hv
  obtain ⟨t, rfl⟩ := is_int a
  exact call_int_int (q K _ _ (Sub.refl K) g (int_is K _ _))
theorem call_intB {b : Bool} : CallB C Λ G (.type "int") [.b b] (.i (if b then 1 else 0)) := fun K s vs g hv Q E q => by
  obtain ⟨v, rfl, a⟩ := allIs_one hv
  obtain rfl := is_bool a
  exact call_int_bool (q K _ _ (Sub.refl K) (g.toks _) (int_is K _ _))
theorem call_rangeI {n : Int} : CallB C Λ G (.type "range") [.i n] (.rg n) := fun K s vs g hv Q E q => by
  obtain ⟨v, rfl, a⟩ := allIs_one hv
  obtain ⟨t, rfl⟩ := is_int a
  obtain ⟨K', k', e, g'⟩ := g.alloc { cls := .type "range", data := .fields #[.int 0 s.toks, .int n t, .int 1 (s.toks + 1)] } rfl
  exact call_range_1 (q K' _ _ k' (g'.toks _) (by unfold LV.Is; exact ⟨_, _, _, _, rfl, e⟩))
theorem call_maxI {a b : Int} : CallB C Λ G (.builtin "max") [.i a, .i b] (.i (if b > a then b else a)) := fun K s vs g hv Q E q => by
  obtain ⟨v, w, rfl, h1, h2⟩ := allIs_two hv
  obtain ⟨t, rfl⟩ := is_int h1
  obtain ⟨u, rfl⟩ := is_int h2
  refine max_two_ints C.hh fun h' tk hk => q K _ _ (Sub.refl K) (g.keeps hk _) ?_
  by_cases hc : b > a
  · rw [if_pos hc, if_pos hc]; exact int_is K _ _
  · rw [if_neg hc, if_neg hc]; exact int_is K _ _

-- LISTS
theorem is_ints {K : Heap} : ∀ {ns : List Int} {vs : List Value}, AllIs K vs ((ns.map PyData.int).map .d) → IntsAre vs ns
  | [], _, h => by obtain rfl := allIs_of_nil h; exact .nil
  | n :: ns, _, h => by
    obtain ⟨v, r, rfl, a, b⟩ := allIs_of_cons h
    obtain ⟨t, rfl⟩ := is_int a
    exact IntsAre.cons _ _ (is_ints b)
theorem is_strs {K : Heap} : ∀ {xs : List (List Nat)} {vs : List Value}, AllIs K vs (xs.map fun x => .t x) → ∃ l, vs = strValues l ∧ l.map (·.1) = xs.map tx
  | [], _, h => by obtain rfl := allIs_of_nil h; exact ⟨[], rfl, rfl⟩
  | x :: xs, _, h => by
    obtain ⟨v, r, rfl, a, b⟩ := allIs_of_cons h
    obtain ⟨t, rfl⟩ := is_str a
    obtain ⟨l, rfl, e⟩ := is_strs b
    exact ⟨(tx x, t) :: l, rfl, by rw [List.map_cons, e, List.map_cons]⟩
theorem strs_is {K : Heap} : ∀ (l : List (Str × Tok)) {xs : List (List Nat)}, l.map (·.1) = xs.map tx → AllIs K (strValues l) (xs.map fun x => .t x)
  | [], [], _ => allIs_nil
  | [], _ :: _, h => by simp at h
  | _ :: _, [], h => by simp at h
  | (y, t) :: l, x :: xs, h => by
    rw [List.map_cons, List.map_cons, List.cons.injEq] at h
    refine allIs_cons (?_ : (LV.t x).Is K (.str y t)) (strs_is l h.2)
    have e : y = tx x := h.1
    rw [e]; exact str_is K _ t

theorem bin_cats {xs ys : List PyData} (h : xs.length + ys.length ≤ sizeLine) : BinR C Λ G .Add (.d (.list xs)) (.d (.list ys)) (.d (.list (xs ++ ys))) := fun K s x y g ha hb Q E q => by
  obtain ⟨a, vs, rfl, h1, h2⟩ := is_list ha
  obtain ⟨b, ws, rfl, h3, h4⟩ := is_list hb
  obtain ⟨⟨cls, dd, data, sl⟩, ho, hc, n, hd⟩ := isList_sub g.gi.sub h1
  obtain ⟨⟨cls2, dd2, data2, sl2⟩, ho2, hc2, n2, hd2⟩ := isList_sub g.gi.sub h3
  simp only at hc hd hc2 hd2
  subst hc hd hc2 hd2
  have e : vs.toArray ++ ws.toArray = (vs ++ ws).toArray := by simp
  have l1 := h2.length
  have l2 := h4.length
  rw [List.length_map] at l1 l2
  obtain ⟨K', k', e', g'⟩ := g.alloc { cls := .type "list", data := .seq (vs ++ ws).toArray } rfl
  refine concat_meets ⟨_, ho, rfl⟩ ⟨_, ho2, rfl⟩ noFill_list_add seq_list_add PySem.F.slot_list_add PySem.F.entry_list_add (PySem.F.args_list_add_2 _ _) (list_addW a b vs.toArray ws.toArray n n2 dd dd2 sl sl2 (by simp; omega)) ⟨ho, ho2, ?_⟩
  rw [e]
  refine q K' _ _ k' g' (list_is ⟨_, e', rfl, _, rfl⟩ ?_)
  rw [List.map_append]
  exact (h2.mono k').append (h4.mono k')

/-- xs[lo:hi] of a list -/
theorem ev_sliceL {v : PySem.Expr} {lo hi : Option PySem.Expr} {p pos : Pos} {xs : List PyData} {a b : Option Int} (hv : Ev C Λ G (eval v C.env) (.d (.list xs))) (ha : EvO C Λ G lo a) (hb : EvO C Λ G hi b) (hn : xs.length ≤ sizeLine) :
    Ev C Λ G (eval (.Subscript v (.Slice lo hi none p) pos) C.env) (.d (.list ((xs.take (b.elim xs.length (clipAt xs.length))).drop (a.elim 0 (clipAt xs.length))))) := fun K s g Q E q =>
  Subscript_ (hv K s g _ E fun K₁ x s₁ k₁ g₁ i₁ => wpAny_Slice (part_of ha g₁ fun K₂ vl s₂ pl k₂ g₂ el al => part_of hb g₂ fun K₃ vu s₃ pu k₃ g₃ eu au => by
    obtain ⟨ad, vs, rfl, h1, h2⟩ := is_list i₁
    have hlen : vs.length = xs.length := by have := h2.length; simpa using this
    refine wpAny_pure ?_
    have hpl : IsPart vl a := by
      rw [el, ← al]
      cases pl with
      | none => exact .none
      | some p => exact .int p.1 p.2
    have hpu : IsPart vu b := by
      rw [eu, ← au]
      cases pu with
      | none => exact .none
      | some p => exact .int p.1 p.2
    have g₃' := g₃.push { cls := .type "slice", data := .fields #[vl, vu, .none] } s₃.toks
    have hL : (s₃.heap.push { cls := .type "slice", data := .fields #[vl, vu, .none] }).IsList ad vs.toArray := isList_sub ((k₂.trans k₃).trans g₃'.gi.sub) h1
    have hpick : slicePick vs.toArray a b none = ((vs.take (b.elim xs.length (clipAt xs.length))).drop (a.elim 0 (clipAt xs.length))).toArray := by
      rw [slicePick_plain]
      simp [hlen, List.drop_take]
    obtain ⟨K₄, k₄, e₄, g₄⟩ := g₃'.alloc { cls := .type "list", data := .seq (slicePick vs.toArray a b none) } rfl
    refine tail_any hL.typeIs slot_list_getitem.lookup (wpAny_getItem_list_slice (st := none) hL (Heap.IsSliceOf.new ..) hpl hpu .none (by simp) ?_ (by simp; omega)) rfl
    refine q K₄ _ _ ((k₁.trans (k₂.trans k₃)).trans k₄) g₄ (list_is (vs := (vs.take (b.elim xs.length (clipAt xs.length))).drop (a.elim 0 (clipAt xs.length))) ⟨_, e₄, rfl, _, by rw [hpick]⟩ ?_)
    have h3 := h2.mono ((k₂.trans k₃).trans k₄)
    have gen : ∀ (ls : List LV) (ws : List Value), AllIs K₄ ws ls → ∀ n m, AllIs K₄ ((ws.take n).drop m) ((ls.take n).drop m) := fun ls => by
      induction ls with
      | nil => intro ws h n m; obtain rfl := allIs_of_nil h; simp; exact allIs_nil
      | cons l ls ih =>
        intro ws h n m
        obtain ⟨w, r, rfl, a, b⟩ := allIs_of_cons h
        cases n with
        | zero => simp; exact allIs_nil
        | succ n =>
          rw [List.take_succ_cons, List.take_succ_cons]
          cases m with
          | zero => exact allIs_cons a (by have := ih r b n 0; simpa using this)
          | succ m => rw [List.drop_succ_cons, List.drop_succ_cons]; exact ih r b n m
    have := gen _ _ h3 (b.elim xs.length (clipAt xs.length)) (a.elim 0 (clipAt xs.length))
    rw [List.map_drop, List.map_take]; exact this))

-- STORES INTO AN OWN LIST
theorem setAt_mem {G : Gs} {a : Addr} {ls : List LV} (h : (a, ls) ∈ G) : True := trivial
/-- the ledger with another content at a -/
def setG (G : Gs) (a : Addr) (ls : List LV) : Gs := G.map fun g => if g.1 = a then (a, ls) else g
theorem setG_fst (G : Gs) (a : Addr) (ls : List LV) : (setG G a ls).map (·.1) = G.map (·.1) := by
  unfold setG
  rw [List.map_map]
  refine List.map_congr_left fun g _ => ?_
  simp only [Function.comp]
  split
  · rename_i h; exact h.symm
  · rfl
theorem Inv.turn {K : Heap} {s : Shared} (g : Inv C K Λ G s) {a : Addr} {ls ls' : List LV} {vs : List Value} (hG : (a, ls) ∈ G) {h' : Heap} (hp : h'.PlainList a vs.toArray) (hv : AllIs K vs ls') (hb : Heap.SameBut a s.heap h') (n : Nat) :
    Inv C K Λ (setG G a ls') { s with heap := h', toks := n } := by
  have hmem : ∀ x ∈ setG G a ls', x = (a, ls') ∨ (x ∈ G ∧ x.1 ≠ a) := fun x hx => by
    obtain ⟨y, hy, e⟩ := List.mem_map.mp hx
    split at e
    · exact .inl e.symm
    · subst e; rename_i h; exact .inr ⟨hy, h⟩
  have hK : ∀ b o, K.get? b = some o → b ≠ a := fun b o e z => by rw [z, g.gi.out _ hG] at e; cases e
  refine ⟨⟨fun b o e => (hb.2 b (hK b o e)).trans (g.gi.sub b o e), g.gi.base, fun x hx => ?_, fun x hx => ?_, by rw [setG_fst]; exact g.gi.nd, g.gi.gens, g.gi.os⟩, ?_, g.len, g.outL, g.lowL, g.new, fun b o e q => ?_, fun x hx => ?_, fun p hp' => ?_⟩
  · rcases hmem x hx with rfl | ⟨h1, h2⟩
    · exact ⟨vs, hp, hv⟩
    · exact GIs.heap (fun o e => (hb.2 _ h2).trans e) (g.gi.gl x h1)
  · rcases hmem x hx with rfl | ⟨h1, h2⟩
    · exact g.gi.out (a, ls) hG
    · exact g.gi.out x h1
  · obtain ⟨m, ⟨oL, es, ep, eL, r⟩, hm⟩ := g.loc
    exact ⟨m, ⟨oL, es, ep, (hb.2 _ (Ne.symm (g.gap _ hG).1)).trans eL, r⟩, hm⟩
  · refine (hb.2 b fun z => ?_).trans (g.old b o e q)
    rcases (g.gap _ hG).2 with w | w
    · exact q (z ▸ w)
    · exact absurd (Heap.lt_size e) (by rw [z]; exact Nat.not_lt.mpr w)
  · rcases hmem x hx with rfl | ⟨h1, h2⟩
    · exact g.gap (a, ls) hG
    · exact g.gap x h1
  · obtain ⟨h1, h2, h3, h4, h5⟩ := g.hld p hp'
    refine ⟨(hb.2 _ (Ne.symm (h4 _ hG))).trans h1, h2, h3, fun y hy => ?_, h5⟩
    rcases hmem y hy with rfl | ⟨h6, h7⟩
    · exact h4 (a, ls) hG
    · exact h4 y h6

theorem mapSeq_set_plain (its : Array Value) (n j : Nat) (x : Value) : ∃ n', Obj.mapSeq (·.setIfInBounds j x) { cls := .type "list", data := .seq its n } = { cls := .type "list", data := .seq (its.setIfInBounds j x) n' } := by
  refine ⟨n, ?_⟩
  simp [Obj.mapSeq]
theorem wp_setItem {A : Around} {E : Value → Shared → Prop} {s : Shared} {l : Addr} {items : Array Value} {k : Int} {t : Tok} {v : Value} {Q : Unit → Shared → Prop} (hl : s.heap.PlainList l items) (h0 : 0 ≤ k) (hfit : k < 2 ^ 63) (hn : k < items.size)
    (hQ : ∀ h', h'.PlainList l (items.setIfInBounds k.toNat v) → Heap.SameBut l s.heap h' → Q () { s with heap := h' }) : wpAny (model B.prog B.w) A (setItem (.ref l) (.int k t) v) Q E s := by
  obtain ⟨n, ho⟩ := id hl
  have hd : ({ cls := .type "list", data := .seq items n } : Obj).data = .seq items n := rfl
  unfold setItem
  try with_reducible refine wpAny_holding ?_
  first | refine wpAny_bind (wpAny_pure ?_) | skip
  refine wpAny_bind (wpAny_sequenceKey hl.isList.typeIs (by decide) ?_)
  refine wpAny_bind (wpAny_callSpecial?_slot (name := Str.ofString "__setitem__") hl.isList.typeIs slot_list_setitem
    (wpAny_call_entry slot_list_setitem hl.isList.typeIs entry_list_setitem ?_ (args_list_setitem _ _ _)))
  show wpAny _ _ (Builtin.List.listSubscript? (.int k t) >>= _) _ _ s
  refine wpAny_bind (wpAny_listSubscript_int (fitsIndex_of h0 hfit) ?_)
  clear hfit
  obtain ⟨j, rfl⟩ := Int.eq_ofNat_of_zero_le h0
  have hj : j < items.size := by omega
  have hx' : items[j]? = some items[j] := Array.getElem?_eq_getElem hj
  show wpAny _ _ ((seqItemAt l j >>= fun r => pure (r.map (j, ·))) >>= _) _ _ s
  refine wpAny_bind (wpAny_bind (wpAny_seqItemAt ho hd (wpAny_pure ?_)))
  rw [hx']
  show wpAny _ _ (setSeqItemAt l j v >>= _) _ _ s
  obtain ⟨n', hm⟩ := mapSeq_set_plain items n j v
  have hfin : (s.heap.update l (Obj.mapSeq (·.setIfInBounds j v))).PlainList l (items.setIfInBounds j v) := ⟨n', by rw [Heap.get?_update_self _ ho (by rw [hm]; rfl), hm]⟩
  refine wpAny_bind (wpAny_setSeqItemAt ho hd ?_)
  first
    | exact wpAny_bind (wpAny_pure (wpAny_pure ⟨.none, rfl, wpAny_pure (hQ _ hfin (Heap.SameBut.update ..))⟩))
    | exact wpAny_pure ⟨.none, rfl, wpAny_pure (hQ _ hfin (Heap.SameBut.update ..))⟩

/-- a[i] = value, a an own list -/
theorem ex_setItem {o i value : PySem.Expr} {p' pos : Pos} {a : Addr} {ls : List LV} {k : Int} {l : LV} (hG : (a, ls) ∈ G) (hv : Ev C Λ G (eval value C.env) l) (ho : Ev C Λ G (eval o C.env) (.r a)) (hi : Ev C Λ G (eval i C.env) (.i k))
    (h0 : 0 ≤ k) (h1 : k < ls.length) (hn : ls.length ≤ sizeLine) (h : O (.nx Λ (setG G a (ls.set k.toNat l))))
    (hs : swapsWith value (some (.Subscript o i p')) pos.line C.env = pure false := by rfl) : Ex C Λ G (exec (.Assign [.Subscript o i p'] value pos) C.env) O := fun K s g Q E q =>
  wpAny_Assign_Subscript (hv K s g _ E fun K₁ v s₁ k₁ g₁ i₁ => ho K₁ s₁ g₁ _ E fun K₂ ov s₂ k₂ g₂ i₂ => hi K₂ s₂ g₂ _ E fun K₃ iv s₃ k₃ g₃ i₃ => by
    obtain rfl := is_r i₂
    obtain ⟨t, rfl⟩ := is_int i₃
    obtain ⟨vs, e1, e2⟩ := g₃.gi.gl _ hG
    have hlen : vs.length = ls.length := e2.length
    refine wp_setItem e1 h0 (by rw [sizeLine_eq] at hn; omega) (by simp; omega) fun h' hp hb => ?_
    have hp' : h'.PlainList a (vs.set k.toNat v).toArray := by simpa using hp
    exact q K₃ _ _ _ (k₁.trans (k₂.trans k₃)) h ⟨rfl, g₃.turn hG hp' (e2.set _ (i₁.mono (k₂.trans k₃))) hb s₃.toks⟩) hs

/-- a.append(value), a an own list -/
theorem ex_append {o elt : PySem.Expr} {apos pos pos2 : Pos} {a : Addr} {ls : List LV} {l : LV} (hG : (a, ls) ∈ G) (ho : Ev C Λ G (eval o C.env) (.r a)) (he : Ev C Λ G (eval elt C.env) l) (hn : ls.length ≤ sizeLine) (h : O (.nx Λ (setG G a (ls ++ [l]))))
    (hbase : attributeBase o "append" C.env (eval o C.env) = eval o C.env := by rfl) (hline : (apos.endLine == pos.line) = true := by rfl) (hs : isStarred elt = false := by rfl) (hi : interactive C.env = false := by rfl)
    (hsw : swapsWith (.Call (.Attribute o "append" apos) [elt] [] pos) none pos2.line C.env = pure false := by rfl) :
    Ex C Λ G (exec (.Expr (.Call (.Attribute o "append" apos) [elt] [] pos) pos2) C.env) O := fun K s g Q E q => by
  have hst : starEach [elt] C.env = [(false, eval elt C.env)] := starEach_cons hs [] C.env
  refine wpAny_Expr (wpAny_Call_append hbase (by rw [hst]; rfl) hline (by rw [hst]; rfl) (ho K s g _ E fun K₁ ov s₁ k₁ g₁ i₁ => ?_)) hi hsw
  obtain rfl := is_r i₁
  obtain ⟨vs, ⟨n, e1⟩, e2⟩ := g₁.gi.gl _ hG
  refine ⟨a, vs.toArray, rfl, ⟨_, n, e1, rfl, rfl, rfl⟩, he K₁ s₁ g₁ _ E fun K₂ y s₂ k₂ g₂ i₂ => ?_⟩
  obtain ⟨ws, e3, e4⟩ := g₂.gi.gl _ hG
  have hlen : ws.length = ls.length := e4.length
  refine wpAny_list_append_plain e3 (fun h' hp hb => ?_) (by simp; omega)
  have hp' : h'.PlainList a (ws ++ [y]).toArray := by simpa using hp
  exact q K₂ _ _ _ (k₁.trans k₂) h ⟨rfl, g₂.turn hG hp' (e4.append (allIs_cons i₂ allIs_nil)) hb s₂.toks⟩

-- x += e
def IBinR (C : Cx B F) (Λ : Loc) (G : Gs) (op : Operator) (a b c : LV) : Prop :=
  ∀ K s x y, Inv C K Λ G s → a.Is K x → b.Is K y → ∀ (Q : Value → Shared → Prop) (E : Value → Shared → Prop),
    (∀ K' v s', Sub K K' → Inv C K' Λ G s' → c.Is K' v → Q v s') → wpAny C.M C.A (inplaceOp op x y) Q E s
theorem ibin_add {a b : Int} : IBinR C Λ G .Add (.i a) (.i b) (.i (a + b)) := fun K s x y g ha hb Q E q => by
  obtain ⟨t, rfl⟩ := is_int ha; obtain ⟨u, rfl⟩ := is_int hb
  exact iadd_int (q K _ _ (Sub.refl K) (g.toks _) (int_is K _ _))
theorem ibin_sub {a b : Int} : IBinR C Λ G .Sub (.i a) (.i b) (.i (a - b)) := fun K s x y g ha hb Q E q => by
  obtain ⟨t, rfl⟩ := is_int ha; obtain ⟨u, rfl⟩ := is_int hb
  exact isub_int (q K _ _ (Sub.refl K) (g.toks _) (int_is K _ _))
theorem ex_aug {i : Nat} {x : Str} {p' pos : Pos} {op : Operator} {e : PySem.Expr} {a b c : LV} (hx : F.names[i]? = some x) (ha : Λ[i]? = some (some a)) (he : Ev C Λ G (eval e C.env) b) (hb : IBinR C Λ G op a b c) (h : O (.nx (Λ.set i (some c)) G)) :
    Ex C Λ G (exec (.AugAssign (.Name x p') op e pos) C.env) O := fun K s g Q E q =>
  wpAny_AugAssign_Name (ev_load hx ha K s g _ E fun K₁ v s₁ k₁ g₁ i₁ => he K₁ s₁ g₁ _ E fun K₂ w s₂ k₂ g₂ i₂ => hb K₂ s₂ v w g₂ (i₁.mono k₂) i₂ _ E fun K₃ r s₃ k₃ g₃ i₃ => store_name hx g₃ i₃ fun s' g' => q K₃ _ s' _ (k₁.trans (k₂.trans k₃)) h ⟨rfl, g'⟩)
end
end Mine
end
section
open PySem PySem.Calls PyProof.Rows PySem.W PySem.Builtin PySem.Builtin.Str
namespace Mine

-- SPLIT and JOIN, by the signs
def spl (sep : List Nat) : List Nat → List (List Nat)
  | [] => [[]]
  | c :: r => if sep.isPrefixOf (c :: r) then [] :: spl sep (r.drop (sep.length - 1)) else match spl sep r with
    | p :: ps => (c :: p) :: ps
    | [] => [[c]]
termination_by l => l.length
decreasing_by
  · simp; omega
  · simp
theorem spl_ne (sep l : List Nat) : ∃ p ps, spl sep l = p :: ps := by
  cases l with
  | nil => exact ⟨[], [], by rw [spl]⟩
  | cons c r =>
    rw [spl]
    split
    · exact ⟨_, _, rfl⟩
    · split
      · exact ⟨_, _, rfl⟩
      · exact ⟨_, _, rfl⟩
theorem spl_hit {sep l : List Nat} (hs : sep ≠ []) (h : sep.isPrefixOf l = true) : spl sep l = [] :: spl sep (l.drop sep.length) := by
  cases l with
  | nil => cases sep with
    | nil => exact absurd rfl hs
    | cons a b => cases h
  | cons c r =>
    rw [spl, if_pos h]
    cases sep with
    | nil => exact absurd rfl hs
    | cons a b => simp
theorem spl_miss {sep : List Nat} {c : Nat} {r p : List Nat} {ps : List (List Nat)} (h : sep.isPrefixOf (c :: r) = false) (e : spl sep r = p :: ps) : spl sep (c :: r) = (c :: p) :: ps := by
  rw [spl, h, e]; rfl
def joinL (sep : List Nat) : List (List Nat) → List Nat
  | [] => []
  | [x] => x
  | x :: y :: r => x ++ sep ++ joinL sep (y :: r)

theorem take_beq_prefix (sep l : List Nat) : (l.take sep.length == sep) = sep.isPrefixOf l := by
  rw [Bool.eq_iff_iff, beq_iff_eq, List.isPrefixOf_iff_prefix, List.prefix_iff_eq_take]
  exact ⟨fun h => h.symm, fun h => h.symm⟩
theorem at_iff (l sep : List Nat) (k : Nat) : StrLaws.At (tx l) (tx sep) (tx l).length k ↔ sep.isPrefixOf (l.drop k) = true ∧ k + sep.length ≤ l.length := by
  unfold StrLaws.At
  rw [StrLaws.subAt_eq, tx_cps, tx_cps, tx_length, tx_length, take_beq_prefix]
  exact ⟨fun h => ⟨h.2, h.1⟩, fun h => ⟨h.2, h.1⟩⟩
theorem prefix_len {sep l : List Nat} (h : sep.isPrefixOf l = true) : sep.length ≤ l.length := by
  rw [List.isPrefixOf_iff_prefix] at h; exact h.length_le
theorem at_iff' (l sep : List Nat) (k : Nat) (hs : sep ≠ []) : StrLaws.At (tx l) (tx sep) (tx l).length k ↔ sep.isPrefixOf (l.drop k) = true := by
  rw [at_iff]
  refine ⟨fun h => h.1, fun h => ⟨h, ?_⟩⟩
  have := prefix_len h
  have h0 : 0 < sep.length := List.length_pos_iff.mpr hs
  rw [List.length_drop] at this
  omega
theorem strSub_tx (l : List Nat) (i j : Nat) : strSub (tx l) i j = tx ((l.drop i).take (j - i)) := by
  apply Str.ext'
  apply Array.toList_inj.mp
  rw [StrLaws.strSub_toList, tx_cps, tx_cps]
/-- up to the first hit -/
theorem spl_upto {sep : List Nat} (hs : sep ≠ []) : ∀ (n : Nat) (l : List Nat), n ≤ l.length → (∀ k, k < n → sep.isPrefixOf (l.drop k) = false) → ∀ p ps, spl sep (l.drop n) = p :: ps → spl sep l = (l.take n ++ p) :: ps
  | 0, l, _, _, p, ps, e => by simpa using e
  | n + 1, [], h, _, _, _, _ => by simp at h
  | n + 1, c :: r, h, hk, p, ps, e => by
    have h0 := hk 0 (by omega)
    have ih := spl_upto hs n r (by simpa using h) (fun k hk' => by have := hk (k + 1) (by omega); simpa using this) p ps (by simpa using e)
    rw [List.drop_zero] at h0
    rw [spl_miss h0 ih]; rfl
theorem parts_spl (l sep : List Nat) (hs : sep ≠ []) : ∀ (cuts : List Nat) (a f : Nat), a ≤ l.length → StrLaws.ChainG (tx l) (tx sep) (tx l).length a cuts f → (∀ k, f ≤ k → ¬ StrLaws.At (tx l) (tx sep) (tx l).length k) →
    StrLaws.partsFrom (tx l) sep.length a cuts = (spl sep (l.drop a)).map tx
  | [], a, f, ha, h, hn => by
    obtain rfl : f = a := h
    have no : ∀ k, k < (l.drop f).length → sep.isPrefixOf ((l.drop f).drop k) = false := fun k _ => by
      have := hn (f + k) (by omega)
      rw [at_iff' _ _ _ hs] at this
      rw [List.drop_drop]
      exact eq_false_of_ne_true this
    have e := spl_upto hs (l.drop f).length (l.drop f) (Nat.le_refl _) no [] [] (by rw [List.drop_length]; rw [spl])
    rw [e]
    show [strSub (tx l) f (tx l).length] = _
    rw [strSub_tx, tx_length]
    simp
  | c :: r, a, f, ha, h, hn => by
    obtain ⟨h1, h2, h3, h4⟩ := h
    have h2' := (at_iff _ _ _).mp h2
    have hc : c + sep.length ≤ l.length := h2'.2
    rw [show c + (tx sep).length = c + sep.length by rw [tx_length]] at h4
    have ih := parts_spl l sep hs r (c + sep.length) f hc h4 hn
    have no : ∀ k, k < c - a → sep.isPrefixOf ((l.drop a).drop k) = false := fun k hk => by
      have := h3 (a + k) (by omega) (by omega)
      rw [at_iff' _ _ _ hs] at this
      rw [List.drop_drop]
      exact eq_false_of_ne_true this
    have hd : (l.drop a).drop (c - a) = l.drop c := by rw [List.drop_drop]; congr 1; omega
    have hit := spl_hit hs h2'.1
    rw [List.drop_drop] at hit
    have e := spl_upto hs (c - a) (l.drop a) (by simp; omega) no [] (spl sep (l.drop (c + sep.length))) (by rw [hd]; exact hit)
    rw [e, List.append_nil]
    show strSub (tx l) a c :: StrLaws.partsFrom (tx l) sep.length (c + sep.length) r = _
    rw [ih, strSub_tx]
    rfl
theorem parts_all (l sep : List Nat) (hs : sep ≠ []) : partsBetween (tx l) (occurrences (tx l) (tx sep) 0 (tx l).length ((tx l).length + 1)) (tx sep).length = (spl sep l).map tx := by
  obtain ⟨f, h1, h2⟩ := StrLaws.occ_tight (tx l) (tx sep) (by rw [tx_length]; exact List.length_pos_iff.mpr hs)
  rw [StrLaws.partsBetween_eq, tx_length sep]
  have := parts_spl l sep hs _ 0 f (Nat.zero_le _) h1 h2
  simpa using this
theorem kind_ascii {l : List Nat} (h : l.all (· < 128) = true) : Builtin.Str.strKind (tx l) = 1 := by
  unfold Builtin.Str.strKind
  rw [if_pos]
  simp only [tx, List.size_toArray, List.all_toArray']
  rw [List.all_eq_true] at h ⊢
  intro x hx
  have := h x hx
  simp only [decide_eq_true_eq] at this ⊢
  omega
theorem kind_pos (x : Str) : 1 ≤ Builtin.Str.strKind x := by unfold Builtin.Str.strKind; split <;> (try split) <;> omega
theorem none_spl (l sep : List Nat) (hs : sep ≠ []) (h : (occurrences (tx l) (tx sep) 0 (tx l).length ((tx l).length + 1)).isEmpty = true) : spl sep l = [l] := by
  have := parts_all l sep hs
  rw [List.isEmpty_iff.mp h] at this
  have e : partsBetween (tx l) [] (tx sep).length = [tx l] := by
    show [strSub (tx l) 0 (tx l).length] = _
    rw [StrLaws.sub_whole]
  rw [e] at this
  cases hq : spl sep l with
  | nil => rw [hq] at this; cases this
  | cons p ps =>
    rw [hq, List.map_cons, List.cons.injEq] at this
    cases ps with
    | nil => rw [tx_inj.mp this.1]
    | cons _ _ => cases this.2
theorem split_tx (l sep : List Nat) (hs : sep ≠ []) (ha : sep.all (· < 128) = true) : Txt.split (tx l) (tx sep) = (spl sep l).map tx := by
  unfold Txt.split
  have hk : decide (Builtin.Str.strKind (tx l) < Builtin.Str.strKind (tx sep)) = false := by rw [kind_ascii ha]; have := kind_pos (tx l); exact decide_eq_false (by omega)
  rw [hk, Bool.or_false]
  split
  · rename_i h
    have h' : l.length < sep.length := by rw [tx_length, tx_length] at h; exact of_decide_eq_true h
    have no : ∀ k, k < l.length → sep.isPrefixOf (l.drop k) = false := fun k _ => by
      cases e : sep.isPrefixOf (l.drop k) with
      | false => rfl
      | true => have := prefix_len e; rw [List.length_drop] at this; omega
    have e := spl_upto hs l.length l (Nat.le_refl _) no [] [] (by rw [List.drop_length]; rw [spl])
    rw [e]; simp
  · split
    · rename_i h
      rw [none_spl l sep hs h]; rfl
    · exact parts_all l sep hs
theorem join_tx (sep : List Nat) : ∀ xs : List (List Nat), Str.join (tx sep) (xs.map tx) = tx (joinL sep xs)
  | [] => rfl
  | [x] => rfl
  | x :: y :: r => by
    show tx x ++ tx sep ++ Str.join (tx sep) (tx y :: r.map tx) = _
    have := join_tx sep (y :: r)
    rw [List.map_cons] at this
    rw [this, tx_append, tx_append]; rfl
theorem joined_tx (sep : List Nat) (xs : List (List Nat)) : Txt.join (tx sep) (xs.map tx) = tx (joinL sep xs) := by
  unfold Txt.join
  rw [StrLaws.glued_eq_join, join_tx]
theorem replace_tx (l y z : List Nat) (hy : y ≠ []) : Txt.replace (tx l) (tx y) (tx z) = tx (joinL z (spl y l)) := by
  unfold Txt.replace
  split
  · rename_i h
    rw [Bool.or_eq_true] at h
    rcases h with h | h
    · rw [none_spl l y hy h]; rfl
    · rw [Bool.and_eq_true, beq_iff_eq, tx_length] at h
      exact absurd (List.length_eq_zero_iff.mp h.1) hy
  · rw [parts_all l y hy, StrLaws.glued_eq_join, join_tx]
/-- the parts make no more signs than the whole -/
theorem spl_mem {sep : List Nat} : ∀ (l : List Nat) (p : List Nat), p ∈ spl sep l → ∀ c ∈ p, c ∈ l
  | [], p, hp, c, hc => by
    rw [spl] at hp
    obtain rfl := List.mem_singleton.mp hp
    exact hc
  | a :: r, p, hp, c, hc => by
    rw [spl] at hp
    split at hp
    · rcases List.mem_cons.mp hp with rfl | hp
      · cases hc
      · exact .tail _ (List.mem_of_mem_drop (spl_mem (r.drop (sep.length - 1)) p hp c hc))
    · split at hp
      · rename_i q ps e
        rcases List.mem_cons.mp hp with rfl | hp
        · rcases List.mem_cons.mp hc with rfl | hc
          · exact .head _
          · exact .tail _ (spl_mem r q (by rw [e]; exact .head _) c hc)
        · exact .tail _ (spl_mem r p (by rw [e]; exact .tail _ hp) c hc)
      · rename_i e
        obtain ⟨_, _, e'⟩ := spl_ne sep r
        rw [e'] at e; cases e
termination_by l => l.length
decreasing_by
  all_goals simp
  all_goals omega
theorem spl_len {sep : List Nat} : ∀ (l : List Nat), (spl sep l).length ≤ l.length + 1 ∧ ((spl sep l).map List.length).sum ≤ l.length
  | [] => by rw [spl]; simp
  | a :: r => by
    rw [spl]
    split
    · have ih := spl_len (sep := sep) (r.drop (sep.length - 1))
      rw [List.length_drop] at ih
      simp only [List.length_cons, List.map_cons, List.sum_cons, List.length_nil]
      omega
    · have ih := spl_len (sep := sep) r
      split
      · rename_i q ps e
        rw [e] at ih
        simp only [List.length_cons, List.map_cons, List.sum_cons] at ih ⊢
        omega
      · simp
termination_by l => l.length
decreasing_by
  all_goals simp
  all_goals omega
theorem joinL_len (sep : List Nat) : ∀ xs : List (List Nat), (joinL sep xs).length ≤ (xs.map List.length).sum + xs.length * sep.length
  | [] => by simp [joinL]
  | [x] => by simp [joinL]
  | x :: y :: r => by
    have ih := joinL_len sep (y :: r)
    simp only [joinL, List.length_append, List.map_cons, List.sum_cons, List.length_cons, Nat.add_mul, Nat.one_mul] at ih ⊢
    omega

section
variable {B : Bs} {F : Fd} {C : Cx B F} {Λ : Loc} {G : Gs} {O : Out → Prop}

-- METHODS OF TEXTS
theorem ev_lower {o : PySem.Expr} {apos pos : Pos} {l m : List Nat} (ho : Ev C Λ G (eval o C.env) (.t l)) (hl : Txt.lower (tx l) = tx m) (hn : m.length ≤ sizeLine)
    (hbase : attributeBase o "lower" C.env (eval o C.env) = eval o C.env := by rfl) (hline : (apos.endLine == pos.line) = true := by rfl) : Ev C Λ G (eval (.Call (.Attribute o "lower" apos) [] [] pos) C.env) (.t m) := fun K s g Q E q =>
  Call_method0 hbase hline (ho K s g _ E fun K' v s' k' g' i => by
    obtain ⟨t, rfl⟩ := is_str i
    refine SB.lower ?_ ?_
    · rw [hl, tx_length]
      unfold tooLong
      simpa using hn
    · rw [hl]; exact q K' _ _ k' (g'.toks _) (str_is K' _ _))
theorem ev_find {o e : PySem.Expr} {apos pos : Pos} {l m : List Nat} {r : Int} (ho : Ev C Λ G (eval o C.env) (.t l)) (he : Ev C Λ G (eval e C.env) (.t m)) (hr : Txt.find (tx l) (tx m) = r)
    (hs : isStarred e = false := by rfl) (hbase : attributeBase o "find" C.env (eval o C.env) = eval o C.env := by rfl) (hline : (apos.endLine == pos.line) = true := by rfl) : Ev C Λ G (eval (.Call (.Attribute o "find" apos) [e] [] pos) C.env) (.i r) := fun K s g Q E q =>
  Call_method1 hbase (starEach_cons hs [] C.env) hline (ho K s g _ E fun K₁ v s₁ k₁ g₁ i₁ => by
    obtain ⟨t, rfl⟩ := is_str i₁
    refine SB.find (he K₁ s₁ g₁ _ E fun K₂ w s₂ k₂ g₂ i₂ => ?_)
    obtain ⟨u, rfl⟩ := is_str i₂
    exact ⟨_, _, rfl, by rw [hr]; exact q K₂ _ _ (k₁.trans k₂) (g₂.toks _) (int_is K₂ _ _)⟩)
theorem ev_split {o e : PySem.Expr} {apos pos : Pos} {l sep : List Nat} (ho : Ev C Λ G (eval o C.env) (.t l)) (he : Ev C Λ G (eval e C.env) (.t sep)) (hsep : sep ≠ []) (ha : sep.all (· < 128) = true) (hn : l.length < sizeLine)
    (hs : isStarred e = false := by rfl) (hbase : attributeBase o "split" C.env (eval o C.env) = eval o C.env := by rfl) (hline : (apos.endLine == pos.line) = true := by rfl) :
    Ev C Λ G (eval (.Call (.Attribute o "split" apos) [e] [] pos) C.env) (.d (.list ((spl sep l).map fun x => .str (tx x)))) := fun K s g Q E q =>
  Call_method1 hbase (starEach_cons hs [] C.env) hline (ho K s g _ E fun K₁ v s₁ k₁ g₁ i₁ => by
    obtain ⟨t, rfl⟩ := is_str i₁
    have hx : (tx l).length ≤ sizeLine := by rw [tx_length]; omega
    have fin : ∀ (vs : List Value) (K₂ : Heap) (s₂ : Shared) (n : Nat), Sub K₁ K₂ → Inv C K₂ Λ G s₂ → (∃ q : List (Str × Tok), vs = strValues q ∧ q.map (·.1) = Txt.split (tx l) (tx sep)) →
        Q (.ref s₂.heap.objs.size) { s₂ with heap := s₂.heap.push { cls := .type "list", data := .seq vs.toArray }, toks := n } := fun vs K₂ s₂ n k₂ g₂ ⟨qs, e1, e2⟩ => by
      obtain ⟨K₃, k₃, e₃, g₃⟩ := g₂.alloc { cls := .type "list", data := .seq vs.toArray } rfl
      refine q K₃ _ _ (k₁.trans (k₂.trans k₃)) (g₃.toks n) (list_is (vs := vs) ⟨_, e₃, rfl, _, rfl⟩ ?_)
      rw [split_tx l sep hsep ha] at e2
      rw [e1]
      have := strs_is (K := K₃) qs e2
      rw [List.map_map]; exact this
    have hy : ((tx sep).length == 0) = false := by
      rw [tx_length]
      cases sep with
      | nil => exact absurd rfl hsep
      | cons _ _ => rfl
    refine ⟨"str", _, _root_.PySem.F.plainAttrs_str, _root_.PySem.F.slot_str_split, _root_.PySem.F.type_str_split, typeIs_str _ _ _, (fun _ e => nomatch e), method1_meets _root_.PySem.F.slot_str_split _root_.PySem.F.entry_str_split (he K₁ s₁ g₁ _ E fun K₂ w s₂ k₂ g₂ i₂ => ?_)⟩
    obtain ⟨u, rfl⟩ := is_str i₂
    refine ⟨typeIs_str _ _ _, _root_.PySem.F.args_str_split_2 _ _, ?_⟩
    have hcount : (partsBetween (tx l) (occurrences (tx l) (tx sep) 0 (tx l).length ((tx l).length + 1)) (tx sep).length).length ≤ sizeLine := by
      rw [parts_all l sep hsep, List.length_map]
      have := (spl_len (sep := sep) l).1
      omega
    cases h1 : (decide ((tx l).length < (tx sep).length) || decide (Builtin.Str.strKind (tx l) < Builtin.Str.strKind (tx sep)))
    · cases hf : (occurrences (tx l) (tx sep) 0 (tx l).length ((tx l).length + 1)).isEmpty
      · refine ⟨_, meets_str_split_sep (tx l) (tx sep) t u h1 hy hf hx hcount, ?_⟩
        show wants Q E _ { s₂ with toks := _, heap := s₂.heap.push { cls := .type "list", data := .seq (strsFrom s₂.toks (partsBetween (tx l) (occurrences (tx l) (tx sep) 0 (tx l).length ((tx l).length + 1)) (tx sep).length)).toArray } }
        refine fin _ K₂ s₂ _ k₂ g₂ ⟨numbered s₂.toks (partsBetween (tx l) (occurrences (tx l) (tx sep) 0 (tx l).length ((tx l).length + 1)) (tx sep).length), strsFrom_eq _ _, ?_⟩
        exact (numbered_texts _ _).trans ((if_neg (ne_true_of_eq_false h1)).trans (if_neg (ne_true_of_eq_false hf))).symm
      · exact ⟨_, meets_str_split_not_found (tx l) (tx sep) t u h1 hy hf, fin _ K₂ s₂ _ k₂ g₂ ⟨[(tx l, t)], rfl, ((if_neg (ne_true_of_eq_false h1)).trans (if_pos hf)).symm⟩⟩
    · exact ⟨_, meets_str_split_cannot_occur (tx l) (tx sep) t u h1, fin _ K₂ s₂ _ k₂ g₂ ⟨[(tx l, t)], rfl, (if_pos h1).symm⟩⟩)

theorem join_fits {sep : List Nat} {xs : List (List Nat)} (h : (xs.map List.length).sum + xs.length * sep.length ≤ sizeLine) : JoinOk (tx sep) (xs.map tx) = true := by
  unfold JoinOk
  rw [Bool.not_eq_true', StrLaws.joinTotal]
  have e : ((xs.map tx).map fun x => x.length) = xs.map List.length := by
    rw [List.map_map]; exact List.map_congr_left fun x _ => tx_length x
  have e' : ((xs.map tx).map (·.length)).sum = (xs.map List.length).sum := congrArg List.sum e
  rw [e', List.length_map, tx_length]
  unfold tooLong
  exact decide_eq_false (by omega)
/-- a join of a list that turns no more -/
theorem ev_join {o e : PySem.Expr} {apos pos : Pos} {sep : List Nat} {xs : List (List Nat)} (ho : Ev C Λ G (eval o C.env) (.t sep)) (he : Ev C Λ G (eval e C.env) (.d (.list (xs.map fun x => .str (tx x))))) (hn : (xs.map List.length).sum + xs.length * sep.length ≤ sizeLine)
    (hs : isStarred e = false := by rfl) (hbase : attributeBase o "join" C.env (eval o C.env) = eval o C.env := by rfl) (hline : (apos.endLine == pos.line) = true := by rfl) :
    Ev C Λ G (eval (.Call (.Attribute o "join" apos) [e] [] pos) C.env) (.t (joinL sep xs)) := fun K s g Q E q =>
  Call_method1 hbase (starEach_cons hs [] C.env) hline (ho K s g _ E fun K₁ v s₁ k₁ g₁ i₁ => by
    obtain ⟨t, rfl⟩ := is_str i₁
    refine SB.join (he K₁ s₁ g₁ _ E fun K₂ w s₂ k₂ g₂ i₂ => ?_)
    obtain ⟨a, vs, rfl, h1, h2⟩ := is_list i₂
    rw [List.map_map] at h2
    obtain ⟨l, rfl, e2⟩ := is_strs (xs := xs) h2
    refine ⟨a, l, rfl, isList_sub g₂.gi.sub h1, _, e2, join_fits hn, fun t' k => ?_⟩
    rw [joined_tx]
    exact q K₂ _ _ (k₁.trans k₂) (g₂.toks _) (str_is K₂ _ _))
theorem ev_joinO {o e : PySem.Expr} {apos pos : Pos} {sep : List Nat} {xs : List (List Nat)} {a : Addr} (hG : (a, xs.map fun x => LV.t x) ∈ G) (ho : Ev C Λ G (eval o C.env) (.t sep)) (he : Ev C Λ G (eval e C.env) (.r a)) (hn : (xs.map List.length).sum + xs.length * sep.length ≤ sizeLine)
    (hs : isStarred e = false := by rfl) (hbase : attributeBase o "join" C.env (eval o C.env) = eval o C.env := by rfl) (hline : (apos.endLine == pos.line) = true := by rfl) :
    Ev C Λ G (eval (.Call (.Attribute o "join" apos) [e] [] pos) C.env) (.t (joinL sep xs)) := fun K s g Q E q =>
  Call_method1 hbase (starEach_cons hs [] C.env) hline (ho K s g _ E fun K₁ v s₁ k₁ g₁ i₁ => by
    obtain ⟨t, rfl⟩ := is_str i₁
    refine SB.join (he K₁ s₁ g₁ _ E fun K₂ w s₂ k₂ g₂ i₂ => ?_)
    obtain rfl := is_r i₂
    obtain ⟨vs, h1, h2⟩ := g₂.gi.gl _ hG
    obtain ⟨l, rfl, e2⟩ := is_strs (xs := xs) h2
    refine ⟨a, l, rfl, h1.isList, _, e2, join_fits hn, fun t' k => ?_⟩
    rw [joined_tx]
    exact q K₂ _ _ (k₁.trans k₂) (g₂.toks _) (str_is K₂ _ _))
end
end Mine
end
section
open PySem PySem.Calls PyProof.Rows PySem.W PySem.Builtin PySem.Builtin.Str
namespace Mine
open NumText

/-- the worth of a figure, 99 for another sign -/
def dv (c : Nat) : Nat := if 48 ≤ c ∧ c ≤ 57 then c - 48 else if 97 ≤ c ∧ c ≤ 102 then c - 87 else if 65 ≤ c ∧ c ≤ 70 then c - 55 else 99
/-- figures of one base -/
def figs (base : Nat) (l : List Nat) : Bool := l.all fun c => dv c < base
def worthOf (base : Nat) (l : List Nat) : Nat := l.foldl (fun acc c => acc * base + dv c) 0

theorem dv_cases {base c : Nat} (hb : base ≤ 16) (h : dv c < base) : (48 ≤ c ∧ c ≤ 57) ∨ (97 ≤ c ∧ c ≤ 102) ∨ (65 ≤ c ∧ c ≤ 70) := by
  unfold dv at h
  split at h
  · exact .inl (by assumption)
  · split at h
    · exact .inr (.inl (by assumption))
    · split at h
      · exact .inr (.inr (by assumption))
      · omega
theorem digit_dv {base c : Nat} (hb : base ≤ 16) (h : dv c < base) : digit? c = some (dv c) := by
  unfold digit? dv
  rcases dv_cases hb h with q | q | q
  · rw [if_pos (by simp; omega), if_pos q]
  · rw [if_neg (by simp; omega), if_pos (by simp; omega), if_neg (by omega), if_pos q]
  · rw [if_neg (by simp; omega), if_neg (by simp; omega), if_pos (by simp; omega), if_neg (by omega), if_neg (by omega), if_pos q]
theorem step_dv {base c : Nat} {ds : Array Nat} {b : Bool} (hb : base ≤ 16) (h : dv c < base)  : NumText.step base (ds, b) c = some (ds.push (dv c), true) := by
  unfold NumText.step
  have : (c == 95) = false := by rcases dv_cases hb h with q | q | q <;> (rw [beq_eq_false_iff_ne]; omega)
  rw [this, digit_dv hb h]
  simp [h]
theorem fold_dv {base : Nat} (hb : base ≤ 16) : ∀ (l : List Nat) (ds : Array Nat) (b : Bool), figs base l = true → l ≠ [] → l.foldlM (NumText.step base) (ds, b) = some (l.foldl (fun acc c => acc.push (dv c)) ds, true)
  | [], _, _, _, h => absurd rfl h
  | [c], ds, b, h, _ => by
    have hc : dv c < base := by simpa [figs] using h
    rw [List.foldlM_cons, step_dv hb hc]; rfl
  | c :: d :: r, ds, b, h, _ => by
    have hc : dv c < base := by have := (List.all_eq_true.mp h) c (.head _); simpa using this
    rw [List.foldlM_cons, step_dv hb hc]
    exact fold_dv hb (d :: r) _ _ (List.all_eq_true.mpr fun x hx => (List.all_eq_true.mp h) x (.tail _ hx)) (by simp)
theorem push_fold (base : Nat) : ∀ (l : List Nat) (ds : Array Nat), (l.foldl (fun acc c => acc.push (dv c)) ds).foldl (fun acc d => acc * base + d) 0 = l.foldl (fun acc c => acc * base + dv c) (ds.foldl (fun acc d => acc * base + d) 0)
  | [], _ => rfl
  | c :: r, ds => by rw [List.foldl_cons, push_fold base r]; simp
theorem blank_dv {base c : Nat} (hb : base ≤ 16) (h : dv c < base) : blank c = false := by
  unfold blank
  rcases dv_cases hb h with q | q | q <;> (simp; omega)
theorem drop_blank {base : Nat} (hb : base ≤ 16) {l : List Nat} (h : figs base l = true) : l.dropWhile blank = l := by
  cases l with
  | nil => rfl
  | cons c r =>
    have hc : dv c < base := by have := (List.all_eq_true.mp h) c (.head _); simpa using this
    rw [List.dropWhile_cons, blank_dv hb hc]; rfl
theorem read_figs {base : Nat} {l : List Nat} (hb : base = 16 ∨ base = 8) (h : figs base l = true) (hne : l ≠ []) : (int_private% "readNumeral") 0 base l = (int_private% "Numeral.value") ((worthOf base l : Nat) : Int) := by
  have hb16 : base ≤ 16 := by omega
  have all : ∀ c ∈ l, dv c < base := fun c hc => by have := (List.all_eq_true.mp h) c hc; simpa using this
  have hsign : sign l = (false, l) := by
    cases l with
    | nil => rfl
    | cons c r =>
      have hc := dv_cases hb16 (all c (.head _))
      unfold sign
      split
      · rename_i e; injection e; omega
      · rename_i e; injection e; omega
      · rfl
  have hbased : based base l = (base, false, l) := by
    unfold based
    split
    · rename_i p hp
      have : (base == 0 || base == p) = false := by
        rw [Bool.or_eq_false_iff, beq_eq_false_iff_ne, beq_eq_false_iff_ne]
        refine ⟨by omega, fun e => ?_⟩
        subst e
        unfold prefix? at hp
        split at hp
        · rename_i c r
          have hc := dv_cases hb16 (all c (.tail _ (.head _)))
          have hd := all c (.tail _ (.head _))
          split at hp
          · rename_i hx; simp at hx; omega
          · split at hp
            · rename_i hx; simp at hx; omega
            · split at hp
              · cases hp; omega
              · cases hp
        · cases hp
      rw [this]; rfl
    · have : (base == 0) = false := beq_eq_false_iff_ne.mpr (by omega)
      rw [this]; rfl
  have hrev : (l.reverse.dropWhile blank).reverse = l := by
    rw [drop_blank hb16 (l := l.reverse) (List.all_eq_true.mpr fun c hc => by have := all c (List.mem_reverse.mp hc); simpa using this), List.reverse_reverse]
  rw [readNumeral_eq, drop_blank hb16 h, hsign]
  simp only [hbased, hrev]
  unfold digits?
  rw [fold_dv hb16 l _ _ h hne]
  show judge 0 false base false (some (l.foldl (fun acc c => acc.push (dv c)) #[])) = _
  have e1 : (![2, 4, 8, 16, 32].contains base && (0 : Nat) != 0 && decide ((l.foldl (fun acc c => acc.push (dv c)) (#[] : Array Nat)).size > 0)) = false := by simp
  have e2 : (base == 10 && decide ((l.foldl (fun acc c => acc.push (dv c)) (#[] : Array Nat)).size > 6000)) = false := by
    rw [show (base == 10) = false from beq_eq_false_iff_ne.mpr (by omega)]; rfl
  unfold judge
  refine (if_neg (by rw [e1]; exact Bool.false_ne_true)).trans ((if_neg (by rw [e2]; exact Bool.false_ne_true)).trans ?_)
  rw [push_fold]
  rfl

theorem wp_textB {M : Model} {A : Around} {E : Value → Shared → Prop} {s : Shared} {Q : Value → Shared → Prop} {v : Value} {text : List Nat} {base : Nat} {n : Int}
    (hs : (text.takeWhile (· != 0)).length ≤ 640) (hr : (int_private% "readNumeral") 0 base (text.takeWhile (· != 0)) = (int_private% "Numeral.value") n)
    (ha : ((text.takeWhile (· != 0)).length == text.length) = true) (h : Q (.int n s.toks) { s with toks := s.toks + 1 }) :
    wpAny M A ((int_private% "intFromText") v text base) Q E s := by
  obtain ⟨hp, g, d, tk, os⟩ := s
  repeat (any_goals (first
    | assumption
    | (with_reducible refine wpAny_ite_true (decide_eq_true hs) ?_)
    | (with_reducible refine wpAny_ite_true (decide_eq_true ha) ?_)
    | wp_step))
  all_goals (try rw [hr])
  all_goals (try dsimp only)
  repeat (any_goals (first
    | assumption
    | (with_reducible refine wpAny_ite_true (decide_eq_true hs) ?_)
    | (with_reducible refine wpAny_ite_true (decide_eq_true ha) ?_)
    | wp_step))
structure Hid (p : Prop) : Prop where
  out : p
theorem typeCall_int_2 (a b : Value) : checkTypeCall "int" ⟨[a, b], []⟩ = pure () := by kernel_rfl
theorem newCall_int_2 (a b : Value) : checkBuiltinCall "int.__new__" ⟨[.type "int", a, b], []⟩ = pure () := by kernel_rfl

set_option maxHeartbeats 4000000 in
theorem gives_textB {x : PySem.Str} {u t : Tok} {base : Int} {n : Int} (hb : base = 16 ∨ base = 8) (hs : (numSeenOf x).length ≤ 640) (hr : (int_private% "readNumeral") 0 base.toNat (numSeenOf x) = (int_private% "Numeral.value") n) (ha : ((numSeenOf x).length == (numTextOf x).length) = true) :
    Gives (Builtin.«int.__new__» ⟨[.type "int", .str x u, .int base t], []⟩) (.int n) :=
  .of_wp fun M A E s Q h => by
    obtain ⟨hp, g, d, tk, os⟩ := s
    have f1 := _root_.PySem.F.conv_sub_int
    have f2 := _root_.PySem.F.madeHere_int
    have f3 := KIN.str_int
    have f4 := KIN.str_idx
    have f5 := KIN.str_trunc
    have f6 : typeOf (.str x u) = pure (.type "str") := rfl
    have hbb : ((base != 0 && decide (base < 2)) || decide (base > 36)) = false := by rcases hb with rfl | rfl <;> rfl
    have hk := Hid.mk (And.intro hs (And.intro hr ha))
    clear hs hr ha
    rcases hb with rfl | rfl
    all_goals
      repeat (any_goals (first
        | assumption
        | ((with_reducible show wpAny _ _ ((int_private% "intFromText") _ _ _) _ _ _); refine wp_textB hk.out.1 hk.out.2.1 hk.out.2.2 ?_)
        | wp_step))
      all_goals first | exact ⟨_, rfl, h⟩ | skip

theorem figs_ascii {base : Nat} {l : List Nat} (hb : base ≤ 16) (h : figs base l = true) : ∀ c ∈ l, 48 ≤ c ∧ c < 128 := fun c hc => by
  have := (List.all_eq_true.mp h) c hc
  rcases dv_cases hb (by simpa using this) with q | q | q <;> omega

section
variable {B : Bs} {F : Fd} {C : Cx B F} {Λ : Loc} {G : Gs} {O : Out → Prop}
/-- int(text, base) of figures -/
theorem call_intT {l : List Nat} {base : Nat} (hb : base = 16 ∨ base = 8) (h : figs base l = true) (hne : l ≠ []) (hn : l.length ≤ 640) : CallB C Λ G (.type "int") [.t l, .i base] (.i ((worthOf base l : Nat) : Int)) := fun K s vs g hv Q E q => by
  obtain ⟨v, w, rfl, h1, h2⟩ := allIs_two hv
  obtain ⟨u, rfl⟩ := is_str h1
  obtain ⟨t, rfl⟩ := is_int h2
  have hasc := figs_ascii (by omega) h
  have htext : numTextOf (tx l) = l := by
    show (if (tx l).cps.all (· < 128) then (tx l).cps.toList else _) = l
    rw [if_pos, tx_cps]
    simp only [tx, List.size_toArray, List.all_toArray']
    exact List.all_eq_true.mpr fun c hc => by have := hasc c hc; simp; omega
  have hseen : numSeenOf (tx l) = l := by
    show (numTextOf (tx l)).takeWhile (· != 0) = l
    rw [htext]
    exact NumText.takeWhile_all fun c hc => by have := hasc c hc; simp; omega
  have hgv : Gives (Builtin.«int.__new__» ⟨[.type "int", .str (tx l) u, .int (base : Int) t], []⟩) (.int ((worthOf base l : Nat) : Int)) := by
    refine gives_textB (by omega) (by rw [hseen]; exact hn) ?_ (by rw [hseen, htext]; simp)
    rw [hseen]
    exact read_figs hb h hne
  exact callType_new _root_.PySem.F.called_int _root_.PySem.F.newNe_int (typeCall_int_2 _ _) (newCall_int_2 _ _) (fun obj => _root_.PySem.F.initArgs_range_2 obj _ _) _root_.PySem.F.entry_int_new hgv.meets (show (Made.int ((worthOf base l : Nat) : Int)).post _ s from ⟨rfl, q K _ _ (Sub.refl K) (g.toks _) (int_is K _ _)⟩)
end
end Mine
end
section
open PySem PySem.Calls PyProof.Rows PySem.W PySem.Builtin PySem.Builtin.Str
namespace Mine

section
variable {prog : Program} {w : World} {A : Around} {E : Value → Shared → Prop} {R : Result → Shared → Prop} {s : Shared}
theorem comp_loop {elt target iter : PySem.Expr} {ifs : List PySem.Expr} {scope : Scope} {pos : Pos} {it acc : Value} {env : Env} (I : Nat → Shared → Prop)
    (turn : ∀ n s, I n s → wpAny (model prog w) A (pyNext it) (fun r s₁ => match r with
      | none => R (.ok .next) s₁
      | some v => wpAny (model prog w) A (letOwnedTupleGo target it v) (fun _ s₁' => wpAny (model prog w) A (assign target env v) (fun _ s₂ =>
          wpAny (model prog w) A (forIn ifs true fun c r => if r = true then do let ok ← isTrue c env (eval c env); pure (ForInStep.yield ok) else pure (ForInStep.yield r)) (fun ok s₃ =>
            if ok = true then wpAny (model prog w) A (eval elt env) (fun x s₄ =>
              wpAny (model prog w) A (call (.builtin "list.append") [acc, x]) (fun _ s₅ => ∃ m, m < n ∧ I m s₅) (notedBy (model prog w) A env fun e s' => R (.error e) s') s₄) (notedBy (model prog w) A env fun e s' => R (.error e) s') s₃
            else ∃ m, m < n ∧ I m s₃) (notedBy (model prog w) A env fun e s' => R (.error e) s') s₂) (notedBy (model prog w) A env fun e s' => R (.error e) s') s₁') (notedBy (model prog w) A env fun e s' => R (.error e) s') s₁) (notedBy (model prog w) A env fun e s' => R (.error e) s') s)
    (n : Nat) (h : I n s) :
    codeAny (model prog w) A (.compLoop (.ListComp elt [⟨target, iter, ifs, 0⟩] scope pos) 0 it acc env) R s := by
  refine codeAny_loop rfl I (fun n s hI => ?_) n h
  show wpAny _ A ((compTurn (.ListComp elt [⟨target, iter, ifs, 0⟩] scope pos) 0 it acc env).onRaise (fun x => do noteFrame x env; theTreesLotGoes x)) _ _ s
  refine wpAny_noted ?_
  rw [compTurn_list]
  refine wpAny_bind (wpAny_standAt (wpAny_bind (wpAny_mono (turn n s hI) (fun r s₁ h₁ => ?_) fun _ _ h' => h')))
  cases r with
  | none => exact wpAny_pure h₁
  | some v =>
    refine wpAny_bind (wpAny_mono h₁ (fun _ s₁' h₁' => ?_) fun _ _ h' => h')
    refine wpAny_bind (wpAny_mono h₁' (fun _ s₂ h₂ => wpAny_bind (wpAny_mono h₂ (fun ok s₃ h₃ => ?_) fun _ _ h' => h')) fun _ _ h' => h')
    cases ok with
    | false => exact wpAny_pure ⟨rfl, h₃⟩
    | true =>
      exact wpAny_bind (wpAny_bind (wpAny_mono h₃ (fun x s₄ h₄ => wpAny_bind (wpAny_mono h₄ (fun _ s₅ h₅ => wpAny_pure (wpAny_pure ⟨rfl, h₅⟩)) fun _ _ h' => h')) fun _ _ h' => h'))
end

theorem ltN {a b : Addr} (h : a < b) : @LT.lt Nat _ a b := h
theorem leN {a b : Addr} (h : a ≤ b) : @LE.le Nat _ a b := h
theorem neN {a b : Addr} (h : @Ne Nat a b) : a ≠ b := h
theorem ofLt {a b : Addr} (h : @LT.lt Nat _ a b) : a < b := h
theorem ofLe {a b : Addr} (h : @LE.le Nat _ a b) : a ≤ b := h
/-- what gives one thing after another to a target -/
structure Wk (B : Bs) (A : Around) (target : PySem.Expr) (I : Addr) (fp wr : List Addr) (n : Nat) (P : Nat → Heap → Heap → Value → Prop) (St : Nat → Heap → Prop) : Prop where
  sub : ∀ b ∈ wr, b ∈ fp
  frame : ∀ i h h', St i h → (∀ b ∈ fp, ∀ o, h.get? b = some o → h'.get? b = some o) → St i h'
  here : ∀ i h, St i h → ∀ b ∈ wr, ∃ o, h.get? b = some o
  item : ∀ i (s : Shared) (Q : Value → Shared → Prop) (E : Value → Shared → Prop), i < n → St i s.heap →
    (∀ v h' tk, P i s.heap h' v → St (i + 1) h' → (∀ b o, b ∉ wr → s.heap.get? b = some o → h'.get? b = some o) → Q v { s with heap := h', toks := tk }) →
    wpAny (model B.prog B.w) A (pyNext (.ref I)) (fun r s₁ => ∃ v, r = some v ∧ wpAny (model B.prog B.w) A (letOwnedTupleGo target (.ref I) v) (fun _ s₂ => Q v s₂) E s₁) E s
  done : ∀ (s : Shared) (Q : Option Value → Shared → Prop) (E : Value → Shared → Prop), St n s.heap →
    (∀ h' tk, (∀ b o, b ∉ wr → s.heap.get? b = some o → h'.get? b = some o) → Q none { s with heap := h', toks := tk }) → wpAny (model B.prog B.w) A (pyNext (.ref I)) Q E s
  self : ∀ i (s : Shared) (Q : Value → Shared → Prop) (E : Value → Shared → Prop), St i s.heap → Q (.ref I) s → wpAny (model B.prog B.w) A (pyIter (.ref I)) Q E s

theorem Wk.of {B : Bs} {A : Around} {x : Str} {p : Pos} {I : Addr} {fp wr : List Addr} {n : Nat} {P : Nat → Value → Prop} {St : Nat → Heap → Prop} (W : Walks B.prog B.w A I fp wr n P St) (here : ∀ i h, St i h → ∀ b ∈ wr, ∃ o, h.get? b = some o) :
    Wk B A (.Name x p) I fp wr n (fun i _ _ v => P i v) St where
  sub := W.sub
  frame := W.frame
  here := here
  item := fun i s Q E hi st q => W.item i s _ E hi st fun v h' tk a b c => ⟨v, rfl, wpAny_pure (q v h' tk a b c)⟩
  done := W.done
  self := W.self

section
variable {B : Bs} {F F' : Fd} {C : Cx B F} {Λ : Loc} {G : Gs} {O : Out → Prop}

def Fd.comp (F : Fd) (scope : Scope) (env : Env) (xs : List Str) (hk : scope.kind = .function) (hn : ∀ x ∈ xs, scope.names.lookup x = some .local) (hnd : xs.Nodup) (hdb : ∀ x ∈ xs, (x == ("__debug__" : Str)) = false) : Fd :=
  { name := F.name, scope := relabel scope env, names := xs, hk := hk, hn := fun x hx => lookup_relabel_local (hn x hx), hnd := hnd, hdb := hdb }
/-- the run of a comprehension within a run -/
def Cx.inner (C : Cx B F) (F' : Fd) (L' : Addr) (cl : List (Str × Addr)) (held : List (Addr × Obj)) : Cx B F' :=
  { A := C.A, L := L', fa := none, fr := C.fr, cells := cl, cd := C.cd, entry := C.entry, K₀ := C.K₀, gin := C.gin, held := held, hh := C.hh, hu := C.hu }
def Apart (C : Cx B F) (K : Heap) (G : Gs) (s : Shared) (p : Addr × Obj) : Prop := s.heap.get? p.1 = some p.2 ∧ K.get? p.1 = none ∧ p.1 ≠ C.L ∧ (∀ g ∈ G, g.1 ≠ p.1) ∧ C.entry.objs.size ≤ p.1

/-- objects apart turn -/
theorem Inv.shift {K : Heap} {s : Shared} (g : Inv C K Λ G s) {wr : List Addr} (hw : ∀ b ∈ wr, K.get? b = none ∧ b ≠ C.L ∧ (∀ x ∈ G, x.1 ≠ b) ∧ C.entry.objs.size ≤ b ∧ ∀ p ∈ C.held, p.1 ≠ b) {h' : Heap}
    (hk : ∀ b o, b ∉ wr → s.heap.get? b = some o → h'.get? b = some o) (n : Nat) : Inv C K Λ G { s with heap := h', toks := n } := by
  refine ⟨⟨fun b o e => hk b o (fun z => ?_) (g.gi.sub b o e), g.gi.base, fun x hx => GIs.heap (fun o e => hk _ o (fun z => (hw _ z).2.2.1 x hx rfl) e) (g.gi.gl x hx), g.gi.out, g.gi.nd, g.gi.gens, g.gi.os⟩, ?_, g.len, g.outL, g.lowL, g.new, fun b o e n => ?_, g.gap, fun p hp => ⟨hk _ _ (fun z => (hw _ z).2.2.2.2 p hp rfl) (g.hld p hp).1, (g.hld p hp).2⟩⟩
  · have := (hw b z).1; rw [e] at this; cases this
  · obtain ⟨m, ⟨oL, es, ep, eL, r⟩, hm⟩ := g.loc
    exact ⟨m, ⟨oL, es, ep, hk _ _ (fun z => (hw _ z).2.1 rfl) eL, r⟩, hm⟩
  · exact hk b o (fun z => absurd (Heap.lt_size e) (Nat.not_lt.mpr (hw b z).2.2.2.1)) (g.old b o e n)

/-- from the run into the comprehension -/
theorem Inv.into {K : Heap} {s : Shared} (g : Inv C K Λ G s) {L' : Addr} {cl : List (Str × Addr)} {held : List (Addr × Obj)} {Λ' : Loc} {m' : Str → Option Value} (hL : K.get? L' = none) (hlow : C.entry.objs.size ≤ L') (hG : ∀ x ∈ G, x.1 ≠ L')
    (hm : s.heap.Ns L' m') (hl : ∀ (i : Nat) (l : LV), Λ'[i]? = some (some l) → ∃ x v, F'.names[i]? = some x ∧ m' x = some v ∧ l.Is K v) (hlen : Λ'.length = F'.names.length)
    (hh : ∀ p ∈ held, Apart C K G s p ∧ p.1 ≠ L' ∨ (p.1 = C.L ∧ p.1 ≠ L' ∧ s.heap.get? p.1 = some p.2)) : Inv (C.inner F' L' cl held) K Λ' G s :=
  ⟨g.gi, ⟨m', hm, hl⟩, hlen, hL, hlow, g.new, g.old, fun x hx => ⟨hG x hx, (g.gap x hx).2⟩, fun p hp => by
    rcases hh p hp with ⟨⟨h1, h2, h3, h4, h5⟩, h6⟩ | ⟨h1, h2, h3⟩
    · exact ⟨h1, h2, h6, h4, h5⟩
    · exact ⟨h3, h1 ▸ g.outL, h2, fun x hx => h1 ▸ (g.gap x hx).1, h1 ▸ g.lowL⟩⟩
/-- and back -/
theorem Inv.outof {K : Heap} {s : Shared} {Λ' : Loc} {L' : Addr} {cl : List (Str × Addr)} {held : List (Addr × Obj)} {C : Cx B F} (g : Inv (C.inner F' L' cl held) K Λ' G s) {oL : Obj} (ho : (C.L, oL) ∈ held) {m : Str → Option Value} {h₀ K₀ : Heap} (hns : h₀.Ns C.L m) (e₀ : h₀.get? C.L = some oL) (k : Sub K₀ K)
    (hm : ∀ (i : Nat) (l : LV), Λ[i]? = some (some l) → ∃ x v, F.names[i]? = some x ∧ m x = some v ∧ l.Is K₀ v) (hlen : Λ.length = F.names.length) (hh : ∀ p ∈ C.held, p ∈ held ∧ p.1 ≠ C.L) : Inv C K Λ G s := by
  have hL := g.hld _ ho
  refine ⟨g.gi, ⟨m, ?_, fun i l e => ?_⟩, hlen, hL.2.1, hL.2.2.2.2, g.new, g.old, fun x hx => ⟨hL.2.2.2.1 x hx, (g.gap x hx).2⟩, fun p hp => ?_⟩
  · obtain ⟨o, es, ep, e1, r⟩ := hns
    rw [e₀] at e1
    cases e1
    exact ⟨oL, es, ep, hL.1, r⟩
  · obtain ⟨x, v, a, b, c⟩ := hm i l e
    exact ⟨x, v, a, b, c.mono k⟩
  · have z := g.hld p (hh p hp).1
    exact ⟨z.1, z.2.1, (hh p hp).2, z.2.2.2.1, z.2.2.2.2⟩
theorem objs_of {h : Heap} : ∀ wr : List Addr, (∀ b ∈ wr, ∃ o, h.get? b = some o) → ∃ os : List (Addr × Obj), os.map (·.1) = wr ∧ ∀ p ∈ os, h.get? p.1 = some p.2
  | [], _ => ⟨[], rfl, fun _ h => nomatch h⟩
  | b :: r, hw => by
    obtain ⟨o, e⟩ := hw b (.head _)
    obtain ⟨os, e1, e2⟩ := objs_of r fun b hb => hw b (.tail _ hb)
    refine ⟨(b, o) :: os, by rw [List.map_cons, e1], fun p hp => ?_⟩
    cases hp with
    | head => exact e
    | tail _ hp => exact e2 p hp

/-- the tests of a comprehension -/
def Tst (C : Cx B F) (Λ : Loc) (G : Gs) (ifs : List PySem.Expr) (b : Bool) : Prop := (ifs = [] ∧ b = true) ∨ ∃ c, ifs = [c] ∧ Ts C Λ G (isTrue c C.env (eval c C.env)) b
theorem tst_nil : Tst C Λ G [] true := .inl ⟨rfl, rfl⟩
theorem tst_one {c : PySem.Expr} {b : Bool} (h : Ts C Λ G (isTrue c C.env (eval c C.env)) b) : Tst C Λ G [c] b := .inr ⟨c, rfl, h⟩
theorem wp_tests {ifs : List PySem.Expr} {b : Bool} (h : Tst C Λ G ifs b) {K : Heap} {s : Shared} (g : Inv C K Λ G s) {Q : Bool → Shared → Prop} {E : Value → Shared → Prop} (q : ∀ K' s', Sub K K' → Inv C K' Λ G s' → Q b s') :
    wpAny C.M C.A (forIn ifs true fun c r => if r = true then do let ok ← isTrue c C.env (eval c C.env); pure (ForInStep.yield ok) else pure (ForInStep.yield r)) Q E s := by
  rcases h with ⟨rfl, rfl⟩ | ⟨c, rfl, h⟩
  · exact wpAny_tests_nil (q K s (Sub.refl K) g)
  · exact wpAny_tests_one (h K s g Q E q)

abbrev lstO (ys : List Value) (n : Nat) : Obj := { cls := .type "list", data := .seq ys.toArray n }

/-- each thing -/
def Each (C : Cx B F) (F' : Fd) (cl : List (Str × Addr)) (G : Gs) (target elt : PySem.Expr) (ifs : List PySem.Expr) (ls : List LV) (p : LV → Bool) (f : LV → PyData) : Prop :=
  ∀ (l : LV), l ∈ ls → ∀ (L' : Addr) (held : List (Addr × Obj)) (Λ₀ : Loc), Λ₀.length = F'.names.length → ∃ Λ₁ : Loc, Λ₁.length = F'.names.length ∧ As (C.inner F' L' cl held) Λ₀ G target l Λ₁ ∧ Tst (C.inner F' L' cl held) Λ₁ G ifs (p l) ∧
    (p l = true → Ev (C.inner F' L' cl held) Λ₁ G (eval elt (C.inner F' L' cl held).env) (.d (f l)))

theorem comp_core {target elt iter : PySem.Expr} {ifs : List PySem.Expr} {scope : Scope} {cl : List (Str × Addr)} {pos : Pos} {ls : List LV} {p : LV → Bool} {f : LV → PyData} {RR : Value → Addr → Result → Shared → Prop} {E : Value → Shared → Prop}
    (hF : F'.scope = relabel scope C.env) (hFn : F'.name = F.name) (hcell : ∀ y ∈ scope.names, y.2 ≠ .cell) (hkind : scope.kind = .function)
    (hE : Each C F' cl G target elt ifs ls p f) (hn : ls.length ≤ sizeLine)
    {K : Heap} {s : Shared} (g : Inv C K Λ G s) {I : Addr} {fp wr : List Addr} {P : Nat → Heap → Heap → Value → Prop} {St : Nat → Heap → Prop} (W : Wk B C.A target I fp wr ls.length P St) (st : St 0 s.heap)
    (hwr : ∀ b ∈ wr, K.get? b = none ∧ b ≠ C.L ∧ (∀ x ∈ G, x.1 ≠ b) ∧ C.entry.objs.size ≤ b ∧ ∀ p ∈ C.held, p.1 ≠ b) (hfp : ∀ b ∈ fp, b ∉ wr → ∃ o, K.get? b = some o)
    (hP : ∀ i h h' v, i < ls.length → P i h h' v → ∃ l, ls[i]? = some l ∧ (l.Is K v ∨ ∃ T ws ms, l = .tp ms ∧ v = .ref T ∧ h.objs.size ≤ T ∧ T ∉ wr ∧ h'.IsTuple T (ws : List Value).toArray ∧ AllIs K ws ms))
    (hRR : ∀ K' D L' oL' m' s', Sub K K' → (∀ p ∈ C.held, p.1 ≠ L') → Inv (C.hold L' oL') K' Λ G s' → s'.heap.Ns L' m' → (LV.d (.list ((ls.filter p).map f))).Is K' (.ref D) → RR (.ref D) L' (.ok .next) s') :
    wpAny C.M C.A (newList []) (fun acc s₃ => wpAny C.M C.A (newFunctionEnv scope C.env.globals cl [] C.env.qual none .none (some C.env)) (fun cenv s₄ =>
      codeAny C.M C.A (.compStart (.ListComp elt [⟨target, iter, ifs, 0⟩] scope pos) 0 (.ref I) acc { cenv with scope := relabel scope C.env }) (RR acc cenv.locals) s₄) E s₃) E s := by
  refine wpAny_newObj_type (wpAny_newFunctionEnv hcell (by intro y hy; simp at hy) (fun h₁ hns₁ hsb₁ => ?_) hkind)
  dsimp only at hns₁ hsb₁ ⊢
  generalize hH2 : s.heap.push { cls := .type "list", dict := none, data := .seq ([] : List Value).toArray } = H2 at hns₁ hsb₁ ⊢
  have hC : H2.objs.size = s.heap.objs.size + 1 := by rw [← hH2, Heap.size_push]
  generalize hDe : s.heap.objs.size = D at *
  generalize hLe : H2.objs.size = L' at *
  have hDL : D ≠ L' := by omega
  have old : ∀ b o, s.heap.get? b = some o → h₁.get? b = some o := fun b o e => hsb₁.extBut b o (neN (by have := ltN (Heap.lt_size e); omega)) (Heap.get?_push_of_some _ (hH2 ▸ Heap.get?_push_of_some _ e))
  have hacc : h₁.get? D = some (lstO [] 0) := hsb₁.extBut _ _ hDL (Heap.get?_push_of_some _ (hH2 ▸ hDe ▸ Heap.get?_push_size _ rfl))
  have fresh : ∀ a, D ≤ a → s.heap.get? a = none := fun a ha => by
    cases e : s.heap.get? a with
    | none => rfl
    | some o' => have := ltN (Heap.lt_size e); have := leN ha; omega
  have freshK : ∀ a, D ≤ a → K.get? a = none := fun a ha => by
    cases e : K.get? a with
    | none => rfl
    | some o' => have := g.gi.sub _ _ e; rw [fresh a ha] at this; cases this
  have freshG : ∀ a, D ≤ a → ∀ x ∈ G, x.1 ≠ a := fun a ha x hx q => by
    obtain ⟨o, e⟩ := (g.gi.gl x hx).here
    rw [q, fresh a ha] at e; cases e
  have freshH : ∀ a, D ≤ a → ∀ x ∈ C.held, x.1 ≠ a := fun a ha x hx q => by
    have := (g.hld x hx).1
    rw [q, fresh a ha] at this; cases this
  have hltL : @LT.lt Nat _ C.L D := by have := ltN g.ltL; omega
  have hent : @LE.le Nat _ C.entry.objs.size D := by have := leN g.lowL; omega
  have freshW : ∀ a, D ≤ a → a ∉ wr := fun a ha hm => by
    obtain ⟨o, e⟩ := W.here _ _ st a hm
    rw [fresh a ha] at e; cases e
  have g₁ : Inv C K Λ G { s with heap := h₁, toks := s.toks + ([] : List (Str × Value)).length } := g.keeps old _
  obtain ⟨m₀, hns₀, hm₀⟩ := id g.loc
  obtain ⟨oL, eL⟩ : ∃ o, s.heap.get? C.L = some o := by obtain ⟨o, es, ep, e, r⟩ := hns₀; exact ⟨o, e⟩
  have hnsl : ∀ p ∈ C.held, p.1 ≠ C.L := fun p hp => (g.hld p hp).2.2.1
  -- the run within
  let Ci : Cx B F' := C.inner F' L' cl ((C.L, oL) :: C.held)
  have henv : ∀ held, (C.inner F' L' cl held).env = compEnvC scope cl L' C.env := fun held => by
    have : (C.inner F' L' cl held).env = { scope := F'.scope, locals := L', globals := mainGlobals, cells := cl, qual := F'.name ++ ".<locals>.", func := none, code := C.cd, frame := C.fr, builtins := builtinsNs } := rfl
    rw [this, hF, hFn]
    rfl
  have gi₁ : Inv Ci K (List.replicate F'.names.length none) G { s with heap := h₁, toks := s.toks + ([] : List (Str × Value)).length } := by
    refine g₁.into (freshK _ (ofLe (by omega))) (ofLe (by omega)) (freshG _ (ofLe (by omega))) hns₁ (fun i l e => ?_) (by simp) (fun p hp => ?_)
    · have := List.mem_of_getElem? e
      rw [List.mem_replicate] at this
      cases this.2
    · cases hp with
      | head => exact .inr ⟨rfl, by show @Ne Nat C.L L'; omega, old _ _ eL⟩
      | tail _ hp => exact .inl ⟨g₁.hld p hp, freshH _ (ofLe (by omega)) p hp⟩
  have st₁ : St 0 h₁ := W.frame _ _ _ st fun b _ o e => old b o e
  have outs_of : ∀ (i : Nat) (l : LV), ls[i]? = some l → (((ls.take (i + 1)).filter p).map f) = (((ls.take i).filter p).map f) ++ (if p l then [f l] else []) := fun i l e => by
    have hi := (List.getElem?_eq_some_iff.mp e).1
    have : ls.take (i + 1) = ls.take i ++ [l] := by rw [List.take_add_one, e]; rfl
    rw [this, List.filter_append, List.map_append]
    congr 1
    cases h : p l <;> simp [h]
  -- between the turns
  let J : Nat → Shared → Prop := fun k s' => ∃ K' Λ' i ys n, i ≤ ls.length ∧ k = ls.length + 1 - i ∧ Sub K K' ∧ Inv Ci K' Λ' G s' ∧ St i s'.heap ∧ Apart Ci K' G s' (D, lstO ys n) ∧ AllIs K' ys ((((ls.take i).filter p).map f).map .d) ∧
    (∀ b ∈ wr, K'.get? b = none)
  have loop : ∀ s₃ : Shared, s₃ = { s with heap := h₁, toks := s.toks + ([] : List (Str × Value)).length } →
      codeAny C.M C.A (.compLoop (.ListComp elt [⟨target, iter, ifs, 0⟩] scope pos) 0 (.ref I) (.ref D) (compEnvC scope cl L' C.env)) (RR (.ref D) L') s₃ := by
    rintro s₃ rfl
    refine comp_loop J (fun k s' hJ => ?_) (ls.length + 1) ⟨K, _, 0, [], 0, Nat.zero_le _, rfl, Sub.refl K, gi₁, st₁, ⟨hacc, freshK _ (Nat.le_refl _), hDL, freshG _ (Nat.le_refl _), hent⟩, by simpa using allIs_nil, fun b hb => (hwr b hb).1⟩
    obtain ⟨K', Λ', i, ys, n, hi, rfl, k', g', st', hD, hys, hwK⟩ := hJ
    have hDwr : D ∉ wr := freshW _ (Nat.le_refl _)
    have hLwr : L' ∉ wr := freshW _ (by omega)
    -- what holds of the places written
    have hw' : ∀ K'' : Heap, (∀ b ∈ wr, K''.get? b = none) → ∀ held, (∀ x ∈ held, x = (C.L, oL) ∨ x ∈ C.held ∨ x.1 = D) → ∀ b ∈ wr, K''.get? b = none ∧ b ≠ (C.inner F' L' cl held).L ∧ (∀ x ∈ G, x.1 ≠ b) ∧ (C.inner F' L' cl held).entry.objs.size ≤ b ∧ ∀ p ∈ (C.inner F' L' cl held).held, p.1 ≠ b := fun K'' hK held hheld b hb => by
      obtain ⟨h1, h2, h3, h4, h5⟩ := hwr b hb
      refine ⟨hK b hb, fun q => hLwr (by have q' : b = L' := q; rw [← q']; exact hb), h3, h4, fun x hx => ?_⟩
      rcases hheld x hx with rfl | hx | hx
      · exact fun q => h2 (Eq.symm q)
      · exact h5 x hx
      · exact fun q => hDwr (by rw [← hx, q]; exact hb)
    by_cases hlt : i < ls.length
    · refine wpAny_mono (W.item i s' (fun v s₁ => ∃ h' tk, s₁ = { s' with heap := h', toks := tk } ∧ P i s'.heap h' v ∧ St (i + 1) h' ∧ (∀ b o, b ∉ wr → s'.heap.get? b = some o → h'.get? b = some o)) _ hlt st' (fun v h' tk a b c => ⟨h', tk, rfl, a, b, c⟩)) (fun r s₁ hr => ?_) (fun _ _ e => e)
      obtain ⟨v, rfl, hr⟩ := hr
      refine wpAny_mono hr (fun _ s₂ h₂ => ?_) fun _ _ e => e
      obtain ⟨h', tk, rfl, hPv, st'', hkeep⟩ := h₂
      have g₂ := g'.shift (hw' K' hwK _ (fun x hx => by rcases List.mem_cons.mp hx with rfl | hx; exact .inl rfl; exact .inr (.inl hx))) hkeep tk
      have hD₂ : Apart Ci K' G { s' with heap := h', toks := tk } (D, lstO ys n) := ⟨hkeep _ _ hDwr hD.1, hD.2⟩
      obtain ⟨l, hl, hval⟩ := hP i _ _ v hlt hPv
      -- the thing is known
      have hthing : ∃ K₂, Sub K' K₂ ∧ l.Is K₂ v ∧ Inv Ci K₂ Λ' G { s' with heap := h', toks := tk } ∧ K₂.get? D = none ∧ (∀ b ∈ wr, K₂.get? b = none) := by
        rcases hval with hval | ⟨T, ws, ms, rfl, rfl, hT1, hT2, ⟨oT, hT3, hT4⟩, hT5⟩
        · exact ⟨K', Sub.refl _, hval.mono k', g₂, hD.2.1, hwK⟩
        · have hTL : T ≠ L' := by
            have h1 := ltN g'.ltL
            have h2 : @LT.lt Nat _ L' s'.heap.objs.size := h1
            have h3 := leN hT1
            exact neN (by omega)
          have hTD : T ≠ D := neN (by have h1 : @LT.lt Nat _ D s'.heap.objs.size := ltN (Heap.lt_size hD.1); have h3 := leN hT1; omega)
          have hTG : ∀ x ∈ G, x.1 ≠ T := fun x hx q => by
            obtain ⟨o, e⟩ := (g'.gi.gl x hx).here
            have h1 := ltN (Heap.lt_size e)
            have h3 := leN hT1
            have h4 : @Eq Nat x.1 T := q
            omega
          have hTh : ∀ x ∈ Ci.held, x.1 ≠ T := fun x hx q => by
            have h1 := ltN (Heap.lt_size (g'.hld x hx).1)
            have h3 := leN hT1
            have h4 : @Eq Nat x.1 T := q
            omega
          have hTe : Ci.entry.objs.size ≤ T := ofLe (by have h1 := leN g'.lowL; have h2 := ltN g'.ltL; have h3 := leN hT1; omega)
          have hTw : ∀ b ∈ wr, b ≠ T := fun b hb q => hT2 (q ▸ hb)
          have hsub : Sub K' h' := g₂.gi.sub
          obtain ⟨K₂, q1, q2, q3, q4⟩ := grow hsub hT3
          have g₃ : Inv Ci K₂ Λ' G { s' with heap := h', toks := tk } := by
            refine ⟨⟨q2, g₂.gi.base.trans q1, fun x hx => (g₂.gi.gl x hx).mono q1, fun x hx => ?_, g₂.gi.nd, g₂.gi.gens, g₂.gi.os⟩, ?_, g₂.len, ?_, g₂.lowL, fun b o' e' => ?_, g₂.old, g₂.gap, fun x hx => ?_⟩
            · cases q : K₂.get? x.1 with
              | none => rfl
              | some o' => rcases q4 _ _ q with z | z
                           · rw [g₂.gi.out x hx] at z; cases z
                           · exact absurd z (hTG x hx)
            · obtain ⟨m, hns, hl⟩ := g₂.loc
              exact ⟨m, hns, fun i l e => let ⟨x, v, p, q, r⟩ := hl i l e; ⟨x, v, p, q, r.mono q1⟩⟩
            · cases q : K₂.get? Ci.L with
              | none => rfl
              | some o' => rcases q4 _ _ q with z | z
                           · rw [g₂.outL] at z; cases z
                           · exact absurd z.symm hTL
            · rcases q4 _ _ e' with z | z
              · exact g₂.new _ _ z
              · rw [z]; exact .inr hTe
            · obtain ⟨h1, h2, h3⟩ := g₂.hld x hx
              refine ⟨h1, ?_, h3⟩
              cases q : K₂.get? x.1 with
              | none => rfl
              | some o' => rcases q4 _ _ q with z | z
                           · rw [h2] at z; cases z
                           · exact absurd z (hTh x hx)
          have noneOf : ∀ b, K'.get? b = none → b ≠ T → K₂.get? b = none := fun b h1 h2 => by
            cases q : K₂.get? b with
            | none => rfl
            | some o' => rcases q4 _ _ q with z | z
                         · rw [h1] at z; cases z
                         · exact absurd z h2
          exact ⟨K₂, q1, tp_is ⟨oT, q3, hT4⟩ (hT5.mono (k'.trans q1)), g₃, noneOf _ hD.2.1 (Ne.symm hTD), fun b hb => noneOf b (hwK b hb) (hTw b hb)⟩
      obtain ⟨K₂, k₂, hv, g₃, hDK, hwK₂⟩ := hthing
      -- all held
      obtain ⟨os, hos1, hos2⟩ := objs_of wr (W.here _ _ st'')
      have hmemos : ∀ x ∈ os, x.1 ∈ wr := fun x hx => hos1 ▸ List.mem_map_of_mem hx
      have g₄ : Inv (C.inner F' L' cl (os ++ (D, lstO ys n) :: (C.L, oL) :: C.held)) K₂ Λ' G { s' with heap := h', toks := tk } := by
        refine ⟨g₃.gi, g₃.loc, g₃.len, g₃.outL, g₃.lowL, g₃.new, g₃.old, g₃.gap, fun x hx => ?_⟩
        rcases List.mem_append.mp hx with hx | hx
        · obtain ⟨h1, h2, h3, h4, h5⟩ := hw' K₂ hwK₂ [] (fun _ h => nomatch h) x.1 (hmemos x hx)
          exact ⟨hos2 x hx, h1, h2, h3, h4⟩
        · cases hx with
          | head => exact ⟨hD₂.1, hDK, hD.2.2.1, hD.2.2.2.1, hD.2.2.2.2⟩
          | tail _ hx => exact g₃.hld x hx
      obtain ⟨Λ₁, hl1, hAs, hTst, hEl⟩ := hE l (List.mem_of_getElem? hl) L' (os ++ (D, lstO ys n) :: (C.L, oL) :: C.held) Λ' g'.len
      have henv' := henv (os ++ (D, lstO ys n) :: (C.L, oL) :: C.held)
      rw [← henv']
      -- what is behind a turn
      have back : ∀ (K₅ : Heap) (s₅ : Shared), Inv (C.inner F' L' cl (os ++ (D, lstO ys n) :: (C.L, oL) :: C.held)) K₅ Λ₁ G s₅ → Sub K₂ K₅ → Inv Ci K₅ Λ₁ G s₅ ∧ St (i + 1) s₅.heap ∧ Apart Ci K₅ G s₅ (D, lstO ys n) ∧ (∀ b ∈ wr, K₅.get? b = none) := fun K₅ s₅ g₅ k₅ => by
        refine ⟨⟨g₅.gi, g₅.loc, g₅.len, g₅.outL, g₅.lowL, g₅.new, g₅.old, g₅.gap, fun x hx => g₅.hld x (List.mem_append_right _ (.tail _ hx))⟩, W.frame _ _ _ st'' fun b hb o e => ?_, g₅.hld (D, lstO ys n) (List.mem_append_right _ (.head _)), fun b hb => ?_⟩
        · by_cases hbw : b ∈ wr
          · rw [← hos1] at hbw
            obtain ⟨x, hx, rfl⟩ := List.mem_map.mp hbw
            have e1 := hos2 x hx
            have e' : h'.get? x.1 = some o := e
            rw [e1] at e'
            cases e'
            exact (g₅.hld x (List.mem_append_left _ hx)).1
          · obtain ⟨o₂, e₂⟩ := hfp b hb hbw
            have a1 : h'.get? b = some o₂ := g₃.gi.sub _ _ (k₂ _ _ (k' _ _ e₂))
            have a2 : s₅.heap.get? b = some o₂ := g₅.gi.sub _ _ (k₅ _ _ (k₂ _ _ (k' _ _ e₂)))
            have e' : h'.get? b = some o := e
            rw [a1] at e'; cases e'; exact a2
        · rw [← hos1] at hb
          obtain ⟨x, hx, rfl⟩ := List.mem_map.mp hb
          exact (g₅.hld x (List.mem_append_left _ hx)).2.1
      refine hAs K₂ _ v g₄ hv _ _ fun K₃ s₃ k₃ g₅ => ?_
      refine wp_tests hTst g₅ fun K₄ s₄ k₄ g₆ => ?_
      cases hp : p l with
      | false =>
        simp only [Bool.false_eq_true, if_false]
        obtain ⟨b1, b2, b3, b4⟩ := back K₄ s₄ g₆ (k₃.trans k₄)
        refine ⟨ls.length + 1 - (i + 1), by omega, K₄, Λ₁, i + 1, ys, n, hlt, rfl, k'.trans (k₂.trans (k₃.trans k₄)), b1, b2, b3, ?_, b4⟩
        rw [outs_of i l hl, hp]
        simpa using hys.mono (k₂.trans (k₃.trans k₄))
      | true =>
        simp only [if_true]
        refine hEl hp K₄ s₄ g₆ _ _ fun K₅ x s₅ k₅ g₇ hx => ?_
        obtain ⟨b1, b2, b3, b4⟩ := back K₅ s₅ g₇ (k₃.trans (k₄.trans k₅))
        have hyl : ys.length ≤ i := by
          rw [hys.length, List.length_map, List.length_map]
          exact Nat.le_trans (List.length_filter_le ..) (by simp; omega)
        refine append_at (hsz := by show ys.toArray.size ≤ sizeLine; rw [List.size_toArray]; omega) b3.1 fun h₆ hs₆ hD₆ => ?_
        have k6 : ∀ b o, b ∉ [D] → s₅.heap.get? b = some o → h₆.get? b = some o := fun b o hb e => (hs₆.2 b (by simpa using hb)).trans e
        have hDh : ∀ x ∈ Ci.held, x.1 ≠ D := fun x hx => by
          cases hx with
          | head => show @Ne Nat C.L D; omega
          | tail _ hx => exact freshH _ (Nat.le_refl _) x hx
        have g₈ : Inv Ci K₅ Λ₁ G { s₅ with heap := h₆, toks := s₅.toks } := b1.shift (wr := [D]) (fun b hb => by
          obtain rfl := List.mem_singleton.mp hb
          exact ⟨b3.2.1, b3.2.2.1, b3.2.2.2.1, b3.2.2.2.2, hDh⟩) k6 _
        refine ⟨ls.length + 1 - (i + 1), by omega, K₅, Λ₁, i + 1, ys ++ [x], n + 1, hlt, rfl, k'.trans (k₂.trans (k₃.trans (k₄.trans k₅))), g₈, W.frame _ _ _ b2 fun b hb o e => k6 b o (fun q => ?_) e, ⟨?_, b3.2⟩, ?_, b4⟩
        · obtain rfl := List.mem_singleton.mp q
          obtain ⟨o₂, e₂⟩ := hfp b hb hDwr
          rw [freshK b (Nat.le_refl _)] at e₂; cases e₂
        · show h₆.get? D = some (lstO (ys ++ [x]) (n + 1))
          rw [hD₆]
          simp
        · rw [outs_of i l hl, hp, List.map_append]
          exact (hys.mono (k₂.trans (k₃.trans (k₄.trans k₅)))).append (allIs_cons hx allIs_nil)
    · obtain rfl : i = ls.length := by omega
      refine W.done s' _ _ st' fun h' tk hkeep => ?_
      have g₂ := g'.shift (hw' K' hwK _ (fun x hx => by rcases List.mem_cons.mp hx with rfl | hx; exact .inl rfl; exact .inr (.inl hx))) hkeep tk
      have hD₂ : h'.get? D = some (lstO ys n) := hkeep _ _ hDwr hD.1
      have hDh : ∀ x ∈ Ci.held, x.1 ≠ D := fun x hx => by
        cases hx with
        | head => show @Ne Nat C.L D; omega
        | tail _ hx => exact freshH _ (Nat.le_refl _) x hx
      obtain ⟨K₃, k₃, e₃, g₃⟩ := g₂.adopt hD₂ hD.2.2.1 hD.2.2.2.1 hDh hD.2.2.2.2
      have gout : Inv C K₃ Λ G { s' with heap := h', toks := tk } := g₃.outof (h₀ := s.heap) (K₀ := K) (.head _) hns₀ eL (k'.trans k₃) hm₀ g.len fun p hp => ⟨.tail _ hp, hnsl p hp⟩
      obtain ⟨m', hns', _⟩ := g₃.loc
      obtain ⟨o', es', ep', eo', r'⟩ := id hns'
      refine hRR K₃ D L' o' m' _ (k'.trans k₃) (fun p hp => freshH _ (ofLe (by omega)) p hp) ?_ hns' (list_is (vs := ys) ⟨_, e₃, rfl, n, rfl⟩ (by rw [List.take_length] at hys; exact hys.mono k₃))
      refine ⟨gout.gi, gout.loc, gout.len, gout.outL, gout.lowL, gout.new, gout.old, gout.gap, fun x hx => ?_⟩
      cases hx with
      | head => exact ⟨eo', g₃.outL, by show @Ne Nat L' C.L; omega, fun x hx => (g₃.gap x hx).1, g₃.lowL⟩
      | tail _ hx => exact gout.hld x hx
  exact codeAny_compStart_list (loop _ rfl) (W.self 0 _ _ _ st₁ (loop _ rfl))
end
end Mine
end
section
open PySem PySem.Calls PyProof.Rows PySem.W PySem.Builtin PySem.Builtin.Str
namespace Mine

section
variable {B : Bs} {F F' : Fd} {C : Cx B F} {Λ : Loc} {G : Gs} {O : Out → Prop}

/-- the variables of the comprehension are let go -/
theorem Inv.letgo {K : Heap} {s : Shared} {L' : Addr} {o : Obj} (g : Inv (C.hold L' o) K Λ G s) {h' : Heap} (hh : ∀ p ∈ C.held, p.1 ≠ L') (hs : Heap.SameBut L' s.heap h') : Inv C K Λ G { s with heap := h' } := by
  have z := g.hld (L', o) (.head _)
  exact (Inv.drop g).shift (wr := [L']) (fun b hb => by
    obtain rfl := List.mem_singleton.mp hb
    exact ⟨z.2.1, z.2.2.1, z.2.2.2.1, z.2.2.2.2, hh⟩) (fun b o hb e => (hs.2 b (by simpa using hb)).trans e) s.toks

/-- the things of an iterable, as a source -/
def CompOk (C : Cx B F) (F' : Fd) (scope : Scope) (cl : List (Str × Addr)) : Prop :=
  F'.scope = relabel scope C.env ∧ F'.name = F.name ∧ closureFor scope C.env = pure cl ∧ (∀ y ∈ scope.names, y.2 ≠ .cell) ∧ scope.kind = .function ∧ (∀ y ∈ scope.names, y.2 = .local → scope.names.lookup y.1 = some .local)

theorem walk_in {l : LV} {ls : List LV} {x : Str} {px : Pos} {K : Heap} {s : Shared} {v : Value} (hit : ItR C Λ G l ls) (g : Inv C K Λ G s) (hl : l.Is K v) {Q : Value → Shared → Prop} {E : Value → Shared → Prop}
    (q : ∀ (s' : Shared) (I : Addr) (fp wr : List Addr) (P : Nat → Heap → Heap → Value → Prop) (St : Nat → Heap → Prop), Inv C K Λ G s' → Wk B C.A (.Name x px) I fp wr ls.length P St → St 0 s'.heap →
      (∀ b ∈ wr, K.get? b = none ∧ b ≠ C.L ∧ (∀ x ∈ G, x.1 ≠ b) ∧ C.entry.objs.size ≤ b ∧ ∀ p ∈ C.held, p.1 ≠ b) → (∀ b ∈ fp, b ∉ wr → ∃ o, K.get? b = some o) →
      (∀ i h h' v, i < ls.length → P i h h' v → ∃ l, ls[i]? = some l ∧ (l.Is K v ∨ ∃ T ws ms, l = .tp ms ∧ v = .ref T ∧ h.objs.size ≤ T ∧ T ∉ wr ∧ h'.IsTuple T (ws : List Value).toArray ∧ AllIs K ws ms)) → Q (.ref I) s') :
    wpAny C.M C.A (pyIter v) Q E s := by
  refine hit K s v g hl _ _ fun o P St ax W st0 hI hax hP => ?_
  have fresh : s.heap.get? s.heap.objs.size = none := by
    cases e : s.heap.get? s.heap.objs.size with
    | none => rfl
    | some o => exact absurd (Heap.lt_size e) (Nat.lt_irrefl _)
  refine q _ _ _ _ _ _ (g.push o s.toks) (Wk.of W fun i h st b hb => ?_) st0 (fun b hb => ?_) (fun b hb hn => ?_) (fun i h h' v hi hPv => ?_)
  · obtain rfl := List.mem_singleton.mp hb
    obtain ⟨o', n, e, _⟩ := hI i h st
    exact ⟨o', e⟩
  · obtain rfl := List.mem_singleton.mp hb
    refine ⟨?_, fun e => absurd g.ltL (by rw [← e]; exact Nat.lt_irrefl _), fun x hx e => ?_, Nat.le_trans g.lowL (Nat.le_of_lt g.ltL), fun p hp e => ?_⟩
    · cases e : K.get? s.heap.objs.size with
      | none => rfl
      | some o => have := g.gi.sub _ _ e; rw [fresh] at this; cases this
    · obtain ⟨o, e1⟩ := (g.gi.gl x hx).here
      rw [e, fresh] at e1; cases e1
    · have := (g.hld p hp).1
      rw [e, fresh] at this; cases this
  · rcases List.mem_cons.mp hb with rfl | hb
    · exact absurd (List.mem_singleton.mpr rfl) hn
    · exact hax b hb
  · obtain ⟨l, e, h⟩ := hP i v hi hPv
    exact ⟨l, e, .inl h⟩

/-- [elt for x in iter if …], a value -/
theorem ev_comp {elt iter : PySem.Expr} {x : Str} {px : Pos} {ifs : List PySem.Expr} {scope : Scope} {cl : List (Str × Addr)} {pos : Pos} {l : LV} {ls : List LV} {p : LV → Bool} {f : LV → PyData} (ok : CompOk C F' scope cl)
    (hi : Ev C Λ G (eval iter C.env) l) (hit : ItR C Λ G l ls) (hE : Each C F' cl G (.Name x px) elt ifs ls p f) (hn : ls.length ≤ sizeLine) (hs : ∀ x, foldedSetIterable iter C.env x = pure x := by intro _; rfl) :
    Ev C Λ G (eval (.ListComp elt [⟨.Name x px, iter, ifs, 0⟩] scope pos) C.env) (.d (.list ((ls.filter p).map f))) := fun K s g Q E q => by
  obtain ⟨hF, hFn, hclos, hcell, hkind, hnames⟩ := ok
  rw [eval_ListComp]
  refine wpAny_comprehension_free (use := none) rfl hs hclos hkind hnames (hi K s g _ E fun K₁ v s₁ k₁ g₁ i₁ => walk_in (px := px) (x := x) hit g₁ i₁ fun s₂ I fp wr P St g₂ W st hwr hfp hP => ?_)
  refine comp_core (RR := fun acc L' => compPost C.M C.A E none Q acc L') hF hFn hcell hkind hE hn g₂ W st hwr hfp hP fun K' D L' oL' m' s' k hh gh hns hD => ?_
  exact ⟨m', hns, fun h' hs' => q K' _ _ (k₁.trans k) (gh.letgo hh hs') hD⟩

/-- y = [elt for x in iter if …] -/
theorem ex_comp {elt iter : PySem.Expr} {x y : Str} {i : Nat} {px py : Pos} {ifs : List PySem.Expr} {scope : Scope} {cl : List (Str × Addr)} {pos spos : Pos} {l : LV} {ls : List LV} {p : LV → Bool} {f : LV → PyData} (ok : CompOk C F' scope cl) (hy : F.names[i]? = some y)
    (hi : Ev C Λ G (eval iter C.env) l) (hit : ItR C Λ G l ls) (hE : Each C F' cl G (.Name x px) elt ifs ls p f) (hn : ls.length ≤ sizeLine)
    (h : O (.nx (Λ.set i (some (.d (.list ((ls.filter p).map f))))) G))
    (hsw : swapsWith (.ListComp elt [⟨.Name x px, iter, ifs, 0⟩] scope pos) (some (.Name y py)) spos.line C.env = pure true := by rfl) (hs : ∀ x, foldedSetIterable iter C.env x = pure x := by intro _; rfl) :
    Ex C Λ G (exec (.Assign [.Name y py] (.ListComp elt [⟨.Name x px, iter, ifs, 0⟩] scope pos) spos) C.env) O := fun K s g Q E q => by
  obtain ⟨hF, hFn, hclos, hcell, hkind, hnames⟩ := ok
  rw [exec_Assign_Name_used _ _ _ _ hsw]
  refine wpAny_bind (wpAny_standAt (wpAny_bind ?_))
  show wpAny _ C.A (do let _ ← comprehension (.ListComp elt [⟨.Name x px, iter, ifs, 0⟩] scope pos) scope C.env _ (newList []) false (eval iter C.env) (some (assign (.Name y py) C.env))) _ _ s
  refine wpAny_bind (wpAny_mono (wpAny_comprehension_free (use := some (assign (.Name y py) C.env)) (Q := fun _ s' => Q .next s') rfl hs hclos hkind hnames
    (hi K s g _ E fun K₁ v s₁ k₁ g₁ i₁ => walk_in (px := px) (x := x) hit g₁ i₁ fun s₂ I fp wr P St g₂ W st hwr hfp hP => ?_)) (fun _ s' hq => wpAny_pure (wpAny_pure hq)) fun _ _ e => e)
  refine comp_core (RR := fun acc L' => compPost C.M C.A E (some (assign (.Name y py) C.env)) (fun _ s' => Q .next s') acc L') hF hFn hcell hkind hE hn g₂ W st hwr hfp hP fun K' D L' oL' m' s' k hh gh hns hD => ?_
  show wpAny C.M C.A (assign (.Name y py) C.env (.ref D)) _ E s'
  refine wpAny_assign_Name (store_name (C := C.hold L' oL') hy gh hD fun s'' g'' => ?_)
  obtain ⟨o, es, ep, e1, r⟩ := hns
  have e2 := (gh.hld (L', oL') (.head _)).1
  rw [e1] at e2
  cases e2
  exact ⟨m', ⟨oL', es, ep, (g''.hld (L', oL') (.head _)).1, r⟩, fun h' hs' => q K' _ _ _ (k₁.trans k) h ⟨rfl, g''.letgo hh hs'⟩⟩

-- MORE OF INTS
theorem cmp_leI {a b : Int} : CmpR C Λ G .LtE (.i a) (.i b) (decide (a ≤ b)) := fun K s x y g ha hb Q E q => by
  obtain ⟨t, rfl⟩ := is_int ha; obtain ⟨u, rfl⟩ := is_int hb
  exact le_int (q K _ (Sub.refl K) g)
theorem cmp_geI {a b : Int} : CmpR C Λ G .GtE (.i a) (.i b) (decide (b ≤ a)) := fun K s x y g ha hb Q E q => by
  obtain ⟨t, rfl⟩ := is_int ha; obtain ⟨u, rfl⟩ := is_int hb
  exact ge_int (q K _ (Sub.refl K) g)
theorem ev_neg {e : PySem.Expr} {pos : Pos} {a : Int} (h : Ev C Λ G (eval e C.env) (.i a)) : Ev C Λ G (eval (.UnaryOp .USub e pos) C.env) (.i (-a)) := fun K s g Q E q =>
  wpAny_UnaryOp (h K s g _ E fun K' v s' k g' i => by
    obtain ⟨t, rfl⟩ := is_int i
    exact neg_int (q K' _ _ k (g'.toks _) (int_is K' _ _)))

/-- xs[::-1] -/
theorem ev_rev {v st : PySem.Expr} {p pos : Pos} {xs : List PyData} (hv : Ev C Λ G (eval v C.env) (.d (.list xs))) (hst : Ev C Λ G (eval st C.env) (.i (-1))) (hn : xs.length ≤ sizeLine) (hsub : ∀ o i, subscripted (.Slice none none (some st) p) false o i = operate [o, i] (getItem o i) := by intro _ _; rfl) :
    Ev C Λ G (eval (.Subscript v (.Slice none none (some st) p) pos) C.env) (.d (.list xs.reverse)) := fun K s g Q E q =>
  Subscript_ (hv K s g _ E fun K₁ x s₁ k₁ g₁ i₁ => wpAny_Slice (wpAny_pure (wpAny_pure (hst K₁ s₁ g₁ _ E fun K₂ vs₂ s₂ k₂ g₂ i₂ => by
    obtain ⟨ad, vs, rfl, h1, h2⟩ := is_list i₁
    obtain ⟨t, rfl⟩ := is_int i₂
    have hlen : vs.length = xs.length := by have := h2.length; simpa using this
    have g₃ := g₂.push { cls := .type "slice", data := .fields #[.none, .none, .int (-1) t] } s₂.toks
    have hL : (s₂.heap.push { cls := .type "slice", data := .fields #[.none, .none, .int (-1) t] }).IsList ad vs.toArray := isList_sub (k₂.trans g₃.gi.sub) h1
    have hpick : slicePick vs.toArray none none (some (-1)) = vs.reverse.toArray := by rw [krv_pick]
    obtain ⟨K₄, k₄, e₄, g₄⟩ := g₃.alloc { cls := .type "list", data := .seq (slicePick vs.toArray none none (some (-1))) } rfl
    refine tail_any hL.typeIs slot_list_getitem.lookup (wpAny_getItem_list_slice hL (Heap.IsSliceOf.new ..) .none .none (.int (-1) t) (by decide) ?_ (by simp; omega)) (hsub _ _)
    refine q K₄ _ _ ((k₁.trans k₂).trans k₄) g₄ (list_is (vs := vs.reverse) ⟨_, e₄, rfl, _, by rw [hpick]⟩ ?_)
    rw [List.map_reverse]
    exact (h2.mono (k₂.trans k₄)).reverse))))

theorem preSum_eq (ns : List Int) : ∀ j, j ≤ ns.length → preSum (fun i => ns.getD i 0) j = (ns.take j).sum
  | 0, _ => rfl
  | j + 1, h => by
    have e : ns.take (j + 1) = ns.take j ++ [ns.getD j 0] := by
      rw [List.take_add_one, List.getD_eq_getElem?_getD]
      have : ns[j]? = some ns[j] := by simp
      rw [this]; rfl
    rw [e, List.sum_append]
    show preSum _ j + _ = _
    rw [preSum_eq ns j (by omega)]; simp
/-- sum of a list of ints -/
theorem call_sumI {ns : List Int} : CallB C Λ G (.builtin "sum") [.d (.list (ns.map .int))] (.i ns.sum) := fun K s vs g hv Q E q => by
  obtain ⟨v, rfl, a⟩ := allIs_one hv
  obtain ⟨ad, ws, rfl, h1, h2⟩ := is_list a
  have hL := isList_sub g.gi.sub h1
  obtain ⟨o, e, r⟩ := id h1
  have hlen : ws.length = ns.length := by have := h2.length; simpa using this
  refine call_sum_walkG (wpAny_pyIter_list hL ?_)
  refine ⟨_, _, _, _, _, _, fun i => ns.getD i 0, rfl, Walks.list (A := C.A.in1) C.hh s.heap.objs.size ad (ne_size (g.gi.sub _ _ e)) ws.toArray, ⟨⟨_, Heap.get?_push_size _ rfl, rfl, rfl⟩, isList_sub (fun b o e => Heap.get?_push_of_some _ e) hL⟩, fun b hb => ?_, fun i v hi => ?_, fun h' tk t' hk => ?_⟩
  · show b < (s.heap.push _).objs.size
    rw [Heap.size_push]
    have hlt := Heap.lt_size (g.gi.sub _ _ e)
    rcases List.mem_cons.mp hb with rfl | hb
    · exact Nat.lt_succ_self _
    · obtain rfl := List.mem_singleton.mp hb
      exact Nat.lt_succ_of_lt hlt
  · have e' : ws[i]? = some v := by simpa using hi
    have hi' : i < ns.length := by rw [← hlen]; exact (List.getElem?_eq_some_iff.mp e').1
    obtain ⟨w, e2, hw⟩ := h2.get (i := i) (l := .i ns[i]) (by simp [hi'])
    rw [e'] at e2
    cases e2
    obtain ⟨t, rfl⟩ := is_int hw
    exact ⟨t, by simp [hi']⟩
  · have hz : ws.toArray.size = ns.length := by simp [hlen]
    rw [hz, preSum_eq ns _ (Nat.le_refl _), List.take_length]
    have g₁ := g.push { cls := .type "list_iterator", data := .fields #[.ref ad, .int 0 0] } s.toks
    have hI : ∀ o, s.heap.get? s.heap.objs.size ≠ some o := fun o e => absurd (Heap.lt_size e) (Nat.lt_irrefl _)
    refine q K _ _ (Sub.refl K) (g.keeps (h' := h') (fun b o e => hk b o (fun hb => ?_) (Heap.get?_push_of_some _ e)) tk) (int_is K _ _)
    obtain rfl := List.mem_singleton.mp hb
    exact hI _ e
end
end Mine
end
section
open PySem PySem.Calls PyProof.Rows PySem.W PySem.Builtin PySem.Builtin.Str
namespace Mine

section
variable {B : Bs} {F F' : Fd} {C : Cx B F} {Λ : Loc} {G : Gs} {O : Out → Prop}

/-- if "\r" in text: text = text.replace("\r\n", "\n") -/
theorem ex_crlf {i : Nat} {x : Str} {l : List Nat} {a b c : String} {p0 p1 p2 p3 p4 p5 p6 p7 p8 p9 : Pos} {k1 k2 k3 : Nat} {apos : Pos} (hx : F.names[i]? = some x) (hl : Λ[i]? = some (some (.t l)))
    (hb : cs b ≠ []) (hbc : (cs b == cs c) = false) (hn : l.length + (l.length + 1) * (cs c).length ≤ 16777216)
    (h : O (.nx (Λ.set i (some (.t (if Txt.contains (tx l) (tx (cs a)) then joinL (cs c) (spl (cs b) l) else l)))) G))
    (hbase : attributeBase (.Name x p3) "replace" C.env (eval (.Name x p3) C.env) = eval (.Name x p3) C.env := by rfl) (hline : (apos.endLine == p6.line) = true := by rfl)
    (hs : swapsWith (.Call (.Attribute (.Name x p3) "replace" apos) [.Constant (.str (Str.ofString b)) k2 p4, .Constant (.str (Str.ofString c)) k3 p5] [] p6) (some (.Name x p2)) p7.line C.env = pure false := by rfl)
    (hm : behindInMarks .In (.Name x p1) = false := by rfl) :
    Ex C Λ G (exec (.If (.Compare (.Constant (.str (Str.ofString a)) k1 p0) [.In] [.Name x p1] p8) [.Assign [.Name x p2] (.Call (.Attribute (.Name x p3) "replace" apos) [.Constant (.str (Str.ofString b)) k2 p4, .Constant (.str (Str.ofString c)) k3 p5] [] p6) p7] [] p9) C.env) O := fun K s g Q E q => by
  have same : Λ.set i (some (.t l)) = Λ := by
    apply List.ext_getElem?
    intro j
    rw [List.getElem?_set]
    by_cases hj : i = j
    · subst hj; rw [if_pos rfl, hl]; simp [(List.getElem?_eq_some_iff.mp hl).1]
    · rw [if_neg hj]
  refine wpAny_If (wpAny_isTrue_Compare1 (Calls.Constant_str ?_) hm)
  obtain ⟨m, hns, hmm⟩ := g.loc
  obtain ⟨x', v, p1', p2', p3'⟩ := hmm i _ hl
  obtain rfl : x = x' := Option.some.inj (hx.symm.trans p1')
  obtain ⟨t, rfl⟩ := is_str p3'
  have hd := F.hdb x (List.mem_of_getElem? hx)
  refine wpAny_Name (wpAny_loadName_local F.hk (kind_local hx) hns p2' ?_) hd
  refine SB.contains (wpAny_truthy_bool ?_)
  rw [tx_cs a]
  cases hc : Txt.contains (tx l) (tx (cs a)) with
  | false =>
    rw [hc] at h
    simp only [Bool.false_eq_true, if_false] at h ⊢
    rw [same] at h
    exact wpAny_execs_nil (q K _ _ _ (Sub.refl K) h ⟨rfl, g.toks _⟩)
  | true =>
    rw [hc] at h
    simp only [if_true] at h ⊢
    refine wpAny_execs_cons (wpAny_Assign_Name ?_ hs)
    refine Call_method2 hbase rfl hline (wpAny_Name (wpAny_loadName_local F.hk (kind_local hx) hns p2' ?_) hd)
    refine ⟨"str", _, _root_.PySem.F.plainAttrs_str, _root_.PySem.F.slot_str_replace, _root_.PySem.F.type_str_replace, typeIs_str _ _ _, (fun _ e => nomatch e), ?_⟩
    refine callWith_builtin rfl (evalArgs_plain (spliced_cons (Calls.Constant_str (spliced_cons (Calls.Constant_str (spliced_nil ?_))))))
    have hlen : (tx l).length + ((tx l).length + 1) * (Str.ofString c).length ≤ 16777216 := by rw [tx_length, tx_cs c, tx_length]; exact hn
    refine SC.replace (Nat.succ_ne_zero _) (Nat.succ_ne_zero _) (Nat.ne_of_lt (Nat.lt_succ_self _)) (by rw [tx_cs b, tx_cs c, tx_beq]; exact hbc) hlen fun t' k => ?_
    rw [tx_cs b, tx_cs c, replace_tx l _ _ hb]
    refine store_name hx (g.toks k) (str_is K _ t') fun s' g' => ?_
    exact wpAny_execs_nil (q K _ _ _ (Sub.refl K) h ⟨rfl, g'⟩)

-- CELLS
theorem ev_cell {x : Str} {pos : Pos} {c : Addr} {v : Value} {l : LV} (hx : F.scope.names.lookup x = some .cell) (hc : C.cells.lookup x = some c) (hv : B.base.IsCell c (some v)) (hl : l.Is B.base v) (hd : (x == ("__debug__" : Str)) = false := by decide) :
    Ev C Λ G (eval (.Name x pos) C.env) l := fun K s g Q E q =>
  wpAny_Name (wpAny_loadName_cell F.hk hx hc (hv.keeps (g.gi.base.trans g.gi.sub)) (q K v s (Sub.refl K) g (hl.mono g.gi.base))) hd

/-- the same call, on another ground -/
def Bs.at (B : Bs) (K : Heap) (h : Sub B.base K) : Bs := { prog := B.prog, w := B.w, base := K, os := B.os, mg := B.mg, mb := B.mb, hmg := B.hmg.keeps h, hmb := B.hmb.keeps h, hlim := B.hlim.keeps h }

/-- a def of two parameters, the second of which is a cell -/
theorem spec_cell {f : Addr} {p0 p1 : Str} {body : List Stmt} (D : DefAt B f F [p0, p1] body) (hlk0 : F.scope.names.lookup p0 = some .local) (hlk1 : F.scope.names.lookup p1 = some .cell) (hne : p0 ≠ p1)
    (hcells : ∀ n, cellsFrom n F.scope.names [] = [(p1, n)]) (hfirst : ∃ rest, F.names = p0 :: rest) {k : Nat} {l0 l1 : LV} {G : Gs} {P : LV → Gs → Prop}
    (h : ∀ (K : Heap) (hK : Sub B.base K) (C : Cx (B.at K hK) F) (c : Addr) (v : Value), C.cells = [(p1, c)] → K.IsCell c (some v) → l1.Is K v → C.gin = G.map (·.1) → C.A.depth + k < recursionLimit → C.A.units + 4 * k + 70 < cLine →
      Ex C (some l0 :: List.replicate (F.names.length - 1) none) G (execs body C.env) fun o => ∃ l G', o = .rt l G' ∧ (∀ g' ∈ G', g'.1 ∈ G.map (·.1)) ∧ P l G') :
    Spec B f (k + 1) [l0, l1] G P := fun A K s vs hh hd hu g hv R q => by
  obtain ⟨v0, v1, rfl, hv0, hv1⟩ := allIs_two hv
  have hbase : Sub B.base s.heap := g.base.trans g.sub
  obtain ⟨rest, hrest⟩ := hfirst
  have hz : ∀ a, s.heap.objs.size ≤ a → s.heap.get? a = none := fun a ha => by
    cases e : s.heap.get? a with
    | none => rfl
    | some o => exact absurd (Heap.lt_size e) (Nat.not_lt.mpr ha)
  have hcl := hcells (s.heap.objs.size + 1)
  have kind0 : (envOfC F.name F.scope s.heap.objs.size f D.cd).kindOf p0 = some .local := hlk0
  have kind1 : (envOfC F.name F.scope s.heap.objs.size f D.cd).kindOf p1 = some .cell := hlk1
  refine call_cells_ret (binds := [(p0, v0), (p1, v1)]) (by omega) (hbase _ _ D.at_) D.data (B.hlim.keeps hbase) (?_ : s.heap.CodeRec D.cd F.name) (D.bind [v0, v1] rfl) (fun x hx => ?_) (fun h₁ tk Fr₁ Cl₁ => ?_) D.co D.gen F.hk
  · obtain ⟨c, o, ws, t, e1, e2, e3⟩ := D.code
    exact ⟨c, o, ws, t, e1, hbase _ _ e2, e3⟩
  · rcases List.mem_cons.mp hx with rfl | hx
    · exact .inl hlk0
    · obtain rfl := List.mem_singleton.mp hx
      refine .inr ⟨hlk1, ?_⟩
      rw [hcl]; simp
  · rw [hcl] at Cl₁
    have hcell : h₁.IsCell (s.heap.objs.size + 1) (some v1) := by
      have := Cl₁.cell p1 (s.heap.objs.size + 1) (by simp)
      have e : bindC (envOfC F.name F.scope s.heap.objs.size f D.cd).kindOf [(p0, v0), (p1, v1)] (fun _ => none) p1 = some v1 := by
        unfold bindC
        rw [if_pos kind0]
        unfold bindC
        rw [if_neg (by rw [kind1]; simp)]
        unfold bindC
        simp
      rw [e] at this; exact this
    obtain ⟨oc, hoc, hocd⟩ := id hcell
    have hsub : Sub K h₁ := g.sub.trans Fr₁.keep
    obtain ⟨K', k1, k2, k3, k4⟩ := grow hsub hoc
    have hKnone : ∀ a, s.heap.objs.size ≤ a → K.get? a = none := fun a ha => by
      cases e : K.get? a with
      | none => rfl
      | some o => have := g.sub _ _ e; rw [hz a ha] at this; cases this
    have hB : Sub B.base K' := g.base.trans k1
    have hcell' : K'.IsCell (s.heap.objs.size + 1) (some v1) := ⟨oc, k3, hocd⟩
    let C : Cx (B.at K' hB) F := { A := A.deeper (envOfC F.name F.scope s.heap.objs.size f D.cd), L := s.heap.objs.size, fa := some f, fr := some s.heap.objs.size, cells := [(p1, s.heap.objs.size + 1)], cd := D.cd, entry := s.heap, K₀ := K, gin := G.map (·.1), held := [], hh := hh, hu := by show A.units + 3 + 64 < cLine; omega }
    have henv : C.env = envOfC F.name F.scope s.heap.objs.size f D.cd := by
      show _ = ({ scope := F.scope, locals := s.heap.objs.size, globals := mainGlobals, cells := cellsFrom (s.heap.objs.size + 1) F.scope.names [], qual := F.name ++ ".<locals>.", func := some f, code := D.cd, frame := some s.heap.objs.size, builtins := builtinsNs } : Env)
      rw [hcl]; rfl
    have hnone : ∀ a, K.get? a = none → a ≠ s.heap.objs.size + 1 → K'.get? a = none := fun a h1 h2 => by
      cases e : K'.get? a with
      | none => rfl
      | some o =>
        rcases k4 _ _ e with z | z
        · rw [h1] at z; cases z
        · exact absurd z h2
    have gI : Inv C K' (some l0 :: List.replicate (F.names.length - 1) none) G { s with heap := h₁, toks := tk } := by
      have hGlt : ∀ x ∈ G, x.1 < s.heap.objs.size := fun x hx => by
        obtain ⟨o, e1⟩ := (g.gl x hx).here
        exact Heap.lt_size e1
      refine ⟨⟨k2, Sub.refl K', fun x hx => (GIs.heap (Fr₁.keep _) (g.gl x hx)).mono k1, fun x hx => hnone _ (g.out x hx) ?_, g.nd, g.gens, g.os⟩, ⟨_, Fr₁.ns, fun i l e => ?_⟩, ?_, hnone _ (hKnone _ (Nat.le_refl _)) ?_, Nat.le_refl _, fun b o e => ?_, fun b o e _ => Fr₁.keep b o e, fun x hx => ⟨?_, .inl (List.mem_map_of_mem hx)⟩, fun p hp => nomatch hp⟩
      · exact Nat.ne_of_lt (Nat.lt_succ_of_lt (hGlt x hx))
      · cases i with
        | zero =>
          cases e
          refine ⟨p0, v0, by rw [hrest]; rfl, ?_, hv0.mono k1⟩
          unfold bindL
          rw [if_pos kind0]
          unfold bindL
          rw [if_neg (by rw [kind1]; simp)]
          unfold bindL
          simp
        | succ i =>
          rw [List.getElem?_cons_succ] at e
          have := List.mem_of_getElem? e
          rw [List.mem_replicate] at this
          cases this.2
      · rw [List.length_cons, List.length_replicate, hrest]; simp
      · exact Nat.ne_of_lt (Nat.lt_succ_self _)
      · rcases k4 _ _ e with z | z
        · exact .inl z
        · exact .inr (by rw [z]; exact Nat.le_succ _)
      · exact Nat.ne_of_lt (hGlt x hx)
    show wpAny C.M C.A (execs body (envOfC F.name F.scope s.heap.objs.size f D.cd)) _ _ _
    rw [← henv]
    refine h K' hB C (s.heap.objs.size + 1) v1 rfl hcell' (hv1.mono k1) rfl (by show A.depth + 1 + k < recursionLimit; omega) (by show A.units + 3 + 4 * k + 70 < cLine; omega) K' _ gI _ _ fun K'' fl s' o k' ho hi => ?_
    obtain ⟨l, G', rfl, hG', hP⟩ := ho
    obtain ⟨v, Λ', rfl, hl, g'⟩ := hi
    exact q K'' v s' l G' (k1.trans k') ⟨g'.gi.sub, hB.trans k', g'.gi.gl, g'.gi.out, g'.gi.nd, g'.gi.gens, g'.gi.os⟩ g'.new (fun b o e n => g'.old b o e n) hG' hP hl
end
end Mine
end
section
open PySem PySem.Calls PyProof.Rows PySem.W PySem.Builtin PySem.Builtin.Str
namespace Mine

theorem Wk.ofT {B : Bs} {A : Around} {elts : List PySem.Expr} {k : Nat} {p : Pos} {I : Addr} {fp wr : List Addr} {n : Nat} {Pt : Nat → Array Value → Prop} {St : Nat → Heap → Prop} {Mid : Nat → Addr → Heap → Prop}
    (W : WalksT B.prog B.w A I fp wr n Pt St Mid) (here : ∀ i h, St i h → ∀ b ∈ wr, ∃ o, h.get? b = some o) :
    Wk B A (.Tuple elts k p) I fp wr n (fun i h h' v => ∃ T vals, v = .ref T ∧ Pt i vals ∧ h.objs.size ≤ T ∧ h'.IsTuple T vals ∧ T ∉ wr) St where
  sub := W.sub
  frame := W.frame
  here := here
  item := fun i s Q E hi st q => W.item i s _ E hi st fun T vals h' tk hP hT hI hM hk => ⟨.ref T, rfl, W.go elts k p i T _ _ _ hM fun h'' st'' hk'' => by
    have hTw := W.apart _ _ _ hM
    refine q _ h'' tk ⟨T, vals, rfl, hP, hT, ?_, hTw⟩ st'' fun b o hb e => hk'' b o hb (hk b o hb e)
    obtain ⟨o, e, r⟩ := hI
    exact ⟨o, hk'' _ _ hTw e, r⟩⟩
  done := W.done
  self := W.self

def enumL (xs : List PyData) : List LV := xs.mapIdx fun i x => LV.tp [.i (i : Nat), .d x]

section
variable {B : Bs} {F F' : Fd} {C : Cx B F} {Λ : Loc} {G : Gs} {O : Out → Prop}
theorem ev_compE {elt e : PySem.Expr} {elts : List PySem.Expr} {kk : Nat} {tp ip p pos : Pos} {x : Str} {scope : Scope} {cl : List (Str × Addr)} {xs : List PyData} {f : LV → PyData} (ok : CompOk C F' scope cl)
    (hx : F.scope.names.lookup x = some .globalImplicit) (hm : B.mg x = none) (hb : B.mb x = some (.type "enumerate")) (hi : Ev C Λ G (eval e C.env) (.d (.list xs)))
    (hE : Each C F' cl G (.Tuple elts kk tp) elt [] (enumL xs) (fun _ => true) f) (hn : xs.length ≤ sizeLine)
    (hs : ∀ x', foldedSetIterable (.Call (.Name x p) [e] [] ip) C.env x' = pure x' := by intro _; rfl) (hst : isStarred e = false := by rfl) (hd : (x == ("__debug__" : Str)) = false := by decide) :
    Ev C Λ G (eval (.ListComp elt [⟨.Tuple elts kk tp, .Call (.Name x p) [e] [] ip, [], 0⟩] scope pos) C.env) (.d (.list ((enumL xs).map f))) := fun K s g Q E q => by
  obtain ⟨hF, hFn, hclos, hcell, hkind, hnames⟩ := ok
  rw [eval_ListComp]
  refine wpAny_comprehension_free (use := none) rfl hs hclos hkind hnames ?_
  show wpAny C.M C.A (do callWith ip (← eval (.Name x p) C.env) [] (backTo ip (starEach [e] C.env)) (backToKw ip (keywordEach [] C.env))) _ E s
  refine wpAny_bind (wp_builtin g hx hm hb ?_ hd)
  have hbt : backTo ip (starEach [e] C.env) = [(false, eval e C.env)] := by rw [starEach_cons hst]; rfl
  rw [hbt]
  refine PySem.callWith_type rfl (evalArgs_plain (spliced_cons (hi K s g _ E fun K₁ v s₁ k₁ g₁ i₁ => spliced_nil ?_)))
  obtain ⟨l, ws, rfl, h1, h2⟩ := is_list i₁
  have hL := isList_sub g₁.gi.sub h1
  obtain ⟨o, e1, r⟩ := id h1
  have hlt := Heap.lt_size (g₁.gi.sub _ _ e1)
  have hlen : ws.length = xs.length := by have := h2.length; simpa using this
  refine call_enumerate_list hL fun h' he hit hsz hk => ?_
  have g₂ : Inv C K₁ Λ G { s₁ with heap := h', toks := s₁.toks } := g₁.keeps hk _
  refine wpAny_pyIter_enum he ?_
  have ne1 : s₁.heap.objs.size + 1 ≠ s₁.heap.objs.size := Nat.succ_ne_self _
  have hle : l ≠ s₁.heap.objs.size + 1 := Nat.ne_of_lt (Nat.lt_succ_of_lt hlt)
  have hli : l ≠ s₁.heap.objs.size := Nat.ne_of_lt hlt
  have W := WalksT.enumerate (prog := B.prog) (w := B.w) (A := C.A) C.hh (s₁.heap.objs.size + 1) s₁.heap.objs.size l ne1 hle hli ws.toArray
  have hz : ws.toArray.size = (enumL xs).length := by simp [enumL, hlen]
  rw [hz] at W
  have apart : ∀ a, s₁.heap.objs.size ≤ a → K₁.get? a = none ∧ a ≠ C.L ∧ (∀ x ∈ G, x.1 ≠ a) ∧ C.entry.objs.size ≤ a ∧ ∀ p ∈ C.held, p.1 ≠ a := fun a ha => by
    have fresh : s₁.heap.get? a = none := by
      cases e : s₁.heap.get? a with
      | none => rfl
      | some o => exact absurd (Heap.lt_size e) (Nat.not_lt.mpr ha)
    refine ⟨?_, fun e => absurd g₁.ltL (by rw [← e]; exact Nat.not_lt.mpr ha), fun x hx e => ?_, Nat.le_trans g₁.lowL (Nat.le_trans (Nat.le_of_lt g₁.ltL) ha), fun p hp e => ?_⟩
    · cases e : K₁.get? a with
      | none => rfl
      | some o => have := g₁.gi.sub _ _ e; rw [fresh] at this; cases this
    · obtain ⟨o, e1⟩ := (g₁.gi.gl x hx).here
      rw [e, fresh] at e1; cases e1
    · have := (g₁.hld p hp).1
      rw [e, fresh] at this; cases this
  have hfil : (enumL xs).filter (fun _ => true) = enumL xs := List.filter_eq_self.mpr fun _ _ => rfl
  refine comp_core (RR := fun acc L' => compPost C.M C.A E none Q acc L') hF hFn hcell hkind hE (by simpa [enumL] using hn) g₂ (Wk.ofT W fun i h st b hb => ?_) ⟨⟨_, he⟩, hit, isList_sub hk hL⟩ (fun b hb => ?_) (fun b hb hn => ?_) (fun i h h'' v hi hPv => ?_) fun K' D L' oL' m' s' k hh gh hns hD => ?_
  · obtain ⟨⟨old, he⟩, ⟨o2, e2, _⟩, _⟩ := st
    rcases List.mem_cons.mp hb with rfl | hb
    · exact ⟨_, he⟩
    · obtain rfl := List.mem_singleton.mp hb
      exact ⟨o2, e2⟩
  · rcases List.mem_cons.mp hb with rfl | hb
    · exact apart _ (Nat.le_succ _)
    · obtain rfl := List.mem_singleton.mp hb
      exact apart _ (Nat.le_refl _)
  · have : b = l := by
      rcases List.mem_cons.mp hb with rfl | hb
      · exact absurd (.head _) hn
      · rcases List.mem_cons.mp hb with rfl | hb
        · exact absurd (.tail _ (.head _)) hn
        · exact List.mem_singleton.mp hb
    exact ⟨o, by rw [this]; exact e1⟩
  · obtain ⟨T, vals, rfl, ⟨t, x', hx', rfl⟩, hT, hIs, hTw⟩ := hPv
    have hi' : i < xs.length := by simpa [enumL] using hi
    have e' : ws[i]? = some x' := by simpa using hx'
    obtain ⟨w, e2, hw⟩ := h2.get (i := i) (l := .d xs[i]) (by simp [hi'])
    rw [e'] at e2
    cases e2
    exact ⟨.tp [.i (i : Nat), .d xs[i]], by simp [enumL, hi'], .inr ⟨T, [.int i t, x'], _, rfl, rfl, hT, hTw, hIs, allIs_cons (int_is _ _ _) (allIs_cons hw allIs_nil)⟩⟩
  · rw [hfil] at hD
    exact ⟨m', hns, fun h' hs' => q K' _ _ (k₁.trans k) (gh.letgo hh hs') hD⟩
end
end Mine
end
section
open PySem PySem.Calls PyProof.Rows PySem.W PySem.Builtin PySem.Builtin.Str
namespace Mine

def stm (i : Nat) : Stmt := (PySem.Challenge.pw_nm0005_01.main.body).getD i (.Pass ⟨0, 0, 0, 0⟩)
def sBody : Stmt → List Stmt
  | .FunctionDef _ _ b _ _ _ _ _ _ _ => b
  | _ => []
def sScope : Stmt → Scope
  | .FunctionDef _ _ _ _ _ _ s _ _ _ => s
  | _ => ⟨.function, [], false, false, []⟩
def sArgs : Stmt → Arguments
  | .FunctionDef _ a _ _ _ _ _ _ _ _ => a
  | _ => default

def F_spliced : Fd := { name := "spliced", scope := sScope (stm 8), names := ["text", "signs", "joins", "at", "sign", "width"], hk := by rfl, hn := by decide +kernel, hnd := by decide +kernel, hdb := by decide +kernel }
def b_spliced : List Stmt := sBody (stm 8)
def F_number_parts : Fd := { name := "number_parts", scope := sScope (stm 9), names := ["text", "end", "digits", "suffix", "base", "good", "value", "sign"], hk := by rfl, hn := by decide +kernel, hnd := by decide +kernel, hdb := by decide +kernel }
def b_number_parts : List Stmt := sBody (stm 9)
def F_escape_at : Fd := { name := "escape_at", scope := sScope (stm 10), names := ["inner", "at", "sign", "end"], hk := by rfl, hn := by decide +kernel, hnd := by decide +kernel, hdb := by decide +kernel }
def b_escape_at : List Stmt := sBody (stm 10)
def F_literal_values : Fd := { name := "literal_values", scope := sScope (stm 11), names := ["text", "most", "inner", "found", "at", "told", "value"], hk := by rfl, hn := by decide +kernel, hnd := by decide +kernel, hdb := by decide +kernel }
def b_literal_values : List Stmt := sBody (stm 11)
def F_literal_octets : Fd := { name := "literal_octets", scope := sScope (stm 12), names := ["text"], hk := by rfl, hn := by decide +kernel, hnd := by decide +kernel, hdb := by decide +kernel }
def b_literal_octets : List Stmt := sBody (stm 12)
def F_draw : Fd := { name := "_law_draw", scope := sScope (stm 22), names := ["well", "size", "numbers", "at", "stirred", "pick"], hk := by rfl, hn := by decide +kernel, hnd := by decide +kernel, hdb := by decide +kernel }
def b_draw : List Stmt := sBody (stm 22)
def F_signs : Fd := { name := "_law_signs", scope := sScope (stm 23), names := ["well", "most", "some", "found", "turn"], hk := by rfl, hn := by decide +kernel, hnd := by decide +kernel, hdb := by decide +kernel }
def b_signs : List Stmt := sBody (stm 23)
def F_value : Fd := { name := "_law_value", scope := sScope (stm 24), names := ["digits", "places"], hk := by rfl, hn := by decide +kernel, hnd := by decide +kernel, hdb := by decide +kernel }
def b_value : List Stmt := sBody (stm 24)
def F_number_due : Fd := { name := "_law_number_due", scope := sScope (stm 25), names := ["text", "ending", "stem", "base", "digits"], hk := by rfl, hn := by decide +kernel, hnd := by decide +kernel, hdb := by decide +kernel }
def b_number_due : List Stmt := sBody (stm 25)
def F_numbers_right : Fd := { name := "_law_numbers_right", scope := sScope (stm 26), names := ["well", "turn", "way", "text", "ending"], hk := by rfl, hn := by decide +kernel, hnd := by decide +kernel, hdb := by decide +kernel }
def b_numbers_right : List Stmt := sBody (stm 26)
def F_escape_due : Fd := { name := "_law_escape_due", scope := sScope (stm 27), names := ["inner", "at", "rest", "sign", "value", "size", "digits"], hk := by rfl, hn := by decide +kernel, hnd := by decide +kernel, hdb := by decide +kernel }
def b_escape_due : List Stmt := sBody (stm 27)
def F_escapes_right : Fd := { name := "_law_escapes_right", scope := sScope (stm 28), names := ["well", "turn", "inner", "at"], hk := by rfl, hn := by decide +kernel, hnd := by decide +kernel, hdb := by decide +kernel }
def b_escapes_right : List Stmt := sBody (stm 28)
def F_octets_due : Fd := { name := "_law_octets_due", scope := sScope (stm 29), names := ["text", "parts", "found", "at", "one_due"], hk := by rfl, hn := by decide +kernel, hnd := by decide +kernel, hdb := by decide +kernel }
def b_octets_due : List Stmt := sBody (stm 29)
def F_literals_right : Fd := { name := "_law_literals_right", scope := sScope (stm 30), names := ["well", "turn", "quote", "text", "piece", "way"], hk := by rfl, hn := by decide +kernel, hnd := by decide +kernel, hdb := by decide +kernel }
def b_literals_right : List Stmt := sBody (stm 30)
def F_spliced_due : Fd := { name := "_law_spliced_due", scope := sScope (stm 31), names := ["text", "third", "sign", "parts", "joins", "many", "part"], hk := by rfl, hn := by decide +kernel, hnd := by decide +kernel, hdb := by decide +kernel }
def b_spliced_due : List Stmt := sBody (stm 31)
def F_rows_right : Fd := { name := "_law_rows_right", scope := sScope (stm 32), names := ["well", "turn", "text", "piece", "which"], hk := by rfl, hn := by decide +kernel, hnd := by decide +kernel, hdb := by decide +kernel }
def b_rows_right : List Stmt := sBody (stm 32)
def F_law : Fd := { name := "law", scope := sScope (stm 33), names := ["script", "well", "parts", "first", "turn"], hk := by rfl, hn := by decide +kernel, hnd := by decide +kernel, hdb := by decide +kernel }
def b_law : List Stmt := sBody (stm 33)

-- the tables
def sDig : List Nat := cs "0123456789"
def sHex : List Nat := cs "0123456789abcdefABCDEF"
def sOct : List Nat := cs "01234567"
def sSuf : List (List Nat) := ["", "u", "l", "ul", "lu"].map cs
def endingsL : List (List Nat) := ["", "u", "U", "l", "L", "ul", "uL", "Ul", "UL", "lu", "lU", "Lu", "LU"].map cs
def spoiltL : List (List Nat) := ["uu", "ll", "ulu", "g", ".", "_", "e", "x", "+"].map cs
def plainL : List (List Nat) := ["z", " ", "8", "0", "é", "ÿ", "Ā", "'", "\"", "c"].map cs
def tornL : List (List Nat) := ["?", "??", "=", "/", ")", "-", "\\", "\n", "\\\n", "\r\n", "\r", "a"].map cs
def shortsL : List (Nat × Int) := [(97, 7), (98, 8), (102, 12), (110, 10), (114, 13), (116, 9), (118, 11), (92, 92), (39, 39), (34, 34), (63, 63)]
def threesL : List (Nat × Nat) := [(61, 35), (40, 91), (47, 92), (41, 93), (39, 94), (60, 123), (33, 124), (62, 125), (45, 126)]
def triOf (x : Str) : Option LV := (threesL.find? fun p => x == tx [p.1]).map fun p => .t [p.2]
def escOf (x : Str) : Option LV := (shortsL.find? fun p => x == tx [p.1]).map fun p => .i p.2

set_option genInjectivity false in
set_option genSizeOf false in
/-- what the top has left -/
structure Tp (B : Bs) where
  a_spliced : Addr
  g_spliced : B.mg "spliced" = some (.ref a_spliced)
  d_spliced : DefAt B a_spliced F_spliced ["text"] b_spliced
  a_number_parts : Addr
  g_number_parts : B.mg "number_parts" = some (.ref a_number_parts)
  d_number_parts : DefAt B a_number_parts F_number_parts ["text"] b_number_parts
  a_escape_at : Addr
  g_escape_at : B.mg "escape_at" = some (.ref a_escape_at)
  d_escape_at : DefAt B a_escape_at F_escape_at ["inner", "at"] b_escape_at
  a_literal_values : Addr
  g_literal_values : B.mg "literal_values" = some (.ref a_literal_values)
  d_literal_values : DefAt B a_literal_values F_literal_values ["text", "most"] b_literal_values
  a_literal_octets : Addr
  g_literal_octets : B.mg "literal_octets" = some (.ref a_literal_octets)
  d_literal_octets : DefAt B a_literal_octets F_literal_octets ["text"] b_literal_octets
  a_draw : Addr
  g_draw : B.mg "_law_draw" = some (.ref a_draw)
  d_draw : DefAt B a_draw F_draw ["well", "size"] b_draw
  a_signs : Addr
  g_signs : B.mg "_law_signs" = some (.ref a_signs)
  d_signs : DefAt B a_signs F_signs ["well", "most", "some"] b_signs
  a_value : Addr
  g_value : B.mg "_law_value" = some (.ref a_value)
  d_value : DefAt B a_value F_value ["digits", "base"] b_value
  a_number_due : Addr
  g_number_due : B.mg "_law_number_due" = some (.ref a_number_due)
  d_number_due : DefAt B a_number_due F_number_due ["text"] b_number_due
  a_numbers_right : Addr
  g_numbers_right : B.mg "_law_numbers_right" = some (.ref a_numbers_right)
  d_numbers_right : DefAt B a_numbers_right F_numbers_right ["well"] b_numbers_right
  a_escape_due : Addr
  g_escape_due : B.mg "_law_escape_due" = some (.ref a_escape_due)
  d_escape_due : DefAt B a_escape_due F_escape_due ["inner", "at"] b_escape_due
  a_escapes_right : Addr
  g_escapes_right : B.mg "_law_escapes_right" = some (.ref a_escapes_right)
  d_escapes_right : DefAt B a_escapes_right F_escapes_right ["well"] b_escapes_right
  a_octets_due : Addr
  g_octets_due : B.mg "_law_octets_due" = some (.ref a_octets_due)
  d_octets_due : DefAt B a_octets_due F_octets_due ["text"] b_octets_due
  a_literals_right : Addr
  g_literals_right : B.mg "_law_literals_right" = some (.ref a_literals_right)
  d_literals_right : DefAt B a_literals_right F_literals_right ["well"] b_literals_right
  a_spliced_due : Addr
  g_spliced_due : B.mg "_law_spliced_due" = some (.ref a_spliced_due)
  d_spliced_due : DefAt B a_spliced_due F_spliced_due ["text"] b_spliced_due
  a_rows_right : Addr
  g_rows_right : B.mg "_law_rows_right" = some (.ref a_rows_right)
  d_rows_right : DefAt B a_rows_right F_rows_right ["well"] b_rows_right
  a_law : Addr
  g_law : B.mg "law" = some (.ref a_law)
  d_law : DefAt B a_law F_law ["script"] b_law
  n_len : B.mg "len" = none
  m_len : B.mb "len" = some (.builtin "len")
  n_ord : B.mg "ord" = none
  m_ord : B.mb "ord" = some (.builtin "ord")
  n_sum : B.mg "sum" = none
  m_sum : B.mb "sum" = some (.builtin "sum")
  n_max : B.mg "max" = none
  m_max : B.mb "max" = some (.builtin "max")
  n_int : B.mg "int" = none
  m_int : B.mb "int" = some (.type "int")
  n_range : B.mg "range" = none
  m_range : B.mb "range" = some (.type "range")
  n_enumerate : B.mg "enumerate" = none
  m_enumerate : B.mb "enumerate" = some (.type "enumerate")
  s_dig : Addr
  g_dig : B.mg "DIGITS" = some (.ref s_dig)
  S_dig : B.base.SetOf (strKind B.prog B.w) s_dig (fun x => sDig.any fun c => x == tx [c]) 10
  s_hex : Addr
  g_hex : B.mg "HEX_DIGITS" = some (.ref s_hex)
  S_hex : B.base.SetOf (strKind B.prog B.w) s_hex (fun x => sHex.any fun c => x == tx [c]) 22
  s_oct : Addr
  g_oct : B.mg "OCTAL_DIGITS" = some (.ref s_oct)
  S_oct : B.base.SetOf (strKind B.prog B.w) s_oct (fun x => sOct.any fun c => x == tx [c]) 8
  s_suf : Addr
  g_suf : B.mg "SUFFIXES" = some (.ref s_suf)
  S_suf : B.base.SetOf (strKind B.prog B.w) s_suf (fun x => sSuf.any fun c => x == tx c) 5
  t_tri : Addr
  g_tri : B.mg "TRIGRAPHS" = some (.ref t_tri)
  v_tri : Str → Option Value
  M_tri : B.base.MapOf (strKind B.prog B.w) t_tri v_tri
  h_tri : ∀ x, (v_tri x).isSome = (triOf x).isSome ∧ ∀ l v, triOf x = some l → v_tri x = some v → l.Is B.base v
  ns_tri : (t_tri == sysModules) = false
  t_esc : Addr
  g_esc : B.mg "ESCAPES" = some (.ref t_esc)
  v_esc : Str → Option Value
  M_esc : B.base.MapOf (strKind B.prog B.w) t_esc v_esc
  h_esc : ∀ x, (v_esc x).isSome = (escOf x).isSome ∧ ∀ l v, escOf x = some l → v_esc x = some v → l.Is B.base v
  ns_esc : (t_esc == sysModules) = false
  x_most : Value
  g_most : B.mg "MOST_OCTET" = some x_most
  i_most : (LV.Is B.base x_most (.i 255))
  x_figures : Value
  g_figures : B.mg "_law_figures" = some x_figures
  i_figures : (LV.Is B.base x_figures (.t (cs "0123456789abcdef")))
  x_after : Value
  g_after : B.mg "_law_after" = some x_after
  i_after : (LV.Is B.base x_after (.t (cs "01234567890123xxabfnrtvABCDEF'\"?qgXde\\ ")))
  x_endings : Value
  g_endings : B.mg "_law_endings" = some x_endings
  i_endings : (LV.Is B.base x_endings (.d (.tuple (endingsL.map fun x => .str (tx x)))))
  x_spoilt : Value
  g_spoilt : B.mg "_law_spoilt" = some x_spoilt
  i_spoilt : (LV.Is B.base x_spoilt (.d (.tuple (spoiltL.map fun x => .str (tx x)))))
  x_plain : Value
  g_plain : B.mg "_law_plain" = some x_plain
  i_plain : (LV.Is B.base x_plain (.d (.tuple (plainL.map fun x => .str (tx x)))))
  x_torn : Value
  g_torn : B.mg "_law_torn" = some x_torn
  i_torn : (LV.Is B.base x_torn (.d (.tuple (tornL.map fun x => .str (tx x)))))
  x_shorts : Value
  g_shorts : B.mg "_law_shorts" = some x_shorts
  i_shorts : (LV.Is B.base x_shorts (.d (.tuple (shortsL.map fun x => .tuple [.str (tx [x.1]), .int x.2]))))
  x_threes : Value
  g_threes : B.mg "_law_threes" = some x_threes
  i_threes : (LV.Is B.base x_threes (.d (.tuple (threesL.map fun x => .tuple [.str (tx [x.1]), .str (tx [x.2])]))))
end Mine
end
section
open PySem PySem.Calls PyProof.Rows PySem.W PySem.Builtin PySem.Builtin.Str
set_option maxRecDepth 4000
namespace Mine

section
variable {B : Bs} {F : Fd} {C : Cx B F} {Λ : Loc} {G : Gs} {O : Out → Prop}
theorem Ev.e {t : Sem Value} {l : LV} (h : Ev C Λ G t l) : EvG C Λ G t fun l' G' => l' = l ∧ G' = G := h.g ⟨rfl, rfl⟩
theorem EvG.to {t : Sem Value} {P P' : LV → Gs → Prop} (h : EvG C Λ G t P) (k : ∀ l G', P l G' → P' l G') : EvG C Λ G t P' := fun K s g Q E q => h K s g Q E fun K' v s' l G' a p b c => q K' v s' l G' a (k l G' p) b c
theorem ev_if2 {test body orelse : PySem.Expr} {pos : Pos} {b : Bool} {l : LV} (ht : Ts C Λ G (isTrue test C.env (eval test C.env)) b) (h1 : b = true → Ev C Λ G (eval body C.env) l) (h2 : b = false → Ev C Λ G (eval orelse C.env) l) :
    Ev C Λ G (eval (.IfExp test body orelse pos) C.env) l := EvG.one (evG_ifexp ht (fun h => (h1 h).g ⟨rfl, rfl⟩) fun h => (h2 h).g ⟨rfl, rfl⟩)
theorem pylong_small {a b : Int} (h : b.natAbs < 2 ^ 64) : divisionGoesByPylong a b = false := by
  unfold divisionGoesByPylong
  have : ((if (b == 0) = true then 0 else b.natAbs.log2 / 30 + 1) > 300) = False := by
    have h2 : b.natAbs.log2 < 64 ∨ b.natAbs = 0 := by
      by_cases h0 : b.natAbs = 0
      · exact .inr h0
      · exact .inl ((Nat.log2_lt h0).mpr h)
    split
    · simp
    · rcases h2 with h2 | h2
      · simp; omega
      · rw [h2]; simp
  simp only [this, decide_false, Bool.false_and]

theorem szl {n : Nat} (h : n ≤ 16777216) : n ≤ sizeLine := Nat.le_trans h (Nat.le_of_ble_eq_true rfl)
-- SHAPES
theorem sh_name {x : Str} {p : Pos} {l : LV} (h : Ev C Λ G (eval (.Name x p) C.env) l) : Ev C Λ G (eval (.Name x p) C.env) l := h
theorem sh_const {c : Const} {k : Nat} {p : Pos} {l : LV} (h : Ev C Λ G (eval (.Constant c k p) C.env) l) : Ev C Λ G (eval (.Constant c k p) C.env) l := h
theorem sh_bin {a b : PySem.Expr} {op : Operator} {p : Pos} {l : LV} (h : Ev C Λ G (eval (.BinOp a op b p) C.env) l) : Ev C Λ G (eval (.BinOp a op b p) C.env) l := h
theorem sh_binr {a b c : LV} {op : Operator} (h : BinR C Λ G op a b c) : BinR C Λ G op a b c := h
theorem sh_cmp {a b : PySem.Expr} {op : CmpOp} {p : Pos} {c : Bool} {whole : Sem Value} (h : Ts C Λ G (isTrue (.Compare a [op] [b] p) C.env whole) c) : Ts C Λ G (isTrue (.Compare a [op] [b] p) C.env whole) c := h
theorem sh_cmpe {a b : PySem.Expr} {op : CmpOp} {p : Pos} {l : LV} (h : Ev C Λ G (eval (.Compare a [op] [b] p) C.env) l) : Ev C Λ G (eval (.Compare a [op] [b] p) C.env) l := h
theorem sh_cmpr {a b : LV} {op : CmpOp} {c : Bool} (h : CmpR C Λ G op a b c) : CmpR C Λ G op a b c := h
theorem sh_not {a : PySem.Expr} {p : Pos} {c : Bool} {whole : Sem Value} (h : Ts C Λ G (isTrue (.UnaryOp .Not a p) C.env whole) c) : Ts C Λ G (isTrue (.UnaryOp .Not a p) C.env whole) c := h
theorem sh_boolop {op : BoolOp} {a : List PySem.Expr} {p : Pos} {c : Bool} {whole : Sem Value} (h : Ts C Λ G (isTrue (.BoolOp op a p) C.env whole) c) : Ts C Λ G (isTrue (.BoolOp op a p) C.env whole) c := h
theorem sh_and {x : PySem.Expr} {r : List PySem.Expr} {c : Bool} (h : Ts C Λ G (allTrue .And (x :: r) C.env) c) : Ts C Λ G (allTrue .And (x :: r) C.env) c := h
theorem sh_or {x : PySem.Expr} {r : List PySem.Expr} {c : Bool} (h : Ts C Λ G (allTrue .Or (x :: r) C.env) c) : Ts C Λ G (allTrue .Or (x :: r) C.env) c := h
theorem sh_len {p pos : Pos} {e : PySem.Expr} {l : LV} (h : Ev C Λ G (eval (.Call (.Name (Str.ofString "len") p) [e] [] pos) C.env) l) : Ev C Λ G (eval (.Call (.Name (Str.ofString "len") p) [e] [] pos) C.env) l := h
theorem sh_callb {v : Value} {ls : List LV} {l : LV} (h : CallB C Λ G v ls l) : CallB C Λ G v ls l := h
theorem sh_slice {v : PySem.Expr} {lo hi : Option PySem.Expr} {p pos : Pos} {l : LV} (h : Ev C Λ G (eval (.Subscript v (.Slice lo hi none p) pos) C.env) l) : Ev C Λ G (eval (.Subscript v (.Slice lo hi none p) pos) C.env) l := h
theorem sh_evo {e : PySem.Expr} {i : Int} (h : Ev C Λ G (eval e C.env) (.i i)) : EvO C Λ G (some e) (some i) := h
theorem evo_none : EvO C Λ G none none := True.intro
end
local macro_rules | `(tactic| trivial) => `(tactic| ((with_reducible apply sh_name); first | exact ev_name (i := 0) rfl rfl | exact ev_name (i := 1) rfl rfl | exact ev_name (i := 2) rfl rfl | exact ev_name (i := 3) rfl rfl | exact ev_name (i := 4) rfl rfl | exact ev_name (i := 5) rfl rfl | exact ev_name (i := 6) rfl rfl | exact ev_name (i := 7) rfl rfl))
local macro_rules | `(tactic| trivial) => `(tactic| ((with_reducible apply sh_const); first | exact ev_int | exact ev_text | exact ev_none | exact ev_bool))
local macro_rules | `(tactic| trivial) => `(tactic| ((with_reducible apply sh_binr); first | exact bin_add | exact bin_sub | exact bin_mul (IntMulOk.of_left (by decide)) | exact bin_mod (by decide) (pylong_small (by decide)) | exact bin_catT (by first | assumption | exact szl (by omega) | exact szl (by simp; omega))))
local macro_rules | `(tactic| trivial) => `(tactic| ((with_reducible apply sh_cmpr); first | exact cmp_lt | exact cmp_gt | exact cmp_leI | exact cmp_geI | exact cmp_eqI | exact cmp_eqT | exact cmp_neT))
local macro_rules | `(tactic| trivial) => `(tactic| ((with_reducible apply sh_callb); first | exact call_len (by first | assumption | exact szl (by omega) | exact szl (by simp; omega)) | exact call_lenL (by first | assumption | exact szl (by omega) | exact szl (by simp; omega)) | exact call_lenT (by first | assumption | exact szl (by omega) | exact szl (by simp; omega))))
local macro_rules | `(tactic| trivial) => `(tactic| exact ts_and_nil)
local macro_rules | `(tactic| trivial) => `(tactic| exact ts_or_nil)
local macro_rules | `(tactic| trivial) => `(tactic| exact evo_none)
local macro_rules | `(tactic| trivial) => `(tactic| ((with_reducible apply sh_bin); exact ev_bin (by trivial) (by trivial) (by trivial)))
local macro_rules | `(tactic| trivial) => `(tactic| ((with_reducible apply sh_cmp); exact ts_cmp (by trivial) (by trivial) (by trivial)))
local macro_rules | `(tactic| trivial) => `(tactic| ((with_reducible apply sh_cmpe); exact ev_cmp (by trivial) (by trivial) (by trivial)))
local macro_rules | `(tactic| trivial) => `(tactic| ((with_reducible apply sh_not); exact ts_not (by trivial)))
local macro_rules | `(tactic| trivial) => `(tactic| ((with_reducible apply sh_boolop); exact ts_bool (by trivial)))
local macro_rules | `(tactic| trivial) => `(tactic| ((with_reducible apply sh_and); exact ts_and (by trivial) (fun _ => (by trivial))))
local macro_rules | `(tactic| trivial) => `(tactic| ((with_reducible apply sh_or); exact ts_or (by trivial) (fun _ => (by trivial))))
local macro_rules | `(tactic| trivial) => `(tactic| ((with_reducible apply sh_len); exact ev_callB (.fn _) (by rfl) (Tp.n_len ‹_›) (Tp.m_len ‹_›) (evL_cons (by trivial) evL_nil) (by trivial)))
local macro_rules | `(tactic| trivial) => `(tactic| ((with_reducible apply sh_slice); exact ev_slice (by trivial) (by trivial) (by trivial) (by first | assumption | exact szl (by omega) | exact szl (by simp; omega))))
local macro_rules | `(tactic| trivial) => `(tactic| ((with_reducible apply sh_evo); exact (by trivial)))
def wellG (wa : Addr) (ns : List Int) (at_ : Nat) (st : Int) : Gs := [(wa, [.d (.list (ns.map .int)), .i at_, .i st])]
theorem setG_one (a : Addr) (x y : List LV) : setG [(a, x)] a y = [(a, y)] := by simp [setG]
theorem setG_id {G : Gs} {a : Addr} {y : List LV} (h : a ∉ G.map (·.1)) : setG G a y = G := by
  unfold setG
  refine (List.map_congr_left fun g hg => ?_).trans (List.map_id' G)
  rw [if_neg fun e => h (by rw [← e]; exact List.mem_map_of_mem hg)]
theorem setG_hd {G : Gs} {a : Addr} {x y : List LV} (h : (((a, x) :: G).map (·.1)).Nodup) : setG ((a, x) :: G) a y = (a, y) :: G := by
  rw [List.map_cons, List.nodup_cons] at h
  have := setG_id (y := y) h.1
  unfold setG at this ⊢
  rw [List.map_cons, if_pos rfl, this]
theorem setG_tl {G : Gs} {a b : Addr} {x y z : List LV} (h : (((b, z) :: (a, x) :: G).map (·.1)).Nodup) : setG ((b, z) :: (a, x) :: G) a y = (b, z) :: (a, y) :: G := by
  rw [List.map_cons, List.nodup_cons] at h
  have h2 := setG_hd (y := y) h.2
  have hne : b ≠ a := fun e => h.1 (by rw [e]; exact .head _)
  unfold setG at h2 ⊢
  rw [List.map_cons, if_neg hne, h2]

section
variable {B : Bs} {F : Fd} {C : Cx B F} {Λ : Loc} {G : Gs} {O : Out → Prop}
theorem ex_nd {t : Sem Flow} (h : (G.map (·.1)).Nodup → Ex C Λ G t O) : Ex C Λ G t O := fun K s g => h g.gi.nd K s g

theorem draw_spec (T : Tp B) {wa : Addr} {ns : List Int} {at_ : Nat} {st size : Int} (hns : ns.length ≤ 63) (hs : 0 < size) (hs2 : size < 2 ^ 60) :
    Spec B T.a_draw 1 [.r wa, .i size] (wellG wa ns at_ st) fun l G' => ∃ (j : Int) (at' : Nat) (st' : Int), l = .i j ∧ 0 ≤ j ∧ j < size ∧ G' = wellG wa ns at' st' := by
  refine spec_of T.d_draw ⟨_, rfl⟩ (by decide +kernel) rfl fun C hgin hd hu => ?_
  have hlen : (ns.map PyData.int).length ≤ sizeLine := by rw [List.length_map]; exact Nat.le_trans hns (by decide)
  refine ex_cons (ex_assignT (ev_name (i := 0) rfl rfl).e ?_)
  rintro l G' ⟨rfl, rfl⟩
  refine ⟨_, as_tuple (.own _ _ (.head _)) rfl rfl (asAll_cons (as_name (i := 2) rfl) (asAll_cons (as_name (i := 3) rfl) (asAll_cons (as_name (i := 4) rfl) asAll_nil))), ?_⟩
  refine ex_cons (ex_assign1 (i := 5) (l := .i (if (at_ : Int) < ns.length then ns.getD at_ 0 else st)) rfl ?_ ?_)
  · refine ev_if2 (b := decide ((at_ : Int) < (ns.map PyData.int).length)) ?_ ?_ ?_
    · trivial
    · intro h
      rw [decide_eq_true_eq, List.length_map] at h
      rw [if_pos h]
      have h' : at_ < ns.length := by omega
      exact ev_sub (by trivial) (by trivial) (sub_list (Int.natCast_nonneg _) (by simp [List.getD_eq_getElem?_getD, h']) (by omega))
    · intro h
      rw [decide_eq_false_iff_not, List.length_map] at h
      rw [if_neg h]
      trivial
  generalize (if (at_ : Int) < ns.length then ns.getD at_ 0 else st) = pick
  unfold wellG
  refine ex_cons (ex_setItem (k := 1) (.head _) (by trivial) (by trivial) (by trivial) (by decide) (by simp) (Nat.le_of_ble_eq_true rfl) ?_)
  rw [setG_one]
  refine ex_cons (ex_setItem (k := 2) (.head _) (by trivial) (by trivial) (by trivial) (by decide) (by simp) (Nat.le_of_ble_eq_true rfl) ?_)
  rw [setG_one]
  refine ex_cons (ex_return1 (ev_bin (by trivial) (by trivial) (bin_mod (by omega) (pylong_small (by omega)))) ?_)
  exact ⟨_, _, rfl, fun g' hg => List.mem_map_of_mem (f := (·.1)) hg, pick.fmod size, at_ + 1, _, rfl, Int.fmod_nonneg_of_pos _ hs, Int.fmod_lt_of_pos _ hs, rfl⟩
end

section
variable {B : Bs} {F : Fd} {C : Cx B F} {Λ : Loc} {G : Gs} {O : Out → Prop}
theorem subLoc_nil : SubLoc [] [] := ⟨rfl, fun i l e => by simp at e⟩
theorem subLoc_some {x : Option LV} {a b : Loc} (h : SubLoc a b) : SubLoc (x :: a) (x :: b) := ⟨by rw [List.length_cons, List.length_cons, h.1], fun i l e => by
  cases i with
  | zero => exact e
  | succ i => exact h.2 i l e⟩
theorem subLoc_none {x : Option LV} {a b : Loc} (h : SubLoc a b) : SubLoc (none :: a) (x :: b) := ⟨by rw [List.length_cons, List.length_cons, h.1], fun i l e => by
  cases i with
  | zero => simp at e
  | succ i => exact h.2 i l e⟩
theorem evG_spec {x : Str} {p : Pos} {e : PySem.Expr} {es : List PySem.Expr} {pos : Pos} {F' : Fd} {f : Addr} {k : Nat} {ps : List Str} {body : List Stmt} {P : LV → Gs → Prop} {ls : List LV} (D : DefAt B f F' ps body) (hm : B.mg x = some (.ref f)) (ha : EvL C Λ G (e :: es) ls) (hS : Spec B f k ls G P)
    (hd : C.A.depth + k < recursionLimit) (hu : C.A.units + 4 * k + 70 < cLine) (hx : F.scope.names.lookup x = some .globalImplicit := by rfl)
    (hdb : (x == ("__debug__" : Str)) = false := by decide) (hs : isStarred e = false := by rfl) : EvG C Λ G (eval (.Call (.Name x p) (e :: es) [] pos) C.env) P :=
  evG_call D hx hm hd hu (fun K s g pos Q E q => ha K s g pos Q E fun K' vs s' ls' G' k p g' i => by
    obtain ⟨rfl, rfl⟩ := p
    exact q K' vs s' _ _ k hS g' i) hdb hs
/-- a built-in called with one thing that is drawn -/
theorem evG_callB1 {x : Str} {p pos : Pos} {e : PySem.Expr} {v : Value} {P P' : LV → Gs → Prop} (hv : BV v) (hm : B.mg x = none) (hb : B.mb x = some v) (he : EvG C Λ G (eval e C.env) P) (hc : ∀ l G', P l G' → ∃ l', CallB C Λ G' v [l] l' ∧ P' l' G')
    (hx : F.scope.names.lookup x = some .globalImplicit := by rfl) (hs : [e].all (fun e => !isStarred e) = true := by rfl) (hse : isStarred e = false := by rfl) (hd : (x == ("__debug__" : Str)) = false := by decide) : EvG C Λ G (eval (.Call (.Name x p) [e] [] pos) C.env) P' :=
  evG_callB hv hx hm hb (evLG_cons he (fun l G₁ p => evLG_nil (hc l G₁ p)) hse) hs hd
theorem sh_sub {v s : PySem.Expr} {p : Pos} {l : LV} (h : Ev C Λ G (eval (.Subscript v s p) C.env) l) : Ev C Λ G (eval (.Subscript v s p) C.env) l := h

theorem signs_spec (T : Tp B) {wa : Addr} {ns : List Int} {at_ : Nat} {st : Int} {most : Nat} {some_ : List Nat} (hns : ns.length ≤ 63) (hm : most ≤ 60) (hs : 0 < some_.length) (hs2 : some_.length ≤ 100) :
    Spec B T.a_signs 2 [.r wa, .i most, .t some_] (wellG wa ns at_ st) fun l G' => ∃ (x : List Nat) (at' : Nat) (st' : Int), l = .t x ∧ x.length ≤ most ∧ (∀ c ∈ x, c ∈ some_) ∧ G' = wellG wa ns at' st' := by
  refine spec_of T.d_signs ⟨_, rfl⟩ (by decide +kernel) rfl fun C hgin hd hu => ?_
  refine ex_cons (ex_assign1 (i := 3) rfl ev_text ?_)
  refine ex_cons ?_
  refine ex_for (σ := List Nat × Nat × Int) (P := fun l G' => ∃ (n : Nat) (at' : Nat) (st' : Int), l = .rg n ∧ n ≤ most ∧ G' = wellG wa ns at' st') ?_ ?_
  · refine evG_callB1 (.ty _) T.n_range T.m_range (evG_spec T.d_draw T.g_draw (evL_cons ?_ (evL_cons ?_ evL_nil)) (draw_spec T hns (size := most + 1) (by omega) (by omega)) (by omega) (by omega)) ?_
    · trivial
    · trivial
    rintro l G' ⟨j, at', st', rfl, h0, h1, rfl⟩
    obtain ⟨n, rfl⟩ := Int.eq_ofNat_of_zero_le h0
    exact ⟨_, call_rangeI, n, at', st', rfl, by omega, rfl⟩
  rintro l G₀ ⟨n, at₁, st₁, rfl, hn, rfl⟩
  refine ⟨_, fun i x => [some (.r wa), some (.i most), some (.t some_), some (.t x.1), none], fun i x => [some (.r wa), some (.i most), some (.t some_), some (.t x.1), some (.i (i : Nat))], fun i x => wellG wa ns x.2.1 x.2.2,
    fun i x => x.1.length ≤ i ∧ ∀ c ∈ x.1, c ∈ some_, ([], at₁, st₁), itR_range (Int.natCast_nonneg _) (by omega), ⟨Nat.le_refl _, fun c h => nomatch h⟩, subLoc_some (subLoc_some (subLoc_some (subLoc_some (subLoc_none subLoc_nil)))), rfl, ?_, ?_, ?_⟩
  · intro i x l hx hl a o
    have hi : i < n := by have := (List.getElem?_eq_some_iff.mp hl).1; simpa using this
    have : l = .i (i : Nat) := by simpa [hi] using hl.symm
    subst this
    exact as_name (i := 4) rfl
  · rintro i ⟨x, at₂, st₂⟩ hi ⟨hx1, hx2⟩ a o
    have hi' : i < n := by simpa using hi
    have hx1 : x.length ≤ i := hx1
    have hx2 : ∀ c ∈ x, c ∈ some_ := hx2
    refine ex_cons (ex_assign (i := 3) (P := fun l G' => ∃ (y : List Nat) (at' : Nat) (st' : Int), l = .t y ∧ y.length ≤ i + 1 ∧ (∀ c ∈ y, c ∈ some_) ∧ G' = wellG wa ns at' st') rfl ?_ ?_)
    · refine evG_bin (ev_name (i := 3) rfl rfl).e ?_
      rintro l G' ⟨rfl, rfl⟩
      refine (evG_sub (P' := fun l G' => ∃ (c : Nat) (at' : Nat) (st' : Int), l = .t [c] ∧ c ∈ some_ ∧ G' = wellG wa ns at' st') (ev_name (i := 2) rfl rfl).e ?_).to ?_
      · rintro l G' ⟨rfl, rfl⟩
        refine (evG_spec T.d_draw T.g_draw (evL_cons (by trivial) (evL_cons (by trivial) evL_nil)) (draw_spec T hns (size := some_.length) (by omega) (by omega)) (by show C.A.depth + 1 < recursionLimit; omega) (by show C.A.units + 4 * 1 + 70 < cLine; omega)).to ?_
        rintro l G' ⟨j, at', st', rfl, h0, h1, rfl⟩
        refine ⟨_, sub_text h0 h1 (szl (by omega)), _, at', st', rfl, ?_, rfl⟩
        have : j.toNat < some_.length := by omega
        simp [List.getD_eq_getElem?_getD, this]
      · rintro l G' ⟨c, at', st', rfl, hc, rfl⟩
        refine ⟨_, bin_catT (szl (by simp; omega)), _, at', st', rfl, by simp; omega, fun c' h => ?_, rfl⟩
        rcases List.mem_append.mp h with h | h
        · exact hx2 _ h
        · obtain rfl := List.mem_singleton.mp h
          exact hc
    · rintro l G' ⟨y, at', st', rfl, hy1, hy2, rfl⟩
      refine ex_nil ⟨(y, at', st'), ⟨hy1, hy2⟩, subLoc_some (subLoc_some (subLoc_some (subLoc_some (subLoc_none subLoc_nil)))), rfl⟩
  · rintro ⟨x, at₂, st₂⟩ ⟨hx1, hx2⟩
    refine ex_cons (ex_return1 (by trivial) ?_)
    exact ⟨_, _, rfl, fun g' hg => List.mem_map_of_mem (f := (·.1)) hg, x, at₂, st₂, rfl, by simp at hx1; omega, hx2, rfl⟩
end

/-- the signs that can be drawn -/
def AlphaB (c : Nat) : Bool := c < 128 || c == 233 || c == 255 || c == 256
def lowc (c : Nat) : Nat := if 65 ≤ c ∧ c ≤ 90 then c + 32 else if c = 256 then 257 else c
def fv (c : Nat) : Int := if dv c = 99 then -1 else dv c
theorem signs_all : ((List.range 128 ++ [233, 255, 256]).all fun c => Txt.lower (tx [c]) == tx [lowc c] && Txt.find (tx (cs "0123456789abcdef")) (tx [lowc c]) == fv c) = true := by decide +kernel
theorem alpha_mem {c : Nat} (h : AlphaB c = true) : c ∈ List.range 128 ++ [233, 255, 256] := by
  unfold AlphaB at h
  simp only [Bool.or_eq_true, decide_eq_true_eq, beq_iff_eq] at h
  simp only [List.mem_append, List.mem_range, List.mem_cons, List.not_mem_nil, or_false]
  omega
theorem lower_one {c : Nat} (h : AlphaB c = true) : Txt.lower (tx [c]) = tx [lowc c] := by
  have := List.all_eq_true.mp signs_all c (alpha_mem h)
  rw [Bool.and_eq_true, beq_iff_eq, beq_iff_eq] at this; exact this.1
theorem find_one {c : Nat} (h : AlphaB c = true) : Txt.find (tx (cs "0123456789abcdef")) (tx [lowc c]) = fv c := by
  have := List.all_eq_true.mp signs_all c (alpha_mem h)
  rw [Bool.and_eq_true, beq_iff_eq, beq_iff_eq] at this; exact this.2
theorem lower_tx {l : List Nat} (h : ∀ c ∈ l, c < 128) : Txt.lower (tx l) = tx (l.map lowc) := by
  have hh : ∀ c ∈ (tx l).cps.toList, c < 128 := by rw [tx_cps]; exact h
  have e := lower_ascii hh
  rw [e]
  apply Str.ext'
  apply Array.toList_inj.mp
  simp only [tx, List.map_toArray]
  refine List.map_congr_left fun c hc => ?_
  have hc' := h c hc
  have key : ((List.range 128).all fun c => lo1 c == lowc c) = true := by decide +kernel
  have := List.all_eq_true.mp key c (List.mem_range.mpr hc')
  exact beq_iff_eq.mp this

/-- what _law_value gives -/
def lv (base : Nat) (l : List Nat) : Int := if l.all (fun c => dv c < base) && !l.isEmpty then worthOf base l else -1
theorem fv_in {base c : Nat} (hb : base ≤ 16) : (decide (0 ≤ fv c) && decide (fv c < base)) = decide (dv c < base) := by
  unfold fv
  split
  · rename_i h; rw [h]; simp; omega
  · rename_i h; simp
theorem worth_snoc (base : Nat) (l : List Nat) (c : Nat) : worthOf base (l ++ [c]) = worthOf base l * base + dv c := by simp [worthOf]
/-- the sum over the reversed places -/
theorem sum_places {base : Nat} (hb : base ≤ 16) : ∀ (l : List Nat), (l.all fun c => dv c < base) = true → (((l.map fv).reverse.mapIdx fun i p => p * (base : Int) ^ i)).sum = worthOf base l := by
  intro l
  have go : ∀ (r : List Nat) (k : Nat), (r.all fun c => dv c < base) = true → ((r.map fv).mapIdx fun i p => p * (base : Int) ^ (i + k)).sum = (worthOf base r.reverse : Int) * (base : Int) ^ k := by
    intro r
    induction r with
    | nil => intro k _; simp [worthOf]
    | cons c r ih =>
      intro k h
      rw [List.all_cons, Bool.and_eq_true, decide_eq_true_eq] at h
      have hc : fv c = dv c := by unfold fv; rw [if_neg (by omega)]
      rw [List.map_cons, List.mapIdx_cons, List.sum_cons, List.reverse_cons, worth_snoc, hc]
      have := ih (k + 1) h.2
      have e : (List.mapIdx (fun i p => p * (base : Int) ^ (i + 1 + k)) (List.map fv r)) = (List.mapIdx (fun i p => p * (base : Int) ^ (i + (k + 1))) (List.map fv r)) := by
        congr 1; funext i p; congr 2; omega
      rw [e, this, Int.natCast_add, Int.natCast_mul, Int.add_mul, Int.mul_assoc]
      rw [show (base : Int) ^ (k + 1) = base * (base : Int) ^ k by rw [Int.pow_succ, Int.mul_comm]]
      simp
      omega
  intro h
  have := go l.reverse 0 (by rw [List.all_reverse]; exact h)
  rw [List.reverse_reverse, Int.pow_zero, Int.mul_one] at this
  rw [← List.map_reverse]
  exact this


def lcScope : PySem.Expr → Scope
  | .ListComp _ _ s _ => s
  | _ => ⟨.function, [], false, false, []⟩
def env0 (s : Scope) : Env := { scope := s, locals := 0, globals := 0, cells := [] }
def asgE : Stmt → PySem.Expr
  | .Assign _ e _ => e
  | .Return (some e) _ => e
  | .If e _ _ _ => e
  | _ => .Constant .none 0 ⟨0, 0, 0, 0⟩
def arg0 : PySem.Expr → PySem.Expr
  | .Call _ (e :: _) _ _ => e
  | .BoolOp _ (.Compare e _ _ _ :: _) _ => e
  | .Compare e _ _ _ => e
  | e => e
def sc_v1 : Scope := lcScope (asgE (b_value.getD 0 (.Pass ⟨0, 0, 0, 0⟩)))
def sc_v2 : Scope := lcScope (arg0 (asgE (b_value.getD 1 (.Pass ⟨0, 0, 0, 0⟩))))
def sc_v3 : Scope := lcScope (arg0 (asgE (b_value.getD 2 (.Pass ⟨0, 0, 0, 0⟩))))
def F_v1 : Fd := { name := "_law_value", scope := relabel sc_v1 (env0 F_value.scope), names := ["sign"], hk := by rfl, hn := by decide +kernel, hnd := by decide +kernel, hdb := by decide +kernel }
def F_v2 : Fd := { name := "_law_value", scope := relabel sc_v2 (env0 F_value.scope), names := ["place"], hk := by rfl, hn := by decide +kernel, hnd := by decide +kernel, hdb := by decide +kernel }
def F_v3 : Fd := { name := "_law_value", scope := relabel sc_v3 (env0 F_value.scope), names := ["power", "place"], hk := by rfl, hn := by decide +kernel, hnd := by decide +kernel, hdb := by decide +kernel }

section
variable {B : Bs} {F F' : Fd} {C : Cx B F} {Λ : Loc} {G : Gs} {O : Out → Prop}
theorem compOk_none {scope : Scope} (hF : F'.scope = relabel scope C.env) (hFn : F'.name = F.name) (hfree : ∀ x ∈ scope.names, x.2 ≠ .free) (hcell : ∀ y ∈ scope.names, y.2 ≠ .cell) (hkind : scope.kind = .function) (hnames : ∀ y ∈ scope.names, y.2 = .local → scope.names.lookup y.1 = some .local) :
    CompOk C F' scope [] := ⟨hF, hFn, closureFor_none hfree, hcell, hkind, hnames⟩
theorem one_of {Λ : Loc} (h : Λ.length = 1) : ∃ x, Λ = [x] := List.length_eq_one_iff.mp h
theorem two_of {Λ : Loc} (h : Λ.length = 2) : ∃ x y, Λ = [x, y] := by
  match Λ, h with
  | [x, y], _ => exact ⟨x, y, rfl⟩

def fvD : LV → PyData
  | .d (.str x) => .int (fv (x.cps.toList.headD 0))
  | _ => .none

/-- what the law's own comparisons meet: none, ints, texts of signs, and lists or tuples of such -/
def flat : PyData → Bool
  | .none | .bool _ | .int _ => true
  | .str x => x.cps.all (· < 0x110000)
  | .list xs | .tuple xs | .dict _ => false
theorem flat_lay {x : PyData} (h : flat x = true) : x.canLay0 = true ∧ x.depth = 0 := by
  cases x <;> first | exact ⟨h, rfl⟩ | exact ⟨rfl, rfl⟩ | (cases h)
theorem flats_lay : ∀ {xs : List PyData}, xs.all flat = true → PyData.canLayAll0 xs = true ∧ PyData.depthAll xs = 0
  | [], _ => ⟨rfl, rfl⟩
  | x :: xs, h => by
    rw [List.all_cons, Bool.and_eq_true] at h
    obtain ⟨a, b⟩ := flat_lay h.1
    obtain ⟨c, d⟩ := flats_lay h.2
    unfold PyData.canLayAll0 PyData.depthAll
    exact ⟨by rw [a, c]; rfl, by rw [b, d]; rfl⟩
theorem shaped_flat {x : PyData} (h : flat x = true) : SeqAt.shaped x = true := by
  obtain ⟨a, b⟩ := flat_lay h
  unfold SeqAt.shaped
  rw [a, b]; rfl
theorem shaped_list {xs : List PyData} (h : xs.all flat = true) : SeqAt.shaped (.list xs) = true := by
  obtain ⟨a, b⟩ := flats_lay h
  unfold SeqAt.shaped PyData.canLay0 PyData.depth
  rw [a, b]; rfl
theorem shaped_tuple {xs : List PyData} (h : xs.all flat = true) : SeqAt.shaped (.tuple xs) = true := by
  obtain ⟨a, b⟩ := flats_lay h
  unfold SeqAt.shaped PyData.canLay0 PyData.depth
  rw [a, b]; rfl
theorem flat_ints (ns : List Int) : (ns.map PyData.int).all flat = true := by
  rw [List.all_map]; exact List.all_eq_true.mpr fun _ _ => rfl
theorem eqv_nil (xs : List PyData) : PyData.eqv (.list xs) (.list []) = xs.isEmpty := by
  unfold PyData.eqv
  cases xs <;> rfl
def unD : LV → PyData
  | .d x => x
  | _ => .none
def outP (base : Nat) : LV → Bool
  | .d (.int x) => !(decide (0 ≤ x) && decide (x < base))
  | _ => false
def powD (base : Nat) : LV → PyData
  | .tp [.d (.int i), .d (.int p)] => .int (p * (base : Int) ^ i.toNat)
  | _ => .none
theorem bits_small {n : Nat} (h : n ≤ 16) : Builtin.Int.intBits (n : Int) ≤ 5 := by
  have : ∀ n : Nat, n < 17 → Builtin.Int.intBits (n : Int) ≤ 5 := by decide
  exact this n (by omega)
theorem sizeT {n m : Nat} (h : n ≤ m) (hm : m ≤ 16777216) : n ≤ sizeLine := szl (Nat.le_trans h hm)

theorem value_spec (T : Tp B) {G : Gs} {l : List Nat} {base : Nat} (hb : base = 16 ∨ base = 8 ∨ base = 10) (hl : l.length ≤ 600) (hA : ∀ c ∈ l, AlphaB c = true) :
    Spec B T.a_value 1 [.t l, .i base] G fun r G' => r = .i (lv base l) ∧ G' = G := by
  refine spec_cell T.d_value (by rfl) (by rfl) (by decide +kernel) (fun n => by rfl) ⟨_, rfl⟩ fun K hK C c v hcells hcell hv hgin hd hu => ?_
  have hfig : ∀ {F'' : Fd} {C' : Cx (B.at K hK) F''} {Λ : Loc} {G : Gs} {p : Pos}, F''.scope.names.lookup ("_law_figures" : Str) = some .globalImplicit → Ev C' Λ G (eval (.Name "_law_figures" p) C'.env) (.t (cs "0123456789abcdef")) := fun h => ev_global h T.g_figures (T.i_figures.mono hK)
  refine ex_cons (ex_comp (F' := F_v1) (i := 1) (ls := l.map fun c => .t [c]) (p := fun _ => true) (f := fvD) (compOk_none rfl rfl (by decide +kernel) (by decide +kernel) rfl (by decide +kernel)) rfl (ev_name (i := 0) rfl rfl) itR_text ?_ ?_ ?_)
  · intro x hx L' held Λ₀ h0
    obtain ⟨c, hc, rfl⟩ := List.mem_map.mp hx
    obtain ⟨y, rfl⟩ := one_of h0
    refine ⟨_, rfl, as_name (i := 0) rfl, tst_nil, fun _ => ?_⟩
    refine ev_find (hfig (by rfl)) (ev_lower (ev_name (i := 0) rfl rfl) (lower_one (hA c hc)) (by simp; decide)) (find_one (hA c hc))
  · simp; exact szl (by omega)
  have e1 : ((l.map fun c => LV.t [c]).filter fun _ => true).map fvD = (l.map fv).map .int := by
    rw [List.filter_eq_self.mpr fun _ _ => rfl, List.map_map, List.map_map]
    exact List.map_congr_left fun c _ => rfl
  rw [e1]
  have hlk : C.env.cells.lookup ("base" : Str) = some c := by show C.cells.lookup _ = _; rw [hcells]; rfl
  have henv : C.env = { scope := F_value.scope, locals := C.L, globals := mainGlobals, cells := [("base", c)], qual := F_value.name ++ ".<locals>.", func := C.fa, code := C.cd, frame := C.fr, builtins := builtinsNs } := by unfold Cx.env; rw [hcells]
  have hclos2 : closureFor sc_v2 C.env = pure [(Str.ofString "base", c)] := by rw [henv]; rfl
  have hclos3 : closureFor sc_v3 C.env = pure [(Str.ofString "base", c)] := by rw [henv]; rfl
  have hb16 : base ≤ 16 := by omega
  have hlen : ((l.map fv).map PyData.int).length ≤ sizeLine := by simp; exact szl (by omega)
  refine ex_cons (ex_if (b := l.any (fun c => !decide (dv c < base)) || l.isEmpty) (ts_eq (ts_bool (ts_or (ts_cmp (ev_comp (F' := F_v2) (l := .d (.list ((l.map fv).map .int))) (ls := ((l.map fv).map PyData.int).map .d) (p := outP base) (f := unD) ⟨rfl, rfl, hclos2, by decide +kernel, rfl, by decide +kernel⟩ (ev_name (i := 1) rfl rfl) itR_list ?_ ?_) (ev_list (xs := []) evL_nil) (cmp_neD ?_ rfl)) fun _ => ts_or (ts_cmp (ev_name (i := 1) rfl rfl) (ev_list (xs := []) evL_nil) (cmp_eqD (shaped_list (flat_ints _)) rfl)) fun _ => ts_or_nil)) ?_) ?_ ?_)
  · intro x hx L' held Λ₀ h0
    simp only [List.map_map, List.mem_map] at hx
    obtain ⟨k, hk, rfl⟩ := hx
    obtain ⟨y, rfl⟩ := one_of h0
    refine ⟨_, rfl, as_name (i := 0) rfl, tst_one ?_, fun _ => ev_name (i := 0) rfl rfl⟩
    exact ts_not (ts_between ev_int (ev_name (i := 0) rfl rfl) cmp_leI (ev_cell (by rfl) (by rfl) hcell hv) cmp_lt)
  · simp; exact szl (by omega)
  · refine shaped_list (List.all_eq_true.mpr fun x hx => ?_)
    obtain ⟨y, hy, rfl⟩ := List.mem_map.mp hx
    have := (List.mem_filter.mp hy).1
    simp only [List.map_map, List.mem_map] at this
    obtain ⟨k, hk, rfl⟩ := this
    rfl
  · rw [eqv_nil, eqv_nil, Bool.or_false]
    congr 1
    · rw [List.isEmpty_map, Bool.eq_iff_iff]
      simp only [Bool.not_eq_true', List.isEmpty_eq_false_iff, ne_eq, List.filter_eq_nil_iff, List.any_eq_true]
      constructor
      · intro h
        apply Classical.byContradiction
        intro h2
        refine h fun x hx => ?_
        simp only [List.map_map, List.mem_map] at hx
        obtain ⟨k, hk, rfl⟩ := hx
        have := fv_in (c := k) hb16
        show ¬ (!(decide (0 ≤ fv k) && decide (fv k < (base : Int)))) = true
        rw [this]
        intro h3
        exact h2 ⟨k, hk, by simpa using h3⟩
      · rintro ⟨k, hk, h3⟩ h
        have h4 := h (.i (fv k)) (by simp only [List.map_map, List.mem_map]; exact ⟨k, hk, rfl⟩)
        have := fv_in (c := k) hb16
        apply h4
        show (!(decide (0 ≤ fv k) && decide (fv k < (base : Int)))) = true
        rw [this]; simpa using h3
    · simp
  · intro h
    refine ex_cons (ex_return1 (ev_neg ev_int) ?_)
    refine ⟨_, _, rfl, fun g' hg => List.mem_map_of_mem (f := (·.1)) hg, ?_, rfl⟩
    unfold lv
    rw [if_neg]
    intro h2
    rw [Bool.and_eq_true, List.all_eq_true] at h2
    rw [Bool.or_eq_true, List.any_eq_true] at h
    rcases h with ⟨k, hk, h3⟩ | h
    · rw [h2.1 k hk] at h3; cases h3
    · rw [h] at h2; cases h2.2
  · intro h
    rw [Bool.or_eq_false_iff] at h
    have hall : (l.all fun c => decide (dv c < base)) = true := by
      rw [List.all_eq_true]
      intro k hk
      have := List.any_eq_false.mp h.1 k hk
      simpa using this
    refine ex_nil ?_
    have hfv : ∀ k ∈ l, fv k = dv k ∧ dv k < base := fun k hk => by
      have := of_decide_eq_true (List.all_eq_true.mp hall k hk)
      unfold fv
      rw [if_neg (by omega)]
      exact ⟨rfl, this⟩
    have e2 : (enumL ((l.map fv).map PyData.int).reverse).map (powD base) = ((l.map fv).reverse.mapIdx fun i p => p * (base : Int) ^ i).map .int := by
      unfold enumL
      rw [← List.map_reverse]
      apply List.ext_getElem
      · simp
      · intro i h1 h2
        simp [powD]
    refine ex_cons (ex_return1 (l := .i (lv base l)) ?_ ⟨_, _, rfl, fun g' hg => List.mem_map_of_mem (f := (·.1)) hg, rfl, rfl⟩)
    have hsum : lv base l = (((l.map fv).reverse.mapIdx fun i p => p * (base : Int) ^ i)).sum := by
      rw [sum_places hb16 l hall]
      unfold lv
      rw [if_pos]
      rw [hall, h.2]; rfl
    rw [hsum]
    refine ev_callB (.fn _) (by rfl) T.n_sum T.m_sum (evL_cons ?_ evL_nil) call_sumI
    rw [← e2]
    refine ev_compE (F' := F_v3) ⟨rfl, rfl, hclos3, by decide +kernel, rfl, by decide +kernel⟩ (by rfl) T.n_enumerate T.m_enumerate (ev_rev (ev_name (i := 1) rfl rfl) (ev_neg ev_int) hlen) ?_ (by rw [List.length_reverse]; exact hlen)
    intro x hx L' held Λ₀ h0
    obtain ⟨y, z, rfl⟩ := two_of h0
    unfold enumL at hx
    obtain ⟨i, hi, rfl⟩ := List.mem_mapIdx.mp hx
    have hi' : i < l.length := by simpa using hi
    have hget : ((l.map fv).map PyData.int).reverse[i] = .int (fv (l[l.length - 1 - i])) := by simp
    rw [hget]
    obtain ⟨f1, f2⟩ := hfv (l[l.length - 1 - i]) (List.getElem_mem _)
    refine ⟨_, rfl, as_tuple (.tp _) rfl rfl (asAll_cons (as_name (i := 0) rfl) (asAll_cons (as_name (i := 1) rfl) asAll_nil)), tst_nil, fun _ => ?_⟩
    refine ev_bin (ev_name (i := 1) rfl rfl) (ev_bin (ev_cell (by rfl) (by rfl) hcell hv) (ev_name (i := 0) rfl rfl) (bin_pow (Int.natCast_nonneg _) ?_)) (bin_mul (IntMulOk.of_left ?_))
    · have := bits_small hb16
      have h5 : ((Builtin.Int.intBits (base : Int) : Nat) : Int) * (i : Int) ≤ 5 * 600 := by
        refine Int.mul_le_mul ?_ ?_ (Int.natCast_nonneg _) (by decide)
        · omega
        · omega
      omega
    · rw [f1]
      exact Nat.le_trans (bits_small (by omega)) (by decide)
end


/-- one ending of the law's own reading of a number -/
def ndOne (l e : List Nat) : Option PyData :=
  if l.take (l.length - e.length) ++ e ≠ l then none else
  let s := l.take (l.length - e.length)
  if (s.take 2).map lowc = [48, 120] then (if 0 ≤ lv 16 (s.drop 2) then some (.tuple [.int (lv 16 (s.drop 2)), .int 16, .str (tx (e.map lowc))]) else none)
  else if 0 ≤ lv (if s.take 1 = [48] then 8 else 10) s then some (.tuple [.int (lv (if s.take 1 = [48] then 8 else 10) s), .int (if s.take 1 = [48] then 8 else 10), .str (tx (e.map lowc))]) else none
def nd (l : List Nat) : PyData := (endingsL.findSome? (ndOne l)).getD .none

theorem findSome_at {α β : Type} (f : α → Option β) (d : α) {y : β} : ∀ (L : List α) (i : Nat), i < L.length → (∀ j, j < i → f (L.getD j d) = none) → f (L.getD i d) = some y → L.findSome? f = some y
  | [], i, h, _, _ => by simp at h
  | a :: L, 0, _, _, h => by rw [List.findSome?_cons]; rw [show f a = some y from h]
  | a :: L, i + 1, hi, hJ, h => by
    rw [List.findSome?_cons, show f a = none from hJ 0 (by omega)]
    exact findSome_at f d L i (by simpa using hi) (fun j hj => hJ (j + 1) (by omega)) h
theorem findSome_no {α β : Type} (f : α → Option β) (d : α) (L : List α) (h : ∀ j, j < L.length → f (L.getD j d) = none) : L.findSome? f = none := by
  rw [List.findSome?_eq_none_iff]
  intro x hx
  obtain ⟨i, hi, rfl⟩ := List.getElem_of_mem hx
  have := h i hi
  rw [List.getD_eq_getElem?_getD, List.getElem?_eq_getElem hi] at this
  exact this
theorem cs_e : cs "" = [] := by decide +kernel
theorem cs_0 : cs "0" = [48] := by decide +kernel
theorem cs_0x : cs "0x" = [48, 120] := by decide +kernel
theorem cs_0X : cs "0X" = [48, 88] := by decide +kernel
theorem cs_x : cs "x" = [120] := by decide +kernel
theorem cs_bs : cs "\\" = [92] := by decide +kernel
theorem cs_q : cs "?" = [63] := by decide +kernel
theorem cs_qq : cs "??" = [63, 63] := by decide +kernel
theorem cs_n : cs "\n" = [10] := by decide +kernel
theorem cs_rn : cs "\r\n" = [13, 10] := by decide +kernel
theorem cs_r : cs "\r" = [13] := by decide +kernel
theorem cs_bn : cs "\\\n" = [92, 10] := by decide +kernel
section
variable {B : Bs} {F F' : Fd} {C : Cx B F} {Λ : Loc} {G : Gs} {O : Out → Prop}
theorem alpha_ascii {c : Nat} (h : c < 128) : AlphaB c = true := by unfold AlphaB; simp [h]
theorem endings_ascii : ∀ e ∈ endingsL, e.length ≤ 2 ∧ ∀ c ∈ e, c < 128 := by decide +kernel
theorem same_set {Λ : Loc} {i : Nat} {l : LV} (h : Λ[i]? = some (some l)) : Λ.set i (some l) = Λ := by
  apply List.ext_getElem?
  intro j
  rw [List.getElem?_set]
  by_cases hj : i = j
  · subst hj; rw [if_pos rfl, h]; simp [(List.getElem?_eq_some_iff.mp h).1]
  · rw [if_neg hj]

theorem ex_seq (M : Loc → Gs → Prop) {st : Stmt} {rest : List Stmt} (h : Ex C Λ G (exec st C.env) (fun o => match o with
    | .nx Λ' G' => M Λ' G'
    | .rt l G' => O (.rt l G')
    | .br Λ' G' => O (.br Λ' G')
    | .ct Λ' G' => O (.ct Λ' G'))) (k : ∀ Λ' G', M Λ' G' → Ex C Λ' G' (execs rest C.env) O) : Ex C Λ G (execs (st :: rest) C.env) O :=
  ex_cons (h.mono fun o ho => by
    cases o with
    | nx Λ' G' => exact k Λ' G' ho
    | rt l G' => exact ho
    | br Λ' G' => exact ho
    | ct Λ' G' => exact ho)

theorem number_due_spec (T : Tp B) {G : Gs} {l : List Nat} (hl : l.length ≤ 500) (hA : ∀ c ∈ l, c < 128) :
    Spec B T.a_number_due 2 [.t l] G fun r G' => r = .d (nd l) ∧ G' = G := by
  refine spec_of T.d_number_due ⟨_, rfl⟩ (by decide +kernel) rfl fun C hgin hd hu => ?_
  have hG : ∀ {G' : Gs}, G' = G → ∀ g' ∈ G', g'.1 ∈ G.map (·.1) := fun e g' hg => List.mem_map_of_mem (f := (·.1)) (e ▸ hg)
  refine ex_cons ?_
  refine ex_for (σ := Unit) (ev_global (by rfl) T.g_endings T.i_endings).e ?_
  rintro _ G₀ ⟨rfl, hg⟩
  obtain rfl := hg.symm
  refine ⟨_, fun _ _ => [some (.t l), none, none, none, none], fun i _ => [some (.t l), some (.t (endingsL.getD i [])), none, none, none], fun _ _ => G, fun i _ => ∀ j, j < i → ndOne l (endingsL.getD j []) = none, (), itR_tuple, fun j h => absurd h (Nat.not_lt_zero j), subLoc_some (subLoc_none (subLoc_none (subLoc_none (subLoc_none subLoc_nil)))), rfl, ?_, ?_, ?_⟩
  · intro i x y hx hy a o
    have : y = .t (endingsL.getD i []) := by
      rw [List.map_map, List.getElem?_map] at hy
      obtain ⟨z, hz, rfl⟩ := Option.map_eq_some_iff.mp hy
      rw [List.getD_eq_getElem?_getD, hz]; rfl
    subst this
    exact as_name (i := 1) rfl
  · intro i x hi hJ a o
    have hi' : i < endingsL.length := by simpa using hi
    show Ex (C.hold a o) [some (.t l), some (.t (endingsL.getD i [])), none, none, none] G _ _
    have hmem : endingsL.getD i [] ∈ endingsL := by
      rw [List.getD_eq_getElem?_getD, List.getElem?_eq_getElem hi']; exact List.getElem_mem _
    generalize he : endingsL.getD i [] = e at *
    obtain ⟨he2, heA⟩ := endings_ascii e hmem
    have hle : l.length ≤ sizeLine := szl (by omega)
    have hee : e.length ≤ sizeLine := szl (by omega)
    refine ex_cons (ex_assign1 (i := 2) (l := .t (l.take (l.length - e.length))) rfl (ev_eq (ev_slice (by trivial) (a := none) evo_none (show EvO _ _ _ (some _) (some _) from ev_callB (.fn _) (by rfl) T.n_max T.m_max (evL_cons ev_int (evL_cons (by trivial) evL_nil)) call_maxI) hle) ?_) ?_)
    · rw [sl_to _ (by split <;> omega)]
      congr 3
      split <;> omega
    generalize hs : l.take (l.length - e.length) = s
    have hsl : s.length ≤ 500 := by rw [← hs]; simp; omega
    have hsA : ∀ c ∈ s, c < 128 := fun c hc => hA c (by rw [← hs] at hc; exact List.mem_of_mem_take hc)
    refine ex_cons (ex_if (b := s ++ e != l) (by trivial) (fun h => ex_cons (ex_continue ⟨(), fun j hj => ?_, ?_, rfl⟩)) fun h => ex_nil ?_)
    · by_cases hji : j < i
      · exact hJ j hji
      · have : j = i := by omega
        subst this
        rw [he]
        unfold ndOne
        rw [if_pos]
        rw [hs]
        simpa using h
    · exact subLoc_some (subLoc_none (subLoc_none (subLoc_none (subLoc_none subLoc_nil))))
    have hse : s ++ e = l := by simpa using h
    refine ex_cons (ex_assignS (P := fun x G' => x = .tp [.i (if s.take 1 = [48] then 8 else 10), .t s] ∧ G' = G) ?_ rfl ?_)
    · refine (ev_tuple (evL_cons ?_ (evL_cons (by trivial) evL_nil)) (Nat.le_of_ble_eq_true rfl)).e
      refine ev_eq (ev_ifexp (b := s.take 1 == [48]) (x := .i 8) (y := .i 10) (ts_eq (ts_cmp (ev_slice (by trivial) (a := none) evo_none (show EvO _ _ _ (some _) (some _) from ev_int) (szl (by omega))) ev_text cmp_eqT) ?_) (fun _ => ev_int) (fun _ => ev_int)) ?_
      · rw [sl_to _ (by decide), cs_0]; rfl
      · by_cases h0 : s.take 1 = [48] <;> simp [h0]
    rintro _ G₀ ⟨rfl, hg⟩
    obtain rfl := hg.symm
    refine ⟨_, _, .tp _, rfl, asAll_bind (i := 4) rfl (asAll_bind (i := 3) rfl asAll_nil), ?_⟩
    -- the base is told
    have hnd : ndOne l e = if (s.take 2).map lowc = [48, 120] then (if 0 ≤ lv 16 (s.drop 2) then some (.tuple [.int (lv 16 (s.drop 2)), .int 16, .str (tx (e.map lowc))]) else none)
        else if 0 ≤ lv (if s.take 1 = [48] then 8 else 10) s then some (.tuple [.int (lv (if s.take 1 = [48] then 8 else 10) s), .int (if s.take 1 = [48] then 8 else 10), .str (tx (e.map lowc))]) else none := by
      unfold ndOne
      rw [hs, if_neg (fun h => h hse)]
    -- the base is told
    refine ex_seq (fun Λ' G' => ∃ (bs : Nat) (dg : List Nat), (bs = 16 ∨ bs = 8 ∨ bs = 10) ∧ dg.length ≤ 500 ∧ (∀ c ∈ dg, c < 128) ∧ ndOne l e = (if 0 ≤ lv bs dg then some (.tuple [.int (lv bs dg), .int bs, .str (tx (e.map lowc))]) else none) ∧
      Λ' = [some (.t l), some (.t e), some (.t s), some (.i bs), some (.t dg)] ∧ G' = G) ?_ ?_
    · have hlow2 : Txt.lower (tx (s.take 2)) = tx ((s.take 2).map lowc) := lower_tx fun c hc => hsA c (List.mem_of_mem_take hc)
      refine ex_if (b := (s.take 2).map lowc == [48, 120]) (ts_eq (ts_cmp (ev_lower (m := (s.take 2).map lowc) (ev_eq (ev_slice (by trivial) (a := none) evo_none (show EvO _ _ _ (some _) (some _) from ev_int) (szl (by omega))) ?_) hlow2 (szl (by simp; omega))) ev_text cmp_eqT) ?_) ?_ ?_
      · rw [sl_to _ (by decide)]; rfl
      · rw [cs_0x]
      · intro h2
        have h2' : (s.take 2).map lowc = [48, 120] := by simpa using h2
        refine ex_cons (ex_assignS (P := fun x G' => x = .tp [.i 16, .t (s.drop 2)] ∧ G' = G) ?_ rfl ?_)
        · refine (ev_tuple (evL_cons ev_int (evL_cons (ev_eq (ev_slice (by trivial) (b := none) (show EvO _ _ _ (some _) (some _) from ev_int) evo_none (szl (by omega))) ?_) evL_nil)) (Nat.le_of_ble_eq_true rfl)).e
          rw [sl_from _ (by decide)]; rfl
        rintro _ G₀ ⟨rfl, hg⟩
        obtain rfl := hg.symm
        refine ⟨_, _, .tp _, rfl, asAll_bind (i := 4) rfl (asAll_bind (i := 3) rfl asAll_nil), ?_⟩
        refine ex_nil ⟨16, s.drop 2, .inl rfl, by simp; omega, fun c hc => hsA c (List.mem_of_mem_drop hc), ?_, rfl, rfl⟩
        rw [hnd, if_pos h2']; rfl
      · intro h2
        have h2' : ¬ (s.take 2).map lowc = [48, 120] := by simpa using h2
        refine ex_nil ⟨if s.take 1 = [48] then 8 else 10, s, by split <;> omega, hsl, hsA, ?_, ?_, rfl⟩
        · rw [hnd, if_neg h2']
          by_cases h0 : s.take 1 = [48] <;> simp [h0]
        · by_cases h0 : s.take 1 = [48] <;> simp [h0]
    rintro _ G₀ ⟨bs, dg, hbs, hdl, hdA, hone, rfl, hg⟩
    obtain rfl := hg.symm
    have hval : ∀ {Λ : Loc} {p1 p2 p3 p4 : Pos}, Λ[4]? = some (some (.t dg)) → Λ[3]? = some (some (.i bs)) → Ev (C.hold a o) Λ G (eval (.Call (.Name "_law_value" p1) [.Name "digits" p2, .Name "base" p3] [] p4) (C.hold a o).env) (.i (lv bs dg)) := fun h4 h3 =>
      EvG.one (evG_spec T.d_value T.g_value (evL_cons (ev_name (i := 4) rfl h4) (evL_cons (ev_name (i := 3) rfl h3) evL_nil)) (value_spec T hbs (by omega) fun c hc => alpha_ascii (hdA c hc)) (by show C.A.depth + 1 < recursionLimit; omega) (by show C.A.units + 4 * 1 + 70 < cLine; omega))
    refine ex_cons (ex_if (b := decide (0 ≤ lv bs dg)) (ts_cmp (hval rfl rfl) ev_int cmp_geI) ?_ ?_)
    · intro h
      have h' : 0 ≤ lv bs dg := of_decide_eq_true h
      rw [if_pos h'] at hone
      refine ex_cons (ex_return1 (l := .d (nd l)) (ev_eq (ev_tupleD (xs := [.int (lv bs dg), .int bs, .str (tx (e.map lowc))]) (evL_cons (hval rfl rfl) (evL_cons (ev_name (i := 3) rfl rfl) (evL_cons (ev_lower (ev_name (i := 1) rfl rfl) (lower_tx heA) (szl (by simp; omega))) evL_nil))) (Nat.le_of_ble_eq_true rfl)) ?_) ?_)
      · have : nd l = .tuple [.int (lv bs dg), .int bs, .str (tx (e.map lowc))] := by
          unfold nd
          rw [findSome_at (ndOne l) [] endingsL i hi' hJ (by rw [he]; exact hone)]; rfl
        rw [this]
      · exact ⟨_, _, rfl, hG rfl, rfl, rfl⟩
    · intro h
      have h' : ¬ 0 ≤ lv bs dg := of_decide_eq_false h
      rw [if_neg h'] at hone
      refine ex_nil (ex_nil ⟨(), fun j hj => ?_, subLoc_some (subLoc_none (subLoc_none (subLoc_none (subLoc_none subLoc_nil)))), rfl⟩)
      by_cases hji : j < i
      · exact hJ j hji
      · have : j = i := by omega
        subst this
        rw [he]; exact hone
  · intro x hJ
    refine ex_cons (ex_return1 ev_none ?_)
    refine ⟨_, _, rfl, hG rfl, ?_, rfl⟩
    unfold nd
    rw [findSome_no (ndOne l) [] endingsL (fun j hj => hJ j (by simpa using hj))]; rfl
end


/-- the law's own reading of an escape: its value, and how many signs it takes -/
def edV (r : List Nat) : Option (Int × Nat) :=
  match shortsL.find? (fun p => r.take 1 == [p.1]) with
  | some p => some (p.2, 1)
  | none => match [3, 2, 1].find? (fun k => decide (k ≤ r.length) && decide (0 ≤ lv 8 (r.take k))) with
    | some k => some (lv 8 (r.take k), k)
    | none => if r.take 1 ≠ [120] ∨ (r.drop 1).takeWhile (fun c => decide (0 ≤ lv 16 [c])) = [] then none else some (lv 16 ((r.drop 1).takeWhile (fun c => decide (0 ≤ lv 16 [c]))), 1 + ((r.drop 1).takeWhile (fun c => decide (0 ≤ lv 16 [c]))).length)
def edD (r : List Nat) (at_ : Nat) : PyData := match edV r with
  | some (v, k) => .tuple [.int v, .int (at_ + k : Nat)]
  | none => .none

theorem find_at {α : Type} (f : α → Bool) (d : α) : ∀ (L : List α) (i : Nat), i < L.length → (∀ j, j < i → f (L.getD j d) = false) → f (L.getD i d) = true → L.find? f = some (L.getD i d)
  | [], i, h, _, _ => by simp at h
  | a :: L, 0, _, _, h => by rw [List.find?_cons]; rw [show f a = true from h]; rfl
  | a :: L, i + 1, hi, hJ, h => by
    rw [List.find?_cons, show f a = false from hJ 0 (by omega)]
    exact find_at f d L i (by simpa using hi) (fun j hj => hJ (j + 1) (by omega)) h
theorem find_no {α : Type} (f : α → Bool) (d : α) (L : List α) (h : ∀ j, j < L.length → f (L.getD j d) = false) : L.find? f = none := by
  rw [List.find?_eq_none]
  intro x hx
  obtain ⟨i, hi, rfl⟩ := List.getElem_of_mem hx
  have := h i hi
  rw [List.getD_eq_getElem?_getD, List.getElem?_eq_getElem hi] at this
  simpa using this
theorem getD_map {α β : Type} (f : α → β) (L : List α) (i : Nat) (d : α) (e : β) (h : i < L.length) : (L.map f).getD i e = f (L.getD i d) := by
  rw [List.getD_eq_getElem?_getD, List.getD_eq_getElem?_getD, List.getElem?_map, List.getElem?_eq_getElem h]; rfl
section
variable {B : Bs} {F F' : Fd} {C : Cx B F} {Λ : Loc} {G : Gs} {O : Out → Prop}

theorem escape_due_spec (T : Tp B) {G : Gs} {l : List Nat} {at_ : Nat} (hl : l.length ≤ 500) (hA : ∀ c ∈ l, AlphaB c = true) :
    Spec B T.a_escape_due 2 [.t l, .i at_] G fun r G' => r = .d (edD (l.drop at_) at_) ∧ G' = G := by
  refine spec_of T.d_escape_due ⟨_, rfl⟩ (by decide +kernel) rfl fun C hgin hd hu => ?_
  have hG : ∀ {G' : Gs}, G' = G → ∀ g' ∈ G', g'.1 ∈ G.map (·.1) := fun e g' hg => List.mem_map_of_mem (f := (·.1)) (e ▸ hg)
  refine ex_cons (ex_assign1 (i := 2) (l := .t (l.drop at_)) rfl (ev_eq (ev_slice (by trivial) (b := none) (show EvO _ _ _ (some _) (some _) from by trivial) evo_none (szl (by omega))) ?_) ?_)
  · rw [sl_from _ (Int.natCast_nonneg _)]; rfl
  generalize hr : l.drop at_ = r
  have hrl : r.length ≤ 500 := by rw [← hr]; simp; omega
  have hrA : ∀ c ∈ r, AlphaB c = true := fun c hc => hA c (by rw [← hr] at hc; exact List.mem_of_mem_drop hc)
  have hst1 : ∀ {C' : Cx B F_escape_due} {Λ : Loc} {p1 p2 p3 p4 : Pos} {k : Nat}, Λ[2]? = some (some (.t r)) → Ev C' Λ G (eval (.Subscript (.Name "rest" p1) (.Slice none (some (.Constant (.int 1) k p2)) none p3) p4) C'.env) (.t (r.take 1)) := fun h2 =>
    ev_eq (ev_slice (ev_name (i := 2) rfl h2) (a := none) evo_none (show EvO _ _ _ (some _) (some _) from ev_int) (szl (by omega))) (by rw [sl_to _ (by decide)]; rfl)
  -- the short ones
  refine ex_cons ?_
  refine ex_for (σ := Unit) (ev_global (by rfl) T.g_shorts T.i_shorts).e ?_
  rintro _ G₀ ⟨rfl, hg⟩
  obtain rfl := hg.symm
  refine ⟨_, fun _ _ => [some (.t l), some (.i at_), some (.t r), none, none, none, none], fun i _ => [some (.t l), some (.i at_), some (.t r), some (.t [(shortsL.getD i (0, 0)).1]), some (.i (shortsL.getD i (0, 0)).2), none, none], fun _ _ => G, fun i _ => ∀ j, j < i → (r.take 1 == [(shortsL.getD j (0, 0)).1]) = false, (), itR_tuple, fun j h => absurd h (Nat.not_lt_zero j), subLoc_some (subLoc_some (subLoc_some (subLoc_none (subLoc_none (subLoc_none (subLoc_none subLoc_nil)))))), rfl, ?_, ?_, ?_⟩
  · intro i x y hx hy a o
    have : y = .d (.tuple [.str (tx [(shortsL.getD i (0, 0)).1]), .int (shortsL.getD i (0, 0)).2]) := by
      rw [List.map_map, List.getElem?_map] at hy
      obtain ⟨z, hz, rfl⟩ := Option.map_eq_some_iff.mp hy
      rw [List.getD_eq_getElem?_getD, hz]; rfl
    subst this
    exact as_tuple (.tuple _) rfl rfl (asAll_cons (as_name (i := 3) rfl) (asAll_cons (as_name (i := 4) rfl) asAll_nil))
  · intro i x hi hJ a o
    have hi' : i < shortsL.length := by simpa using hi
    show Ex (C.hold a o) [some (.t l), some (.i at_), some (.t r), some (.t [(shortsL.getD i (0, 0)).1]), some (.i (shortsL.getD i (0, 0)).2), none, none] G _ _
    refine ex_cons (ex_if (b := r.take 1 == [(shortsL.getD i (0, 0)).1]) (ts_cmp (hst1 rfl) (ev_name (i := 3) rfl rfl) cmp_eqT) (fun h => ?_) fun h => ex_nil (ex_nil ⟨(), fun j hj => ?_, subLoc_some (subLoc_some (subLoc_some (subLoc_none (subLoc_none (subLoc_none (subLoc_none subLoc_nil)))))), rfl⟩))
    · refine ex_cons (ex_return1 (ev_eq (ev_tupleD (xs := [.int (shortsL.getD i (0, 0)).2, .int (at_ + 1)]) (evL_cons (ev_name (i := 4) rfl rfl) (evL_cons (by trivial) evL_nil)) (Nat.le_of_ble_eq_true rfl)) ?_) ⟨_, _, rfl, hG rfl, rfl, rfl⟩)
      unfold edD edV
      rw [find_at (fun p => r.take 1 == [p.1]) (0, 0) shortsL i hi' hJ h]; rfl
    · by_cases hji : j < i
      · exact hJ j hji
      · have : j = i := by omega
        subst this; exact h
  intro _ hJ1
  have hno1 : shortsL.find? (fun p => r.take 1 == [p.1]) = none := find_no _ (0, 0) _ fun j hj => hJ1 j (by simpa using hj)
  -- octal figures
  refine ex_cons ?_
  refine ex_for (σ := Unit) (ev_tupleD (xs := [.int 3, .int 2, .int 1]) (evL_cons ev_int (evL_cons ev_int (evL_cons ev_int evL_nil))) (Nat.le_of_ble_eq_true rfl)).e ?_
  rintro _ G₀ ⟨rfl, hg⟩
  obtain rfl := hg.symm
  have hoct : ∀ {C' : Cx B F_escape_due} {Λ : Loc} {p1 p2 p3 p4 p5 p6 p7 : Pos} {k : Nat} (n : Nat), C'.A = C.A → Λ[2]? = some (some (.t r)) → Λ[5]? = some (some (.i n)) → Ev C' Λ G (eval (.Call (.Name "_law_value" p1) [.Subscript (.Name "rest" p2) (.Slice none (some (.Name "size" p3)) none p4) p5, .Constant (.int 8) k p6] [] p7) C'.env) (.i (lv 8 (r.take n))) := fun n hA' h2 h5 =>
    EvG.one (evG_spec T.d_value T.g_value (evL_cons (ev_eq (ev_slice (ev_name (i := 2) rfl h2) (a := none) evo_none (show EvO _ _ _ (some _) (some _) from ev_name (i := 5) rfl h5) (szl (by omega))) (by rw [sl_to _ (Int.natCast_nonneg _)]; rfl)) (evL_cons ev_int evL_nil)) (value_spec T (.inr (.inl rfl)) (by simp; omega) fun c hc => hrA c (List.mem_of_mem_take hc)) (by rw [hA']; omega) (by rw [hA']; omega))
  refine ⟨_, fun _ _ => [some (.t l), some (.i at_), some (.t r), none, none, none, none], fun i _ => [some (.t l), some (.i at_), some (.t r), none, none, some (.i (([3, 2, 1].getD i 0 : Nat) : Int)), none], fun _ _ => G, fun i _ => ∀ j, j < i → (decide ([3, 2, 1].getD j 0 ≤ r.length) && decide (0 ≤ lv 8 (r.take ([3, 2, 1].getD j 0)))) = false, (), itR_tuple, fun j h => absurd h (Nat.not_lt_zero j), subLoc_some (subLoc_some (subLoc_some (subLoc_none (subLoc_none (subLoc_none (subLoc_none subLoc_nil)))))), rfl, ?_, ?_, ?_⟩
  · intro i x y hx hy a o
    have : y = .i (([3, 2, 1].getD i 0 : Nat) : Int) := by
      match i, hy with
      | 0, hy => cases hy; rfl
      | 1, hy => cases hy; rfl
      | 2, hy => cases hy; rfl
    subst this
    exact as_name (i := 5) rfl
  · intro i x hi hJ a o
    have hi' : i < 3 := by simpa using hi
    show Ex (C.hold a o) [some (.t l), some (.i at_), some (.t r), none, none, some (.i (([3, 2, 1].getD i 0 : Nat) : Int)), none] G _ _
    have hmem : ([3, 2, 1] : List Nat).getD i 0 ≤ 3 := by
      match i, hi' with
      | 0, _ => decide
      | 1, _ => decide
      | 2, _ => decide
    generalize hn : ([3, 2, 1] : List Nat).getD i 0 = n at *
    have hll : r.length ≤ sizeLine := szl (by omega)
    refine ex_cons (ex_if (b := decide (n ≤ r.length) && decide (0 ≤ lv 8 (r.take n))) (ts_eq (ts_bool (ts_and (ts_cmp (by trivial) (ev_name (i := 5) rfl rfl) cmp_geI) fun _ => ts_and (ts_cmp (hoct n rfl rfl rfl) ev_int cmp_geI) fun _ => ts_and_nil)) ?_) (fun h => ?_) fun h => ex_nil (ex_nil ⟨(), fun j hj => ?_, subLoc_some (subLoc_some (subLoc_some (subLoc_none (subLoc_none (subLoc_none (subLoc_none subLoc_nil)))))), rfl⟩))
    · rw [Bool.and_true]; congr 1; simp
    · refine ex_cons (ex_return1 (ev_eq (ev_tupleD (xs := [.int (lv 8 (r.take n)), .int (at_ + n)]) (evL_cons (hoct n rfl rfl rfl) (evL_cons (by trivial) evL_nil)) (Nat.le_of_ble_eq_true rfl)) ?_) ⟨_, _, rfl, hG rfl, rfl, rfl⟩)
      unfold edD edV
      rw [hno1]
      have := find_at (fun k => decide (k ≤ r.length) && decide (0 ≤ lv 8 (r.take k))) 0 [3, 2, 1] i (by simpa using hi') (fun j hj => hJ j hj) (by rw [hn]; exact h)
      rw [this, hn]; rfl
    · by_cases hji : j < i
      · exact hJ j hji
      · have : j = i := by omega
        subst this
        rw [hn]; exact h
  intro _ hJ2
  have hno2 : [3, 2, 1].find? (fun k => decide (k ≤ r.length) && decide (0 ≤ lv 8 (r.take k))) = none := find_no _ 0 _ fun j hj => hJ2 j (by simpa using hj)
  refine ex_cons (ex_assign1 (i := 6) rfl ev_text ?_)
  generalize hq : (r.drop 1) = q
  have hql : q.length ≤ 500 := by rw [← hq]; simp; omega
  have hqA : ∀ c ∈ q, AlphaB c = true := fun c hc => hrA c (by rw [← hq] at hc; exact List.mem_of_mem_drop hc)
  let hx : Nat → Bool := fun c => decide (0 ≤ lv 16 [c])
  refine ex_seq (fun Λ' G' => SubLoc [some (.t l), some (.i at_), some (.t r), none, none, none, some (.t (q.takeWhile hx))] Λ' ∧ G' = G) ?_ ?_
  · refine ex_for (σ := Unit) (P := fun x G' => x = .t q ∧ G' = G) (ev_eq (ev_slice (by trivial) (b := none) (show EvO _ _ _ (some _) (some _) from ev_int) evo_none (szl (by omega))) ?_).e ?_
    · rw [sl_from _ (by decide)]; rw [← hq]; rfl
    rintro _ G₀ ⟨rfl, hg⟩
    obtain rfl := hg.symm
    refine ⟨_, fun i _ => [some (.t l), some (.i at_), some (.t r), none, none, none, some (.t (q.take i))], fun i _ => [some (.t l), some (.i at_), some (.t r), some (.t [q.getD i 0]), none, none, some (.t (q.take i))], fun _ _ => G, fun i _ => ∀ c ∈ q.take i, hx c = true, (), itR_text, fun c h => by simp at h, subLoc_some (subLoc_some (subLoc_some (subLoc_none (subLoc_none (subLoc_none (subLoc_some subLoc_nil)))))), rfl, ?_, ?_, ?_⟩
    · intro i x y hx' hy a o
      have : y = .t [q.getD i 0] := by
        rw [List.getElem?_map] at hy
        obtain ⟨z, hz, rfl⟩ := Option.map_eq_some_iff.mp hy
        rw [List.getD_eq_getElem?_getD, hz]; rfl
      subst this
      exact as_name (i := 3) rfl
    · intro i x hi hJ a o
      have hi' : i < q.length := by simpa using hi
      have hget : q.getD i 0 = q[i] := by rw [List.getD_eq_getElem?_getD, List.getElem?_eq_getElem hi']; rfl
      show Ex (C.hold a o) [some (.t l), some (.i at_), some (.t r), some (.t [q.getD i 0]), none, none, some (.t (q.take i))] G _ _
      rw [hget]
      have hmem : q[i] ∈ q := List.getElem_mem _
      have htk : q.take (i + 1) = q.take i ++ [q[i]] := by rw [List.take_add_one, List.getElem?_eq_getElem hi']; rfl
      refine ex_cons (ex_if (b := !hx q[i]) (ts_eq (ts_cmp (EvG.one (evG_spec T.d_value T.g_value (evL_cons (ev_name (i := 3) rfl rfl) (evL_cons ev_int evL_nil)) (value_spec T (.inl rfl) (by simp) fun c hc => hqA c (by obtain rfl := List.mem_singleton.mp hc; exact hmem)) (by show C.A.depth + 1 < recursionLimit; omega) (by show C.A.units + 4 * 1 + 70 < cLine; omega))) ev_int cmp_lt) ?_) (fun h => ?_) fun h => ?_)
      · show decide (lv 16 [q[i]] < 0) = !decide (0 ≤ lv 16 [q[i]])
        by_cases h0 : 0 ≤ lv 16 [q[i]]
        · rw [decide_eq_true h0, decide_eq_false (by omega)]; rfl
        · rw [decide_eq_false h0, decide_eq_true (by omega)]; rfl
      · have hw : q.takeWhile hx = q.take i := by
          have e : q = q.take i ++ q[i] :: q.drop (i + 1) := by rw [← List.drop_eq_getElem_cons hi', List.take_append_drop]
          have h' : hx q[i] = false := by simpa using h
          conv => lhs; rw [e]
          rw [List.takeWhile_append_of_pos hJ, List.takeWhile_cons, h']; simp
        rw [hw]
        exact ex_cons (ex_break ⟨subLoc_some (subLoc_some (subLoc_some (subLoc_none (subLoc_none (subLoc_none (subLoc_some subLoc_nil)))))), rfl⟩)
      · refine ex_nil (ex_cons (ex_assign1 (i := 6) rfl (ev_bin (ev_name (i := 6) rfl rfl) (ev_name (i := 3) rfl rfl) (bin_catT (szl (by simp; omega)))) (ex_nil ⟨(), ?_, ?_, rfl⟩)))
        · intro c hc
          rw [htk] at hc
          rcases List.mem_append.mp hc with hc | hc
          · exact hJ c hc
          · obtain rfl := List.mem_singleton.mp hc
            simpa using h
        · show SubLoc [some (.t l), some (.i at_), some (.t r), none, none, none, some (.t (q.take (i + 1)))] _
          rw [htk]
          exact subLoc_some (subLoc_some (subLoc_some (subLoc_none (subLoc_none (subLoc_none (subLoc_some subLoc_nil))))))
    · intro _ hJ
      have hw : q.takeWhile hx = q := by
        have := List.takeWhile_append_of_pos (l₁ := q) (l₂ := []) (p := hx) (by intro c hc; exact hJ c (by simpa using hc))
        simpa using this
      rw [hw]
      have e : q.take (q.map fun c => LV.t [c]).length = q := by simp
      refine ⟨?_, rfl⟩
      show SubLoc _ [some (.t l), some (.i at_), some (.t r), none, none, none, some (.t (q.take (q.map fun c => LV.t [c]).length))]
      rw [e]
      exact subLoc_some (subLoc_some (subLoc_some (subLoc_none (subLoc_none (subLoc_none (subLoc_some subLoc_nil))))))
  rintro Λ' G₀ ⟨hsub, hg⟩
  obtain rfl := hg.symm
  refine Ex.weak hsub ?_
  have htw : edV r = if r.take 1 ≠ [120] ∨ q.takeWhile hx = [] then none else some (lv 16 (q.takeWhile hx), 1 + (q.takeWhile hx).length) := by
    unfold edV
    rw [hno1, hno2, ← hq]
  have hdl : (q.takeWhile hx).length ≤ 500 := Nat.le_trans (List.takeWhile_sublist _).length_le hql
  have hdA : ∀ c ∈ q.takeWhile hx, AlphaB c = true := fun c hc => hqA c ((List.takeWhile_sublist _).subset hc)
  generalize q.takeWhile hx = dg at *
  refine ex_cons (ex_if (b := r.take 1 != [120] || dg == []) (ts_eq (ts_bool (ts_or (ts_cmp (hst1 rfl) ev_text cmp_neT) fun _ => ts_or (ts_cmp (ev_name (i := 6) rfl rfl) ev_text cmp_eqT) fun _ => ts_or_nil)) ?_) (fun h => ?_) fun h => ?_)
  · rw [cs_x, cs_e, Bool.or_false]
  · refine ex_cons (ex_return1 ev_none ⟨_, _, rfl, hG rfl, ?_, rfl⟩)
    unfold edD
    rw [htw, if_pos]
    simpa using h
  · have hdl' : dg.length ≤ sizeLine := szl (by omega)
    refine ex_nil (ex_cons (ex_return1 (ev_eq (ev_tupleD (xs := [.int (lv 16 dg), .int (at_ + 1 + dg.length)]) (evL_cons (EvG.one (evG_spec T.d_value T.g_value (evL_cons (ev_name (i := 6) rfl rfl) (evL_cons ev_int evL_nil)) (value_spec T (.inl rfl) (by omega) hdA) (by omega) (by omega))) (evL_cons (by trivial) evL_nil)) (Nat.le_of_ble_eq_true rfl)) ?_) ⟨_, _, rfl, hG rfl, rfl, rfl⟩))
    have h' : ¬ (r.take 1 ≠ [120] ∨ dg = []) := by simpa using h
    unfold edD
    rw [htw, if_neg h']
    show LV.d (.tuple [.int (lv 16 dg), .int (at_ + 1 + dg.length)]) = .d (.tuple [.int (lv 16 dg), .int ((at_ + (1 + dg.length) : Nat) : Int)])
    congr 5
    omega
end


section
variable {B : Bs} {F F' : Fd} {C : Cx B F} {Λ : Loc} {G : Gs} {O : Out → Prop}
theorem relabel_plain {scope : Scope} (env : Env) (h : ∀ x ∈ scope.names, x.2 ≠ .free) : (relabel scope env).names = scope.names := by
  unfold relabel
  refine (List.map_congr_left fun x hx => ?_).trans (List.map_id' _)
  obtain ⟨n, k⟩ := x
  have : (k == NameKind.free) = false := by simpa using h _ hx
  simp [this]
def ordD : LV → PyData
  | .d (.str x) => .int (x.cps.toList.headD 0 : Nat)
  | _ => .none
/-- [ord(sign) for sign in text] -/
theorem ev_ords {iter : PySem.Expr} {p1 p2 p3 px pos : Pos} {scope : Scope} {l : List Nat} (hm : B.mg "ord" = none) (hb : B.mb "ord" = some (.builtin "ord")) (hi : Ev C Λ G (eval iter C.env) (.t l)) (hn : l.length ≤ sizeLine)
    (hk : scope.kind = .function := by rfl) (hs : scope.names.lookup ("sign" : Str) = some .local := by rfl) (ho : scope.names.lookup ("ord" : Str) = some .globalImplicit := by rfl) (hf : ∀ x ∈ scope.names, x.2 ≠ .free := by decide +kernel)
    (hc : ∀ x ∈ scope.names, x.2 ≠ .cell := by decide +kernel) (hl : ∀ y ∈ scope.names, y.2 = .local → scope.names.lookup y.1 = some .local := by decide +kernel) (hfs : ∀ x, foldedSetIterable iter C.env x = pure x := by intro _; rfl) :
    Ev C Λ G (eval (.ListComp (.Call (.Name "ord" p1) [.Name "sign" p2] [] p3) [⟨.Name "sign" px, iter, [], 0⟩] scope pos) C.env) (.d (.list (l.map fun c => .int (c : Nat)))) := by
  have e : ((l.map fun c => LV.t [c]).filter fun _ => true).map ordD = l.map fun c => PyData.int (c : Nat) := by
    rw [List.filter_eq_self.mpr fun _ _ => rfl, List.map_map]
    exact List.map_congr_left fun c _ => rfl
  rw [← e]
  refine ev_comp (F' := Fd.comp F scope C.env ["sign"] hk (fun x hx => by obtain rfl := List.mem_singleton.mp hx; exact hs) (by decide +kernel) (by decide +kernel)) (compOk_none rfl rfl hf hc hk hl) hi itR_text ?_ (by simpa using hn) hfs
  intro x hx L' held Λ₀ h0
  obtain ⟨c, hc', rfl⟩ := List.mem_map.mp hx
  obtain ⟨y, rfl⟩ := one_of h0
  refine ⟨_, rfl, as_name (i := 0) rfl, tst_nil, fun _ => ?_⟩
  exact ev_callB (.fn _) (by show (relabel scope C.env).names.lookup _ = _; rw [relabel_plain _ hf]; exact ho) hm hb (evL_cons (ev_name (i := 0) rfl rfl) evL_nil) call_ord
def bigP : LV → Bool
  | .d (.int x) => decide (255 < x)
  | _ => false
/-- [octet for octet in found if octet > 255] -/
theorem ev_bigs {iter : PySem.Expr} {p1 p2 p3 p4 px pos : Pos} {kc : Nat} {scope : Scope} {ns : List Int} (hi : Ev C Λ G (eval iter C.env) (.d (.list (ns.map .int)))) (hn : ns.length ≤ sizeLine)
    (hk : scope.kind = .function := by rfl) (hs : scope.names.lookup ("octet" : Str) = some .local := by rfl) (hf : ∀ x ∈ scope.names, x.2 ≠ .free := by decide +kernel)
    (hc : ∀ x ∈ scope.names, x.2 ≠ .cell := by decide +kernel) (hl : ∀ y ∈ scope.names, y.2 = .local → scope.names.lookup y.1 = some .local := by decide +kernel) (hfs : ∀ x, foldedSetIterable iter C.env x = pure x := by intro _; rfl) :
    Ev C Λ G (eval (.ListComp (.Name "octet" p1) [⟨.Name "octet" px, iter, [.Compare (.Name "octet" p2) [.Gt] [.Constant (.int 255) kc p3] p4], 0⟩] scope pos) C.env) (.d (.list ((ns.filter fun x => decide (255 < x)).map .int))) := by
  have e : (((ns.map PyData.int).map LV.d).filter bigP).map unD = (ns.filter fun x => decide (255 < x)).map .int := by
    clear hi hn
    induction ns with
    | nil => rfl
    | cons a ns ih =>
      rw [List.map_cons, List.map_cons, List.filter_cons, List.filter_cons]
      show List.map unD (if decide (255 < a) = true then _ else _) = _
      by_cases h : (255 : Int) < a
      · rw [decide_eq_true h, if_pos rfl, if_pos rfl, List.map_cons, List.map_cons, ih]; rfl
      · rw [decide_eq_false h, if_neg Bool.false_ne_true, if_neg Bool.false_ne_true, ih]
  rw [← e]
  refine ev_comp (F' := Fd.comp F scope C.env ["octet"] hk (fun x hx => by obtain rfl := List.mem_singleton.mp hx; exact hs) (by decide +kernel) (by decide +kernel)) (compOk_none rfl rfl hf hc hk hl) hi itR_list ?_ (by simpa using hn) hfs
  intro x hx L' held Λ₀ h0
  simp only [List.map_map, List.mem_map] at hx
  obtain ⟨k, hk, rfl⟩ := hx
  obtain ⟨y, rfl⟩ := one_of h0
  exact ⟨_, rfl, as_name (i := 0) rfl, tst_one (ts_cmp (ev_name (i := 0) rfl rfl) ev_int cmp_gt), fun _ => ev_name (i := 0) rfl rfl⟩

def nz (l : List Nat) : List Int := l.map fun c : Nat => (c : Int)
theorem szl2 {n : Nat} (h : n < 16777216) : n < sizeLine := Nat.lt_of_lt_of_le h (Nat.le_of_ble_eq_true rfl)
def odGo : List (List Nat) → List Int → Option (List Int)
  | [], f => some f
  | p :: ps, f => if p = [] ∧ ps ≠ [] then odGo (ps.drop 1) (f ++ [92] ++ nz (ps.headD [])) else match edV p with
    | none => none
    | some (v, k) => odGo ps (f ++ [v] ++ nz (p.drop k))
termination_by ps => ps.length
decreasing_by
  · simp; omega
  · simp
def od (l : List Nat) : PyData := match spl [92] ((l.take (l.length - 1)).drop 1) with
  | [] => .none
  | p :: ps => match odGo ps (nz p) with
    | none => .none
    | some f => if (f.filter fun x => decide (255 < x)) = [] then .list (f.map .int) else .none
theorem mem_sum : ∀ {xs : List (List Nat)} {p : List Nat}, p ∈ xs → p.length ≤ (xs.map List.length).sum
  | [], _, h => nomatch h
  | x :: xs, p, h => by
    rw [List.map_cons, List.sum_cons]
    rcases List.mem_cons.mp h with rfl | h
    · omega
    · have := mem_sum h; omega

theorem octets_due_spec (T : Tp B) {G : Gs} {l : List Nat} (hl : l.length ≤ 400) (h2 : 2 ≤ l.length) (hA : ∀ c ∈ l, AlphaB c = true) :
    Spec B T.a_octets_due 3 [.t l] G fun r G' => r = .d (od l) ∧ G' = G := by
  refine spec_of T.d_octets_due ⟨_, rfl⟩ (by decide +kernel) rfl fun C hgin hd hu => ?_
  have hG : ∀ {G' : Gs}, G' = G → ∀ g' ∈ G', g'.1 ∈ G.map (·.1) := fun e g' hg => List.mem_map_of_mem (f := (·.1)) (e ▸ hg)
  have hll : l.length ≤ sizeLine := szl (by omega)
  generalize hbd : (l.take (l.length - 1)).drop 1 = body
  have hbl : body.length ≤ 400 := by rw [← hbd]; simp; omega
  have hbA : ∀ c ∈ body, AlphaB c = true := fun c hc => hA c (by rw [← hbd] at hc; exact List.mem_of_mem_take (List.mem_of_mem_drop hc))
  refine ex_cons (ex_assign1 (i := 1) (l := .d (.list ((spl [92] body).map fun x => .str (tx x)))) rfl ?_ ?_)
  · refine ev_split (l := body) (sep := [92]) (ev_eq (ev_slice (by trivial) (show EvO _ _ _ (some _) (some _) from ev_int) (show EvO _ _ _ (some _) (some _) from by trivial) hll) ?_) (ev_eq ev_text (by rw [cs_bs])) (by decide) (by decide) (szl2 (by omega))
    rw [sl_nn _ (by decide) (by omega), ← hbd]
    congr 3
    omega
  obtain ⟨p0, ps0, hp⟩ := spl_ne [92] body
  have hpl : ∀ p ∈ spl [92] body, p.length ≤ 400 ∧ ∀ c ∈ p, AlphaB c = true := fun p h => ⟨Nat.le_trans (mem_sum h) (Nat.le_trans (spl_len body).2 hbl), fun c hc => hbA c (spl_mem body p h c hc)⟩
  have hpn : (spl [92] body).length ≤ 401 := by have := (spl_len (sep := [92]) body).1; omega
  have hod : od l = match odGo ps0 (nz p0) with
    | none => .none
    | some f => if (f.filter fun x => decide (255 < x)) = [] then .list (f.map .int) else .none := by
    unfold od
    rw [hbd, hp]
  have hps0 : ps0 = (spl [92] body).drop 1 := by rw [hp]; rfl
  have hp0 : (spl [92] body)[0]? = some p0 := by rw [hp]; rfl
  generalize spl [92] body = parts at *
  have hpar : ∀ {C' : Cx B F_octets_due} {Λ : Loc} {e : PySem.Expr} {p1 p2 : Pos} {n : Nat} {p : List Nat}, Λ[1]? = some (some (.d (.list (parts.map fun x => .str (tx x))))) → Ev C' Λ G (eval e C'.env) (.i n) → parts[n]? = some p → noSlice e = true → Ev C' Λ G (eval (.Subscript (.Name "parts" p1) e p2) C'.env) (.t p) := fun h1 he hp hs => by
    have hlt := (List.getElem?_eq_some_iff.mp hp).1
    exact ev_sub (ev_name (i := 1) rfl h1) he (sub_list (Int.natCast_nonneg _) (by simp [hp]) (by omega) hs)
  refine ex_cons (ex_assignS (P := fun x G' => x = .tp [.d (.list ((nz p0).map .int)), .i 1] ∧ G' = G) ?_ rfl ?_)
  · refine (ev_tuple (evL_cons ?_ (evL_cons ev_int evL_nil)) (Nat.le_of_ble_eq_true rfl)).e
    unfold nz
    rw [List.map_map]
    have := (hpl p0 (List.mem_of_getElem? hp0)).1
    exact ev_ords T.n_ord T.m_ord (hpar (n := 0) rfl ev_int hp0 rfl) (szl (by omega))
  rintro _ G₀ ⟨rfl, hg⟩
  obtain rfl := hg.symm
  refine ⟨_, _, .tp _, rfl, asAll_bind (i := 3) rfl (asAll_bind (i := 2) rfl asAll_nil), ?_⟩
  -- turn after turn
  refine ex_seq (fun Λ' G' => ∃ f, odGo ps0 (nz p0) = some f ∧ f.length ≤ 1000000 ∧ SubLoc [some (.t l), none, some (.d (.list (f.map .int))), none, none] Λ' ∧ G' = G) ?_ ?_
  · have hbnd : (nz p0).length ≤ 1000 * 1 := by have := (hpl p0 (List.mem_of_getElem? hp0)).1; unfold nz; simp; omega
    refine ex_while (σ := Nat × List Int) (fun x => [some (.t l), some (.d (.list (parts.map fun x => .str (tx x)))), some (.d (.list (x.2.map .int))), some (.i x.1), none]) (fun _ => G)
      (fun x => odGo (parts.drop x.1) x.2 = odGo ps0 (nz p0) ∧ x.2.length ≤ 1000 * x.1 ∧ x.1 ≤ parts.length + 1) (fun x => parts.length + 1 - x.1) (fun x => decide (x.1 < parts.length)) ?_ ?_ ?_ (1, nz p0) ⟨by rw [← hps0], hbnd, by omega⟩ (subLoc_some (subLoc_some (subLoc_some (subLoc_some (subLoc_none subLoc_nil))))) rfl
    · rintro ⟨n, f⟩ ⟨hJ, hfl, hnl⟩
      refine ts_eq (ts_cmp (ev_name (i := 3) rfl rfl) (ev_callB (.fn _) (by rfl) T.n_len T.m_len (evL_cons (ev_name (i := 1) rfl rfl) evL_nil) (call_lenL (by simp; exact szl (by omega)))) cmp_lt) ?_
      simp
    · rintro ⟨n, f⟩ ⟨hJ, hfl, hnl⟩ hb
      have hb : n < parts.length := of_decide_eq_true hb
      have hfl : f.length ≤ 1000 * n := hfl
      show Ex C [some (.t l), some (.d (.list (parts.map fun x => .str (tx x)))), some (.d (.list (f.map .int))), some (.i n), none] G _ _
      have hgp : parts[n]? = some parts[n] := List.getElem?_eq_getElem hb
      have hdr : parts.drop n = parts[n] :: parts.drop (n + 1) := List.drop_eq_getElem_cons hb
      obtain ⟨hpn1, hpn2⟩ := hpl _ (List.getElem_mem hb)
      have hJ : odGo (parts.drop n) f = odGo ps0 (nz p0) := hJ
      rw [hdr, odGo] at hJ
      refine ex_cons (ex_if (b := parts[n] == [] && decide (n + 1 < parts.length)) (ts_eq (ts_bool (ts_and (ts_cmp (hpar rfl (ev_name (i := 3) rfl rfl) hgp rfl) ev_text cmp_eqT) fun _ => ts_and (ts_cmp (by trivial) (ev_callB (.fn _) (by rfl) T.n_len T.m_len (evL_cons (ev_name (i := 1) rfl rfl) evL_nil) (call_lenL (by simp; exact szl (by omega)))) cmp_lt) fun _ => ts_and_nil)) ?_) (fun h => ?_) fun h => ?_)
      · rw [cs_e, Bool.and_true, List.length_map]
        congr 1
        by_cases hq : n + 1 < parts.length
        · rw [decide_eq_true hq, decide_eq_true (by omega)]
        · rw [decide_eq_false hq, decide_eq_false (by omega)]
      · rw [Bool.and_eq_true, beq_iff_eq, decide_eq_true_eq] at h
        obtain ⟨h1, h2'⟩ := h
        have hgp2 : parts[n + 1]? = some parts[n + 1] := List.getElem?_eq_getElem h2'
        have hdr2 : parts.drop (n + 1) = parts[n + 1] :: parts.drop (n + 2) := List.drop_eq_getElem_cons h2'
        obtain ⟨hqn1, hqn2⟩ := hpl _ (List.getElem_mem h2')
        have hne : parts.drop (n + 1) ≠ [] := by rw [hdr2]; exact List.cons_ne_nil _ _
        rw [if_pos ⟨h1, hne⟩, hdr2] at hJ
        have hJ' : odGo (parts.drop (n + 2)) (f ++ [92] ++ nz parts[n + 1]) = odGo ps0 (nz p0) := hJ
        refine ex_cons (ex_assign1 (i := 2) (l := .d (.list ((f ++ [92] ++ nz parts[n + 1]).map .int))) rfl ?_ ?_)
        · rw [List.map_append, List.map_append]
          refine ev_bin (ev_bin (ev_name (i := 2) rfl rfl) (ev_list (xs := [.int 92]) (evL_cons ev_int evL_nil) (Nat.le_of_ble_eq_true rfl)) (bin_cats (by simp; exact szl (by omega)))) (ev_eq (ev_ords T.n_ord T.m_ord (hpar (n := n + 1) rfl (by trivial) hgp2 rfl) (szl (by omega))) ?_) (bin_cats (by simp [nz]; exact szl (by omega)))
          unfold nz; rw [List.map_map]; rfl
        · refine ex_cons (ex_assign1 (i := 3) (l := .i ((n + 2 : Nat) : Int)) rfl (ev_eq (ev_bin (ev_name (i := 3) rfl rfl) ev_int bin_add) (by simp)) (ex_cons (ex_continue ?_)))
          refine ⟨(n + 2, f ++ [92] ++ nz parts[n + 1]), ⟨hJ', ?_, ?_⟩, ?_, subLoc_some (subLoc_some (subLoc_some (subLoc_some (subLoc_none subLoc_nil)))), rfl⟩
          · show (f ++ [92] ++ nz parts[n + 1]).length ≤ 1000 * (n + 2)
            simp [nz]; omega
          · show n + 2 ≤ parts.length + 1
            omega
          · show parts.length + 1 - (n + 2) < parts.length + 1 - n
            omega
      · have hno : ¬ (parts[n] = [] ∧ parts.drop (n + 1) ≠ []) := by
          rintro ⟨h1, h3⟩
          rw [h1] at h
          have : n + 1 < parts.length := by
            apply Classical.byContradiction
            intro h4
            exact h3 (List.drop_eq_nil_of_le (by omega))
          simp [this] at h
        rw [if_neg hno] at hJ
        have hed : Spec B T.a_escape_due 2 [.t parts[n], .i 0] G fun r G' => r = .d (edD parts[n] 0) ∧ G' = G := by
          have := escape_due_spec T (G := G) (l := parts[n]) (at_ := 0) (by omega) hpn2
          rw [List.drop_zero] at this
          exact this
        refine ex_nil (ex_cons (ex_assign1 (i := 4) (l := .d (edD parts[n] 0)) rfl (EvG.one ?_) ?_))
        · exact evG_spec T.d_escape_due T.g_escape_due (evL_cons (hpar rfl (ev_name (i := 3) rfl rfl) hgp rfl) (evL_cons ev_int evL_nil)) hed (by omega) (by omega)
        have hedD : edD parts[n] 0 = match edV parts[n] with | some (v, k) => .tuple [.int v, .int (0 + k : Nat)] | none => .none := rfl
        cases hv : edV parts[n] with
        | none =>
          rw [hv] at hJ hedD
          rw [hedD]
          refine ex_cons (ex_if (b := true) (ts_cmp (ev_name (i := 4) rfl rfl) ev_none cmp_isNone) (fun _ => ex_cons (ex_return1 ev_none ⟨_, _, rfl, hG rfl, ?_, rfl⟩)) fun h => nomatch h)
          rw [hod, ← hJ]
        | some vk =>
          obtain ⟨v, k⟩ := vk
          rw [hv] at hJ hedD
          rw [hedD]
          simp only at hJ
          refine ex_cons (ex_if (b := false) (ts_cmp (ev_name (i := 4) rfl rfl) ev_none cmp_isNone) (fun h => nomatch h) fun _ => ex_nil ?_)
          refine ex_cons (ex_assign1 (i := 2) (l := .d (.list ((f ++ [v] ++ nz (parts[n].drop k)).map .int))) rfl ?_ ?_)
          · rw [List.map_append, List.map_append]
            refine ev_bin (ev_bin (ev_name (i := 2) rfl rfl) (ev_list (xs := [.int v]) (evL_cons (ev_sub (ev_name (i := 4) rfl rfl) ev_int (sub_tuple (x := .int v) (by decide) rfl (by decide))) evL_nil) (Nat.le_of_ble_eq_true rfl)) (bin_cats (by simp; exact szl (by omega)))) (ev_eq (ev_ords (l := parts[n].drop k) T.n_ord T.m_ord (ev_eq (ev_slice (hpar rfl (ev_name (i := 3) rfl rfl) hgp rfl) (b := none) (show EvO _ _ _ (some _) (some _) from ev_sub (ev_name (i := 4) rfl rfl) ev_int (sub_tuple (x := .int ((0 + k : Nat) : Int)) (by decide) rfl (by decide))) evo_none (szl (by omega))) ?_) (szl (by simp; omega))) ?_) (bin_cats (by simp [nz]; exact szl (by omega)))
            · rw [sl_from _ (Int.natCast_nonneg _)]; simp
            · unfold nz; rw [List.map_map]; rfl
          · refine ex_cons (ex_assign1 (i := 3) (l := .i ((n + 1 : Nat) : Int)) rfl (ev_eq (ev_bin (ev_name (i := 3) rfl rfl) ev_int bin_add) (by simp)) (ex_nil ?_))
            refine ⟨(n + 1, f ++ [v] ++ nz (parts[n].drop k)), ⟨hJ, ?_, ?_⟩, ?_, subLoc_some (subLoc_some (subLoc_some (subLoc_some (subLoc_none subLoc_nil)))), rfl⟩
            · show (f ++ [v] ++ nz (parts[n].drop k)).length ≤ 1000 * (n + 1)
              simp [nz]; omega
            · show n + 1 ≤ parts.length + 1
              omega
            · show parts.length + 1 - (n + 1) < parts.length + 1 - n
              omega
    · rintro ⟨n, f⟩ ⟨hJ, hfl, hnl⟩ hb
      have hb : ¬ n < parts.length := of_decide_eq_false hb
      have hJ : odGo (parts.drop n) f = odGo ps0 (nz p0) := hJ
      rw [List.drop_eq_nil_of_le (by omega), odGo] at hJ
      have hfl : f.length ≤ 1000 * n := hfl
      have hnl : n ≤ parts.length + 1 := hnl
      exact ex_nil ⟨f, hJ.symm, by omega, subLoc_some (subLoc_none (subLoc_some (subLoc_none (subLoc_none subLoc_nil)))), rfl⟩
  rintro Λ' G₀ ⟨f, hf, hfl, hsub, hg⟩
  obtain rfl := hg.symm
  refine Ex.weak hsub ?_
  rw [hf] at hod
  simp only at hod
  refine ex_cons (ex_return1 (l := .d (od l)) ?_ ⟨_, _, rfl, hG rfl, rfl, rfl⟩)
  rw [hod]
  refine ev_if2 (b := (f.filter fun x => decide (255 < x)).isEmpty) (ts_eq (ts_cmp (ev_bigs (ns := f) (ev_name (i := 2) rfl rfl) (szl (by omega))) (ev_list (xs := []) evL_nil) (cmp_eqD (shaped_list (flat_ints _)) rfl)) ?_) (fun h => ?_) fun h => ?_
  · rw [eqv_nil, List.isEmpty_map]
  · rw [if_pos (List.isEmpty_iff.mp h)]
    exact ev_name (i := 2) rfl rfl
  · rw [if_neg (fun e => by rw [e] at h; cases h)]
    exact ev_none
end


/-- text.replace, as split and join -/
def rep (y z l : List Nat) : List Nat := joinL z (spl y l)
theorem rep_nil (y z : List Nat) : rep y z [] = [] := by unfold rep; rw [spl]; rfl
theorem rep_hit {y z l : List Nat} (hy : y ≠ []) (h : y.isPrefixOf l = true) : rep y z l = z ++ rep y z (l.drop y.length) := by
  unfold rep
  rw [spl_hit hy h]
  obtain ⟨p, ps, e⟩ := spl_ne y (l.drop y.length)
  rw [e]; rfl
theorem rep_miss {y z : List Nat} {c : Nat} {r : List Nat} (h : y.isPrefixOf (c :: r) = false) : rep y z (c :: r) = c :: rep y z r := by
  unfold rep
  obtain ⟨p, ps, e⟩ := spl_ne y r
  rw [spl_miss h e, e]
  cases ps <;> rfl
theorem rep_len {y z : List Nat} (hy : y ≠ []) (hz : z.length ≤ y.length) : ∀ (n : Nat) (l : List Nat), l.length ≤ n → (rep y z l).length ≤ l.length
  | _, [], _ => by rw [rep_nil]; exact Nat.le_refl _
  | 0, c :: r, h => by simp at h
  | n + 1, c :: r, h => by
    cases e : y.isPrefixOf (c :: r) with
    | true =>
      rw [rep_hit hy e, List.length_append]
      have h1 := prefix_len e
      have hp : 0 < y.length := List.length_pos_iff.mpr hy
      have := rep_len hy hz n ((c :: r).drop y.length) (by rw [List.length_drop]; omega)
      rw [List.length_drop] at this
      omega
    | false =>
      rw [rep_miss e, List.length_cons, List.length_cons]
      have := rep_len hy hz n r (by simpa using h)
      omega
def cum : List (List Nat) → Nat → List Int
  | [], _ => []
  | p :: ps, m => ((m + p.length : Nat) : Int) :: cum ps (m + p.length)
theorem cum_snoc : ∀ (ps : List (List Nat)) (p : List Nat) (m : Nat), cum (ps ++ [p]) m = cum ps m ++ [((m + (ps.map List.length).sum + p.length : Nat) : Int)]
  | [], p, m => by simp [cum]
  | q :: ps, p, m => by
    rw [List.cons_append, cum, cum, cum_snoc ps p, List.cons_append]
    simp [Nat.add_assoc]
def sdT (l : List Nat) : List Nat := threesL.foldl (fun t p => rep [63, 63, p.1] [p.2] t) (rep [13, 10] [10] l)
def sd (l : List Nat) : PyData := .tuple [.str (tx (joinL [] (spl [92, 10] (sdT l)))), .list ((cum ((spl [92, 10] (sdT l)).take ((spl [92, 10] (sdT l)).length - 1)) 0).map .int)]

def asgV : Stmt → PySem.Expr
  | .Assign _ (.Tuple (e :: _) _ _) _ => e
  | _ => .Constant .none 0 ⟨0, 0, 0, 0⟩
section
variable {B : Bs} {F F' : Fd} {C : Cx B F} {Λ : Loc} {G : Gs} {O : Out → Prop}
theorem own_new {K : Heap} {s : Shared} {a : Addr} {ls : List LV} {G' : Gs} (g : Inv C K Λ ((a, ls) :: G') s) (hgin : C.gin = G.map (·.1)) (hG : ∀ x ∈ G.map (·.1), x ∈ G'.map (·.1)) : C.entry.objs.size ≤ a := by
  rcases (g.gap (a, ls) (.head _)).2 with h | h
  · rw [hgin] at h
    have := g.gi.nd
    rw [List.map_cons, List.nodup_cons] at this
    exact absurd (hG _ h) this.1
  · exact h
/-- the list told of turns no more -/
theorem ex_returnO {e : PySem.Expr} {pos : Pos} {a : Addr} {ys : List PyData} (he : Ev C Λ ((a, ys.map .d) :: G) (eval e C.env) (.r a)) (hgin : C.gin = G.map (·.1)) (h : O (.rt (.d (.list ys)) G)) : Ex C Λ ((a, ys.map .d) :: G) (exec (.Return (some e) pos) C.env) O := fun K s g Q E q =>
  wpAny_Return_some (he K s g _ E fun K' v s' k' g' i' => by
    obtain rfl := is_r i'
    obtain ⟨K₂, vs, k₂, h1, h2, g₂⟩ := Inv.freeze (G₁ := []) g' (own_new g' hgin fun x hx => hx)
    exact q K₂ _ s' _ (k'.trans k₂) h ⟨_, Λ, rfl, list_is h1 h2, g₂⟩)
theorem ex_returnTO {e : PySem.Expr} {pos : Pos} {a : Addr} {x : PyData} {ys : List PyData} (he : Ev C Λ ((a, ys.map .d) :: G) (eval e C.env) (.tp [.d x, .r a])) (hgin : C.gin = G.map (·.1)) (h : O (.rt (.d (.tuple [x, .list ys])) G)) : Ex C Λ ((a, ys.map .d) :: G) (exec (.Return (some e) pos) C.env) O := fun K s g Q E q =>
  wpAny_Return_some (he K s g _ E fun K' v s' k' g' i' => by
    obtain ⟨t, ws, rfl, ht, hws⟩ := is_tp i'
    obtain ⟨w0, w1, rfl, i0, i1⟩ := allIs_two hws
    obtain rfl := is_r i1
    obtain ⟨K₂, vs, k₂, h1, h2, g₂⟩ := Inv.freeze (G₁ := []) g' (own_new g' hgin fun x hx => hx)
    exact q K₂ _ s' _ (k'.trans k₂) h ⟨_, Λ, rfl, tuple_is (isTuple_sub k₂ ht) (allIs_cons (i0.mono k₂) (allIs_cons (list_is h1 h2) allIs_nil)), g₂⟩)
/-- the same, a second list forgotten -/
theorem ex_returnTO2 {e : PySem.Expr} {pos : Pos} {a b : Addr} {x : PyData} {ys : List PyData} {zs : List LV} (he : Ev C Λ ((a, zs) :: (b, ys.map .d) :: G) (eval e C.env) (.tp [.d x, .r b])) (hgin : C.gin = G.map (·.1)) (h : O (.rt (.d (.tuple [x, .list ys])) G)) : Ex C Λ ((a, zs) :: (b, ys.map .d) :: G) (exec (.Return (some e) pos) C.env) O := fun K s g Q E q =>
  wpAny_Return_some (he K s g _ E fun K' v s' k' g' i' => by
    obtain ⟨t, ws, rfl, ht, hws⟩ := is_tp i'
    obtain ⟨w0, w1, rfl, i0, i1⟩ := allIs_two hws
    obtain rfl := is_r i1
    obtain ⟨K₁, us, k₁, _, _, g₁⟩ := Inv.freeze (G₁ := []) g' (own_new g' hgin fun x hx => .tail _ hx)
    obtain ⟨K₂, vs, k₂, h1, h2, g₂⟩ := Inv.freeze (G₁ := []) g₁ (own_new g₁ hgin fun x hx => hx)
    have k12 := k₁.trans k₂
    exact q K₂ _ s' _ (k'.trans k12) h ⟨_, Λ, rfl, tuple_is (isTuple_sub k12 ht) (allIs_cons (i0.mono k12) (allIs_cons (list_is h1 h2) allIs_nil)), g₂⟩)
/-- a.append(value), with the ledger told -/
theorem ex_appendU {o elt : PySem.Expr} {apos pos pos2 : Pos} {a : Addr} {ls : List LV} {l : LV} {G' : Gs} (hG : (a, ls) ∈ G) (hG' : (G.map (·.1)).Nodup → setG G a (ls ++ [l]) = G') (ho : Ev C Λ G (eval o C.env) (.r a)) (he : Ev C Λ G (eval elt C.env) l) (hn : ls.length ≤ sizeLine) (h : O (.nx Λ G'))
    (hbase : attributeBase o "append" C.env (eval o C.env) = eval o C.env := by rfl) (hline : (apos.endLine == pos.line) = true := by rfl) (hs : isStarred elt = false := by rfl) (hi : interactive C.env = false := by rfl)
    (hsw : swapsWith (.Call (.Attribute o "append" apos) [elt] [] pos) none pos2.line C.env = pure false := by rfl) :
    Ex C Λ G (exec (.Expr (.Call (.Attribute o "append" apos) [elt] [] pos) pos2) C.env) O := ex_nd fun nd =>
  ex_append hG ho he hn (by rw [hG' nd]; exact h) hbase hline hs hi hsw

theorem spliced_due_spec (T : Tp B) {G : Gs} {l : List Nat} (hl : l.length ≤ 100) :
    Spec B T.a_spliced_due 1 [.t l] G fun r G' => r = .d (sd l) ∧ G' = G := by
  refine spec_of T.d_spliced_due ⟨_, rfl⟩ (by decide +kernel) rfl fun C hgin hd hu => ?_
  have hG : ∀ {G' : Gs}, G' = G → ∀ g' ∈ G', g'.1 ∈ G.map (·.1) := fun e g' hg => List.mem_map_of_mem (f := (·.1)) (e ▸ hg)
  have hsz : ∀ {sep x : List Nat}, x.length ≤ 100 → sep.length ≤ 3 → ((spl sep x).map List.length).sum + (spl sep x).length * 1 ≤ sizeLine := fun {sep x} h1 h2 => by
    have := spl_len (sep := sep) x
    exact szl (by omega)
  refine ex_cons (ex_assign1 (i := 0) (l := .t (rep [13, 10] [10] l)) rfl ?_ ?_)
  · refine ev_join (ev_eq ev_text (by rw [cs_n])) (ev_split (ev_name (i := 0) rfl rfl) (ev_eq ev_text (by rw [cs_rn])) (by decide) (by decide) (szl2 (by omega))) (hsz hl (by decide))
  have hl1 : (rep [13, 10] [10] l).length ≤ 100 := Nat.le_trans (rep_len (by decide) (by decide) _ l (Nat.le_refl _)) hl
  generalize hl0 : rep [13, 10] [10] l = l0 at *
  refine ex_cons ?_
  refine ex_for (σ := Unit) (ev_global (by rfl) T.g_threes T.i_threes).e ?_
  rintro _ G₀ ⟨rfl, hg⟩
  obtain rfl := hg.symm
  let st : Nat → List Nat := fun i => (threesL.take i).foldl (fun t p => rep [63, 63, p.1] [p.2] t) l0
  have hst : ∀ i, i < threesL.length → st (i + 1) = rep [63, 63, (threesL.getD i (0, 0)).1] [(threesL.getD i (0, 0)).2] (st i) := fun i hi => by
    show (threesL.take (i + 1)).foldl _ l0 = _
    rw [List.take_add_one, List.getElem?_eq_getElem hi, List.foldl_append, List.getD_eq_getElem?_getD, List.getElem?_eq_getElem hi]; rfl
  have hstl : ∀ i, i ≤ threesL.length → (st i).length ≤ 100 := fun i => by
    induction i with
    | zero => intro _; exact hl1
    | succ i ih =>
      intro h
      rw [hst i (by omega)]
      exact Nat.le_trans (rep_len (by simp) (by simp) _ _ (Nat.le_refl _)) (ih (by omega))
  refine ⟨_, fun i _ => [some (.t (st i)), none, none, none, none, none, none], fun i _ => [some (.t (st i)), some (.t [(threesL.getD i (0, 0)).1]), some (.t [(threesL.getD i (0, 0)).2]), none, none, none, none], fun _ _ => G, fun _ _ => True, (), itR_tuple, trivial, subLoc_some (subLoc_none (subLoc_none (subLoc_none (subLoc_none (subLoc_none (subLoc_none subLoc_nil)))))), rfl, ?_, ?_, ?_⟩
  · intro i x y hx hy a o
    have : y = .d (.tuple [.str (tx [(threesL.getD i (0, 0)).1]), .str (tx [(threesL.getD i (0, 0)).2])]) := by
      rw [List.map_map, List.getElem?_map] at hy
      obtain ⟨z, hz, rfl⟩ := Option.map_eq_some_iff.mp hy
      rw [List.getD_eq_getElem?_getD, hz]; rfl
    subst this
    exact as_tuple (.tuple _) rfl rfl (asAll_cons (as_name (i := 1) rfl) (asAll_cons (as_name (i := 2) rfl) asAll_nil))
  · intro i x hi _ a o
    have hi' : i < threesL.length := by simpa using hi
    have hsi := hstl i (by omega)
    refine ex_cons (ex_assign1 (i := 0) (l := .t (st (i + 1))) rfl ?_ (ex_nil ⟨(), trivial, subLoc_some (subLoc_none (subLoc_none (subLoc_none (subLoc_none (subLoc_none (subLoc_none subLoc_nil)))))), rfl⟩))
    rw [hst i hi']
    have hA : ([63, 63, (threesL.getD i (0, 0)).1] : List Nat).all (· < 128) = true := by
      have : ∀ i, i < 9 → ([63, 63, (threesL.getD i (0, 0)).1] : List Nat).all (· < 128) = true := by decide
      exact this i hi'
    exact ev_join (ev_name (i := 2) rfl rfl) (ev_split (ev_name (i := 0) rfl rfl) (ev_eq (ev_bin ev_text (ev_name (i := 1) rfl rfl) (bin_catT (szl (by rw [cs_qq]; simp)))) (by rw [cs_qq]; rfl)) (by simp) hA (szl2 (by omega))) (hsz hsi (by simp))
  intro _ _
  have hT : st (threesL.map fun x => LV.d (.tuple [.str (tx [x.1]), .str (tx [x.2])])).length = sdT l := by
    show (threesL.take _).foldl _ l0 = _
    rw [List.length_map, List.take_length]
    unfold sdT
    rw [hl0]
  show Ex C [some (.t (st (threesL.map fun x => LV.d (.tuple [.str (tx [x.1]), .str (tx [x.2])])).length)), none, none, none, none, none, none] G _ _
  rw [hT]
  have hsdl : (sdT l).length ≤ 100 := by
    rw [← hT]; exact hstl _ (by simp)
  have hsd : sd l = .tuple [.str (tx (joinL [] (spl [92, 10] (sdT l)))), .list ((cum ((spl [92, 10] (sdT l)).take ((spl [92, 10] (sdT l)).length - 1)) 0).map .int)] := rfl
  have hsplt : Ev C [some (.t (sdT l)), none, none, none, none, none, none] G (eval (asgV (b_spliced_due.getD 2 (.Pass ⟨0, 0, 0, 0⟩))) C.env) (.d (.list ((spl [92, 10] (sdT l)).map fun x => .str (tx x)))) :=
    ev_split (ev_name (i := 0) rfl rfl) (ev_eq ev_text (by rw [cs_bn])) (by decide) (by decide) (szl2 (by omega))
  have hlen2 := spl_len (sep := [92, 10]) (sdT l)
  have hmemP : ∀ p ∈ spl [92, 10] (sdT l), p.length ≤ 100 := fun p h => Nat.le_trans (mem_sum h) (by omega)
  generalize spl [92, 10] (sdT l) = parts at *
  refine ex_cons (ex_assignS (P := fun x G' => ∃ a, x = .tp [.d (.list (parts.map fun x => .str (tx x))), .r a, .i 0] ∧ G' = (a, []) :: G) ?_ rfl ?_)
  · refine (evG_tuple (P := fun ls G' => ∃ a, ls = [.d (.list (parts.map fun x => .str (tx x))), .r a, .i 0] ∧ G' = (a, []) :: G) (evLG_cons hsplt.e ?_) ?_).to ?_
    · rintro _ G₀ ⟨rfl, hg⟩
      obtain rfl := hg.symm
      refine evLG_cons (evG_own (P := fun ls G' => ls = [] ∧ G' = G) (evLG_nil ⟨rfl, rfl⟩) fun ls G' h => by rw [h.1]; exact Nat.zero_le _) ?_
      rintro _ _ ⟨a, ls, G₁, rfl, rfl, rfl, h⟩
      obtain rfl := h.symm
      exact evLG_cons ev_int.e fun _ _ ⟨h1, h2⟩ => evLG_nil ⟨a, by rw [h1], h2⟩
    · rintro ls G' ⟨a, rfl, rfl⟩
      exact Nat.le_of_ble_eq_true rfl
    · rintro x G' ⟨ls, rfl, a, rfl, rfl⟩
      exact ⟨a, rfl, rfl⟩
  rintro _ _ ⟨a, rfl, rfl⟩
  refine ⟨_, _, .tp _, rfl, asAll_bind (i := 5) rfl (asAll_bind (i := 4) rfl (asAll_bind (i := 3) rfl asAll_nil)), ?_⟩
  refine ex_cons ?_
  generalize hqs : parts.take (parts.length - 1) = qs at *
  have hqm : ∀ p ∈ qs, p.length ≤ 100 := fun p h => hmemP p (by rw [← hqs] at h; exact List.mem_of_mem_take h)
  have hql : qs.length ≤ 101 := by rw [← hqs]; simp; omega
  refine ex_for (σ := Unit) (P := fun x G' => x = .d (.list (qs.map fun x => .str (tx x))) ∧ G' = (a, []) :: G) (ev_eq (ev_sliceL (ev_name (i := 3) rfl rfl) (a := none) evo_none (show EvO _ _ _ (some _) (some _) from ev_bin (ev_callB (.fn _) (by rfl) T.n_len T.m_len (evL_cons (ev_name (i := 3) rfl rfl) evL_nil) (call_lenL (by simp; exact szl (by omega)))) ev_int bin_sub) (by simp; exact szl (by omega))) ?_).e ?_
  · rw [← hqs]
    congr 2
    simp only [Option.elim, List.drop_zero, List.length_map]
    rw [List.map_take]
    congr 1
    unfold clipAt
    split <;> omega
  rintro _ G₀ ⟨rfl, hg⟩
  obtain rfl := hg.symm
  refine ⟨_, fun i _ => [some (.t (sdT l)), none, none, some (.d (.list (parts.map fun x => .str (tx x)))), some (.r a), some (.i (((qs.take i).map List.length).sum : Nat)), none], fun i _ => [some (.t (sdT l)), none, none, some (.d (.list (parts.map fun x => .str (tx x)))), some (.r a), some (.i (((qs.take i).map List.length).sum : Nat)), some (.t (qs.getD i []))], fun i _ => (a, ((cum (qs.take i) 0).map PyData.int).map .d) :: G, fun _ _ => True, (), itR_list, trivial, subLoc_some (subLoc_none (subLoc_none (subLoc_some (subLoc_some (subLoc_some (subLoc_none subLoc_nil)))))), rfl, ?_, ?_, ?_⟩
  · intro i x y hx hy b o
    have : y = .t (qs.getD i []) := by
      rw [List.map_map, List.getElem?_map] at hy
      obtain ⟨z, hz, rfl⟩ := Option.map_eq_some_iff.mp hy
      rw [List.getD_eq_getElem?_getD, hz]; rfl
    subst this
    exact as_name (i := 6) rfl
  · intro i x hi _ b o
    have hi' : i < qs.length := by simpa using hi
    have hg : qs[i]? = some qs[i] := List.getElem?_eq_getElem hi'
    have htk : qs.take (i + 1) = qs.take i ++ [qs[i]] := by rw [List.take_add_one, hg]; rfl
    have hgd : qs.getD i [] = qs[i] := by rw [List.getD_eq_getElem?_getD, hg]; rfl
    have hsum : (((qs.take (i + 1)).map List.length).sum : Nat) = ((qs.take i).map List.length).sum + qs[i].length := by rw [htk, List.map_append, List.sum_append, List.map_cons, List.map_nil, List.sum_cons, List.sum_nil, Nat.add_zero]
    have hcum : cum (qs.take (i + 1)) 0 = cum (qs.take i) 0 ++ [((((qs.take i).map List.length).sum + qs[i].length : Nat) : Int)] := by rw [htk, cum_snoc, Nat.zero_add]
    show Ex (C.hold b o) [some (.t (sdT l)), none, none, some (.d (.list (parts.map fun x => .str (tx x)))), some (.r a), some (.i (((qs.take i).map List.length).sum : Nat)), some (.t (qs.getD i []))] ((a, ((cum (qs.take i) 0).map PyData.int).map .d) :: G) _ _
    rw [hgd]
    have hcl : (cum (qs.take i) 0).length ≤ 101 := by
      have : ∀ (ps : List (List Nat)) m, (cum ps m).length = ps.length := fun ps => by
        induction ps with
        | nil => intro m; rfl
        | cons p ps ih => intro m; rw [cum, List.length_cons, ih, List.length_cons]
      rw [this]; simp; omega
    refine ex_cons (ex_assign1 (i := 5) (l := .i (((qs.take (i + 1)).map List.length).sum : Nat)) rfl (ev_eq (ev_bin (ev_name (i := 5) rfl rfl) (ev_callB (.fn _) (by rfl) T.n_len T.m_len (evL_cons (ev_name (i := 6) rfl rfl) evL_nil) (call_len (szl (by have := hqm _ (List.getElem_mem hi'); omega)))) bin_add) ?_) ?_)
    · rw [hsum]; simp
    refine ex_cons (ex_appendU (G' := (a, ((cum (qs.take (i + 1)) 0).map PyData.int).map .d) :: G) (.head _) (fun nd => by rw [setG_hd nd]; congr 2; rw [hcum, ← hsum]; simp) (ev_name (i := 4) rfl rfl) (ev_name (i := 5) rfl rfl) (by simp; exact szl (by omega)) (ex_nil ⟨(), trivial, subLoc_some (subLoc_none (subLoc_none (subLoc_some (subLoc_some (subLoc_some (subLoc_none subLoc_nil)))))), rfl⟩))
  intro _ _
  have e1 : (qs.map fun x => PyData.str (tx x)).map LV.d = qs.map fun x => LV.t x := by rw [List.map_map]; rfl
  have e2 : qs.take ((qs.map fun x => PyData.str (tx x)).map LV.d).length = qs := by simp
  show Ex C [some (.t (sdT l)), none, none, some (.d (.list (parts.map fun x => .str (tx x)))), some (.r a), some (.i (((qs.take ((qs.map fun x => PyData.str (tx x)).map LV.d).length).map List.length).sum : Nat)), none] ((a, ((cum (qs.take ((qs.map fun x => PyData.str (tx x)).map LV.d).length) 0).map PyData.int).map .d) :: G) _ _
  rw [e2]
  refine ex_cons (ex_returnTO (x := .str (tx (joinL [] parts))) (ev_tuple (evL_cons (ev_join (sep := []) (ev_eq ev_text (by rw [cs_e])) (ev_name (i := 3) rfl rfl) (szl (by simp; omega))) (evL_cons (ev_name (i := 4) rfl rfl) evL_nil)) (Nat.le_of_ble_eq_true rfl)) hgin ?_)
  exact ⟨_, _, rfl, hG rfl, by rw [hsd], rfl⟩
end


section
variable {B : Bs} {F F' : Fd} {C : Cx B F} {Λ : Loc} {G : Gs} {O : Out → Prop}
theorem eqv_str (a b : List Nat) : PyData.eqv (.str (tx a)) (.str (tx b)) = (a == b) := by
  unfold PyData.eqv; exact tx_beq a b
end
/-- where the letters of the ending begin -/
def isUL (c : Nat) : Bool := c == 117 || c == 85 || c == 108 || c == 76
def cutAt (l : List Nat) : Nat → Nat
  | 0 => 0
  | e + 1 => if isUL (l.getD e 0) then cutAt l e else e + 1
theorem cutAt_le (l : List Nat) : ∀ e, cutAt l e ≤ e
  | 0 => Nat.le_refl _
  | e + 1 => by
    unfold cutAt
    split
    · exact Nat.le_succ_of_le (cutAt_le l e)
    · exact Nat.le_refl _
def npSplit (dg : List Nat) : List Nat × Nat × List Nat :=
  if dg.take 2 = [48, 120] ∨ dg.take 2 = [48, 88] then (dg.drop 2, 16, sHex) else if dg.take 1 = [48] then (dg, 8, sOct) else (dg, 10, sDig)
def np (l : List Nat) : PyData :=
  let dg := l.take (cutAt l l.length)
  let sf := (l.drop (cutAt l l.length)).map lowc
  if ¬ sSuf.any (fun c => sf == c) then .none else
  if (npSplit dg).1 = [] then .none else
  if (npSplit dg).1.all (fun c => (npSplit dg).2.2.contains c) then .tuple [.int (worthOf (npSplit dg).2.1 (npSplit dg).1), .int (npSplit dg).2.1, .str (tx sf)] else .none
theorem isUL_in {c : Nat} (h : c < 128) : Txt.contains (tx (cs "uUlL")) (tx [c]) = isUL c := by
  have key : ((List.range 128).all fun c => Txt.contains (tx (cs "uUlL")) (tx [c]) == isUL c) = true := by decide +kernel
  exact beq_iff_eq.mp (List.all_eq_true.mp key c (List.mem_range.mpr h))
theorem any_one (L : List Nat) (c : Nat) : (L.any fun d => tx [c] == tx [d]) = L.contains c := by
  rw [List.contains_eq_any_beq]
  congr 1; funext d
  rw [tx_beq, Bool.eq_iff_iff, beq_iff_eq, beq_iff_eq]; simp
theorem hex_dv : ∀ c ∈ sHex, dv c < 16 ∧ c < 128 := by decide +kernel
theorem oct_dv : ∀ c ∈ sOct, dv c < 16 ∧ c < 128 := by decide +kernel
theorem dig_dv : ∀ c ∈ sDig, dv c < 16 ∧ c < 128 := by decide +kernel
theorem np_good {dg : List Nat} {c : Nat} (h : c ∈ (npSplit dg).2.2) : dv c < 16 := by
  unfold npSplit at h
  split at h
  · exact (hex_dv c h).1
  · split at h
    · exact (oct_dv c h).1
    · exact (dig_dv c h).1
section
variable {B : Bs} {F F' : Fd} {C : Cx B F} {Λ : Loc} {G : Gs} {O : Out → Prop}
theorem cmp_inT {x : PyData} {xs : List PyData} (hx : flat x = true) (hxs : xs.all flat = true) : CmpR C Λ G .In (.d x) (.d (.tuple xs)) (xs.any fun y => PyData.eqv y x) := fun K s v u g ha hb Q E q => by
  obtain ⟨as, ha⟩ := is_d ha; obtain ⟨bs, hb⟩ := is_d hb
  have hu := C.hu
  refine SeqAt.in_tuple_reads (Reads.keeps g.gi.sub hb) (Reads.keeps g.gi.sub ha) (flats_lay hxs).1 (flat_lay hx).1 ?_ (q K _ (Sub.refl K) g)
  rw [(flats_lay hxs).2]
  have hu' : C.A.units + 64 < cLine := hu
  omega
theorem flat_tx {l : List Nat} (h : ∀ c ∈ l, c < 0x110000) : flat (.str (tx l)) = true := by
  show (tx l).cps.all (· < 0x110000) = true
  simp only [tx, List.size_toArray, List.all_toArray']
  exact List.all_eq_true.mpr fun c hc => by simpa using h c hc

theorem number_parts_spec (T : Tp B) {G : Gs} {l : List Nat} (hl : l.length ≤ 500) (hA : ∀ c ∈ l, c < 128) :
    Spec B T.a_number_parts 1 [.t l] G fun r G' => r = .d (np l) ∧ G' = G := by
  refine spec_of T.d_number_parts ⟨_, rfl⟩ (by decide +kernel) rfl fun C hgin hd hu => ?_
  have hG : ∀ {G' : Gs}, G' = G → ∀ g' ∈ G', g'.1 ∈ G.map (·.1) := fun e g' hg => List.mem_map_of_mem (f := (·.1)) (e ▸ hg)
  have hll : l.length ≤ sizeLine := szl (by omega)
  have hget : ∀ e, e < l.length → l.getD e 0 < 128 := fun e h => hA _ (by rw [List.getD_eq_getElem?_getD, List.getElem?_eq_getElem h]; exact List.getElem_mem _)
  refine ex_cons (ex_assign1 (i := 1) (l := .i l.length) rfl (by trivial) ?_)
  refine ex_seq (fun Λ' G' => SubLoc [some (.t l), some (.i (cutAt l l.length : Nat)), none, none, none, none, none, none] Λ' ∧ G' = G) ?_ ?_
  · refine ex_while (σ := Nat) (fun e => [some (.t l), some (.i e), none, none, none, none, none, none]) (fun _ => G) (fun e => cutAt l e = cutAt l l.length ∧ e ≤ l.length) (fun e => e) (fun e => decide (0 < e) && isUL (l.getD (e - 1) 0)) ?_ ?_ ?_ l.length ⟨rfl, Nat.le_refl _⟩ (subLoc_some (subLoc_some (subLoc_none (subLoc_none (subLoc_none (subLoc_none (subLoc_none (subLoc_none subLoc_nil)))))))) rfl
    · rintro e ⟨hJ, he⟩
      refine ts_eq (ts_bool (ts_and (a := decide (0 < e)) (b := isUL (l.getD (e - 1) 0)) (ts_eq (ts_cmp (ev_name (i := 1) rfl rfl) ev_int cmp_gt) (by simp)) fun h => ?_)) rfl
      have h0 : 0 < e := of_decide_eq_true h
      refine ts_eq (ts_and (ts_cmp (ev_sub (ev_name (i := 0) rfl rfl) (ev_bin (ev_name (i := 1) rfl rfl) ev_int bin_sub) (sub_text (by omega) (by omega) hll)) ev_str cmp_inS) fun _ => ts_and_nil) ?_
      rw [Bool.and_true, show ((e : Int) - 1).toNat = e - 1 by omega]
      have := isUL_in (hget (e - 1) (by omega))
      rw [← tx_cs] at this
      exact this
    · rintro e ⟨hJ, he⟩ hb
      rw [Bool.and_eq_true, decide_eq_true_eq] at hb
      obtain ⟨n, rfl⟩ : ∃ n, e = n + 1 := ⟨e - 1, by omega⟩
      rw [Nat.add_sub_cancel] at hb
      rw [cutAt, hb.2] at hJ
      refine ex_cons (ex_aug (i := 1) rfl rfl ev_int ibin_sub (ex_nil ⟨n, ⟨by simpa using hJ, by omega⟩, by omega, ?_, rfl⟩))
      show SubLoc [some (.t l), some (.i (n : Nat)), none, none, none, none, none, none] [some (.t l), some (.i (((n + 1 : Nat) : Int) - 1)), none, none, none, none, none, none]
      rw [show (((n + 1 : Nat) : Int) - 1) = (n : Int) by omega]
      exact ⟨rfl, fun i l h => h⟩
    · rintro e ⟨hJ, he⟩ hb
      refine ex_nil ⟨?_, rfl⟩
      have : cutAt l e = e := by
        cases e with
        | zero => rfl
        | succ n =>
          rw [cutAt, if_neg]
          intro h
          rw [Nat.add_sub_cancel, h] at hb
          simp at hb
      rw [← hJ, this]
      exact ⟨rfl, fun i l h => h⟩
  rintro Λ' G₀ ⟨hsub, hg⟩
  obtain rfl := hg.symm
  refine Ex.weak hsub ?_
  have hcut := cutAt_le l l.length
  have hnp : np l = (if ¬ sSuf.any (fun c => (l.drop (cutAt l l.length)).map lowc == c) then .none else if (npSplit (l.take (cutAt l l.length))).1 = [] then .none else
    if (npSplit (l.take (cutAt l l.length))).1.all (fun c => (npSplit (l.take (cutAt l l.length))).2.2.contains c) then .tuple [.int (worthOf (npSplit (l.take (cutAt l l.length))).2.1 (npSplit (l.take (cutAt l l.length))).1), .int (npSplit (l.take (cutAt l l.length))).2.1, .str (tx ((l.drop (cutAt l l.length)).map lowc))] else .none) := rfl
  generalize cutAt l l.length = e at *
  have hsA : ∀ c ∈ l.drop e, c < 128 := fun c hc => hA c (List.mem_of_mem_drop hc)
  refine ex_cons (ex_assignS (P := fun x G' => x = .tp [.t (l.take e), .t ((l.drop e).map lowc), .i 10] ∧ G' = G) ?_ rfl ?_)
  · refine (ev_tuple (evL_cons (ev_eq (ev_slice (by trivial) (a := none) evo_none (show EvO _ _ _ (some _) (some _) from ev_name (i := 1) rfl rfl) hll) ?_) (evL_cons (ev_lower (l := l.drop e) (ev_eq (ev_slice (by trivial) (b := none) (show EvO _ _ _ (some _) (some _) from ev_name (i := 1) rfl rfl) evo_none hll) ?_) (lower_tx hsA) (szl (by simp; omega))) (evL_cons ev_int evL_nil))) (Nat.le_of_ble_eq_true rfl)).e
    · rw [sl_to _ (Int.natCast_nonneg _)]; rfl
    · rw [sl_from _ (Int.natCast_nonneg _)]; rfl
  rintro _ G₀ ⟨rfl, hg⟩
  obtain rfl := hg.symm
  refine ⟨_, _, .tp _, rfl, asAll_bind (i := 4) rfl (asAll_bind (i := 3) rfl (asAll_bind (i := 2) rfl asAll_nil)), ?_⟩
  generalize hsf : (l.drop e).map lowc = sf at *
  have hdl : (l.take e).length ≤ 500 := by simp; omega
  have hdA : ∀ c ∈ l.take e, c < 128 := fun c hc => hA c (List.mem_of_mem_take hc)
  generalize hdg : l.take e = dg at *
  refine ex_cons (ex_if (b := !sSuf.any (fun c => sf == c)) (ts_eq (ts_cmp (ev_name (i := 3) rfl rfl) (ev_global (l := .r T.s_suf) (by rfl) T.g_suf (r_is _ _)) (cmp_notinSet T.S_suf)) ?_) (fun h => ?_) fun h => ex_nil ?_)
  · congr 2
    funext c
    exact tx_beq _ _
  · refine ex_cons (ex_return1 ev_none ⟨_, _, rfl, hG rfl, ?_, rfl⟩)
    rw [hnp, if_pos]
    intro hh
    rw [hh] at h; cases h
  have h1 : sSuf.any (fun c => sf == c) = true := by
    cases hh : sSuf.any (fun c => sf == c) with
    | true => rfl
    | false => rw [hh] at h; cases h
  rw [if_neg (fun hh => hh h1)] at hnp
  -- the base
  refine ex_seq (fun Λ' G' => ∃ (ga : Addr) (S : Str → Bool) (n : Nat), B.base.SetOf (strKind B.prog B.w) ga S n ∧ (∀ c, S (tx [c]) = (npSplit dg).2.2.contains c) ∧ SubLoc [some (.t l), none, some (.t (npSplit dg).1), some (.t sf), some (.i (npSplit dg).2.1), some (.r ga), none, none] Λ' ∧ G' = G) ?_ ?_
  · have hst : ∀ {C' : Cx B F_number_parts} {Λ : Loc} {p1 p2 p3 p4 : Pos} {k n : Nat}, Λ[2]? = some (some (.t dg)) → Ev C' Λ G (eval (.Subscript (.Name "digits" p1) (.Slice none (some (.Constant (.int n) k p2)) none p3) p4) C'.env) (.t (dg.take n)) := fun h2 =>
      ev_eq (ev_slice (ev_name (i := 2) rfl h2) (a := none) evo_none (show EvO _ _ _ (some _) (some _) from ev_int) (szl (by omega))) (by rw [sl_to _ (Int.natCast_nonneg _)]; rfl)
    refine ex_if (b := dg.take 2 == [48, 120] || dg.take 2 == [48, 88]) (ts_eq (ts_cmp (hst (n := 2) rfl) (ev_tupleD (xs := [.str (tx (cs "0x")), .str (tx (cs "0X"))]) (evL_cons ev_text (evL_cons ev_text evL_nil)) (Nat.le_of_ble_eq_true rfl)) (cmp_inT (flat_tx fun c hc => Nat.lt_trans (hdA c (List.mem_of_mem_take hc)) (by decide)) (by decide +kernel))) ?_) (fun h => ?_) fun h => ?_
    · rw [cs_0x, cs_0X]
      show (PyData.eqv (.str (tx [48, 120])) (.str (tx (dg.take 2))) || (PyData.eqv (.str (tx [48, 88])) (.str (tx (dg.take 2))) || false)) = _
      rw [eqv_str, eqv_str, Bool.or_false]
      congr 1 <;> exact Bool.eq_iff_iff.mpr (by rw [beq_iff_eq, beq_iff_eq]; exact ⟨Eq.symm, Eq.symm⟩)
    · have hsp : npSplit dg = (dg.drop 2, 16, sHex) := by unfold npSplit; rw [if_pos (by simpa using h)]
      rw [hsp]
      refine ex_cons (ex_assignS (P := fun x G' => x = .tp [.t (dg.drop 2), .i 16, .r T.s_hex] ∧ G' = G) ?_ rfl ?_)
      · refine (ev_tuple (evL_cons (ev_eq (ev_slice (ev_name (i := 2) rfl rfl) (b := none) (show EvO _ _ _ (some _) (some _) from ev_int) evo_none (szl (by omega))) ?_) (evL_cons ev_int (evL_cons (ev_global (l := .r T.s_hex) (by rfl) T.g_hex (r_is _ _)) evL_nil))) (Nat.le_of_ble_eq_true rfl)).e
        rw [sl_from _ (by decide)]; rfl
      rintro _ G₀ ⟨rfl, hg⟩
      obtain rfl := hg.symm
      refine ⟨_, _, .tp _, rfl, asAll_bind (i := 5) rfl (asAll_bind (i := 4) rfl (asAll_bind (i := 2) rfl asAll_nil)), ?_⟩
      exact ex_nil ⟨T.s_hex, _, _, T.S_hex, fun c => any_one _ c, subLoc_some (subLoc_none (subLoc_some (subLoc_some (subLoc_some (subLoc_some (subLoc_none (subLoc_none subLoc_nil))))))), rfl⟩
    · have h' : ¬ (dg.take 2 = [48, 120] ∨ dg.take 2 = [48, 88]) := by simpa using h
      refine ex_cons (ex_if (b := dg.take 1 == [48]) (ts_eq (ts_cmp (hst (n := 1) rfl) ev_text cmp_eqT) (by rw [cs_0])) (fun h2 => ?_) fun h2 => ?_)
      · have hsp : npSplit dg = (dg, 8, sOct) := by unfold npSplit; rw [if_neg h', if_pos (by simpa using h2)]
        rw [hsp]
        refine ex_cons (ex_assignS (P := fun x G' => x = .tp [.i 8, .r T.s_oct] ∧ G' = G) ?_ rfl ?_)
        · exact (ev_tuple (evL_cons ev_int (evL_cons (ev_global (l := .r T.s_oct) (by rfl) T.g_oct (r_is _ _)) evL_nil)) (Nat.le_of_ble_eq_true rfl)).e
        rintro _ G₀ ⟨rfl, hg⟩
        obtain rfl := hg.symm
        refine ⟨_, _, .tp _, rfl, asAll_bind (i := 5) rfl (asAll_bind (i := 4) rfl asAll_nil), ?_⟩
        exact ex_nil (ex_nil ⟨T.s_oct, _, _, T.S_oct, fun c => any_one _ c, subLoc_some (subLoc_none (subLoc_some (subLoc_some (subLoc_some (subLoc_some (subLoc_none (subLoc_none subLoc_nil))))))), rfl⟩)
      · have hsp : npSplit dg = (dg, 10, sDig) := by unfold npSplit; rw [if_neg h', if_neg (by simpa using h2)]
        rw [hsp]
        refine ex_cons (ex_assign1 (i := 5) rfl (ev_global (l := .r T.s_dig) (by rfl) T.g_dig (r_is _ _)) ?_)
        exact ex_nil (ex_nil ⟨T.s_dig, _, _, T.S_dig, fun c => any_one _ c, subLoc_some (subLoc_none (subLoc_some (subLoc_some (subLoc_some (subLoc_some (subLoc_none (subLoc_none subLoc_nil))))))), rfl⟩)
  rintro Λ' G₀ ⟨ga, S, n, hS, hSc, hsub, hg⟩
  obtain rfl := hg.symm
  refine Ex.weak hsub ?_
  have hb16 : (npSplit dg).2.1 ≤ 16 := by
    unfold npSplit
    split
    · exact Nat.le_refl _
    · split
      · show 8 ≤ 16
        decide
      · show 10 ≤ 16
        decide
  have hdl2 : (npSplit dg).1.length ≤ 500 := by
    unfold npSplit
    split
    · simp; omega
    · split <;> exact hdl
  have hgood : ∀ c, (npSplit dg).2.2.contains c = true → dv c < 16 := fun c h => np_good (List.contains_iff_mem.mp h)
  generalize npSplit dg = sp at *
  obtain ⟨ds, base, goodL⟩ := sp
  simp only at hnp hSc hb16 hdl2 hgood ⊢
  refine ex_cons (ex_if (b := ds == []) (ts_eq (ts_cmp (ev_name (i := 2) rfl rfl) ev_text cmp_eqT) (by rw [cs_e])) (fun h => ?_) fun h => ex_nil ?_)
  · refine ex_cons (ex_return1 ev_none ⟨_, _, rfl, hG rfl, ?_, rfl⟩)
    rw [hnp, if_pos (by simpa using h)]
  rw [if_neg (by simpa using h)] at hnp
  refine ex_cons (ex_assign1 (i := 6) rfl ev_int (ex_cons ?_))
  refine ex_for (σ := Unit) (ev_name (i := 2) (l := .t ds) rfl rfl).e ?_
  rintro _ G₀ ⟨rfl, hg⟩
  obtain rfl := hg.symm
  refine ⟨_, fun i _ => [some (.t l), none, some (.t ds), some (.t sf), some (.i base), some (.r ga), some (.i (worthOf base (ds.take i) : Nat)), none], fun i _ => [some (.t l), none, some (.t ds), some (.t sf), some (.i base), some (.r ga), some (.i (worthOf base (ds.take i) : Nat)), some (.t [ds.getD i 0])], fun _ _ => G, fun i _ => ∀ c ∈ ds.take i, goodL.contains c = true, (), itR_text, fun c h => by simp at h, subLoc_some (subLoc_none (subLoc_some (subLoc_some (subLoc_some (subLoc_some (subLoc_some (subLoc_none subLoc_nil))))))), rfl, ?_, ?_, ?_⟩
  · intro i x y hx' hy a o
    have : y = .t [ds.getD i 0] := by
      rw [List.getElem?_map] at hy
      obtain ⟨z, hz, rfl⟩ := Option.map_eq_some_iff.mp hy
      rw [List.getD_eq_getElem?_getD, hz]; rfl
    subst this
    exact as_name (i := 7) rfl
  · intro i x hi hJ a o
    have hi' : i < ds.length := by simpa using hi
    have hget : ds.getD i 0 = ds[i] := by rw [List.getD_eq_getElem?_getD, List.getElem?_eq_getElem hi']; rfl
    have htk : ds.take (i + 1) = ds.take i ++ [ds[i]] := by rw [List.take_add_one, List.getElem?_eq_getElem hi']; rfl
    show Ex (C.hold a o) [some (.t l), none, some (.t ds), some (.t sf), some (.i base), some (.r ga), some (.i (worthOf base (ds.take i) : Nat)), some (.t [ds.getD i 0])] G _ _
    rw [hget]
    refine ex_cons (ex_if (b := !goodL.contains ds[i]) (ts_eq (ts_cmp (ev_name (i := 7) rfl rfl) (ev_name (i := 5) rfl rfl) (cmp_notinSet hS)) (by rw [hSc])) (fun h => ?_) fun h => ex_nil ?_)
    · refine ex_cons (ex_return1 ev_none ⟨_, _, rfl, hG rfl, ?_, rfl⟩)
      rw [hnp, if_neg]
      intro hh
      have := List.all_eq_true.mp hh ds[i] (List.getElem_mem _)
      rw [this] at h; cases h
    · have hc : goodL.contains ds[i] = true := by
        cases hh : goodL.contains ds[i] with
        | true => rfl
        | false => rw [hh] at h; cases h
      refine ex_cons (ex_assign1 (i := 6) (l := .i (worthOf base (ds.take (i + 1)) : Nat)) rfl (ev_eq (ev_bin (ev_bin (ev_name (i := 6) rfl rfl) (ev_name (i := 4) rfl rfl) (bin_mul (IntMulOk.of_right (Nat.le_trans (bits_small hb16) (by decide))))) (ev_callB (.ty _) (by rfl) T.n_int T.m_int (evL_cons (ev_name (i := 7) rfl rfl) (evL_cons ev_int evL_nil)) (call_intT (l := [ds[i]]) (base := 16) (.inl rfl) (by unfold figs; simpa using hgood _ hc) (List.cons_ne_nil _ _) (by simp))) bin_add) ?_) (ex_nil ⟨(), ?_, ?_, rfl⟩))
      · rw [htk, worth_snoc]
        simp [worthOf]
      · intro c hc'
        rw [htk] at hc'
        rcases List.mem_append.mp hc' with hc' | hc'
        · exact hJ c hc'
        · obtain rfl := List.mem_singleton.mp hc'
          exact hc
      · exact subLoc_some (subLoc_none (subLoc_some (subLoc_some (subLoc_some (subLoc_some (subLoc_some (subLoc_none subLoc_nil)))))))
  intro _ hJ
  have e2 : ds.take (ds.map fun c => LV.t [c]).length = ds := by simp
  show Ex C [some (.t l), none, some (.t ds), some (.t sf), some (.i base), some (.r ga), some (.i (worthOf base (ds.take (ds.map fun c => LV.t [c]).length) : Nat)), none] G _ _
  rw [e2]
  rw [e2] at hJ
  refine ex_cons (ex_return1 (ev_tupleD (xs := [.int (worthOf base ds : Nat), .int base, .str (tx sf)]) (evL_cons (ev_name (i := 6) rfl rfl) (evL_cons (ev_name (i := 4) rfl rfl) (evL_cons (ev_name (i := 3) rfl rfl) evL_nil))) (Nat.le_of_ble_eq_true rfl)) ⟨_, _, rfl, hG rfl, ?_, rfl⟩)
  rw [hnp, if_pos (List.all_eq_true.mpr fun c hc => hJ c hc)]
end


/-- the program's reading of an escape: its value, and how many signs it takes -/
def eaV (r : List Nat) : Option (Int × Nat) :=
  match shortsL.find? (fun p => r.take 1 == [p.1]) with
  | some p => some (p.2, 1)
  | none => if (r.take 1).any sOct.contains then some (worthOf 8 ((r.take 3).takeWhile sOct.contains), ((r.take 3).takeWhile sOct.contains).length)
    else if r.take 1 ≠ [120] ∨ (r.drop 1).takeWhile sHex.contains = [] then none else some (worthOf 16 ((r.drop 1).takeWhile sHex.contains), 1 + ((r.drop 1).takeWhile sHex.contains).length)
def eaD (r : List Nat) (at_ : Nat) : PyData := match eaV r with
  | some (v, k) => .tuple [.int v, .int (at_ + k : Nat)]
  | none => .none
theorem tw {p : Nat → Bool} {q : List Nat} {k : Nat} (h1 : ∀ c ∈ q.take k, p c = true) (h2 : k < q.length → p (q.getD k 0) = false) : q.takeWhile p = q.take k := by
  by_cases h : k < q.length
  · have e : q = q.take k ++ q[k] :: q.drop (k + 1) := by rw [← List.drop_eq_getElem_cons h, List.take_append_drop]
    have h3 := h2 h
    rw [List.getD_eq_getElem?_getD, List.getElem?_eq_getElem h] at h3
    have h3' : p q[k] = false := h3
    conv => lhs; rw [e]
    rw [List.takeWhile_append_of_pos h1, List.takeWhile_cons, h3']; simp
  · rw [List.take_of_length_le (by omega)] at h1 ⊢
    have := List.takeWhile_append_of_pos (l₁ := q) (l₂ := []) (p := p) h1
    simpa using this
theorem worthOf_nil (b : Nat) : worthOf b [] = 0 := rfl
theorem sh_hex : ∀ c ∈ sHex, dv c < 16 := by decide +kernel
theorem sh_oct : ∀ c ∈ sOct, dv c < 8 := by decide +kernel
theorem drop_take1 (l : List Nat) (a b : Nat) : (l.take (a + b)).drop a = (l.drop a).take b := by rw [List.drop_take]; congr 1; omega
theorem getD_drop0 (l : List Nat) (a k : Nat) : (l.drop a).getD k 0 = l.getD (a + k) 0 := by rw [List.getD_eq_getElem?_getD, List.getD_eq_getElem?_getD, List.getElem?_drop]

section
variable {B : Bs} {F F' : Fd} {C : Cx B F} {Λ : Loc} {G : Gs} {O : Out → Prop}
theorem escape_at_spec (T : Tp B) {G : Gs} {l : List Nat} {at_ : Nat} (hl : l.length ≤ 500) (ha : at_ ≤ l.length) :
    Spec B T.a_escape_at 1 [.t l, .i at_] G fun r G' => r = .d (eaD (l.drop at_) at_) ∧ G' = G := by
  refine spec_of T.d_escape_at ⟨_, rfl⟩ (by decide +kernel) rfl fun C hgin hd hu => ?_
  have hG : ∀ {G' : Gs}, G' = G → ∀ g' ∈ G', g'.1 ∈ G.map (·.1) := fun e g' hg => List.mem_map_of_mem (f := (·.1)) (e ▸ hg)
  have hll : l.length ≤ sizeLine := szl (by omega)
  have hr : l.drop at_ = l.drop at_ := rfl
  have hrl : (l.drop at_).length = l.length - at_ := List.length_drop ..
  generalize hre : l.drop at_ = r at *
  refine ex_cons (ex_assign1 (i := 2) (l := .t (r.take 1)) rfl (ev_eq (ev_slice (by trivial) (show EvO _ _ _ (some _) (some _) from by trivial) (show EvO _ _ _ (some _) (some _) from by trivial) hll) ?_) ?_)
  · rw [sl_nn _ (by omega) (by omega), ← hre, ← drop_take1]
    congr 3
  have hesc : (T.v_esc (tx (r.take 1))).isSome = (shortsL.find? fun p => r.take 1 == [p.1]).isSome := by
    rw [(T.h_esc _).1]
    unfold escOf
    rw [Option.isSome_map]
    congr 2
    funext p
    exact tx_beq _ _
  have heD : eaD r at_ = match eaV r with | some (v, k) => .tuple [.int v, .int (at_ + k : Nat)] | none => .none := rfl
  have heV : eaV r = match shortsL.find? (fun p => r.take 1 == [p.1]) with
    | some p => some (p.2, 1)
    | none => if (r.take 1).any sOct.contains then some (worthOf 8 ((r.take 3).takeWhile sOct.contains), ((r.take 3).takeWhile sOct.contains).length)
      else if r.take 1 ≠ [120] ∨ (r.drop 1).takeWhile sHex.contains = [] then none else some (worthOf 16 ((r.drop 1).takeWhile sHex.contains), 1 + ((r.drop 1).takeWhile sHex.contains).length) := rfl
  refine ex_cons (ex_if (b := (shortsL.find? fun p => r.take 1 == [p.1]).isSome) (ts_eq (ts_cmp (ev_name (i := 2) rfl rfl) (ev_global (l := .r T.t_esc) (by rfl) T.g_esc (r_is _ _)) (cmp_inDict T.M_esc T.ns_esc)) hesc) (fun h => ?_) fun h => ex_nil ?_)
  · obtain ⟨p, hp⟩ := Option.isSome_iff_exists.mp h
    obtain ⟨v, hv⟩ := Option.isSome_iff_exists.mp (hesc.trans h)
    have hesc2 : escOf (tx (r.take 1)) = some (.i p.2) := by
      unfold escOf
      rw [show (fun p : Nat × Int => tx (r.take 1) == tx [p.1]) = fun p => r.take 1 == [p.1] from funext fun p => tx_beq _ _, hp]; rfl
    have hvi := (T.h_esc _).2 _ _ hesc2 hv
    rw [hp] at heV
    rw [heV] at heD
    refine ex_cons (ex_return1 (ev_eq (ev_tupleD (xs := [.int p.2, .int (at_ + 1)]) (evL_cons (ev_sub (ev_global (l := .r T.t_esc) (by rfl) T.g_esc (r_is _ _)) (ev_name (i := 2) rfl rfl) (sub_dict T.M_esc hv hvi)) (evL_cons (by trivial) evL_nil)) (Nat.le_of_ble_eq_true rfl)) ?_) ⟨_, _, rfl, hG rfl, rfl, rfl⟩)
    rw [heD]; rfl
  have hno : shortsL.find? (fun p => r.take 1 == [p.1]) = none := by
    cases hh : shortsL.find? (fun p => r.take 1 == [p.1]) with
    | none => rfl
    | some p => rw [hh] at h; cases h
  rw [hno] at heV
  simp only at heV
  -- figures of base eight
  have hoct1 : (sOct.any fun c => tx (r.take 1) == tx [c]) = (r.take 1).any sOct.contains := by
    cases r with
    | nil => decide +kernel
    | cons c r => rw [show (c :: r).take 1 = [c] from rfl, any_one, List.any_cons, List.any_nil, Bool.or_false]
  refine ex_cons (ex_if (b := (r.take 1).any sOct.contains) (ts_eq (ts_cmp (ev_name (i := 2) rfl rfl) (ev_global (l := .r T.s_oct) (by rfl) T.g_oct (r_is _ _)) (cmp_inSet T.S_oct)) hoct1) (fun h => ?_) fun h => ex_nil ?_)
  · rw [if_pos h] at heV
    refine ex_cons (ex_assign1 (i := 3) (l := .i ((at_ + 0 : Nat) : Int)) rfl (ev_name (i := 1) rfl rfl) ?_)
    refine ex_seq (fun Λ' G' => SubLoc [some (.t l), some (.i at_), none, some (.i ((at_ + ((r.take 3).takeWhile sOct.contains).length : Nat) : Int))] Λ' ∧ G' = G) ?_ ?_
    · refine ex_while (σ := Nat) (fun k => [some (.t l), some (.i at_), none, some (.i ((at_ + k : Nat) : Int))]) (fun _ => G) (fun k => k ≤ 3 ∧ k ≤ r.length ∧ ∀ c ∈ r.take k, sOct.contains c = true) (fun k => 3 - k) (fun k => decide (k < r.length) && (decide (k < 3) && sOct.contains (r.getD k 0))) ?_ ?_ ?_ 0 ⟨by omega, by omega, fun c h => by simp at h⟩ (subLoc_some (subLoc_some (subLoc_none (subLoc_some subLoc_nil)))) rfl
      · rintro k ⟨h1, h2, h3⟩
        refine ts_eq (ts_bool (ts_and (a := decide (k < r.length)) (ts_eq (ts_cmp (ev_name (i := 3) rfl rfl) (by trivial) cmp_lt) ?_) fun hk => ts_and (a := decide (k < 3)) (ts_eq (ts_cmp (ev_name (i := 3) rfl rfl) (by trivial) cmp_lt) ?_) fun _ => ts_and (ts_cmp (ev_sub (ev_name (i := 0) rfl rfl) (ev_name (i := 3) rfl rfl) (sub_text (by omega) ?_ hll)) (ev_global (l := .r T.s_oct) (by rfl) T.g_oct (r_is _ _)) (cmp_inSet T.S_oct)) fun _ => ts_and_nil)) ?_
        · rw [hrl]; exact decide_eq_decide.mpr (by omega)
        · exact decide_eq_decide.mpr (by omega)
        · have := of_decide_eq_true hk; omega
        · rw [any_one, Bool.and_true, ← hre, getD_drop0]; rfl
      · rintro k ⟨h1, h2, h3⟩ hb
        rw [Bool.and_eq_true, Bool.and_eq_true, decide_eq_true_eq, decide_eq_true_eq] at hb
        obtain ⟨b1, b2, b3⟩ := hb
        refine ex_cons (ex_aug (i := 3) (c := .i ((at_ + (k + 1) : Nat) : Int)) rfl rfl ev_int ?_ (ex_nil ⟨k + 1, ⟨by omega, by omega, fun c hc => ?_⟩, by omega, subLoc_some (subLoc_some (subLoc_none (subLoc_some subLoc_nil))), rfl⟩))
        · have : (((at_ + (k + 1) : Nat)) : Int) = ((at_ + k : Nat) : Int) + 1 := by omega
          rw [this]; exact ibin_add
        · rw [List.take_add_one, List.getElem?_eq_getElem b1] at hc
          rcases List.mem_append.mp hc with hc | hc
          · exact h3 c hc
          · obtain rfl := List.mem_singleton.mp hc
            rw [List.getD_eq_getElem?_getD, List.getElem?_eq_getElem b1] at b3
            exact b3
      · rintro k ⟨h1, h2, h3⟩ hb
        have ht3 : (r.take 3).take k = r.take k := by rw [List.take_take]; congr 1; omega
        have e : (r.take 3).takeWhile sOct.contains = r.take k := by
          rw [← ht3]
          refine tw (by rw [ht3]; exact h3) fun hk => ?_
          rw [List.length_take] at hk
          rw [decide_eq_true (show k < r.length by omega), decide_eq_true (show k < 3 by omega)] at hb
          rw [List.getD_eq_getElem?_getD, List.getElem?_take_of_lt (by omega), ← List.getD_eq_getElem?_getD]
          simpa using hb
        refine ex_nil ⟨?_, rfl⟩
        rw [e, List.length_take, Nat.min_eq_left h2]
        exact ⟨rfl, fun i l h => h⟩
    rintro Λ' G₀ ⟨hsub, hg⟩
    obtain rfl := hg.symm
    refine Ex.weak hsub ?_
    have hq : ∀ c ∈ (r.take 3).takeWhile sOct.contains, sOct.contains c = true := fun c hc => List.all_eq_true.mp (List.all_takeWhile) c hc
    have hqne : (r.take 3).takeWhile sOct.contains ≠ [] := by
      cases r with
      | nil => simp at h
      | cons c r =>
        have hc : sOct.contains c = true := by simpa using h
        rw [show (c :: r).take 3 = c :: r.take 2 from rfl, List.takeWhile_cons, if_pos hc]
        exact List.cons_ne_nil _ _
    have hqt : (r.take 3).takeWhile sOct.contains = r.take ((r.take 3).takeWhile sOct.contains).length := by
      have h1 := List.takeWhile_prefix (p := sOct.contains) (l := r.take 3)
      have h2 := h1.trans (List.take_prefix 3 r)
      exact List.prefix_iff_eq_take.mp h2
    have hq3 : ((r.take 3).takeWhile sOct.contains).length ≤ 3 := Nat.le_trans (List.takeWhile_sublist _).length_le (by simp; omega)
    generalize (r.take 3).takeWhile sOct.contains = q at *
    rw [heV] at heD
    refine ex_cons (ex_return1 (ev_eq (ev_tupleD (xs := [.int (worthOf 8 q : Nat), .int (at_ + q.length : Nat)]) (evL_cons (ev_callB (.ty _) (by rfl) T.n_int T.m_int (evL_cons (ev_eq (ev_slice (ev_name (i := 0) rfl rfl) (show EvO _ _ _ (some _) (some _) from ev_name (i := 1) rfl rfl) (show EvO _ _ _ (some _) (some _) from ev_name (i := 3) rfl rfl) hll) ?_) (evL_cons ev_int evL_nil)) (call_intT (l := q) (base := 8) (.inr rfl) (by unfold figs; exact List.all_eq_true.mpr fun c hc => decide_eq_true (sh_oct c (List.contains_iff_mem.mp (hq c hc)))) hqne (by omega))) (evL_cons (ev_name (i := 3) rfl rfl) evL_nil)) (Nat.le_of_ble_eq_true rfl)) ?_) ⟨_, _, rfl, hG rfl, rfl, rfl⟩)
    · rw [sl_nn _ (by omega) (by omega)]
      show LV.t ((l.take (at_ + q.length)).drop at_) = _
      rw [drop_take1, hre, ← hqt]
    · rw [heD]
  rw [if_neg (by rw [h]; exact Bool.false_ne_true)] at heV
  -- figures of base sixteen
  refine ex_cons (ex_if (b := r.take 1 != [120]) (ts_eq (ts_cmp (ev_name (i := 2) rfl rfl) ev_text cmp_neT) (by rw [cs_x])) (fun h => ?_) fun h => ex_nil ?_)
  · rw [if_pos (.inl (by simpa using h))] at heV
    rw [heV] at heD
    exact ex_cons (ex_return1 ev_none ⟨_, _, rfl, hG rfl, by rw [heD], rfl⟩)
  have hx : r.take 1 = [120] := by simpa using h
  have hr1 : 1 ≤ r.length := by
    cases r with
    | nil => simp at hx
    | cons _ _ => simp
  generalize hq : r.drop 1 = q at *
  have hql : q.length = r.length - 1 := by rw [← hq]; simp
  have hgq : ∀ k, q.getD k 0 = l.getD (at_ + 1 + k) 0 := fun k => by rw [← hq, ← hre, getD_drop0, getD_drop0]; congr 1; omega
  refine ex_cons (ex_assign1 (i := 3) (l := .i ((at_ + 1 + 0 : Nat) : Int)) rfl (by trivial) ?_)
  refine ex_seq (fun Λ' G' => SubLoc [some (.t l), some (.i at_), none, some (.i ((at_ + 1 + (q.takeWhile sHex.contains).length : Nat) : Int))] Λ' ∧ G' = G) ?_ ?_
  · refine ex_while (σ := Nat) (fun k => [some (.t l), some (.i at_), none, some (.i ((at_ + 1 + k : Nat) : Int))]) (fun _ => G) (fun k => k ≤ q.length ∧ ∀ c ∈ q.take k, sHex.contains c = true) (fun k => q.length - k) (fun k => decide (k < q.length) && sHex.contains (q.getD k 0)) ?_ ?_ ?_ 0 ⟨by omega, fun c h => by simp at h⟩ (subLoc_some (subLoc_some (subLoc_none (subLoc_some subLoc_nil)))) rfl
    · rintro k ⟨h1, h2⟩
      refine ts_eq (ts_bool (ts_and (a := decide (k < q.length)) (ts_eq (ts_cmp (ev_name (i := 3) rfl rfl) (by trivial) cmp_lt) ?_) fun hk => ts_and (ts_cmp (ev_sub (ev_name (i := 0) rfl rfl) (ev_name (i := 3) rfl rfl) (sub_text (by omega) ?_ hll)) (ev_global (l := .r T.s_hex) (by rfl) T.g_hex (r_is _ _)) (cmp_inSet T.S_hex)) fun _ => ts_and_nil)) ?_
      · exact decide_eq_decide.mpr (by omega)
      · have := of_decide_eq_true hk; omega
      · rw [any_one, Bool.and_true, hgq]; rfl
    · rintro k ⟨h1, h2⟩ hb
      rw [Bool.and_eq_true, decide_eq_true_eq] at hb
      obtain ⟨b1, b2⟩ := hb
      refine ex_cons (ex_aug (i := 3) (c := .i ((at_ + 1 + (k + 1) : Nat) : Int)) rfl rfl ev_int ?_ (ex_nil ⟨k + 1, ⟨by omega, fun c hc => ?_⟩, by omega, subLoc_some (subLoc_some (subLoc_none (subLoc_some subLoc_nil))), rfl⟩))
      · have : (((at_ + 1 + (k + 1) : Nat)) : Int) = ((at_ + 1 + k : Nat) : Int) + 1 := by omega
        rw [this]; exact ibin_add
      · rw [List.take_add_one, List.getElem?_eq_getElem b1] at hc
        rcases List.mem_append.mp hc with hc | hc
        · exact h2 c hc
        · obtain rfl := List.mem_singleton.mp hc
          rw [List.getD_eq_getElem?_getD, List.getElem?_eq_getElem b1] at b2
          exact b2
    · rintro k ⟨h1, h2⟩ hb
      have e : q.takeWhile sHex.contains = q.take k := by
        refine tw h2 fun hk => ?_
        rw [decide_eq_true hk] at hb
        simpa using hb
      refine ex_nil ⟨?_, rfl⟩
      rw [e, List.length_take, Nat.min_eq_left h1]
      exact ⟨rfl, fun i l h => h⟩
  rintro Λ' G₀ ⟨hsub, hg⟩
  obtain rfl := hg.symm
  refine Ex.weak hsub ?_
  have hw : ∀ c ∈ q.takeWhile sHex.contains, sHex.contains c = true := fun c hc => List.all_eq_true.mp (List.all_takeWhile) c hc
  have hwt : q.takeWhile sHex.contains = q.take (q.takeWhile sHex.contains).length := List.prefix_iff_eq_take.mp (List.takeWhile_prefix _)
  have hwl : (q.takeWhile sHex.contains).length ≤ q.length := (List.takeWhile_sublist _).length_le
  generalize q.takeWhile sHex.contains = w at *
  refine ex_cons (ex_return1 (l := .d (eaD r at_)) ?_ ⟨_, _, rfl, hG rfl, rfl, rfl⟩)
  refine ev_if2 (b := decide (w ≠ [])) (ts_eq (ts_cmp (ev_name (i := 3) rfl rfl) (by trivial) cmp_gt) ?_) (fun h => ?_) fun h => ?_
  · have : w ≠ [] ↔ 0 < w.length := List.length_pos_iff.symm
    exact decide_eq_decide.mpr (by rw [this]; omega)
  · have hne : w ≠ [] := of_decide_eq_true h
    rw [if_neg (by rintro (h1 | h1); exact h1 hx; exact hne h1)] at heV
    rw [heV] at heD
    rw [heD]
    refine ev_eq (ev_tupleD (xs := [.int (worthOf 16 w : Nat), .int (at_ + 1 + w.length : Nat)]) (evL_cons (ev_callB (.ty _) (by rfl) T.n_int T.m_int (evL_cons (ev_eq (ev_slice (ev_name (i := 0) rfl rfl) (show EvO _ _ _ (some _) (some _) from by trivial) (show EvO _ _ _ (some _) (some _) from ev_name (i := 3) rfl rfl) hll) ?_) (evL_cons ev_int evL_nil)) (call_intT (l := w) (base := 16) (.inl rfl) (by unfold figs; exact List.all_eq_true.mpr fun c hc => decide_eq_true (sh_hex c (List.contains_iff_mem.mp (hw c hc)))) hne (by omega))) (evL_cons (ev_name (i := 3) rfl rfl) evL_nil)) (Nat.le_of_ble_eq_true rfl)) ?_
    · rw [sl_nn _ (by omega) (by omega)]
      show LV.t ((l.take (at_ + 1 + w.length)).drop (at_ + 1)) = _
      rw [drop_take1, ← List.drop_drop, hre, hq, ← hwt]
    · show LV.d (.tuple [.int (worthOf 16 w : Nat), .int ((at_ + 1 + w.length : Nat) : Int)]) = .d (.tuple [.int (worthOf 16 w : Nat), .int ((at_ + (1 + w.length) : Nat) : Int)])
      rw [Nat.add_assoc]
  · have hne : ¬ w ≠ [] := of_decide_eq_false h
    rw [if_pos (.inr (Classical.not_not.mp hne))] at heV
    rw [heV] at heD
    rw [heD]
    exact ev_none
end


def lo : List Nat → List Int → Option (List Int)
  | [], acc => some acc
  | c :: r, acc => if c = 92 then match eaV r with
      | none => none
      | some (v, k) => if 255 < v then none else lo (r.drop k) (acc ++ [v])
    else if (255 : Int) < c then none else lo r (acc ++ [(c : Int)])
termination_by r => r.length
decreasing_by
  · simp; omega
  · simp
def lod (l : List Nat) : PyData := match lo ((l.take (l.length - 1)).drop 1) [] with
  | none => .none
  | some f => .list (f.map .int)
section
variable {B : Bs} {F F' : Fd} {C : Cx B F} {Λ : Loc} {G : Gs} {O : Out → Prop}
/-- told behind a list of the run's own, which is forgotten -/
theorem ex_returnD {e : PySem.Expr} {pos : Pos} {l : LV} {a : Addr} {ls : List LV} (he : Ev C Λ ((a, ls) :: G) (eval e C.env) l) (hgin : C.gin = G.map (·.1)) (h : O (.rt l G)) : Ex C Λ ((a, ls) :: G) (exec (.Return (some e) pos) C.env) O := fun K s g Q E q =>
  wpAny_Return_some (he K s g _ E fun K' v s' k' g' i' => by
    obtain ⟨K₂, vs, k₂, h1, h2, g₂⟩ := Inv.freeze (G₁ := []) g' (own_new g' hgin fun x hx => hx)
    exact q K₂ _ s' _ (k'.trans k₂) h ⟨v, Λ, rfl, i'.mono k₂, g₂⟩)

set_option maxHeartbeats 4000000 in
theorem literal_values_spec (T : Tp B) {G : Gs} {l : List Nat} (hl : l.length ≤ 400) (h2 : 2 ≤ l.length) (hq : l.getD 0 0 ≠ 76) :
    Spec B T.a_literal_values 2 [.t l, .i 255] G fun r G' => r = .d (lod l) ∧ G' = G := by
  refine spec_of T.d_literal_values ⟨_, rfl⟩ (by decide +kernel) rfl fun C hgin hd hu => ?_
  have hG : ∀ {G' : Gs}, G' = G → ∀ g' ∈ G', g'.1 ∈ G.map (·.1) := fun e g' hg => List.mem_map_of_mem (f := (·.1)) (e ▸ hg)
  have hll : l.length ≤ sizeLine := szl (by omega)
  have hlod : lod l = match lo ((l.take (l.length - 1)).drop 1) [] with
    | none => .none
    | some f => .list (f.map .int) := rfl
  have hsl := sl_inner l
  have hbl : ((l.take (l.length - 1)).drop 1).length ≤ 400 := by simp; omega
  generalize (l.take (l.length - 1)).drop 1 = body at *
  have hfirst : Ev C [some (.t l), some (.i 255), none, none, none, none, none] G (eval (asgV (b_literal_values.getD 0 (.Pass ⟨0, 0, 0, 0⟩))) C.env) (.t body) := by
    refine ev_eq (ev_slice (ev_name (i := 0) rfl rfl) (a := some 1) (b := some (-1)) ?_ ?_ hll) (congrArg LV.t hsl)
    · refine ev_eq (ev_bin ev_int (ev_callB (.ty _) (by rfl) T.n_int T.m_int (evL_cons (ev_eq (ev_cmp (ev_sub (ev_name (i := 0) rfl rfl) ev_int (sub_text (by decide) (by omega) hll)) ev_text cmp_eqT) ?_) evL_nil) (call_intB (b := false))) bin_add) rfl
      have : cs "L" = [76] := by decide +kernel
      rw [this]
      have hne : ([l.getD (0 : Int).toNat 0] == [76]) = false := by simpa using hq
      rw [hne]
    · exact ev_neg ev_int
  refine ex_cons (ex_assignS (P := fun x G' => ∃ a, x = .tp [.t body, .r a, .i 0] ∧ G' = (a, []) :: G) ?_ rfl ?_)
  · refine (evG_tuple (P := fun ls G' => ∃ a, ls = [.t body, .r a, .i 0] ∧ G' = (a, []) :: G) (evLG_cons (P₁ := fun x G' => x = .t body ∧ G' = G) hfirst.e ?_) ?_).to ?_
    · rintro _ G₀ ⟨rfl, hg⟩
      obtain rfl := hg.symm
      refine evLG_cons (evG_own (P := fun ls G' => ls = [] ∧ G' = G) (evLG_nil ⟨rfl, rfl⟩) fun ls G' h => by rw [h.1]; exact Nat.zero_le _) ?_
      rintro _ _ ⟨a, ls, G₁, rfl, rfl, rfl, h⟩
      obtain rfl := h.symm
      exact evLG_cons ev_int.e fun _ _ ⟨h1, h2⟩ => evLG_nil ⟨a, by rw [h1], h2⟩
    · rintro ls G' ⟨a, rfl, rfl⟩
      exact Nat.le_of_ble_eq_true rfl
    · rintro x G' ⟨ls, rfl, a, rfl, rfl⟩
      exact ⟨a, rfl, rfl⟩
  rintro _ _ ⟨a, rfl, rfl⟩
  refine ⟨_, _, .tp _, rfl, asAll_bind (i := 4) rfl (asAll_bind (i := 3) rfl (asAll_bind (i := 2) rfl asAll_nil)), ?_⟩
  have hbs : body.length ≤ sizeLine := szl (by omega)
  refine ex_seq (fun Λ' G' => ∃ f, lo body [] = some f ∧ SubLoc [some (.t l), some (.i 255), none, some (.r a), none, none, none] Λ' ∧ G' = (a, (f.map PyData.int).map .d) :: G) ?_ ?_
  · refine ex_while (σ := Nat × List Int) (fun x => [some (.t l), some (.i 255), some (.t body), some (.r a), some (.i x.1), none, none]) (fun x => (a, (x.2.map PyData.int).map .d) :: G) (fun x => lo (body.drop x.1) x.2 = lo body [] ∧ x.2.length ≤ x.1) (fun x => body.length - x.1) (fun x => decide (x.1 < body.length)) ?_ ?_ ?_ (0, []) ⟨rfl, Nat.le_refl _⟩ (subLoc_some (subLoc_some (subLoc_some (subLoc_some (subLoc_some (subLoc_none (subLoc_none subLoc_nil))))))) rfl
    · rintro ⟨n, f⟩ ⟨hJ, hf⟩
      refine ts_eq (ts_cmp (ev_name (i := 4) rfl rfl) (ev_callB (.fn _) (by rfl) T.n_len T.m_len (evL_cons (ev_name (i := 2) rfl rfl) evL_nil) (call_len hbs)) cmp_lt) ?_
      exact decide_eq_decide.mpr (by show (n : Int) < body.length ↔ n < body.length; omega)
    · rintro ⟨n, f⟩ ⟨hJ, hf⟩ hb
      have hb : n < body.length := of_decide_eq_true hb
      have hf : f.length ≤ n := hf
      have hJ : lo (body.drop n) f = lo body [] := hJ
      show Ex C [some (.t l), some (.i 255), some (.t body), some (.r a), some (.i n), none, none] ((a, (f.map PyData.int).map .d) :: G) _ _
      rw [List.drop_eq_getElem_cons hb, lo] at hJ
      have hgd : body.getD n 0 = body[n] := by rw [List.getD_eq_getElem?_getD, List.getElem?_eq_getElem hb]; rfl
      have hsub : ∀ {Λ : Loc} {p1 p2 p3 : Pos}, Λ[2]? = some (some (.t body)) → Λ[4]? = some (some (.i n)) → Ev C Λ ((a, (f.map PyData.int).map .d) :: G) (eval (.Subscript (.Name "inner" p1) (.Name "at" p2) p3) C.env) (.t [body[n]]) := fun h1 h2 =>
        ev_eq (ev_sub (ev_name (i := 2) rfl h1) (ev_name (i := 4) rfl h2) (sub_text (by omega) (by omega) hbs)) (by rw [Int.toNat_natCast, hgd])
      -- the value and what is behind it
      refine ex_seq (fun Λ' G' => ∃ (v : Int) (m : Nat), n < m ∧ lo body [] = (if 255 < v then none else lo (body.drop m) (f ++ [v])) ∧ SubLoc [some (.t l), some (.i 255), some (.t body), some (.r a), some (.i m), none, some (.i v)] Λ' ∧ G' = (a, (f.map PyData.int).map .d) :: G) ?_ ?_
      · refine ex_if (b := [body[n]] == [92]) (ts_eq (ts_cmp (hsub rfl rfl) ev_text cmp_eqT) (by rw [cs_bs])) (fun h => ?_) fun h => ?_
        · have hc : body[n] = 92 := by simpa using h
          rw [if_pos hc] at hJ
          have hes : Spec B T.a_escape_at 1 [.t body, .i ((n + 1 : Nat) : Int)] ((a, (f.map PyData.int).map .d) :: G) fun r G' => r = .d (eaD (body.drop (n + 1)) (n + 1)) ∧ G' = (a, (f.map PyData.int).map .d) :: G := escape_at_spec T (by omega) (by omega)
          refine ex_cons (ex_assign1 (i := 5) (l := .d (eaD (body.drop (n + 1)) (n + 1))) rfl (EvG.one (evG_spec T.d_escape_at T.g_escape_at (evL_cons (ev_name (i := 2) rfl rfl) (evL_cons (ev_eq (ev_bin (ev_name (i := 4) rfl rfl) ev_int bin_add) (by simp)) evL_nil)) hes (by omega) (by omega))) ?_)
          have hed : eaD (body.drop (n + 1)) (n + 1) = match eaV (body.drop (n + 1)) with | some (v, k) => .tuple [.int v, .int (n + 1 + k : Nat)] | none => .none := rfl
          cases hv : eaV (body.drop (n + 1)) with
          | none =>
            rw [hv] at hJ hed
            rw [hed]
            refine ex_cons (ex_if (b := true) (ts_cmp (ev_name (i := 5) rfl rfl) ev_none cmp_isNone) (fun _ => ex_cons (ex_returnD ev_none hgin ⟨_, _, rfl, hG rfl, ?_, rfl⟩)) fun h => nomatch h)
            rw [hlod, ← hJ]
          | some vk =>
            obtain ⟨v, k⟩ := vk
            rw [hv] at hJ hed
            rw [hed]
            simp only [List.drop_drop] at hJ
            refine ex_cons (ex_if (b := false) (ts_cmp (ev_name (i := 5) rfl rfl) ev_none cmp_isNone) (fun h => nomatch h) fun _ => ex_nil ?_)
            refine ex_cons (ex_assignT (ev_name (i := 5) rfl rfl).e ?_)
            rintro _ _ ⟨rfl, rfl⟩
            refine ⟨_, as_tuple (.tuple _) rfl rfl (asAll_cons (as_name (i := 6) rfl) (asAll_cons (as_name (i := 4) rfl) asAll_nil)), ?_⟩
            refine ex_nil ⟨v, n + 1 + k, by omega, hJ.symm, subLoc_some (subLoc_some (subLoc_some (subLoc_some (subLoc_some (subLoc_none (subLoc_some subLoc_nil)))))), rfl⟩
        · have hc : ¬ body[n] = 92 := by simpa using h
          rw [if_neg hc] at hJ
          refine ex_cons (ex_assignS (P := fun x G' => x = .tp [.i (body[n] : Nat), .i ((n + 1 : Nat) : Int)] ∧ G' = (a, (f.map PyData.int).map .d) :: G) ?_ rfl ?_)
          · exact (ev_tuple (evL_cons (ev_callB (.fn _) (by rfl) T.n_ord T.m_ord (evL_cons (hsub rfl rfl) evL_nil) call_ord) (evL_cons (ev_eq (ev_bin (ev_name (i := 4) rfl rfl) ev_int bin_add) (by simp)) evL_nil)) (Nat.le_of_ble_eq_true rfl)).e
          rintro _ _ ⟨rfl, rfl⟩
          refine ⟨_, _, .tp _, rfl, asAll_bind (i := 4) rfl (asAll_bind (i := 6) rfl asAll_nil), ?_⟩
          exact ex_nil ⟨(body[n] : Nat), n + 1, by omega, hJ.symm, subLoc_some (subLoc_some (subLoc_some (subLoc_some (subLoc_some (subLoc_none (subLoc_some subLoc_nil)))))), rfl⟩
      rintro Λ' _ ⟨v, m, hnm, hlo, hsb, rfl⟩
      refine Ex.weak hsb ?_
      refine ex_cons (ex_if (b := decide (255 < v)) (ts_cmp (ev_name (i := 6) rfl rfl) (ev_name (i := 1) rfl rfl) cmp_gt) (fun h => ?_) fun h => ex_nil ?_)
      · rw [if_pos (of_decide_eq_true h)] at hlo
        refine ex_cons (ex_returnD ev_none hgin ⟨_, _, rfl, hG rfl, ?_, rfl⟩)
        rw [hlod, hlo]
      · rw [if_neg (of_decide_eq_false h)] at hlo
        refine ex_cons (ex_appendU (G' := (a, ((f ++ [v]).map PyData.int).map .d) :: G) (.head _) (fun nd => by rw [setG_hd nd]; simp) (ev_name (i := 3) rfl rfl) (ev_name (i := 6) rfl rfl) (by simp; exact szl (by omega)) (ex_nil ⟨(m, f ++ [v]), ⟨hlo.symm, ?_⟩, ?_, subLoc_some (subLoc_some (subLoc_some (subLoc_some (subLoc_some (subLoc_none (subLoc_none subLoc_nil)))))), rfl⟩))
        · show (f ++ [v]).length ≤ m
          simp; omega
        · show body.length - m < body.length - n
          omega
    · rintro ⟨n, f⟩ ⟨hJ, hf⟩ hb
      have hb : ¬ n < body.length := of_decide_eq_false hb
      have hJ : lo (body.drop n) f = lo body [] := hJ
      rw [List.drop_eq_nil_of_le (by omega), lo] at hJ
      exact ex_nil ⟨f, hJ.symm, subLoc_some (subLoc_some (subLoc_none (subLoc_some (subLoc_none (subLoc_none (subLoc_none subLoc_nil)))))), rfl⟩
  rintro Λ' _ ⟨f, hf, hsb, rfl⟩
  refine Ex.weak hsb ?_
  refine ex_cons (ex_returnO (ev_name (i := 3) rfl rfl) hgin ⟨_, _, rfl, hG rfl, ?_, rfl⟩)
  rw [hlod, hf]

theorem literal_octets_spec (T : Tp B) {G : Gs} {l : List Nat} (hl : l.length ≤ 400) (h2 : 2 ≤ l.length) (hq : l.getD 0 0 ≠ 76) :
    Spec B T.a_literal_octets 3 [.t l] G fun r G' => r = .d (lod l) ∧ G' = G := by
  refine spec_of T.d_literal_octets ⟨_, rfl⟩ (by decide +kernel) rfl fun C hgin hd hu => ?_
  have hG : ∀ {G' : Gs}, G' = G → ∀ g' ∈ G', g'.1 ∈ G.map (·.1) := fun e g' hg => List.mem_map_of_mem (f := (·.1)) (e ▸ hg)
  have hll : l.length ≤ sizeLine := szl (by omega)
  refine ex_cons (ex_return1 (l := .d (lod l)) (ev_if2 (b := true) (ts_eq (ts_cmp (ev_sub (ev_name (i := 0) rfl rfl) ev_int (sub_text (by decide) (by omega) hll)) ev_text cmp_neT) ?_) (fun _ => ?_) fun h => nomatch h) ⟨_, _, rfl, hG rfl, rfl, rfl⟩)
  · have : cs "L" = [76] := by decide +kernel
    rw [this]
    have hne : ([l.getD (0 : Int).toNat 0] == [76]) = false := by simpa using hq
    show (!_) = _
    rw [hne]; rfl
  · exact EvG.one (evG_spec T.d_literal_values T.g_literal_values (evL_cons (ev_name (i := 0) rfl rfl) (evL_cons (ev_global (by rfl) T.g_most T.i_most) evL_nil)) (literal_values_spec T hl h2 hq) (by omega) (by omega))
end


theorem no_sub {l y : List Nat} (hy : y ≠ []) (h : Txt.contains (tx l) (tx y) = false) (k : Nat) : y.isPrefixOf (l.drop k) = false := by
  unfold Txt.contains at h
  rcases StrLaws.occ_head (tx l) (tx y) 1 (Nat.le_refl _) with ⟨h1, h2⟩ | ⟨i, r, h1, h2, h3⟩
  · have := h2 k
    rw [at_iff' _ _ _ hy] at this
    exact eq_false_of_ne_true this
  · rw [h1] at h; cases h
theorem rep_none {y z : List Nat} : ∀ (l : List Nat), (∀ k, y.isPrefixOf (l.drop k) = false) → rep y z l = l
  | [], _ => rep_nil y z
  | c :: r, h => by
    rw [rep_miss (h 0), rep_none r fun k => h (k + 1)]
theorem crlf_rep (l : List Nat) : (if Txt.contains (tx l) (tx [13]) then rep [13, 10] [10] l else l) = rep [13, 10] [10] l := by
  cases h : Txt.contains (tx l) (tx [13]) with
  | true => rfl
  | false =>
    refine (rep_none l fun k => ?_).symm
    have := no_sub (y := [13]) (by decide) h k
    cases e : l.drop k with
    | nil => rfl
    | cons c r =>
      rw [e] at this
      have h13 : ((13 : Nat) == c) = false := by simpa [List.isPrefixOf] using this
      simp [List.isPrefixOf, h13]
/-- one sign, and what is behind it -/
def step1 (c : Nat) (r : List Nat) : Nat × List Nat :=
  if c = 63 ∧ r.take 1 = [63] then match threesL.find? (fun p => (r.drop 1).take 1 == [p.1]) with
    | some p => (p.2, r.drop 2)
    | none => (c, r)
  else (c, r)
theorem step1_le (c : Nat) (r : List Nat) : (step1 c r).2.length ≤ r.length := by
  unfold step1
  split
  · split <;> simp
  · exact Nat.le_refl _
def spGo : List Nat → List Nat → List Int → List Nat × List Int
  | [], s, j => (s, j)
  | c :: r, s, j => if (step1 c r).1 = 92 ∧ (step1 c r).2.take 1 = [10] then spGo ((step1 c r).2.drop 1) s (j ++ [(s.length : Int)]) else spGo (step1 c r).2 (s ++ [(step1 c r).1]) j
termination_by l => l.length
decreasing_by
  · have := step1_le c r; simp; omega
  · have := step1_le c r; simp; omega
def sp (l : List Nat) : PyData :=
  let t := rep [13, 10] [10] l
  if (!Txt.contains (tx t) (tx [63, 63])) && (!Txt.contains (tx t) (tx [92, 10])) then .tuple [.str (tx t), .list []] else .tuple [.str (tx (spGo t [] []).1), .list ((spGo t [] []).2.map .int)]
theorem joinL_ones : ∀ s : List Nat, joinL [] (s.map fun c => [c]) = s
  | [] => rfl
  | [c] => rfl
  | c :: d :: r => by
    have := joinL_ones (d :: r)
    rw [List.map_cons, List.map_cons, joinL, ← List.map_cons (f := fun c => [c]), this]; rfl

section
variable {B : Bs} {F F' : Fd} {C : Cx B F} {Λ : Loc} {G : Gs} {O : Out → Prop}
theorem ex_returnTO3 {e : PySem.Expr} {pos : Pos} {a b : Addr} {x : PyData} {ys : List PyData} {zs : List LV} (he : Ev C Λ ((b, ys.map .d) :: (a, zs) :: G) (eval e C.env) (.tp [.d x, .r b])) (hgin : C.gin = G.map (·.1)) (h : O (.rt (.d (.tuple [x, .list ys])) G)) : Ex C Λ ((b, ys.map .d) :: (a, zs) :: G) (exec (.Return (some e) pos) C.env) O := fun K s g Q E q =>
  wpAny_Return_some (he K s g _ E fun K' v s' k' g' i' => by
    obtain ⟨t, ws, rfl, ht, hws⟩ := is_tp i'
    obtain ⟨w0, w1, rfl, i0, i1⟩ := allIs_two hws
    obtain rfl := is_r i1
    obtain ⟨K₁, us, k₁, h1, h2, g₁⟩ := Inv.freeze (G₁ := []) g' (own_new g' hgin fun x hx => .tail _ hx)
    obtain ⟨K₂, vs, k₂, _, _, g₂⟩ := Inv.freeze (G₁ := []) g₁ (own_new g₁ hgin fun x hx => hx)
    have k12 := k₁.trans k₂
    exact q K₂ _ s' _ (k'.trans k12) h ⟨_, Λ, rfl, tuple_is (isTuple_sub k12 ht) (allIs_cons (i0.mono k12) (allIs_cons (list_is (isList_sub k₂ h1) (h2.mono k₂)) allIs_nil)), g₂⟩)
theorem eqb_take {t : List Nat} {a b : Nat} {q : List Nat} (h : t.drop a = q) : (t.take (a + b)).drop a = q.take b := by rw [drop_take1, h]

set_option maxHeartbeats 2000000 in
theorem spliced_spec (T : Tp B) {G : Gs} {l : List Nat} (hl : l.length ≤ 100) :
    Spec B T.a_spliced 1 [.t l] G fun r G' => r = .d (sp l) ∧ G' = G := by
  refine spec_of T.d_spliced ⟨_, rfl⟩ (by decide +kernel) rfl fun C hgin hd hu => ?_
  have hG : ∀ {G' : Gs}, G' = G → ∀ g' ∈ G', g'.1 ∈ G.map (·.1) := fun e g' hg => List.mem_map_of_mem (f := (·.1)) (e ▸ hg)
  refine ex_cons (ex_crlf (i := 0) rfl rfl (by rw [cs_rn]; decide) (by rw [cs_rn, cs_n]; decide) (by rw [cs_n]; simp; omega) ?_)
  rw [cs_r, cs_rn, cs_n]
  have hcr := crlf_rep l
  unfold rep at hcr
  rw [hcr]
  have hsp : sp l = if (!Txt.contains (tx (rep [13, 10] [10] l)) (tx [63, 63])) && (!Txt.contains (tx (rep [13, 10] [10] l)) (tx [92, 10])) then .tuple [.str (tx (rep [13, 10] [10] l)), .list []] else .tuple [.str (tx (spGo (rep [13, 10] [10] l) [] []).1), .list ((spGo (rep [13, 10] [10] l) [] []).2.map .int)] := rfl
  have htl : (rep [13, 10] [10] l).length ≤ 100 := Nat.le_trans (rep_len (by decide) (by decide) _ l (Nat.le_refl _)) hl
  show Ex C [some (.t (rep [13, 10] [10] l)), none, none, none, none, none] G _ _
  generalize rep [13, 10] [10] l = t at *
  have hts : t.length ≤ sizeLine := szl (by omega)
  refine ex_cons (ex_if (b := (!Txt.contains (tx t) (tx [63, 63])) && (!Txt.contains (tx t) (tx [92, 10]))) (ts_eq (ts_bool (ts_and (ts_cmp ev_text (ev_name (i := 0) rfl rfl) cmp_notinS) fun _ => ts_and (ts_cmp ev_text (ev_name (i := 0) rfl rfl) cmp_notinS) fun _ => ts_and_nil)) ?_) (fun h => ?_) fun h => ex_nil ?_)
  · rw [cs_qq, cs_bn, Bool.and_true]
  · rw [if_pos h] at hsp
    refine ex_cons (ex_return1 (ev_tupleD (xs := [.str (tx t), .list []]) (evL_cons (ev_name (i := 0) rfl rfl) (evL_cons (ev_list (xs := []) evL_nil) evL_nil)) (Nat.le_of_ble_eq_true rfl)) ⟨_, _, rfl, hG rfl, by rw [hsp], rfl⟩)
  rw [if_neg (by rw [h]; exact Bool.false_ne_true)] at hsp
  refine ex_cons (ex_assignS (P := fun x G' => ∃ a b, x = .tp [.r a, .r b, .i 0] ∧ G' = (b, []) :: (a, []) :: G) ?_ rfl ?_)
  · refine (evG_tuple (P := fun ls G' => ∃ a b, ls = [.r a, .r b, .i 0] ∧ G' = (b, []) :: (a, []) :: G) (evLG_cons (evG_own (P := fun ls G' => ls = [] ∧ G' = G) (evLG_nil ⟨rfl, rfl⟩) fun ls G' h => by rw [h.1]; exact Nat.zero_le _) ?_) ?_).to ?_
    · rintro _ _ ⟨a, ls, G₁, rfl, rfl, rfl, h⟩
      obtain rfl := h.symm
      refine evLG_cons (evG_own (P := fun ls G' => ls = [] ∧ G' = (a, []) :: G) (evLG_nil ⟨rfl, rfl⟩) fun ls G' h => by rw [h.1]; exact Nat.zero_le _) ?_
      rintro _ _ ⟨b, ls, G₁, rfl, rfl, rfl, h⟩
      obtain rfl := h.symm
      exact evLG_cons ev_int.e fun _ _ ⟨h1, h2⟩ => evLG_nil ⟨a, b, by rw [h1], h2⟩
    · rintro ls G' ⟨a, b, rfl, rfl⟩
      exact Nat.le_of_ble_eq_true rfl
    · rintro x G' ⟨ls, rfl, a, b, rfl, rfl⟩
      exact ⟨a, b, rfl, rfl⟩
  rintro _ _ ⟨a, b, rfl, rfl⟩
  refine ⟨_, _, .tp _, rfl, asAll_bind (i := 3) rfl (asAll_bind (i := 2) rfl (asAll_bind (i := 1) rfl asAll_nil)), ?_⟩
  let Gf : List Nat × List Int → Gs := fun x => (b, (x.2.map PyData.int).map .d) :: (a, x.1.map fun c => LV.t [c]) :: G
  refine ex_seq (fun Λ' G' => SubLoc [some (.t t), some (.r a), some (.r b), none, none, none] Λ' ∧ G' = Gf (spGo t [] [])) ?_ ?_
  · refine ex_while (σ := Nat × List Nat × List Int) (fun x => [some (.t t), some (.r a), some (.r b), some (.i x.1), none, none]) (fun x => Gf x.2) (fun x => spGo (t.drop x.1) x.2.1 x.2.2 = spGo t [] [] ∧ x.2.1.length ≤ x.1 ∧ x.2.2.length ≤ x.1) (fun x => t.length - x.1) (fun x => decide (x.1 < t.length)) ?_ ?_ ?_ (0, [], []) ⟨rfl, Nat.le_refl _, Nat.le_refl _⟩ (subLoc_some (subLoc_some (subLoc_some (subLoc_some (subLoc_none (subLoc_none subLoc_nil)))))) rfl
    · rintro ⟨n, s, j⟩ ⟨hJ, hs, hj⟩
      refine ts_eq (ts_cmp (ev_name (i := 3) rfl rfl) (ev_callB (.fn _) (by rfl) T.n_len T.m_len (evL_cons (ev_name (i := 0) rfl rfl) evL_nil) (call_len hts)) cmp_lt) ?_
      exact decide_eq_decide.mpr (by show (n : Int) < t.length ↔ n < t.length; omega)
    · rintro ⟨n, s, j⟩ ⟨hJ, hs, hj⟩ hb
      have hb : n < t.length := of_decide_eq_true hb
      have hs : s.length ≤ n := hs
      have hj : j.length ≤ n := hj
      have hJ : spGo (t.drop n) s j = spGo t [] [] := hJ
      show Ex C [some (.t t), some (.r a), some (.r b), some (.i n), none, none] (Gf (s, j)) _ _
      rw [List.drop_eq_getElem_cons hb, spGo] at hJ
      have hgd : t.getD n 0 = t[n] := by rw [List.getD_eq_getElem?_getD, List.getElem?_eq_getElem hb]; rfl
      generalize hc : t[n] = c at *
      generalize hr : t.drop (n + 1) = r at *
      have hr2 : t.drop (n + 2) = r.drop 1 := by rw [← hr, List.drop_drop]
      have hsl : ∀ {Λ : Loc} {e1 e2 : PySem.Expr} {p1 p2 p3 : Pos} {m : Nat}, Λ[0]? = some (some (.t t)) → Ev C Λ (Gf (s, j)) (eval e1 C.env) (.i (m : Nat)) → Ev C Λ (Gf (s, j)) (eval e2 C.env) (.i ((m + 1 : Nat) : Int)) → Ev C Λ (Gf (s, j)) (eval (.Subscript (.Name "text" p1) (.Slice (some e1) (some e2) none p2) p3) C.env) (.t ((t.drop m).take 1)) := fun {Λ e1 e2 p1 p2 p3 m} h0 h1 h2 =>
        ev_eq (ev_slice (ev_name (i := 0) rfl h0) (show EvO _ _ _ (some _) (some _) from h1) (show EvO _ _ _ (some _) (some _) from h2) hts) (by rw [sl_nn _ (by omega) (by omega)]; show LV.t ((t.take (m + 1)).drop m) = _; rw [drop_take1])
      have hpl : ∀ {Λ : Loc} {p1 p2 p3 : Pos} {kk : Nat} {i : Nat}, Λ[3]? = some (some (.i (n : Nat))) → Ev C Λ (Gf (s, j)) (eval (.BinOp (.Name "at" p1) .Add (.Constant (.int (i : Nat)) kk p2) p3) C.env) (.i ((n + i : Nat) : Int)) := fun {Λ p1 p2 p3 kk i} h3 => ev_eq (ev_bin (ev_name (i := 3) rfl h3) ev_int bin_add) (by rw [Int.natCast_add])
      refine ex_cons (ex_assignS (P := fun x G' => x = .tp [.t [c], .i 1] ∧ G' = Gf (s, j)) ?_ rfl ?_)
      · exact (ev_tuple (evL_cons (ev_eq (ev_sub (ev_name (i := 0) rfl rfl) (ev_name (i := 3) rfl rfl) (sub_text (by omega) (by omega) hts)) (by rw [Int.toNat_natCast, hgd])) (evL_cons ev_int evL_nil)) (Nat.le_of_ble_eq_true rfl)).e
      rintro _ _ ⟨rfl, rfl⟩
      refine ⟨_, _, .tp _, rfl, asAll_bind (i := 5) rfl (asAll_bind (i := 4) rfl asAll_nil), ?_⟩
      -- a trigraph, or not
      refine ex_seq (fun Λ' G' => ∃ m : Nat, n + m ≤ t.length ∧ 1 ≤ m ∧ t.drop (n + m) = (step1 c r).2 ∧ SubLoc [some (.t t), some (.r a), some (.r b), some (.i n), some (.t [(step1 c r).1]), some (.i m)] Λ' ∧ G' = Gf (s, j)) ?_ ?_
      · have htri : (T.v_tri (tx ((r.drop 1).take 1))).isSome = (threesL.find? fun p => (r.drop 1).take 1 == [p.1]).isSome := by
          rw [(T.h_tri _).1]
          unfold triOf
          rw [Option.isSome_map]
          congr 2
          funext p
          exact tx_beq _ _
        refine ex_if (b := [c] == [63] && (r.take 1 == [63] && (threesL.find? fun p => (r.drop 1).take 1 == [p.1]).isSome)) (ts_eq (ts_bool (ts_and (ts_cmp (ev_name (i := 4) rfl rfl) ev_text cmp_eqT) fun _ => ts_and (ts_cmp (hsl rfl (hpl rfl) (hpl rfl)) ev_text cmp_eqT) fun _ => ts_and (ts_cmp (hsl rfl (hpl rfl) (hpl rfl)) (ev_global (l := .r T.t_tri) (by rfl) T.g_tri (r_is _ _)) (cmp_inDict T.M_tri T.ns_tri)) fun _ => ts_and_nil)) ?_) (fun h => ?_) fun h => ?_
        · rw [cs_q, Bool.and_true, hr, hr2, htri]
        · rw [Bool.and_eq_true, Bool.and_eq_true] at h
          obtain ⟨h1, h2, h3⟩ := h
          obtain ⟨p, hp⟩ := Option.isSome_iff_exists.mp h3
          obtain ⟨v, hv⟩ := Option.isSome_iff_exists.mp (htri.trans h3)
          have ht2 : triOf (tx ((r.drop 1).take 1)) = some (.t [p.2]) := by
            unfold triOf
            rw [show (fun q : Nat × Nat => tx ((r.drop 1).take 1) == tx [q.1]) = fun q => (r.drop 1).take 1 == [q.1] from funext fun q => tx_beq _ _, hp]; rfl
          have hvi := (T.h_tri _).2 _ _ ht2 hv
          have hst : step1 c r = (p.2, r.drop 2) := by
            unfold step1
            rw [if_pos ⟨by simpa using h1, by simpa using h2⟩, hp]
          have hr1 : 2 ≤ r.length := by
            have := List.find?_some hp
            have e : (r.drop 1).take 1 = [p.1] := by simpa using this
            have := congrArg List.length e
            simp at this; omega
          have hrl : r.length = t.length - (n + 1) := by rw [← hr]; simp
          have hkey : (r.drop 1).take 1 = [t.getD (n + 2) 0] := by
            rw [← hr2]
            have h5 : n + 2 < t.length := by omega
            rw [List.drop_eq_getElem_cons h5, List.getD_eq_getElem?_getD, List.getElem?_eq_getElem h5]; rfl
          rw [hkey] at hv
          refine ex_cons (ex_assignS (P := fun x G' => x = .tp [.t [p.2], .i 3] ∧ G' = Gf (s, j)) ?_ rfl ?_)
          · refine (ev_tuple (evL_cons (ev_sub (ev_global (l := .r T.t_tri) (by rfl) T.g_tri (r_is _ _)) (ev_sub (ev_name (i := 0) rfl rfl) (hpl (i := 2) rfl) (sub_text (by omega) (by omega) hts)) (sub_dict T.M_tri hv hvi)) (evL_cons ev_int evL_nil)) (Nat.le_of_ble_eq_true rfl)).e
          rintro _ _ ⟨rfl, rfl⟩
          refine ⟨_, _, .tp _, rfl, asAll_bind (i := 5) rfl (asAll_bind (i := 4) rfl asAll_nil), ?_⟩
          rw [hst]
          refine ex_nil ⟨3, by omega, by omega, ?_, subLoc_some (subLoc_some (subLoc_some (subLoc_some (subLoc_some (subLoc_some subLoc_nil))))), rfl⟩
          show t.drop (n + 3) = r.drop 2
          rw [← hr, List.drop_drop]
        · have hst : step1 c r = (c, r) := by
            unfold step1
            by_cases h1 : c = 63 ∧ r.take 1 = [63]
            · rw [if_pos h1]
              cases hf : threesL.find? (fun p => (r.drop 1).take 1 == [p.1]) with
              | none => rfl
              | some p =>
                rw [hf, h1.1, h1.2] at h
                simp at h
            · rw [if_neg h1]
          rw [hst]
          exact ex_nil ⟨1, by omega, by omega, hr, subLoc_some (subLoc_some (subLoc_some (subLoc_some (subLoc_some (subLoc_some subLoc_nil))))), rfl⟩
      rintro Λ' _ ⟨m, hnm, hm1, hdr, hsb, rfl⟩
      refine Ex.weak hsb ?_
      generalize step1 c r = st at *
      obtain ⟨sg, r'⟩ := st
      simp only at hJ hdr ⊢
      refine ex_cons (ex_aug (i := 3) (c := .i ((n + m : Nat) : Int)) rfl rfl (ev_name (i := 5) rfl rfl) (by rw [Int.natCast_add]; exact ibin_add) ?_)
      have hat : Ev C [some (.t t), some (.r a), some (.r b), some (.i ((n + m : Nat) : Int)), some (.t [sg]), some (.i m)] (Gf (s, j)) (eval (.Name "at" ⟨0, 0, 0, 0⟩) C.env) (.i ((n + m : Nat) : Int)) := ev_name (i := 3) rfl rfl
      refine ex_cons (ex_if (b := [sg] == [92] && r'.take 1 == [10]) (ts_eq (ts_bool (ts_and (ts_cmp (ev_name (i := 4) rfl rfl) ev_text cmp_eqT) fun _ => ts_and (ts_cmp (hsl (m := n + m) rfl (ev_name (i := 3) rfl rfl) (ev_eq (ev_bin (ev_name (i := 3) rfl rfl) ev_int bin_add) (by simp))) ev_text cmp_eqT) fun _ => ts_and_nil)) ?_) (fun h => ?_) fun h => ?_)
      · rw [cs_bs, cs_n, Bool.and_true, hdr]
      · rw [Bool.and_eq_true] at h
        rw [if_pos ⟨by simpa using h.1, by simpa using h.2⟩] at hJ
        have hr'1 : 1 ≤ r'.length := by
          have e : r'.take 1 = [10] := by simpa using h.2
          have := congrArg List.length e
          simp at this; omega
        have hr'l : r'.length = t.length - (n + m) := by rw [← hdr]; simp
        refine ex_cons (ex_aug (i := 3) (c := .i ((n + m + 1 : Nat) : Int)) rfl rfl ev_int (by rw [Int.natCast_add (n + m) 1]; exact ibin_add) ?_)
        refine ex_cons (ex_appendU (l := .i s.length) (G' := Gf (s, j ++ [(s.length : Int)])) (.head _) (fun nd => by rw [setG_hd nd]; simp [Gf]) (ev_name (i := 2) rfl rfl) (ev_eq (ev_callB (.fn _) (by rfl) T.n_len T.m_len (evL_cons (ev_name (i := 1) rfl rfl) evL_nil) (call_lenO (a := a) (ls := s.map fun c => LV.t [c]) (.tail _ (.head _)) (by simp; exact szl (by omega)))) (by simp)) (by simp; exact szl (by omega)) (ex_nil (ex_nil ⟨(n + m + 1, s, j ++ [(s.length : Int)]), ⟨?_, ?_, ?_⟩, ?_, subLoc_some (subLoc_some (subLoc_some (subLoc_some (subLoc_none (subLoc_none subLoc_nil))))), rfl⟩)))
        · show spGo (t.drop (n + m + 1)) s (j ++ [(s.length : Int)]) = _
          rw [← List.drop_drop, hdr]; exact hJ
        · show s.length ≤ n + m + 1
          omega
        · show (j ++ [(s.length : Int)]).length ≤ n + m + 1
          simp; omega
        · show t.length - (n + m + 1) < t.length - n
          omega
      · rw [if_neg (by rintro ⟨h1, h2⟩; rw [h1, h2] at h; simp at h)] at hJ
        refine ex_cons (ex_appendU (l := .t [sg]) (G' := Gf (s ++ [sg], j)) (.tail _ (.head _)) (fun nd => by rw [setG_tl nd]; simp [Gf]) (ev_name (i := 1) rfl rfl) (ev_name (i := 4) rfl rfl) (by simp; exact szl (by omega)) (ex_nil (ex_nil ⟨(n + m, s ++ [sg], j), ⟨?_, ?_, ?_⟩, ?_, subLoc_some (subLoc_some (subLoc_some (subLoc_some (subLoc_none (subLoc_none subLoc_nil))))), rfl⟩)))
        · show spGo (t.drop (n + m)) (s ++ [sg]) j = _
          rw [hdr]; exact hJ
        · show (s ++ [sg]).length ≤ n + m
          simp; omega
        · show j.length ≤ n + m
          omega
        · show t.length - (n + m) < t.length - n
          omega
    · rintro ⟨n, s, j⟩ ⟨hJ, hs, hj⟩ hb
      have hb : ¬ n < t.length := of_decide_eq_false hb
      have hJ : spGo (t.drop n) s j = spGo t [] [] := hJ
      rw [List.drop_eq_nil_of_le (by omega), spGo] at hJ
      refine ex_nil ⟨subLoc_some (subLoc_some (subLoc_some (subLoc_none (subLoc_none (subLoc_none subLoc_nil))))), ?_⟩
      rw [← hJ]
  rintro Λ' _ ⟨hsb, rfl⟩
  refine Ex.weak hsb ?_
  have hlen : (spGo t [] []).1.length ≤ 100 := by
    have : ∀ (k : Nat) (x : List Nat) (s : List Nat) (j : List Int), x.length ≤ k → (spGo x s j).1.length ≤ s.length + x.length := fun k => by
      induction k with
      | zero => intro x s j h; rw [List.length_eq_zero_iff.mp (Nat.le_zero.mp h), spGo]; simp
      | succ k ih =>
        intro x s j h
        cases x with
        | nil => rw [spGo]; simp
        | cons c r =>
          rw [spGo]
          have h1 := step1_le c r
          rw [List.length_cons] at h ⊢
          split
          · have := ih ((step1 c r).2.drop 1) s (j ++ [(s.length : Int)]) (by simp; omega)
            simp at this ⊢; omega
          · have := ih (step1 c r).2 (s ++ [(step1 c r).1]) j (by omega)
            simp at this ⊢; omega
    have := this t.length t [] [] (Nat.le_refl _)
    simp at this; omega
  have hinG : (a, ((spGo t [] []).1.map fun c => [c]).map fun x => LV.t x) ∈ Gf (spGo t [] []) := by
    have e : (((spGo t [] []).1.map fun c => [c]).map fun x => LV.t x) = (spGo t [] []).1.map fun c => LV.t [c] := by rw [List.map_map]; rfl
    rw [e]
    exact .tail _ (.head _)
  refine ex_cons (ex_returnTO3 (x := .str (tx (spGo t [] []).1)) (ev_tuple (evL_cons (ev_eq (ev_joinO (sep := []) (xs := (spGo t [] []).1.map fun c => [c]) (a := a) hinG (ev_eq ev_text (by rw [cs_e])) (ev_name (i := 1) rfl rfl) ?_) (by rw [joinL_ones])) (evL_cons (ev_name (i := 2) rfl rfl) evL_nil)) (Nat.le_of_ble_eq_true rfl)) hgin ⟨_, _, rfl, hG rfl, by rw [hsp], rfl⟩)
  rw [List.map_map]
  have e : ((spGo t [] []).1.map (List.length ∘ fun c => [c])).sum = (spGo t [] []).1.length := by
    generalize (spGo t [] []).1 = s
    induction s with
    | nil => rfl
    | cons c s ih => rw [List.map_cons, List.sum_cons, ih, List.length_cons]; simp; omega
  rw [e]
  simp; exact szl (by omega)
end

theorem take1_cons (c : Nat) (r : List Nat) : (c :: r).take 1 = [c] := rfl
theorem figs_small : ∀ c, c < 128 → sOct.contains c = decide (dv c < 8) ∧ sDig.contains c = decide (dv c < 10) ∧ sHex.contains c = decide (dv c < 16) := by decide +kernel
theorem dv_large {c : Nat} (h : 128 ≤ c) : dv c = 99 := by
  unfold dv
  rw [if_neg (fun x => absurd x.2 (by omega)), if_neg (fun x => absurd x.2 (by omega)), if_neg (fun x => absurd x.2 (by omega))]
theorem none_large {l : List Nat} (hl : l.all (fun x => x < 128) = true) {c : Nat} (h : 128 ≤ c) : l.contains c = false := by
  cases e : l.contains c with
  | false => rfl
  | true =>
    have := of_decide_eq_true (List.all_eq_true.mp hl c (List.contains_iff_mem.mp e))
    omega
theorem oct_iff (c : Nat) : sOct.contains c = decide (dv c < 8) := by
  by_cases h : c < 128
  · exact (figs_small c h).1
  · rw [none_large (by decide +kernel) (Nat.le_of_not_lt h), dv_large (Nat.le_of_not_lt h)]; rfl
theorem dig_iff (c : Nat) : sDig.contains c = decide (dv c < 10) := by
  by_cases h : c < 128
  · exact (figs_small c h).2.1
  · rw [none_large (by decide +kernel) (Nat.le_of_not_lt h), dv_large (Nat.le_of_not_lt h)]; rfl
theorem hex_iff (c : Nat) : sHex.contains c = decide (dv c < 16) := by
  by_cases h : c < 128
  · exact (figs_small c h).2.2
  · rw [none_large (by decide +kernel) (Nat.le_of_not_lt h), dv_large (Nat.le_of_not_lt h)]; rfl
theorem lv_one (b c : Nat) : decide (0 ≤ lv b [c]) = decide (dv c < b) := by
  unfold lv
  by_cases h : dv c < b
  · simp [h]
  · simp [h]
theorem lv_pos {b : Nat} {l : List Nat} (h : (l.all fun c => dv c < b) = true) (hn : l ≠ []) : lv b l = worthOf b l := by
  unfold lv
  rw [if_pos]
  rw [h, Bool.true_and]
  cases l with
  | nil => exact absurd rfl hn
  | cons _ _ => rfl
theorem lv_neg {b : Nat} {l : List Nat} (h : (l.all fun c => dv c < b) = false ∨ l = []) : lv b l = -1 := by
  unfold lv
  rw [if_neg]
  rcases h with h | h
  · rw [h]; simp
  · rw [h]; simp
theorem lv_ge (b : Nat) (l : List Nat) : (0 ≤ lv b l) ↔ ((l.all fun c => dv c < b) = true ∧ l ≠ []) := by
  by_cases h : (l.all fun c => dv c < b) = true
  · by_cases hn : l = []
    · rw [lv_neg (.inr hn)]; simp [hn]
    · rw [lv_pos h hn]; simp only [h, true_and]; exact ⟨fun _ => hn, fun _ => Int.natCast_nonneg _⟩
  · rw [lv_neg (.inl (by simpa using h))]; simp only [h]; simp

theorem tw_hex (q : List Nat) : q.takeWhile (fun c => decide (0 ≤ lv 16 [c])) = q.takeWhile sHex.contains := by
  congr 1; funext c; rw [lv_one, hex_iff]
/-- the two readings of an escape are one -/
theorem ed_ea (r : List Nat) : edV r = eaV r := by
  unfold edV eaV
  cases hs : shortsL.find? (fun p => r.take 1 == [p.1]) with
  | some p => rfl
  | none =>
    simp only [tw_hex]
    cases r with
    | nil => rfl
    | cons c r =>
      have h16 : ∀ (w : List Nat), w = r.takeWhile sHex.contains → w ≠ [] → lv 16 w = worthOf 16 w := fun w e hn => lv_pos (List.all_eq_true.mpr fun x hx => by
        rw [e] at hx
        have := List.all_eq_true.mp (List.all_takeWhile (p := sHex.contains) (l := r)) x hx
        rw [hex_iff] at this; exact this) hn
      have hany : ((c :: r).take 1).any sOct.contains = decide (dv c < 8) := by rw [take1_cons, List.any_cons, List.any_nil, Bool.or_false, oct_iff]
      have test : ∀ k, (decide (k ≤ (c :: r).length) && decide (0 ≤ lv 8 ((c :: r).take k))) = true ↔ (1 ≤ k ∧ k ≤ (c :: r).length ∧ ∀ x ∈ (c :: r).take k, dv x < 8) := fun k => by
        rw [Bool.and_eq_true, decide_eq_true_eq, decide_eq_true_eq, lv_ge, List.all_eq_true]
        constructor
        · rintro ⟨h1, h2, h3⟩
          refine ⟨?_, h1, fun x hx => by simpa using h2 x hx⟩
          cases k with
          | zero => simp at h3
          | succ k => omega
        · rintro ⟨h1, h2, h3⟩
          refine ⟨h2, fun x hx => by simpa using h3 x hx, ?_⟩
          cases k with
          | zero => omega
          | succ k => simp
      by_cases hc : dv c < 8
      · rw [hany, if_pos (decide_eq_true hc)]
        have key : ∀ k, 1 ≤ k → k ≤ 3 → k ≤ (c :: r).length → (∀ x ∈ (c :: r).take k, dv x < 8) → (k < 3 → k < (c :: r).length → ¬ dv ((c :: r).getD k 0) < 8) → ((c :: r).take 3).takeWhile sOct.contains = (c :: r).take k := fun k h1 h3 hl hall hno => by
          have ht3 : ((c :: r).take 3).take k = (c :: r).take k := by rw [List.take_take]; congr 1; omega
          rw [← ht3]
          refine tw (fun x hx => by rw [ht3] at hx; rw [oct_iff]; exact decide_eq_true (hall x hx)) fun hk => ?_
          rw [List.length_take] at hk
          rw [List.getD_eq_getElem?_getD, List.getElem?_take_of_lt (by omega), ← List.getD_eq_getElem?_getD, oct_iff]
          exact decide_eq_false (hno (by omega) (by omega))
        have fin : ∀ k, [3, 2, 1].find? (fun k => decide (k ≤ (c :: r).length) && decide (0 ≤ lv 8 ((c :: r).take k))) = some k → ((c :: r).take 3).takeWhile sOct.contains = (c :: r).take k → 1 ≤ k → k ≤ (c :: r).length → (∀ x ∈ (c :: r).take k, dv x < 8) →
            (match [3, 2, 1].find? (fun k => decide (k ≤ (c :: r).length) && decide (0 ≤ lv 8 ((c :: r).take k))) with
              | some k => some (lv 8 ((c :: r).take k), k)
              | none => if (c :: r).take 1 ≠ [120] ∨ ((c :: r).drop 1).takeWhile sHex.contains = [] then none else some (lv 16 (((c :: r).drop 1).takeWhile sHex.contains), 1 + (((c :: r).drop 1).takeWhile sHex.contains).length))
            = some ((worthOf 8 (((c :: r).take 3).takeWhile sOct.contains) : Int), (((c :: r).take 3).takeWhile sOct.contains).length) := fun k hf ht h1 hl hall => by
          rw [hf, ht]
          show some _ = some _
          rw [lv_pos (List.all_eq_true.mpr fun x hx => decide_eq_true (hall x hx)) (by cases k with | zero => omega | succ k => simp), List.length_take, Nat.min_eq_left hl]
        by_cases h3 : (decide (3 ≤ (c :: r).length) && decide (0 ≤ lv 8 ((c :: r).take 3))) = true
        · have t3 := (test 3).mp h3
          exact fin 3 (by rw [List.find?_cons, h3]) (key 3 (by omega) (by omega) t3.2.1 t3.2.2 (fun h => absurd h (by omega))) (by omega) t3.2.1 t3.2.2
        · by_cases h2 : (decide (2 ≤ (c :: r).length) && decide (0 ≤ lv 8 ((c :: r).take 2))) = true
          · have t2 := (test 2).mp h2
            refine fin 2 (by rw [List.find?_cons, eq_false_of_ne_true h3, List.find?_cons, h2]) (key 2 (by omega) (by omega) t2.2.1 t2.2.2 fun _ hl hd => h3 ((test 3).mpr ⟨by omega, by omega, fun x hx => ?_⟩)) (by omega) t2.2.1 t2.2.2
            rw [List.take_add_one, List.getElem?_eq_getElem hl] at hx
            rcases List.mem_append.mp hx with hx | hx
            · exact t2.2.2 x hx
            · obtain rfl := List.mem_singleton.mp hx
              rw [List.getD_eq_getElem?_getD, List.getElem?_eq_getElem hl] at hd; exact hd
          · have h1 : (decide (1 ≤ (c :: r).length) && decide (0 ≤ lv 8 ((c :: r).take 1))) = true := (test 1).mpr ⟨Nat.le_refl _, by simp, fun x hx => by rw [take1_cons] at hx; obtain rfl := List.mem_singleton.mp hx; exact hc⟩
            have t1 := (test 1).mp h1
            refine fin 1 (by rw [List.find?_cons, eq_false_of_ne_true h3, List.find?_cons, eq_false_of_ne_true h2, List.find?_cons, h1]) (key 1 (by omega) (by omega) t1.2.1 t1.2.2 fun _ hl hd => h2 ((test 2).mpr ⟨by omega, by omega, fun x hx => ?_⟩)) (by omega) t1.2.1 t1.2.2
            rw [List.take_add_one, List.getElem?_eq_getElem hl] at hx
            rcases List.mem_append.mp hx with hx | hx
            · exact t1.2.2 x hx
            · obtain rfl := List.mem_singleton.mp hx
              rw [List.getD_eq_getElem?_getD, List.getElem?_eq_getElem hl] at hd; exact hd
      · have hno : ∀ k, (decide (k ≤ (c :: r).length) && decide (0 ≤ lv 8 ((c :: r).take k))) = false := fun k => by
          apply eq_false_of_ne_true
          intro h
          have := (test k).mp h
          obtain ⟨k, rfl⟩ : ∃ m, k = m + 1 := ⟨k - 1, by omega⟩
          exact hc (this.2.2 c (by simp))
        rw [List.find?_cons, hno, List.find?_cons, hno, List.find?_cons, hno, List.find?_nil, hany, decide_eq_false hc]
        simp only [Bool.false_eq_true, if_false, List.drop_succ_cons, List.drop_zero]
        by_cases hx : (c :: r).take 1 ≠ [120] ∨ r.takeWhile sHex.contains = []
        · rw [if_pos hx, if_pos hx]
        · rw [if_neg hx, if_neg hx, h16 _ rfl fun e => hx (.inr e)]
theorem edD_eaD (r : List Nat) (a : Nat) : edD r a = eaD r a := by unfold edD eaD; rw [ed_ea]; try (cases eaV r <;> rfl)

theorem isUL_dv {c : Nat} (h : isUL c = true) : dv c = 99 := by
  unfold isUL at h
  simp only [Bool.or_eq_true, beq_iff_eq] at h
  rcases h with ((h | h) | h) | h <;> subst h <;> decide
theorem endings_ul : ∀ e ∈ endingsL, ∀ c ∈ e, isUL c = true := by decide +kernel
theorem endings_nodup : endingsL.Nodup := by decide +kernel
/-- the letters behind the cut -/
theorem cut_all (l : List Nat) : ∀ (e : Nat), e ≤ l.length → (∀ c ∈ l.drop e, isUL c = true) → ∀ c ∈ l.drop (cutAt l e), isUL c = true
  | 0, _, h => h
  | e + 1, he, h => by
    unfold cutAt
    cases hu : isUL (l.getD e 0) with
    | false => rw [if_neg Bool.false_ne_true]; exact h
    | true =>
      rw [if_pos rfl]
      refine cut_all l e (by omega) fun c hc => ?_
      rw [List.drop_eq_getElem_cons (by omega : e < l.length)] at hc
      rcases List.mem_cons.mp hc with rfl | hc
      · rw [List.getD_eq_getElem?_getD, List.getElem?_eq_getElem (by omega : e < l.length)] at hu; exact hu
      · exact h c hc
/-- the sign ahead of the cut is no letter -/
theorem cut_ahead (l : List Nat) : ∀ (e : Nat), 0 < cutAt l e → isUL (l.getD (cutAt l e - 1) 0) = false
  | 0, h => absurd h (Nat.lt_irrefl _)
  | e + 1, h => by
    unfold cutAt at h ⊢
    cases hu : isUL (l.getD e 0) with
    | false => rw [if_neg Bool.false_ne_true]; exact hu
    | true => rw [hu, if_pos rfl] at h; rw [if_pos rfl]; exact cut_ahead l e h
/-- an ending of letters stands behind the cut -/
theorem cut_le (l : List Nat) {s e : List Nat} (h : l = s ++ e) (he : ∀ c ∈ e, isUL c = true) : cutAt l l.length ≤ s.length := by
  apply Classical.byContradiction
  intro hn
  have hn : s.length < cutAt l l.length := by omega
  have h1 := cut_ahead l l.length (by omega)
  have h2 := cutAt_le l l.length
  rw [List.getD_eq_getElem?_getD, List.getElem?_eq_getElem (by omega)] at h1
  have : l[cutAt l l.length - 1] ∈ e := by
    have e1 : l[cutAt l l.length - 1]? = e[cutAt l l.length - 1 - s.length]? := by
      conv => lhs; rw [h]
      rw [List.getElem?_append_right (by rw [← h]; omega)]
      rw [← h]
    rw [List.getElem?_eq_getElem (by omega)] at e1
    exact List.mem_of_getElem? e1.symm
  have h3 := he _ this
  have h1' : isUL l[cutAt l l.length - 1] = false := h1
  rw [h3] at h1'; cases h1'
theorem pre_low (s : List Nat) : ((s.take 2).map lowc = [48, 120]) ↔ (s.take 2 = [48, 120] ∨ s.take 2 = [48, 88]) := by
  have h48 : ∀ c, lowc c = 48 ↔ c = 48 := fun c => by unfold lowc; split <;> (try split) <;> omega
  have h120 : ∀ c, lowc c = 120 ↔ (c = 120 ∨ c = 88) := fun c => by unfold lowc; split <;> (try split) <;> omega
  match s with
  | [] => simp
  | [a] => simp
  | a :: b :: r =>
    simp only [List.take_succ_cons, List.take_zero, List.map_cons, List.map_nil, List.cons.injEq, and_true]
    rw [h48, h120]
    constructor
    · rintro ⟨h1, h2 | h2⟩
      · exact .inl ⟨h1, h2⟩
      · exact .inr ⟨h1, h2⟩
    · rintro (⟨h1, h2⟩ | ⟨h1, h2⟩)
      · exact ⟨h1, .inl h2⟩
      · exact ⟨h1, .inr h2⟩
/-- what an ending gives, by the split of its stem -/
theorem nd_split (l e s : List Nat) (hs : l.take (l.length - e.length) = s) (h : s ++ e = l) :
    ndOne l e = if (npSplit s).1.all (fun c => (npSplit s).2.2.contains c) = true ∧ (npSplit s).1 ≠ [] then some (.tuple [.int (worthOf (npSplit s).2.1 (npSplit s).1), .int (npSplit s).2.1, .str (tx (e.map lowc))]) else none := by
  have gen : ∀ (b : Nat) (L ds : List Nat) (hL : ∀ c, L.contains c = decide (dv c < b)), (if 0 ≤ lv b ds then some (PyData.tuple [.int (lv b ds), .int (b : Int), .str (tx (e.map lowc))]) else none) =
      if ds.all (fun c => L.contains c) = true ∧ ds ≠ [] then some (.tuple [.int (worthOf b ds : Nat), .int (b : Int), .str (tx (e.map lowc))]) else none := fun b L ds hL => by
    have e1 : (ds.all fun c => L.contains c) = ds.all fun c => decide (dv c < b) := by congr 1; funext c; exact hL c
    rw [e1]
    by_cases hp : (ds.all fun c => decide (dv c < b)) = true ∧ ds ≠ []
    · rw [if_pos hp, if_pos ((lv_ge b ds).mpr hp), lv_pos hp.1 hp.2]
    · rw [if_neg hp, if_neg fun h => hp ((lv_ge b ds).mp h)]
  unfold ndOne npSplit
  rw [hs, if_neg (fun hh => hh h)]
  by_cases h2 : s.take 2 = [48, 120] ∨ s.take 2 = [48, 88]
  · simp only [if_pos h2, if_pos ((pre_low s).mpr h2)]
    exact gen 16 sHex _ hex_iff
  · simp only [if_neg h2, if_neg fun hh => h2 ((pre_low s).mp hh)]
    by_cases h0 : s.take 1 = [48]
    · simp only [if_pos h0]
      exact gen 8 sOct _ oct_iff
    · simp only [if_neg h0]
      exact gen 10 sDig _ dig_iff
/-- a stem that ends in a letter gives nothing -/
theorem nd_letter (l e s : List Nat) (hs : l.take (l.length - e.length) = s) (h : s ++ e = l) (hne : s ≠ []) (hu : isUL (s.getLast hne) = true) : ndOne l e = none := by
  rw [nd_split l e s hs h, if_neg]
  rintro ⟨h1, h2⟩
  have hlast : s.getLast hne ∈ (npSplit s).1 := by
    unfold npSplit
    split
    · rename_i h3
      have hlen : 2 ≤ s.length := by
        rcases h3 with h3 | h3 <;> (have := congrArg List.length h3; simp at this; omega)
      have : s.drop 2 ≠ [] := by
        intro h4
        have h5 : s = s.take 2 := by have := List.take_append_drop 2 s; rw [h4, List.append_nil] at this; exact this.symm
        rcases h3 with h3 | h3
        · have : s = [48, 120] := h5.trans h3
          subst this
          have hf : isUL (([48, 120] : List Nat).getLast hne) = false := rfl
          rw [hf] at hu; cases hu
        · have : s = [48, 88] := h5.trans h3
          subst this
          have hf : isUL (([48, 88] : List Nat).getLast hne) = false := rfl
          rw [hf] at hu; cases hu
      have e1 : s.getLast hne = (s.drop 2).getLast this := by rw [List.getLast_drop]
      rw [e1]; exact List.getLast_mem _
    · split <;> exact List.getLast_mem _
  have h3 := List.all_eq_true.mp h1 _ hlast
  have h4 := np_good (List.contains_iff_mem.mp h3)
  have h5 := isUL_dv hu
  omega
theorem ul_low : ∀ (e : List Nat), (∀ c ∈ e, isUL c = true) → (sSuf.any (fun c => e.map lowc == c) = true ↔ e ∈ endingsL) := fun e he => by
  have hc : ∀ c ∈ e, c = 117 ∨ c = 85 ∨ c = 108 ∨ c = 76 := fun c hc => by
    have := he c hc
    unfold isUL at this
    simp only [Bool.or_eq_true, beq_iff_eq] at this
    omega
  match e with
  | [] => decide +kernel
  | [a] => rcases hc a (by simp) with rfl | rfl | rfl | rfl <;> decide +kernel
  | [a, b] => rcases hc a (by simp) with rfl | rfl | rfl | rfl <;> rcases hc b (by simp) with rfl | rfl | rfl | rfl <;> decide +kernel
  | a :: b :: c :: r =>
    constructor
    · intro h
      obtain ⟨x, hx, h2⟩ := List.any_eq_true.mp h
      have h3 : ∀ x ∈ sSuf, x.length ≤ 2 := by decide +kernel
      have := h3 x hx
      have h4 : (a :: b :: c :: r).map lowc = x := by simpa using h2
      rw [← h4] at this; simp at this
    · intro h
      have h3 : ∀ x ∈ endingsL, x.length ≤ 2 := by decide +kernel
      have := h3 _ h
      simp at this
theorem findSome_only {α β : Type} (f : α → Option β) (x : α) : ∀ (L : List α), x ∈ L → (∀ y ∈ L, y ≠ x → f y = none) → L.findSome? f = f x
  | [], h, _ => nomatch h
  | a :: L, h, hno => by
    rw [List.findSome?_cons]
    by_cases hax : a = x
    · subst hax
      cases hf : f a with
      | some y => rfl
      | none =>
        show L.findSome? f = none
        rw [List.findSome?_eq_none_iff]
        intro y hy
        by_cases hyx : y = a
        · rw [hyx]; exact hf
        · exact hno y (.tail _ hy) hyx
    · rw [hno a (.head _) hax]
      exact findSome_only f x L ((List.mem_cons.mp h).resolve_left fun e => hax e.symm) fun y hy => hno y (.tail _ hy)
/-- the two readings of a number are one -/
theorem np_nd (l : List Nat) : np l = nd l := by
  have hcut := cutAt_le l l.length
  have hall := cut_all l l.length (Nat.le_refl _) (by rw [List.drop_length]; exact fun c h => nomatch h)
  have hahead := cut_ahead l l.length
  have hle : ∀ s e : List Nat, l = s ++ e → (∀ c ∈ e, isUL c = true) → cutAt l l.length ≤ s.length := fun s e h => cut_le l h
  have hnp : np l = (if ¬ sSuf.any (fun c => (l.drop (cutAt l l.length)).map lowc == c) then .none else if (npSplit (l.take (cutAt l l.length))).1 = [] then .none else
    if (npSplit (l.take (cutAt l l.length))).1.all (fun c => (npSplit (l.take (cutAt l l.length))).2.2.contains c) then .tuple [.int (worthOf (npSplit (l.take (cutAt l l.length))).2.1 (npSplit (l.take (cutAt l l.length))).1), .int (npSplit (l.take (cutAt l l.length))).2.1, .str (tx ((l.drop (cutAt l l.length)).map lowc))] else .none) := rfl
  generalize cutAt l l.length = k at *
  have hsplit : l.take k ++ l.drop k = l := List.take_append_drop k l
  -- other endings give nothing
  have other : ∀ e ∈ endingsL, e ≠ l.drop k → ndOne l e = none := fun e he hne => by
    by_cases h : l.take (l.length - e.length) ++ e = l
    · have h1 := hle _ e h.symm (endings_ul e he)
      have hlen : (l.take (l.length - e.length)).length = l.length - e.length := by simp
      rw [hlen] at h1
      have hel : e.length ≤ l.length := by have := congrArg List.length h; simp at this; omega
      have h2 : k ≠ l.length - e.length := fun hk => hne (by
        have : l.drop (l.length - e.length) = e := by
          have hh := congrArg (List.drop (l.length - e.length)) h
          rw [List.drop_append_of_le_length (by rw [hlen]; exact Nat.le_refl _), List.drop_of_length_le (by rw [hlen]; exact Nat.le_refl _), List.nil_append] at hh
          exact hh.symm
        rw [hk, this])
      have hpos : 0 < l.length - e.length := by omega
      have hsne : l.take (l.length - e.length) ≠ [] := fun hh => by have := congrArg List.length hh; rw [hlen] at this; simp at this; omega
      refine nd_letter l e _ rfl h hsne (hall _ ?_)
      rw [List.getLast_eq_getElem]
      have hidx : l.length - e.length - 1 < l.length := by omega
      have : (l.take (l.length - e.length))[(l.take (l.length - e.length)).length - 1] = l[l.length - e.length - 1] := by
        simp only [hlen, List.getElem_take]
      rw [this]
      rw [List.mem_iff_getElem?]
      refine ⟨l.length - e.length - 1 - k, ?_⟩
      rw [List.getElem?_drop, List.getElem?_eq_getElem (by omega)]
      congr 2
      omega
    · unfold ndOne
      rw [if_pos h]
  have hul := ul_low (l.drop k) hall
  unfold nd
  by_cases hin : l.drop k ∈ endingsL
  · rw [findSome_only (ndOne l) (l.drop k) endingsL hin other]
    have hlen : (l.drop k).length = l.length - k := List.length_drop ..
    have hst : l.take (l.length - (l.drop k).length) = l.take k := by rw [hlen]; congr 1; omega
    rw [nd_split l (l.drop k) (l.take k) hst hsplit, hnp, if_neg (fun hh => hh (hul.mpr hin))]
    by_cases h1 : (npSplit (l.take k)).1 = []
    · rw [if_pos h1, if_neg (fun hh => hh.2 h1)]; rfl
    · rw [if_neg h1]
      by_cases h2 : (npSplit (l.take k)).1.all (fun c => (npSplit (l.take k)).2.2.contains c) = true
      · rw [if_pos h2, if_pos ⟨h2, h1⟩]; rfl
      · rw [if_neg h2, if_neg (fun hh => h2 hh.1)]; rfl
  · have : endingsL.findSome? (ndOne l) = none := by
      rw [List.findSome?_eq_none_iff]
      intro e he
      exact other e he fun h => hin (h ▸ he)
    rw [this, hnp, if_pos (fun hh => hin (hul.mp hh))]; rfl

theorem pre92 (c : Nat) (r : List Nat) : ([92] : List Nat).isPrefixOf (c :: r) = (92 == c) := by simp [List.isPrefixOf]
theorem spl_cons_ne {c : Nat} {r p : List Nat} {ps : List (List Nat)} (hc : c ≠ 92) (e : spl [92] r = p :: ps) : spl [92] (c :: r) = (c :: p) :: ps :=
  spl_miss (by rw [pre92]; simpa using fun h : 92 = c => hc h.symm) e
theorem spl_cons_eq (r : List Nat) : spl [92] (92 :: r) = [] :: spl [92] r := by
  rw [spl_hit (by decide) (by rw [pre92]; rfl)]; rfl
/-- the first part, and what is behind it -/
theorem spl_first : ∀ (r q : List Nat) (qs : List (List Nat)), spl [92] r = q :: qs → 92 ∉ q ∧ ((qs = [] ∧ r = q) ∨ ∃ rest, r = q ++ 92 :: rest ∧ spl [92] rest = qs)
  | [], q, qs, h => by
    rw [spl] at h
    cases h
    exact ⟨by simp, .inl ⟨rfl, rfl⟩⟩
  | c :: r, q, qs, h => by
    by_cases hc : c = 92
    · subst hc
      rw [spl_cons_eq] at h
      cases h
      exact ⟨by simp, .inr ⟨r, rfl, rfl⟩⟩
    · obtain ⟨p, ps, e⟩ := spl_ne [92] r
      rw [spl_cons_ne hc e] at h
      cases h
      obtain ⟨h1, h2⟩ := spl_first r p qs e
      refine ⟨by simp only [List.mem_cons, not_or]; exact ⟨fun h => hc h.symm, h1⟩, ?_⟩
      rcases h2 with ⟨h2, h3⟩ | ⟨rest, h2, h3⟩
      · exact .inl ⟨h2, by rw [h3]⟩
      · exact .inr ⟨rest, by rw [h2]; rfl, h3⟩
theorem spl_free : ∀ (q : List Nat), 92 ∉ q → spl [92] q = [q]
  | [], _ => by rw [spl]
  | c :: r, h => by
    simp only [List.mem_cons, not_or] at h
    exact spl_cons_ne (fun e => h.1 e.symm) (spl_free r h.2)
theorem spl_part : ∀ (q rest : List Nat), 92 ∉ q → spl [92] (q ++ 92 :: rest) = q :: spl [92] rest
  | [], rest, _ => spl_cons_eq rest
  | c :: q, rest, h => by
    simp only [List.mem_cons, not_or] at h
    exact spl_cons_ne (fun e => h.1 e.symm) (spl_part q rest h.2)
theorem tw_stop (p : Nat → Bool) (h92 : p 92 = false) (q rest : List Nat) : (q ++ 92 :: rest).takeWhile p = q.takeWhile p := by
  induction q with
  | nil => rw [List.nil_append, List.takeWhile_cons, h92]; rfl
  | cons c q ih =>
    rw [List.cons_append, List.takeWhile_cons, List.takeWhile_cons, ih]
theorem tw_stop3 (p : Nat → Bool) (h92 : p 92 = false) : ∀ (n : Nat) (q rest : List Nat), ((q ++ 92 :: rest).take n).takeWhile p = (q.take n).takeWhile p
  | 0, _, _ => by simp
  | n + 1, [], rest => by rw [List.nil_append, List.take_succ_cons, List.takeWhile_cons, h92]; rfl
  | n + 1, c :: q, rest => by
    rw [List.cons_append, List.take_succ_cons, List.take_succ_cons, List.takeWhile_cons, List.takeWhile_cons, tw_stop3 p h92 n q rest]
theorem ea_stop {q : List Nat} (hq : q ≠ []) (rest : List Nat) : eaV (q ++ 92 :: rest) = eaV q := by
  cases q with
  | nil => exact absurd rfl hq
  | cons c q =>
    unfold eaV
    have e1 : ((c :: q) ++ 92 :: rest).take 1 = (c :: q).take 1 := rfl
    have e2 : ((c :: q) ++ 92 :: rest).drop 1 = q ++ 92 :: rest := rfl
    rw [e1, e2, tw_stop3 sOct.contains (by decide +kernel), tw_stop sHex.contains (by decide +kernel)]
    rfl
theorem ea_le {q : List Nat} {v : Int} {k : Nat} (h : eaV q = some (v, k)) : k ≤ q.length := by
  unfold eaV at h
  split at h
  · rename_i p hp
    cases h
    cases q with
    | nil =>
      have := List.find?_some hp
      simp at this
    | cons _ _ => simp
  · split at h
    · cases h
      exact Nat.le_trans (List.takeWhile_sublist _).length_le (by simp; omega)
    · split at h
      · cases h
      · rename_i h3
        cases h
        have h4 : q.take 1 = [120] := by
          apply Classical.byContradiction
          intro h5
          exact h3 (.inl h5)
        have : 1 ≤ q.length := by
          cases q with
          | nil => simp at h4
          | cons _ _ => simp
        have h5 := (List.takeWhile_sublist (p := sHex.contains) (l := q.drop 1)).length_le
        simp at h5 ⊢
        omega
def okF (f : List Int) : Bool := f.all fun x => !decide (255 < x)
def chk (o : Option (List Int)) : Option (List Int) := o.bind fun f => if okF f then some f else none
theorem okF_app (a b : List Int) : okF (a ++ b) = (okF a && okF b) := by unfold okF; rw [List.all_append]
theorem odGo_bad : ∀ (n : Nat) (ps : List (List Nat)) (f : List Int), ps.length ≤ n → okF f = false → chk (odGo ps f) = none
  | n, [], f, _, h => by rw [odGo]; unfold chk; simp [h]
  | 0, _ :: _, _, h, _ => by simp at h
  | n + 1, p :: ps, f, hn, h => by
    rw [odGo]
    rw [List.length_cons] at hn
    split
    · exact odGo_bad n _ _ (by simp; omega) (by rw [okF_app, okF_app, h]; rfl)
    · cases edV p with
      | none => rfl
      | some vk => exact odGo_bad n _ _ (by omega) (by rw [okF_app, okF_app, h]; rfl)
theorem okF_one (x : Int) : okF [x] = !decide (255 < x) := by simp [okF]
theorem lo_od : ∀ (n : Nat) (x : List Nat) (acc : List Int) (p : List Nat) (ps : List (List Nat)), x.length ≤ n → okF acc = true → spl [92] x = p :: ps → lo x acc = chk (odGo ps (acc ++ nz p))
  | n, [], acc, p, ps, _, hacc, h => by
    rw [spl] at h
    cases h
    rw [lo, odGo]
    unfold chk nz
    simp [hacc]
  | 0, _ :: _, _, _, _, h, _, _ => by simp at h
  | n + 1, c :: r, acc, p, ps, hn, hacc, h => by
    rw [List.length_cons] at hn
    rw [lo]
    by_cases hc : c = 92
    · subst hc
      rw [if_pos rfl]
      rw [spl_cons_eq] at h
      cases h
      obtain ⟨q, qs, hq⟩ := spl_ne [92] r
      rw [hq]
      have hnz : acc ++ nz [] = acc := by simp [nz]
      rw [hnz, odGo]
      obtain ⟨hq92, hcase⟩ := spl_first r q qs hq
      by_cases hb : q = [] ∧ qs ≠ []
      · rw [if_pos hb]
        obtain ⟨rfl, hqs⟩ := hb
        rcases hcase with ⟨h1, _⟩ | ⟨rest, hr, hrest⟩
        · exact absurd h1 hqs
        · rw [List.nil_append] at hr
          subst hr
          have hea : eaV (92 :: rest) = some (92, 1) := rfl
          rw [hea]
          show (if (255 : Int) < 92 then none else lo ((92 :: rest).drop 1) (acc ++ [92])) = _
          rw [if_neg (by decide)]
          obtain ⟨q1, qs1, e1⟩ := spl_ne [92] rest
          have := lo_od n rest (acc ++ [92]) q1 qs1 (by simp at hn; omega) (by rw [okF_app, hacc]; rfl) e1
          rw [show (92 :: rest).drop 1 = rest from rfl, this, ← hrest, e1]
          rfl
      · rw [if_neg hb, ed_ea]
        have hea : eaV r = eaV q := by
          rcases hcase with ⟨_, rfl⟩ | ⟨rest, hr, hrest⟩
          · rfl
          · have hqne : q ≠ [] := fun e => hb ⟨e, by rw [← hrest]; obtain ⟨_, _, e2⟩ := spl_ne [92] rest; rw [e2]; exact List.cons_ne_nil _ _⟩
            rw [hr, ea_stop hqne]
        rw [hea]
        cases hv : eaV q with
        | none => rfl
        | some vk =>
          obtain ⟨v, k⟩ := vk
          have hk := ea_le hv
          show (if 255 < v then none else lo (r.drop k) (acc ++ [v])) = chk (odGo qs (acc ++ [v] ++ nz (q.drop k)))
          by_cases h255 : 255 < v
          · rw [if_pos h255]
            exact (odGo_bad qs.length qs _ (Nat.le_refl _) (by rw [okF_app, okF_app, okF_one, decide_eq_true h255]; simp)).symm
          · rw [if_neg h255]
            have hsp : spl [92] (r.drop k) = q.drop k :: qs := by
              have h92 : 92 ∉ q.drop k := fun h => hq92 (List.mem_of_mem_drop h)
              rcases hcase with ⟨h1, rfl⟩ | ⟨rest, hr, hrest⟩
              · rw [h1]; exact spl_free _ h92
              · rw [hr, List.drop_append_of_le_length hk, spl_part _ _ h92, hrest]
            exact lo_od n (r.drop k) (acc ++ [v]) (q.drop k) qs (by simp; omega) (by rw [okF_app, hacc, okF_one, decide_eq_false h255]; rfl) hsp
    · rw [if_neg hc]
      obtain ⟨p', ps', e⟩ := spl_ne [92] r
      rw [spl_cons_ne hc e] at h
      cases h
      have hnz : acc ++ nz (c :: p') = acc ++ [(c : Int)] ++ nz p' := by simp [nz]
      rw [hnz]
      by_cases h255 : (255 : Int) < c
      · rw [if_pos h255]
        exact (odGo_bad ps.length ps _ (Nat.le_refl _) (by rw [okF_app, okF_app, okF_one, decide_eq_true h255]; simp)).symm
      · rw [if_neg h255]
        exact lo_od n r (acc ++ [(c : Int)]) p' ps (by omega) (by rw [okF_app, hacc, okF_one, decide_eq_false h255]; rfl) e
/-- the two readings of a literal are one -/
theorem lod_od (l : List Nat) : lod l = od l := by
  unfold lod od
  generalize (l.take (l.length - 1)).drop 1 = body
  obtain ⟨p, ps, e⟩ := spl_ne [92] body
  rw [e, lo_od body.length body [] p ps (Nat.le_refl _) rfl e, List.nil_append]
  show _ = match odGo ps (nz p) with
    | none => PyData.none
    | some f => if (f.filter fun x => decide (255 < x)) = [] then PyData.list (f.map .int) else PyData.none
  cases odGo ps (nz p) with
  | none => rfl
  | some f =>
    have hk : okF f = true ↔ (f.filter fun x => decide (255 < x)) = [] := by
      unfold okF
      rw [List.filter_eq_nil_iff, List.all_eq_true]
      constructor
      · intro h x hx; have := h x hx; simpa using this
      · intro h x hx; have := h x hx; simpa using this
    by_cases h : okF f = true
    · show (match chk (some f) with | none => _ | some f => _) = _
      unfold chk
      simp only [Option.bind, h, if_true]
      rw [if_pos (hk.mp h)]
    · show (match chk (some f) with | none => _ | some f => _) = _
      unfold chk
      simp only [Option.bind, h]
      rw [if_neg fun hh => h (hk.mpr hh)]; rfl

def stepL (L : List (Nat × Nat)) (c : Nat) (r : List Nat) : Nat × List Nat :=
  if c = 63 ∧ r.take 1 = [63] then match L.find? (fun p => (r.drop 1).take 1 == [p.1]) with
    | some p => (p.2, r.drop 2)
    | none => (c, r)
  else (c, r)
theorem stepL_le (L : List (Nat × Nat)) (c : Nat) (r : List Nat) : (stepL L c r).2.length ≤ r.length := by
  unfold stepL
  split
  · split <;> simp
  · exact Nat.le_refl _
def tgL (L : List (Nat × Nat)) : List Nat → List Nat
  | [] => []
  | c :: r => (stepL L c r).1 :: tgL L (stepL L c r).2
termination_by l => l.length
decreasing_by have := stepL_le L c r; simp; omega
theorem tgL_nil : ∀ (n : Nat) (x : List Nat), x.length ≤ n → tgL [] x = x
  | _, [], _ => by rw [tgL]
  | 0, _ :: _, h => by simp at h
  | n + 1, c :: r, h => by
    have : stepL [] c r = (c, r) := by unfold stepL; simp
    rw [tgL, this, tgL_nil n r (by simpa using h)]
theorem pre3 (a c : Nat) (r : List Nat) : ([63, 63, a] : List Nat).isPrefixOf (c :: r) = true ↔ c = 63 ∧ ∃ r2, r = 63 :: a :: r2 := by
  match r with
  | [] => simp [List.isPrefixOf]
  | [d] => simp [List.isPrefixOf]
  | d :: e :: r2 =>
    simp only [List.isPrefixOf, Bool.and_eq_true, beq_iff_eq, and_true]
    constructor
    · rintro ⟨h1, h2, h3⟩; exact ⟨h1.symm, r2, by rw [← h2, ← h3]⟩
    · rintro ⟨h1, r3, h2⟩; cases h2; exact ⟨h1.symm, rfl, rfl⟩
theorem stepL_plain {L : List (Nat × Nat)} {c : Nat} {r : List Nat} (h : ¬ (c = 63 ∧ r.take 1 = [63])) : stepL L c r = (c, r) := if_neg h
theorem tg_more {L : List (Nat × Nat)} {a b : Nat} (ha : a ≠ 63) (hL : ∀ p ∈ L, p.1 ≠ a ∧ p.2 ≠ 63 ∧ p.2 ≠ a) : ∀ (n : Nat) (x : List Nat), x.length ≤ n → rep [63, 63, a] [b] (tgL L x) = tgL (L ++ [(a, b)]) x
  | _, [], _ => by rw [tgL, tgL, rep_nil]
  | 0, _ :: _, h => by simp at h
  | n + 1, c :: r, hn => by
    rw [List.length_cons] at hn
    by_cases hq : c = 63 ∧ r.take 1 = [63]
    · cases hf : L.find? (fun p => (r.drop 1).take 1 == [p.1]) with
      | some p =>
        have hp := hL p (List.mem_of_find?_eq_some hf)
        have e1 : stepL L c r = (p.2, r.drop 2) := by unfold stepL; rw [if_pos hq, hf]
        have e2 : stepL (L ++ [(a, b)]) c r = (p.2, r.drop 2) := by unfold stepL; rw [if_pos hq, List.find?_append, hf]; rfl
        rw [tgL, tgL, e1, e2, rep_miss, tg_more ha hL n (r.drop 2) (by simp; omega)]
        apply eq_false_of_ne_true
        intro h
        exact hp.2.1 ((pre3 a _ _).mp h).1
      | none =>
        have e1 : stepL L c r = (c, r) := by unfold stepL; rw [if_pos hq, hf]
        by_cases hA : (r.drop 1).take 1 = [a]
        · -- the new trigraph
          have e2 : stepL (L ++ [(a, b)]) c r = (b, r.drop 2) := by
            unfold stepL
            rw [if_pos hq, List.find?_append, hf]
            have : (([(a, b)] : List (Nat × Nat)).find? fun p => (r.drop 1).take 1 == [p.1]) = some (a, b) := by rw [hA]; simp
            rw [this]; rfl
          obtain ⟨r2, hr⟩ : ∃ r2, r = 63 :: a :: r2 := by
            match r, hq.2, hA with
            | [], h, _ => simp at h
            | [d], _, h => simp at h
            | d :: e :: r2, h1, h2 =>
              simp only [List.take_succ_cons, List.take_zero, List.cons.injEq, and_true, List.drop_succ_cons, List.drop_zero] at h1 h2
              exact ⟨r2, by rw [h1, h2]⟩
          subst hr
          obtain ⟨rfl, _⟩ := hq
          have s1 : stepL L 63 (a :: r2) = (63, a :: r2) := stepL_plain (by rintro ⟨_, h⟩; exact ha (by simpa using h))
          have s2 : stepL L a r2 = (a, r2) := stepL_plain (by rintro ⟨h, _⟩; exact ha h)
          rw [tgL, e1]
          show rep [63, 63, a] [b] (63 :: tgL L (63 :: a :: r2)) = _
          rw [tgL, s1]
          show rep [63, 63, a] [b] (63 :: 63 :: tgL L (a :: r2)) = _
          rw [tgL, s2]
          show rep [63, 63, a] [b] (63 :: 63 :: a :: tgL L r2) = _
          rw [rep_hit (by simp) ((pre3 a _ _).mpr ⟨rfl, _, rfl⟩)]
          rw [tgL, e2]
          show [b] ++ rep [63, 63, a] [b] (tgL L r2) = b :: tgL (L ++ [(a, b)]) r2
          rw [tg_more ha hL n r2 (by simp at hn; omega)]; rfl
        · have e2 : stepL (L ++ [(a, b)]) c r = (c, r) := by
            unfold stepL
            rw [if_pos hq, List.find?_append, hf]
            have : (([(a, b)] : List (Nat × Nat)).find? fun p => (r.drop 1).take 1 == [p.1]) = none := by rw [List.find?_cons, show ((r.drop 1).take 1 == [(a, b).1]) = false from beq_eq_false_iff_ne.mpr hA]; rfl
            rw [this]; rfl
          rw [tgL, tgL, e1, e2]
          show rep [63, 63, a] [b] (c :: tgL L r) = c :: tgL (L ++ [(a, b)]) r
          rw [rep_miss, tg_more ha hL n r (by omega)]
          exact miss ha hL c r fun h => hA (by
            obtain ⟨r2, hr⟩ := h.2
            rw [hr]; rfl)
    · have e1 : stepL L c r = (c, r) := stepL_plain hq
      have e2 : stepL (L ++ [(a, b)]) c r = (c, r) := stepL_plain hq
      rw [tgL, tgL, e1, e2]
      show rep [63, 63, a] [b] (c :: tgL L r) = c :: tgL (L ++ [(a, b)]) r
      rw [rep_miss, tg_more ha hL n r (by omega)]
      exact miss ha hL c r fun h => hq ⟨h.1, by obtain ⟨r2, hr⟩ := h.2; rw [hr]; rfl⟩
where
  miss {L : List (Nat × Nat)} {a : Nat} (ha : a ≠ 63) (hL : ∀ p ∈ L, p.1 ≠ a ∧ p.2 ≠ 63 ∧ p.2 ≠ a) (c : Nat) (r : List Nat) (h : ¬ (c = 63 ∧ ∃ r2, r = 63 :: a :: r2)) : ([63, 63, a] : List Nat).isPrefixOf (c :: tgL L r) = false := by
    apply eq_false_of_ne_true
    intro hp
    obtain ⟨h1, u, hu⟩ := (pre3 a _ _).mp hp
    refine h ⟨h1, ?_⟩
    have out : ∀ (d : Nat) (q : List Nat), (stepL L d q).1 = 63 ∨ (stepL L d q).1 = a → stepL L d q = (d, q) := fun d q hd => by
      unfold stepL at hd ⊢
      by_cases hq : d = 63 ∧ q.take 1 = [63]
      · rw [if_pos hq] at hd ⊢
        cases hf : L.find? (fun p => (q.drop 1).take 1 == [p.1]) with
        | none => rfl
        | some p =>
          rw [hf] at hd
          have := hL p (List.mem_of_find?_eq_some hf)
          rcases hd with hd | hd
          · exact absurd hd this.2.1
          · exact absurd hd this.2.2
      · rw [if_neg hq]
    cases r with
    | nil => rw [tgL] at hu; cases hu
    | cons d q =>
      rw [tgL] at hu
      rw [List.cons.injEq] at hu
      have s1 := out d q (.inl hu.1)
      rw [s1] at hu
      obtain ⟨hd, hu⟩ := hu
      have hd : d = 63 := hd
      have hu : tgL L q = a :: u := hu
      cases q with
      | nil => rw [tgL] at hu; cases hu
      | cons e q2 =>
        rw [tgL, List.cons.injEq] at hu
        have s2 := out e q2 (.inr hu.1)
        rw [s2] at hu
        have he : e = a := hu.1
        exact ⟨q2, by have h1 : d = 63 := hd; rw [h1, he]⟩
theorem threes_ok : ∀ i, i < 9 → (threesL.getD i (0, 0)).1 ≠ 63 ∧ ∀ p ∈ threesL.take i, p.1 ≠ (threesL.getD i (0, 0)).1 ∧ p.2 ≠ 63 ∧ p.2 ≠ (threesL.getD i (0, 0)).1 := by decide
theorem fold_tg (t : List Nat) : ∀ i, i ≤ 9 → (threesL.take i).foldl (fun t p => rep [63, 63, p.1] [p.2] t) t = tgL (threesL.take i) t
  | 0, _ => (tgL_nil t.length t (Nat.le_refl _)).symm
  | i + 1, h => by
    have hi : i < threesL.length := by show i < 9; omega
    have e : threesL.take (i + 1) = threesL.take i ++ [threesL.getD i (0, 0)] := by rw [List.take_add_one, List.getElem?_eq_getElem hi, List.getD_eq_getElem?_getD, List.getElem?_eq_getElem hi]; rfl
    rw [e, List.foldl_append, fold_tg t i (by omega)]
    obtain ⟨h1, h2⟩ := threes_ok i (by omega)
    show rep [63, 63, (threesL.getD i (0, 0)).1] [(threesL.getD i (0, 0)).2] (tgL (threesL.take i) t) = _
    rw [tg_more h1 h2 t.length t (Nat.le_refl _)]
theorem sdT_tg (l : List Nat) : sdT l = tgL threesL (rep [13, 10] [10] l) := fold_tg (rep [13, 10] [10] l) 9 (Nat.le_refl _)

/-- the joining of continued rows alone -/
def cont : List Nat → List Nat → List Int → List Nat × List Int
  | [], s, j => (s, j)
  | c :: r, s, j => if c = 92 ∧ r.take 1 = [10] then cont (r.drop 1) s (j ++ [(s.length : Int)]) else cont r (s ++ [c]) j
termination_by l => l.length
decreasing_by
  · simp; omega
  · simp
theorem step1_L (c : Nat) (r : List Nat) : step1 c r = stepL threesL c r := rfl
theorem tg_ten (r : List Nat) : (tgL threesL r).take 1 = [10] ↔ r.take 1 = [10] := by
  cases r with
  | nil => rw [tgL]
  | cons c r =>
    rw [tgL]
    show [(stepL threesL c r).1] = [10] ↔ [c] = [10]
    have hno : ∀ p ∈ threesL, p.2 ≠ 10 := by decide
    unfold stepL
    by_cases hq : c = 63 ∧ r.take 1 = [63]
    · rw [if_pos hq]
      have : ¬ c = 10 := by omega
      cases hf : threesL.find? (fun p => (r.drop 1).take 1 == [p.1]) with
      | none => rfl
      | some p =>
        have h2 := hno p (List.mem_of_find?_eq_some hf)
        simp only [List.cons.injEq, and_true]
        exact ⟨fun h => absurd h h2, fun h => absurd h this⟩
    · rw [if_neg hq]
theorem sp_cont : ∀ (n : Nat) (x s : List Nat) (j : List Int), x.length ≤ n → spGo x s j = cont (tgL threesL x) s j
  | _, [], s, j, _ => by rw [tgL, spGo, cont]
  | 0, _ :: _, _, _, h => by simp at h
  | n + 1, c :: r, s, j, hn => by
    rw [List.length_cons] at hn
    rw [tgL, spGo, cont, step1_L]
    have hle := stepL_le threesL c r
    generalize stepL threesL c r = st at *
    obtain ⟨g, r'⟩ := st
    simp only at hle ⊢
    by_cases h : g = 92 ∧ r'.take 1 = [10]
    · rw [if_pos h, if_pos ⟨h.1, (tg_ten r').mpr h.2⟩]
      rw [sp_cont n (r'.drop 1) s _ (by simp; omega)]
      congr 1
      cases r' with
      | nil => simp at h
      | cons d q =>
        have hd : d = 10 := by simpa using h.2
        subst hd
        have : stepL threesL 10 q = (10, q) := stepL_plain (by rintro ⟨h, _⟩; cases h)
        conv => rhs; rw [tgL, this]
        rfl
    · rw [if_neg h, if_neg fun hh => h ⟨hh.1, (tg_ten r').mp hh.2⟩]
      exact sp_cont n r' _ _ (by omega)
theorem pre2 (c : Nat) (r : List Nat) : ([92, 10] : List Nat).isPrefixOf (c :: r) = true ↔ c = 92 ∧ r.take 1 = [10] := by
  match r with
  | [] => simp [List.isPrefixOf]
  | d :: r2 =>
    simp only [List.isPrefixOf, Bool.and_eq_true, beq_iff_eq, and_true, List.take_succ_cons, List.take_zero, List.cons.injEq]
    exact ⟨fun h => ⟨h.1.symm, h.2.symm⟩, fun h => ⟨h.1.symm, h.2.symm⟩⟩
theorem joinL_cons (p : List Nat) (ps : List (List Nat)) : joinL [] (p :: ps) = p ++ joinL [] ps := by
  cases ps with
  | nil => simp [joinL]
  | cons q qs => simp [joinL]
theorem cont_spl : ∀ (n : Nat) (x s : List Nat) (j : List Int), x.length ≤ n → cont x s j = (s ++ joinL [] (spl [92, 10] x), j ++ cum ((spl [92, 10] x).take ((spl [92, 10] x).length - 1)) s.length)
  | _, [], s, j, _ => by rw [cont, spl]; simp [joinL, cum]
  | 0, _ :: _, _, _, h => by simp at h
  | n + 1, c :: r, s, j, hn => by
    rw [List.length_cons] at hn
    rw [cont]
    by_cases h : c = 92 ∧ r.take 1 = [10]
    · rw [if_pos h, spl_hit (by simp) ((pre2 c r).mpr h), cont_spl n (r.drop 1) s _ (by simp; omega)]
      show _ = (s ++ joinL [] ([] :: spl [92, 10] (r.drop 1)), _)
      rw [joinL_cons, List.nil_append]
      have e : (c :: r).drop ([92, 10] : List Nat).length = r.drop 1 := rfl
      rw [e]
      obtain ⟨p, ps, e2⟩ := spl_ne [92, 10] (r.drop 1)
      rw [e2]
      congr 1
      simp only [List.length_cons, Nat.add_sub_cancel, List.take_succ_cons, cum, List.append_assoc, List.singleton_append, List.length_nil, Nat.add_zero]
    · have hm : ([92, 10] : List Nat).isPrefixOf (c :: r) = false := eq_false_of_ne_true fun hh => h ((pre2 c r).mp hh)
      obtain ⟨p, ps, e⟩ := spl_ne [92, 10] r
      rw [if_neg h, spl_miss hm e, cont_spl n r (s ++ [c]) j (by omega), e]
      congr 1
      · rw [joinL_cons, joinL_cons]; simp
      · cases ps with
        | nil => simp [cum]
        | cons q qs =>
          simp only [List.length_cons, Nat.add_sub_cancel, List.take_succ_cons, cum, List.length_append, List.length_singleton, List.length_nil]
          congr 3 <;> omega
/-- the two readings of rows are one -/
theorem sp_sd (l : List Nat) : sp l = sd l := by
  unfold sp sd
  rw [sdT_tg]
  generalize rep [13, 10] [10] l = t
  simp only
  split
  · rename_i h
    rw [Bool.and_eq_true, Bool.not_eq_true', Bool.not_eq_true'] at h
    have h1 := no_sub (y := [63, 63]) (by decide) h.1
    have h2 := no_sub (y := [92, 10]) (by decide) h.2
    have htg : ∀ (x : List Nat), (∀ k, ([63, 63] : List Nat).isPrefixOf (x.drop k) = false) → tgL threesL x = x := fun x => by
      induction x with
      | nil => intro _; rw [tgL]
      | cons c r ih =>
        intro hx
        have : stepL threesL c r = (c, r) := stepL_plain (by
          rintro ⟨ha, hb⟩
          have h0 := hx 0
          cases r with
          | nil => simp at hb
          | cons d q =>
            have hd : d = 63 := by simpa using hb
            subst ha; subst hd
            simp [List.isPrefixOf] at h0)
        rw [tgL, this]
        show c :: tgL threesL r = c :: r
        rw [ih fun k => hx (k + 1)]
    rw [htg t h1]
    have hsp : spl [92, 10] t = [t] := by
      have := spl_upto (sep := [92, 10]) (by decide) t.length t (Nat.le_refl _) (fun k _ => h2 k) [] [] (by rw [List.drop_length, spl])
      rw [this]; simp
    rw [hsp]
    simp [joinL, cum]
  · rw [sp_cont t.length t [] [] (Nat.le_refl _), cont_spl _ _ [] [] (Nat.le_refl _)]
    simp


theorem same_shaped {d : PyData} (h : SeqAt.shaped d = true) : (!PyData.eqv d d) = false := by
  rw [SeqAt.eqv_refl d (SeqAt.canLay_of_shaped h)]; rfl
theorem lowc_lt {c : Nat} (h : c < 0x110000 - 32) : lowc c < 0x110000 := by unfold lowc; split <;> (try split) <;> omega
theorem np_shaped {l : List Nat} (h : ∀ c ∈ l, c < 128) : SeqAt.shaped (np l) = true := by
  have hs : flat (.str (tx ((l.drop (cutAt l l.length)).map lowc))) = true := flat_tx fun c hc => by
    obtain ⟨x, hx, rfl⟩ := List.mem_map.mp hc
    exact lowc_lt (Nat.lt_trans (h x (List.mem_of_mem_drop hx)) (by decide))
  unfold np
  simp only
  split
  · rfl
  · split
    · rfl
    · split
      · refine shaped_tuple ?_
        rw [List.all_cons, List.all_cons, List.all_cons, hs]; rfl
      · rfl
section
variable {B : Bs} {F F' : Fd} {C : Cx B F} {Λ : Loc} {G : Gs} {O : Out → Prop}
theorem evG_draw (T : Tp B) {i : Nat} {wa : Addr} {ns : List Int} {at_ : Nat} {st size : Int} {p1 p2 p3 : Pos} {e : PySem.Expr} (hx : F.names[i]? = some "well") (hl : Λ[i]? = some (some (.r wa))) (he : Ev C Λ (wellG wa ns at_ st) (eval e C.env) (.i size)) (hns : ns.length ≤ 63) (hs : 0 < size) (hs2 : size < 2 ^ 60)
    (hd : C.A.depth + 1 < recursionLimit) (hu : C.A.units + 4 * 1 + 70 < cLine) (hf : F.scope.names.lookup ("_law_draw" : Str) = some .globalImplicit := by rfl) (hst : isStarred e = false := by rfl) :
    EvG C Λ (wellG wa ns at_ st) (eval (.Call (.Name "_law_draw" p1) [.Name "well" p2, e] [] p3) C.env) fun l G' => ∃ (j : Int) (at' : Nat) (st' : Int), l = .i j ∧ 0 ≤ j ∧ j < size ∧ G' = wellG wa ns at' st' :=
  evG_spec T.d_draw T.g_draw (evL_cons (ev_name hx hl) (evL_cons he evL_nil hst)) (draw_spec T hns hs hs2) hd hu hf
theorem small_digits {n : Nat} (h : n < 100) : n < 128 := by omega

def waysA : List (List Nat) := ["", "0", "0x", "0X", ""].map cs
def waysB : List (List Nat) := ["0123456789", "0123456789", "0123456789abcdef", "0123456789ABCDEF", "09afAFxXuUlLgG._+"].map cs
theorem waysA_ok : ∀ x ∈ waysA, x.length ≤ 2 ∧ ∀ c ∈ x, c < 128 := by decide +kernel
theorem waysB_ok : ∀ x ∈ waysB, 0 < x.length ∧ x.length ≤ 20 ∧ ∀ c ∈ x, c < 128 := by decide +kernel
theorem spoilt_ok : ∀ x ∈ spoiltL, x.length ≤ 3 ∧ ∀ c ∈ x, c < 128 := by decide +kernel
theorem getT {xs : List (List Nat)} {j : Int} (h0 : 0 ≤ j) (h1 : j < xs.length) : (xs.map fun x => PyData.str (tx x))[j.toNat]? = some (.str (tx (xs.getD j.toNat []))) ∧ xs.getD j.toNat [] ∈ xs := by
  have h : j.toNat < xs.length := by omega
  rw [List.getElem?_map, List.getElem?_eq_getElem h, List.getD_eq_getElem?_getD, List.getElem?_eq_getElem h]
  exact ⟨rfl, List.getElem_mem _⟩

set_option maxHeartbeats 2000000 in
theorem numbers_right_spec (T : Tp B) {wa : Addr} {ns : List Int} {at_ : Nat} {st : Int} (hns : ns.length ≤ 63) :
    Spec B T.a_numbers_right 3 [.r wa] (wellG wa ns at_ st) fun l G' => l = .b true ∧ ∃ (at' : Nat) (st' : Int), G' = wellG wa ns at' st' := by
  refine spec_of T.d_numbers_right ⟨_, rfl⟩ (by decide +kernel) rfl fun C hgin hd hu => ?_
  refine ex_cons ?_
  refine ex_for (σ := Nat × Int) (P := fun l G' => l = .rg 6 ∧ G' = wellG wa ns at_ st) (ev_callB (.ty _) (by rfl) T.n_range T.m_range (evL_cons ev_int evL_nil) call_rangeI).e ?_
  rintro _ _ ⟨rfl, rfl⟩
  refine ⟨_, fun _ _ => [some (.r wa), none, none, none, none], fun i _ => [some (.r wa), some (.i (i : Nat)), none, none, none], fun _ x => wellG wa ns x.1 x.2, fun _ _ => True, (at_, st), itR_range (by decide) (by decide), trivial, subLoc_some (subLoc_none (subLoc_none (subLoc_none (subLoc_none subLoc_nil)))), rfl, ?_, ?_, ?_⟩
  · intro i x l hx hl a o
    have hi : i < 6 := by have := (List.getElem?_eq_some_iff.mp hl).1; simpa using this
    have : l = .i (i : Nat) := by
      rw [List.getElem?_map] at hl
      obtain ⟨z, hz, rfl⟩ := Option.map_eq_some_iff.mp hl
      have := (List.getElem?_eq_some_iff.mp hz).2
      rw [List.getElem_range] at this
      rw [this]
    subst this
    exact as_name (i := 1) rfl
  · rintro i ⟨at1, st1⟩ hi _ a o
    show Ex (C.hold a o) [some (.r wa), some (.i (i : Nat)), none, none, none] (wellG wa ns at1 st1) _ _
    have hdd : (C.hold a o).A.depth + 2 < recursionLimit := hd
    have huu : (C.hold a o).A.units + 4 * 2 + 70 < cLine := hu
    refine ex_cons (ex_assign (i := 2) rfl (evG_draw T (i := 0) rfl rfl ev_int hns (by decide) (by decide) (by omega) (by omega)) ?_)
    rintro _ _ ⟨way, at2, st2, rfl, w0, w1, rfl⟩
    obtain ⟨hA1, hA2⟩ := getT (xs := waysA) w0 (by show way < 5; omega)
    obtain ⟨hB1, hB2⟩ := getT (xs := waysB) w0 (by show way < 5; omega)
    obtain ⟨a1, a2⟩ := waysA_ok _ hA2
    obtain ⟨b0, b1, b2⟩ := waysB_ok _ hB2
    generalize waysA.getD way.toNat [] = xa at *
    generalize waysB.getD way.toNat [] = xb at *
    refine ex_cons (ex_assign1 (i := 3) (l := .t xa) rfl (ev_sub (ev_tupleD (xs := waysA.map fun x => PyData.str (tx x)) (evL_cons ev_text (evL_cons ev_text (evL_cons ev_text (evL_cons ev_text (evL_cons ev_text evL_nil))))) (by decide)) (ev_name (i := 2) rfl rfl) (sub_tuple w0 hA1 (by omega))) ?_)
    refine ex_cons (ex_assign (i := 3) (P := fun l G' => ∃ (x : List Nat) (at' : Nat) (st' : Int), l = .t x ∧ x.length ≤ 6 ∧ (∀ c ∈ x, c < 128) ∧ G' = wellG wa ns at' st') rfl (evG_bin (ev_name (i := 3) rfl rfl).e ?_) ?_)
    · rintro _ _ ⟨rfl, rfl⟩
      refine (evG_spec T.d_signs T.g_signs (evL_cons (ev_name (i := 0) rfl rfl) (evL_cons ev_int (evL_cons (ev_sub (ev_tupleD (xs := waysB.map fun x => PyData.str (tx x)) (evL_cons ev_text (evL_cons ev_text (evL_cons ev_text (evL_cons ev_text (evL_cons ev_text evL_nil))))) (by decide)) (ev_name (i := 2) rfl rfl) (sub_tuple w0 hB1 (by omega))) evL_nil))) (signs_spec T (most := 4) hns (by decide) b0 (by omega)) (by omega) (by omega)).to ?_
      rintro _ _ ⟨x, at', st', rfl, h1, h2, rfl⟩
      refine ⟨_, bin_catT (szl (by omega)), _, at', st', rfl, by simp; omega, fun c hc => ?_, rfl⟩
      rcases List.mem_append.mp hc with hc | hc
      · exact a2 c hc
      · exact b2 c (h2 c hc)
    rintro _ _ ⟨x, at3, st3, rfl, x1, x2, rfl⟩
    refine ex_cons (ex_assign (i := 4) rfl (evG_draw T (i := 0) rfl rfl ev_int hns (by decide) (by decide) (by omega) (by omega)) ?_)
    rintro _ _ ⟨en, at4, st4, rfl, e0, e1, rfl⟩
    refine ex_cons (ex_assign (i := 3) (P := fun l G' => ∃ (x : List Nat) (at' : Nat) (st' : Int), l = .t x ∧ x.length ≤ 9 ∧ (∀ c ∈ x, c < 128) ∧ G' = wellG wa ns at' st') rfl (evG_bin (ev_name (i := 3) rfl rfl).e ?_) ?_)
    · rintro _ _ ⟨rfl, rfl⟩
      refine (evG_ifexp (b := decide (en < 26)) (P := fun l G' => ∃ (y : List Nat) (at' : Nat) (st' : Int), l = .t y ∧ y.length ≤ 3 ∧ (∀ c ∈ y, c < 128) ∧ G' = wellG wa ns at' st') (ts_cmp (ev_name (i := 4) rfl rfl) ev_int cmp_lt) (fun h => ?_) fun h => ?_).to ?_
      · have h26 : en < 26 := of_decide_eq_true h
        have hq : en.fdiv 2 = en / 2 := by rw [Int.fdiv_eq_ediv_of_nonneg _ (by decide)]
        have q0 : 0 ≤ en / 2 := by omega
        obtain ⟨hE1, hE2⟩ := getT (xs := endingsL) q0 (by show en / 2 < 13; omega)
        obtain ⟨c1, c2⟩ := endings_ascii _ hE2
        refine (ev_sub (ev_global (by rfl) T.g_endings T.i_endings) (ev_eq (ev_bin (ev_name (i := 4) rfl rfl) ev_int (bin_floordiv (by decide) (pylong_small (by decide)))) (by rw [hq])) (sub_tuple q0 hE1 (by omega))).e.to ?_
        rintro _ _ ⟨rfl, rfl⟩
        exact ⟨_, _, _, rfl, by omega, c2, rfl⟩
      · refine (evG_sub (P' := fun l G' => ∃ (y : List Nat) (at' : Nat) (st' : Int), l = .t y ∧ y.length ≤ 3 ∧ (∀ c ∈ y, c < 128) ∧ G' = wellG wa ns at' st') (ev_global (by rfl) T.g_spoilt T.i_spoilt).e ?_)
        rintro _ _ ⟨rfl, rfl⟩
        refine (evG_draw T (i := 0) rfl rfl ev_int hns (by decide) (by decide) (by omega) (by omega)).to ?_
        rintro _ _ ⟨j, at', st', rfl, j0, j1, rfl⟩
        obtain ⟨hE1, hE2⟩ := getT (xs := spoiltL) j0 (by show j < 9; omega)
        obtain ⟨c1, c2⟩ := spoilt_ok _ hE2
        exact ⟨_, sub_tuple j0 hE1 (by omega), _, at', st', rfl, c1, c2, rfl⟩
      · rintro _ _ ⟨y, at', st', rfl, y1, y2, rfl⟩
        refine ⟨_, bin_catT (szl (by omega)), _, at', st', rfl, by simp; omega, fun c hc => ?_, rfl⟩
        rcases List.mem_append.mp hc with hc | hc
        · exact x2 c hc
        · exact y2 c hc
    rintro _ _ ⟨z, at5, st5, rfl, z1, z2, rfl⟩
    have hsh := np_shaped z2
    refine ex_cons (ex_if (b := false) (ts_eq (ts_cmp (EvG.one (evG_spec T.d_number_parts T.g_number_parts (evL_cons (ev_name (i := 3) rfl rfl) evL_nil) (number_parts_spec T (by omega) z2) (by omega) (by omega))) (EvG.one (evG_spec T.d_number_due T.g_number_due (evL_cons (ev_name (i := 3) rfl rfl) evL_nil) (number_due_spec T (by omega) z2) (by omega) (by omega))) (cmp_neD hsh (by rw [← np_nd]; exact hsh))) (by rw [← np_nd]; exact same_shaped hsh)) (fun h => nomatch h) fun _ => ex_nil (ex_nil ⟨(at5, st5), trivial, subLoc_some (subLoc_none (subLoc_none (subLoc_none (subLoc_none subLoc_nil)))), rfl⟩))
  · rintro ⟨at1, st1⟩ _
    exact ex_cons (ex_return1 ev_bool ⟨_, _, rfl, fun g' hg => List.mem_map_of_mem (f := (·.1)) hg, rfl, at1, st1, rfl⟩)
end


theorem ea_shaped (r : List Nat) (a : Nat) : SeqAt.shaped (eaD r a) = true := by
  unfold eaD
  cases eaV r <;> rfl
def afterL : List Nat := cs "01234567890123xxabfnrtvABCDEF'\"?qgXde\\ "
theorem after_ok : 0 < afterL.length ∧ afterL.length ≤ 60 ∧ ∀ c ∈ afterL, c < 128 := by decide +kernel
theorem range_elt {n : Nat} {i : Nat} {l : LV} (hl : ((List.range n).map fun i => LV.i (i : Nat))[i]? = some l) : l = .i (i : Nat) := by
  rw [List.getElem?_map] at hl
  obtain ⟨z, hz, rfl⟩ := Option.map_eq_some_iff.mp hl
  have := (List.getElem?_eq_some_iff.mp hz).2
  rw [List.getElem_range] at this
  rw [this]
theorem rep_all {P : Nat → Prop} {y z : List Nat} (hy : y ≠ []) (hz : ∀ c ∈ z, P c) : ∀ (n : Nat) (l : List Nat), l.length ≤ n → (∀ c ∈ l, P c) → ∀ c ∈ rep y z l, P c
  | _, [], _, _ => by rw [rep_nil]; exact fun c h => nomatch h
  | 0, _ :: _, h, _ => by simp at h
  | n + 1, d :: r, hn, h => by
    rw [List.length_cons] at hn
    cases e : y.isPrefixOf (d :: r) with
    | true =>
      rw [rep_hit hy e]
      intro c hc
      rcases List.mem_append.mp hc with hc | hc
      · exact hz c hc
      · have hp : 0 < y.length := List.length_pos_iff.mpr hy
        exact rep_all hy hz n ((d :: r).drop y.length) (by rw [List.length_drop, List.length_cons]; omega) (fun x hx => h x (List.mem_of_mem_drop hx)) c hc
    | false =>
      rw [rep_miss e]
      intro c hc
      rcases List.mem_cons.mp hc with rfl | hc
      · exact h _ (.head _)
      · exact rep_all hy hz n r (by omega) (fun x hx => h x (.tail _ hx)) c hc
theorem step1_ok {c : Nat} {r : List Nat} (hc : c < 128) (hr : ∀ x ∈ r, x < 128) : (step1 c r).1 < 128 ∧ ∀ x ∈ (step1 c r).2, x < 128 := by
  have h3 : ∀ p ∈ threesL, p.2 < 128 := by decide
  unfold step1
  split
  · cases hf : threesL.find? (fun p => (r.drop 1).take 1 == [p.1]) with
    | none => exact ⟨hc, hr⟩
    | some p => exact ⟨h3 p (List.mem_of_find?_eq_some hf), fun x hx => hr x (List.mem_of_mem_drop hx)⟩
  · exact ⟨hc, hr⟩
theorem spGo_ok : ∀ (n : Nat) (x s : List Nat) (j : List Int), x.length ≤ n → (∀ c ∈ x, c < 128) → (∀ c ∈ s, c < 128) → ∀ c ∈ (spGo x s j).1, c < 128
  | _, [], s, j, _, _, hs => by rw [spGo]; exact hs
  | 0, _ :: _, _, _, h, _, _ => by simp at h
  | n + 1, c :: r, s, j, hn, hx, hs => by
    rw [List.length_cons] at hn
    obtain ⟨h1, h2⟩ := step1_ok (hx c (.head _)) fun x hx' => hx x (.tail _ hx')
    have hle := step1_le c r
    rw [spGo]
    split
    · exact spGo_ok n _ _ _ (by simp; omega) (fun x hx' => h2 x (List.mem_of_mem_drop hx')) hs
    · exact spGo_ok n _ _ _ (by omega) h2 fun x hx' => by
        rcases List.mem_append.mp hx' with hx' | hx'
        · exact hs x hx'
        · obtain rfl := List.mem_singleton.mp hx'; exact h1
theorem shaped_pair {x : List Nat} {ns : List Int} (hx : ∀ c ∈ x, c < 128) : SeqAt.shaped (.tuple [.str (tx x), .list (ns.map .int)]) = true := by
  have h1 := flat_lay (flat_tx (l := x) fun c hc => Nat.lt_trans (hx c hc) (by decide))
  have h2 := flats_lay (flat_ints ns)
  have e1 : (PyData.tuple [.str (tx x), .list (ns.map .int)]).canLay0 = (PyData.canLay0 (.str (tx x)) && (PyData.canLayAll0 (ns.map .int) && true)) := rfl
  have e2 : (PyData.tuple [.str (tx x), .list (ns.map .int)]).depth = max (PyData.depth (.str (tx x))) (max (PyData.depthAll (ns.map .int) + 1) 0) + 1 := rfl
  unfold SeqAt.shaped
  rw [e1, e2, h1.1, h2.1, h1.2, h2.2]; rfl
theorem sp_shaped {l : List Nat} (h : ∀ c ∈ l, c < 128) : SeqAt.shaped (sp l) = true := by
  have ht : ∀ c ∈ rep [13, 10] [10] l, c < 128 := rep_all (by decide) (by decide) l.length l (Nat.le_refl _) h
  unfold sp
  generalize rep [13, 10] [10] l = t at *
  simp only
  split
  · exact shaped_pair (ns := []) ht
  · exact shaped_pair (spGo_ok t.length t [] [] (Nat.le_refl _) ht fun c h => nomatch h)
theorem torn_ok : ∀ x ∈ tornL, x.length ≤ 2 ∧ ∀ c ∈ x, c < 128 := by decide +kernel
theorem threes_lt : ∀ p ∈ threesL, p.1 < 128 := by decide
section
variable {B : Bs} {F F' : Fd} {C : Cx B F} {Λ : Loc} {G : Gs} {O : Out → Prop}
set_option maxHeartbeats 2000000 in
theorem escapes_right_spec (T : Tp B) {wa : Addr} {ns : List Int} {at_ : Nat} {st : Int} (hns : ns.length ≤ 63) :
    Spec B T.a_escapes_right 3 [.r wa] (wellG wa ns at_ st) fun l G' => l = .b true ∧ ∃ (at' : Nat) (st' : Int), G' = wellG wa ns at' st' := by
  refine spec_of T.d_escapes_right ⟨_, rfl⟩ (by decide +kernel) rfl fun C hgin hd hu => ?_
  refine ex_cons ?_
  refine ex_for (σ := Nat × Int) (P := fun l G' => l = .rg 7 ∧ G' = wellG wa ns at_ st) (ev_callB (.ty _) (by rfl) T.n_range T.m_range (evL_cons ev_int evL_nil) call_rangeI).e ?_
  rintro _ _ ⟨rfl, rfl⟩
  refine ⟨_, fun _ _ => [some (.r wa), none, none, none], fun i _ => [some (.r wa), some (.i (i : Nat)), none, none], fun _ x => wellG wa ns x.1 x.2, fun _ _ => True, (at_, st), itR_range (by decide) (by decide), trivial, subLoc_some (subLoc_none (subLoc_none (subLoc_none subLoc_nil))), rfl, ?_, ?_, ?_⟩
  · intro i x l hx hl a o
    rw [range_elt hl]
    exact as_name (i := 1) rfl
  · rintro i ⟨at1, st1⟩ hi _ a o
    show Ex (C.hold a o) [some (.r wa), some (.i (i : Nat)), none, none] (wellG wa ns at1 st1) _ _
    have hdd : (C.hold a o).A.depth + 2 < recursionLimit := hd
    have huu : (C.hold a o).A.units + 4 * 2 + 70 < cLine := hu
    obtain ⟨f1, f2, f3⟩ := after_ok
    refine ex_cons (ex_assign (i := 2) rfl (evG_spec T.d_signs T.g_signs (evL_cons (ev_name (i := 0) rfl rfl) (evL_cons ev_int (evL_cons (ev_global (by rfl) T.g_after T.i_after) evL_nil))) (signs_spec T (most := 6) (some_ := afterL) hns (by decide) f1 (by omega)) (by omega) (by omega)) ?_)
    rintro _ _ ⟨x, at2, st2, rfl, x1, x2, rfl⟩
    have hxl : x.length ≤ sizeLine := szl (by omega)
    have hxA : ∀ c ∈ x, AlphaB c = true := fun c hc => alpha_ascii (f3 c (x2 c hc))
    refine ex_cons (ex_assign (i := 3) rfl (evG_draw T (i := 0) (size := x.length + 1) rfl rfl (ev_bin (ev_callB (.fn _) (by rfl) T.n_len T.m_len (evL_cons (ev_name (i := 2) rfl rfl) evL_nil) (call_len hxl)) ev_int bin_add) hns (by omega) (by omega) (by omega) (by omega)) ?_)
    rintro _ _ ⟨j, at3, st3, rfl, j0, j1, rfl⟩
    obtain ⟨k, rfl⟩ := Int.eq_ofNat_of_zero_le j0
    have hk : k ≤ x.length := by omega
    have hsh := ea_shaped (x.drop k) k
    refine ex_cons (ex_if (b := false) (ts_eq (ts_cmp (EvG.one (evG_spec T.d_escape_at T.g_escape_at (evL_cons (ev_name (i := 2) rfl rfl) (evL_cons (ev_name (i := 3) rfl rfl) evL_nil)) (escape_at_spec T (by omega) hk) (by omega) (by omega))) (EvG.one (evG_spec T.d_escape_due T.g_escape_due (evL_cons (ev_name (i := 2) rfl rfl) (evL_cons (ev_name (i := 3) rfl rfl) evL_nil)) (escape_due_spec T (by omega) hxA) (by omega) (by omega))) (cmp_neD hsh (by rw [edD_eaD]; exact hsh))) (by rw [edD_eaD]; exact same_shaped hsh)) (fun h => nomatch h) fun _ => ex_nil (ex_nil ⟨(at3, st3), trivial, subLoc_some (subLoc_none (subLoc_none (subLoc_none subLoc_nil))), rfl⟩))
  · rintro ⟨at1, st1⟩ _
    exact ex_cons (ex_return1 ev_bool ⟨_, _, rfl, fun g' hg => List.mem_map_of_mem (f := (·.1)) hg, rfl, at1, st1, rfl⟩)

set_option maxHeartbeats 2000000 in
theorem rows_right_spec (T : Tp B) {wa : Addr} {ns : List Int} {at_ : Nat} {st : Int} (hns : ns.length ≤ 63) :
    Spec B T.a_rows_right 3 [.r wa] (wellG wa ns at_ st) fun l G' => l = .b true ∧ ∃ (at' : Nat) (st' : Int), G' = wellG wa ns at' st' := by
  refine spec_of T.d_rows_right ⟨_, rfl⟩ (by decide +kernel) rfl fun C hgin hd hu => ?_
  refine ex_cons ?_
  refine ex_for (σ := Nat × Int) (P := fun l G' => l = .rg 3 ∧ G' = wellG wa ns at_ st) (ev_callB (.ty _) (by rfl) T.n_range T.m_range (evL_cons ev_int evL_nil) call_rangeI).e ?_
  rintro _ _ ⟨rfl, rfl⟩
  refine ⟨_, fun _ _ => [some (.r wa), none, none, none, none], fun i _ => [some (.r wa), some (.i (i : Nat)), none, none, none], fun _ x => wellG wa ns x.1 x.2, fun _ _ => True, (at_, st), itR_range (by decide) (by decide), trivial, subLoc_some (subLoc_none (subLoc_none (subLoc_none (subLoc_none subLoc_nil)))), rfl, ?_, ?_, ?_⟩
  · intro i x l hx hl a o
    rw [range_elt hl]
    exact as_name (i := 1) rfl
  · rintro i ⟨at1, st1⟩ hi _ a o
    show Ex (C.hold a o) [some (.r wa), some (.i (i : Nat)), none, none, none] (wellG wa ns at1 st1) _ _
    have hdd : (C.hold a o).A.depth + 2 < recursionLimit := hd
    have huu : (C.hold a o).A.units + 4 * 2 + 70 < cLine := hu
    refine ex_cons (ex_assign1 (i := 2) rfl ev_text ?_)
    rw [cs_e]
    refine ex_seq (fun Λ' G' => ∃ (x : List Nat) (at' : Nat) (st' : Int), x.length ≤ 21 ∧ (∀ c ∈ x, c < 128) ∧ SubLoc [some (.r wa), none, some (.t x), none, none] Λ' ∧ G' = wellG wa ns at' st') ?_ ?_
    · refine ex_for (σ := List Nat × Nat × Int) (P := fun l G' => ∃ (n : Nat) (at' : Nat) (st' : Int), l = .rg n ∧ n ≤ 7 ∧ G' = wellG wa ns at' st') (evG_callB1 (.ty _) T.n_range T.m_range (evG_draw T (i := 0) rfl rfl ev_int hns (by decide) (by decide) (by omega) (by omega)) ?_) ?_
      · rintro _ _ ⟨j, at', st', rfl, j0, j1, rfl⟩
        obtain ⟨n, rfl⟩ := Int.eq_ofNat_of_zero_le j0
        exact ⟨_, call_rangeI, n, at', st', rfl, by omega, rfl⟩
      rintro _ _ ⟨n, at2, st2, rfl, hn, rfl⟩
      refine ⟨_, fun _ x => [some (.r wa), none, some (.t x.1), none, none], fun i x => [some (.r wa), none, some (.t x.1), some (.i (i : Nat)), none], fun _ x => wellG wa ns x.2.1 x.2.2, fun i x => x.1.length ≤ 3 * i ∧ ∀ c ∈ x.1, c < 128, ([], at2, st2), itR_range (Int.natCast_nonneg _) (by omega), ⟨Nat.le_refl _, fun c h => nomatch h⟩, subLoc_some (subLoc_none (subLoc_some (subLoc_none (subLoc_none subLoc_nil)))), rfl, ?_, ?_, ?_⟩
      · intro i x l hx hl a' o'
        rw [range_elt hl]
        exact as_name (i := 3) rfl
      · rintro k ⟨x, at3, st3⟩ hk ⟨x1, x2⟩ a' o'
        have hk' : k < n := by simpa using hk
        have x1 : x.length ≤ 3 * k := x1
        have x2 : ∀ c ∈ x, c < 128 := x2
        show Ex ((C.hold a o).hold a' o') [some (.r wa), none, some (.t x), some (.i (k : Nat)), none] (wellG wa ns at3 st3) _ _
        have hdd : ((C.hold a o).hold a' o').A.depth + 2 < recursionLimit := hd
        have huu : ((C.hold a o).hold a' o').A.units + 4 * 2 + 70 < cLine := hu
        refine ex_cons (ex_assign (i := 4) rfl (evG_draw T (i := 0) rfl rfl ev_int hns (by decide) (by decide) (by omega) (by omega)) ?_)
        rintro _ _ ⟨j, at4, st4, rfl, j0, j1, rfl⟩
        refine ex_cons (ex_assign1 (i := 2) (l := .t (x ++ (if j < 9 then [63, 63, (threesL.getD j.toNat (0, 0)).1] else tornL.getD (j - 9).toNat []))) rfl (ev_bin (ev_name (i := 2) rfl rfl) (ev_if2 (b := decide (j < 9)) (ts_cmp (ev_name (i := 4) rfl rfl) ev_int cmp_lt) (fun h => ?_) fun h => ?_) (bin_catT ?_)) ?_)
        · have h9 : j < 9 := of_decide_eq_true h
          rw [if_pos h9]
          have hlt : j.toNat < threesL.length := by show j.toNat < 9; omega
          refine ev_eq (ev_bin (a := .t [63, 63]) (b := .t [(threesL.getD j.toNat (0, 0)).1]) (ev_eq ev_text (by rw [cs_qq])) (ev_sub (ev_sub (ev_global (by rfl) T.g_threes T.i_threes) (ev_name (i := 4) rfl rfl) (sub_tuple (x := .tuple [.str (tx [(threesL.getD j.toNat (0, 0)).1]), .str (tx [(threesL.getD j.toNat (0, 0)).2])]) j0 ?_ (by omega))) ev_int (sub_tuple (by decide) rfl (by decide))) (bin_catT (Nat.le_of_ble_eq_true rfl))) rfl
          rw [List.getElem?_map, List.getElem?_eq_getElem hlt, List.getD_eq_getElem?_getD, List.getElem?_eq_getElem hlt]; rfl
        · have h9 : ¬ j < 9 := of_decide_eq_false h
          rw [if_neg h9]
          obtain ⟨hE1, hE2⟩ := getT (xs := tornL) (j := j - 9) (by omega) (by show j - 9 < 12; omega)
          exact ev_sub (ev_global (by rfl) T.g_torn T.i_torn) (ev_bin (ev_name (i := 4) rfl rfl) ev_int bin_sub) (sub_tuple (by omega) hE1 (by omega))
        · split
          · simp; exact szl (by omega)
          · have := (torn_ok _ (getT (xs := tornL) (j := j - 9) (by omega) (by show j - 9 < 12; omega)).2).1
            exact szl (by omega)
        · have hy : (if j < 9 then [63, 63, (threesL.getD j.toNat (0, 0)).1] else tornL.getD (j - 9).toNat []).length ≤ 3 ∧ ∀ c ∈ (if j < 9 then [63, 63, (threesL.getD j.toNat (0, 0)).1] else tornL.getD (j - 9).toNat []), c < 128 := by
            split
            · have hlt : j.toNat < threesL.length := by show j.toNat < 9; omega
              refine ⟨Nat.le_refl _, fun c hc => ?_⟩
              have hm := threes_lt (threesL.getD j.toNat (0, 0)) (by rw [List.getD_eq_getElem?_getD, List.getElem?_eq_getElem hlt]; exact List.getElem_mem _)
              simp only [List.mem_cons, List.not_mem_nil, or_false] at hc
              rcases hc with rfl | rfl | rfl
              · decide
              · decide
              · exact hm
            · have := torn_ok _ (getT (xs := tornL) (j := j - 9) (by omega) (by show j - 9 < 12; omega)).2
              exact ⟨by omega, this.2⟩
          generalize (if j < 9 then [63, 63, (threesL.getD j.toNat (0, 0)).1] else tornL.getD (j - 9).toNat []) = y at *
          refine ex_nil ⟨(x ++ y, at4, st4), ⟨?_, ?_⟩, subLoc_some (subLoc_none (subLoc_some (subLoc_none (subLoc_none subLoc_nil)))), rfl⟩
          · show (x ++ y).length ≤ 3 * (k + 1)
            simp; omega
          · intro c hc
            rcases List.mem_append.mp hc with hc | hc
            · exact x2 c hc
            · exact hy.2 c hc
      · rintro ⟨x, at3, st3⟩ ⟨x1, x2⟩
        have x1 : x.length ≤ 3 * ((List.range (n : Int).toNat).map fun i => LV.i (i : Nat)).length := x1
        exact ⟨x, at3, st3, by simp at x1; omega, x2, subLoc_some (subLoc_none (subLoc_some (subLoc_none (subLoc_none subLoc_nil)))), rfl⟩
    rintro Λ' _ ⟨x, at3, st3, x1, x2, hsb, rfl⟩
    refine Ex.weak hsb ?_
    have hsh := sp_shaped x2
    refine ex_cons (ex_if (b := false) (ts_eq (ts_cmp (EvG.one (evG_spec T.d_spliced T.g_spliced (evL_cons (ev_name (i := 2) rfl rfl) evL_nil) (spliced_spec T (by omega)) (by omega) (by omega))) (EvG.one (evG_spec T.d_spliced_due T.g_spliced_due (evL_cons (ev_name (i := 2) rfl rfl) evL_nil) (spliced_due_spec T (by omega)) (by omega) (by omega))) (cmp_neD hsh (by rw [← sp_sd]; exact hsh))) (by rw [← sp_sd]; exact same_shaped hsh)) (fun h => nomatch h) fun _ => ex_nil (ex_nil ⟨(at3, st3), trivial, subLoc_some (subLoc_none (subLoc_none (subLoc_none (subLoc_none subLoc_nil)))), rfl⟩))
  · rintro ⟨at1, st1⟩ _
    exact ex_cons (ex_return1 ev_bool ⟨_, _, rfl, fun g' hg => List.mem_map_of_mem (f := (·.1)) hg, rfl, at1, st1, rfl⟩)
end


theorem lod_shaped (l : List Nat) : SeqAt.shaped (lod l) = true := by
  unfold lod
  cases lo ((l.take (l.length - 1)).drop 1) [] with
  | none => rfl
  | some f => exact shaped_list (flat_ints f)
theorem plain_ok : ∀ x ∈ plainL, x.length ≤ 1 ∧ ∀ c ∈ x, AlphaB c = true := by decide +kernel
section
variable {B : Bs} {F F' : Fd} {C : Cx B F} {Λ : Loc} {G : Gs} {O : Out → Prop}
set_option maxHeartbeats 2000000 in
theorem literals_right_spec (T : Tp B) {wa : Addr} {ns : List Int} {at_ : Nat} {st : Int} (hns : ns.length ≤ 63) :
    Spec B T.a_literals_right 4 [.r wa] (wellG wa ns at_ st) fun l G' => l = .b true ∧ ∃ (at' : Nat) (st' : Int), G' = wellG wa ns at' st' := by
  refine spec_of T.d_literals_right ⟨_, rfl⟩ (by decide +kernel) rfl fun C hgin hd hu => ?_
  refine ex_cons ?_
  refine ex_for (σ := Nat × Int) (P := fun l G' => l = .rg 5 ∧ G' = wellG wa ns at_ st) (ev_callB (.ty _) (by rfl) T.n_range T.m_range (evL_cons ev_int evL_nil) call_rangeI).e ?_
  rintro _ _ ⟨rfl, rfl⟩
  refine ⟨_, fun _ _ => [some (.r wa), none, none, none, none, none], fun i _ => [some (.r wa), some (.i (i : Nat)), none, none, none, none], fun _ x => wellG wa ns x.1 x.2, fun _ _ => True, (at_, st), itR_range (by decide) (by decide), trivial, subLoc_some (subLoc_none (subLoc_none (subLoc_none (subLoc_none (subLoc_none subLoc_nil))))), rfl, ?_, ?_, ?_⟩
  · intro i x l hx hl a o
    rw [range_elt hl]
    exact as_name (i := 1) rfl
  · rintro i ⟨at1, st1⟩ hi _ a o
    show Ex (C.hold a o) [some (.r wa), some (.i (i : Nat)), none, none, none, none] (wellG wa ns at1 st1) _ _
    have hdd : (C.hold a o).A.depth + 3 < recursionLimit := hd
    have huu : (C.hold a o).A.units + 4 * 3 + 70 < cLine := hu
    have hq2 : cs "'\"" = [39, 34] := by decide +kernel
    refine ex_cons (ex_assignS (P := fun x G' => ∃ (qc : Nat) (at' : Nat) (st' : Int), x = .tp [.t [qc], .t []] ∧ (qc = 39 ∨ qc = 34) ∧ G' = wellG wa ns at' st') ?_ rfl ?_)
    · refine (evG_tuple (P := fun ls G' => ∃ (qc : Nat) (at' : Nat) (st' : Int), ls = [.t [qc], .t []] ∧ (qc = 39 ∨ qc = 34) ∧ G' = wellG wa ns at' st') (evLG_cons (P₁ := fun x G' => ∃ (qc : Nat) (at' : Nat) (st' : Int), x = .t [qc] ∧ (qc = 39 ∨ qc = 34) ∧ G' = wellG wa ns at' st') (evG_sub (ev_text (x := "'\"")).e ?_) ?_) ?_).to ?_
      · rintro _ _ ⟨rfl, rfl⟩
        refine (evG_draw T (i := 0) rfl rfl ev_int hns (by decide) (by decide) (by omega) (by omega)).to ?_
        rintro _ _ ⟨j, at', st', rfl, j0, j1, rfl⟩
        rw [hq2]
        refine ⟨_, sub_text j0 (by show j < 2; omega) (Nat.le_of_ble_eq_true rfl), _, at', st', rfl, ?_, rfl⟩
        have : j = 0 ∨ j = 1 := by omega
        rcases this with rfl | rfl
        · exact .inl rfl
        · exact .inr rfl
      · rintro _ _ ⟨qc, at', st', rfl, hq, rfl⟩
        exact evLG_cons ev_text.e fun _ _ ⟨h1, h2⟩ => evLG_nil ⟨qc, at', st', by rw [h1, cs_e], hq, h2⟩
      · rintro ls G' ⟨qc, at', st', rfl, hq, rfl⟩
        exact Nat.le_of_ble_eq_true rfl
      · rintro x G' ⟨ls, rfl, qc, at', st', rfl, hq, rfl⟩
        exact ⟨qc, at', st', rfl, hq, rfl⟩
    rintro _ _ ⟨qc, at2, st2, rfl, hq, rfl⟩
    refine ⟨_, _, .tp _, rfl, asAll_bind (i := 3) rfl (asAll_bind (i := 2) rfl asAll_nil), ?_⟩
    refine ex_seq (fun Λ' G' => ∃ (x : List Nat) (at' : Nat) (st' : Int), x.length ≤ 15 ∧ (∀ c ∈ x, AlphaB c = true) ∧ SubLoc [some (.r wa), none, some (.t [qc]), some (.t x), none, none] Λ' ∧ G' = wellG wa ns at' st') ?_ ?_
    · refine ex_for (σ := List Nat × Nat × Int) (P := fun l G' => ∃ (n : Nat) (at' : Nat) (st' : Int), l = .rg n ∧ n ≤ 3 ∧ G' = wellG wa ns at' st') (evG_callB1 (.ty _) T.n_range T.m_range (evG_draw T (i := 0) rfl rfl ev_int hns (by decide) (by decide) (by omega) (by omega)) ?_) ?_
      · rintro _ _ ⟨j, at', st', rfl, j0, j1, rfl⟩
        obtain ⟨n, rfl⟩ := Int.eq_ofNat_of_zero_le j0
        exact ⟨_, call_rangeI, n, at', st', rfl, by omega, rfl⟩
      rintro _ _ ⟨n, at3, st3, rfl, hn, rfl⟩
      refine ⟨_, fun _ x => [some (.r wa), none, some (.t [qc]), some (.t x.1), none, none], fun i x => [some (.r wa), none, some (.t [qc]), some (.t x.1), some (.i (i : Nat)), none], fun _ x => wellG wa ns x.2.1 x.2.2, fun i x => x.1.length ≤ 5 * i ∧ ∀ c ∈ x.1, AlphaB c = true, ([], at3, st3), itR_range (Int.natCast_nonneg _) (by omega), ⟨Nat.le_refl _, fun c h => nomatch h⟩, subLoc_some (subLoc_none (subLoc_some (subLoc_some (subLoc_none (subLoc_none subLoc_nil))))), rfl, ?_, ?_, ?_⟩
      · intro i x l hx hl a' o'
        rw [range_elt hl]
        exact as_name (i := 4) rfl
      · rintro k ⟨x, at4, st4⟩ hk ⟨x1, x2⟩ a' o'
        have hk' : k < n := by simpa using hk
        have x1 : x.length ≤ 5 * k := x1
        have x2 : ∀ c ∈ x, AlphaB c = true := x2
        show Ex ((C.hold a o).hold a' o') [some (.r wa), none, some (.t [qc]), some (.t x), some (.i (k : Nat)), none] (wellG wa ns at4 st4) _ _
        have hdd : ((C.hold a o).hold a' o').A.depth + 3 < recursionLimit := hd
        have huu : ((C.hold a o).hold a' o').A.units + 4 * 3 + 70 < cLine := hu
        refine ex_cons (ex_assign (i := 5) rfl (evG_draw T (i := 0) rfl rfl ev_int hns (by decide) (by decide) (by omega) (by omega)) ?_)
        rintro _ _ ⟨way, at5, st5, rfl, w0, w1, rfl⟩
        have fin : ∀ (y : List Nat) (at' : Nat) (st' : Int), y.length ≤ 5 → (∀ c ∈ y, AlphaB c = true) → ∀ (Λ' : Loc), SubLoc [some (.r wa), none, some (.t [qc]), some (.t (x ++ y)), none, none] Λ' →
            ∃ z : List Nat × Nat × Int, (z.1.length ≤ 5 * (k + 1) ∧ ∀ c ∈ z.1, AlphaB c = true) ∧ SubLoc [some (.r wa), none, some (.t [qc]), some (.t z.1), none, none] Λ' ∧ wellG wa ns at' st' = wellG wa ns z.2.1 z.2.2 := fun y at' st' h1 h2 Λ' h3 =>
          ⟨(x ++ y, at', st'), ⟨by show (x ++ y).length ≤ 5 * (k + 1); simp; omega, fun c hc => (List.mem_append.mp hc).elim (x2 c) (h2 c)⟩, h3, rfl⟩
        refine ex_cons (ex_if (b := way == 0) (ts_cmp (ev_name (i := 5) rfl rfl) ev_int cmp_eqI) (fun h => ?_) fun h => ?_)
        · refine ex_cons (ex_assign (i := 3) (P := fun l G' => ∃ (y : List Nat) (at' : Nat) (st' : Int), l = .t (x ++ y) ∧ y.length ≤ 5 ∧ (∀ c ∈ y, AlphaB c = true) ∧ G' = wellG wa ns at' st') rfl (evG_bin (ev_name (i := 3) rfl rfl).e ?_) ?_)
          · rintro _ _ ⟨rfl, rfl⟩
            refine (evG_sub (P' := fun l G' => ∃ (y : List Nat) (at' : Nat) (st' : Int), l = .t y ∧ y.length ≤ 1 ∧ (∀ c ∈ y, AlphaB c = true) ∧ G' = wellG wa ns at' st') (ev_global (by rfl) T.g_plain T.i_plain).e ?_).to ?_
            · rintro _ _ ⟨rfl, rfl⟩
              refine (evG_draw T (i := 0) (size := 10) rfl rfl (ev_callB (.fn _) (by rfl) T.n_len T.m_len (evL_cons (ev_global (by rfl) T.g_plain T.i_plain) evL_nil) (call_lenT (xs := plainL.map fun x => .str (tx x)) (by decide))) hns (by decide) (by decide) (by omega) (by omega)).to ?_
              rintro _ _ ⟨j, at', st', rfl, j0, j1, rfl⟩
              obtain ⟨hE1, hE2⟩ := getT (xs := plainL) j0 (by show j < 10; omega)
              obtain ⟨c1, c2⟩ := plain_ok _ hE2
              exact ⟨_, sub_tuple j0 hE1 (by omega), _, at', st', rfl, c1, c2, rfl⟩
            · rintro _ _ ⟨y, at', st', rfl, y1, y2, rfl⟩
              exact ⟨_, bin_catT (szl (by omega)), y, at', st', rfl, by omega, y2, rfl⟩
          rintro _ _ ⟨y, at', st', rfl, y1, y2, rfl⟩
          exact ex_nil (ex_nil (fin y at' st' y1 y2 _ (subLoc_some (subLoc_none (subLoc_some (subLoc_some (subLoc_none (subLoc_none subLoc_nil))))))))
        · obtain ⟨wn, rfl⟩ := Int.eq_ofNat_of_zero_le w0
          obtain ⟨f1, f2, f3⟩ := after_ok
          refine ex_cons (ex_assign (i := 3) (P := fun l G' => ∃ (y : List Nat) (at' : Nat) (st' : Int), l = .t (x ++ y) ∧ y.length ≤ 5 ∧ (∀ c ∈ y, AlphaB c = true) ∧ G' = wellG wa ns at' st') rfl (evG_bin (ev_bin (c := .t (x ++ [92])) (ev_name (i := 3) rfl rfl) (ev_eq ev_text (by rw [cs_bs])) (bin_catT (szl (by simp; omega)))).e ?_) ?_)
          · rintro _ _ ⟨rfl, rfl⟩
            refine (evG_spec T.d_signs T.g_signs (evL_cons (ev_name (i := 0) rfl rfl) (evL_cons (ev_eq (b := .i ((wn * 2 : Nat) : Int)) (ev_bin (ev_name (i := 5) rfl rfl) ev_int (bin_mul (IntMulOk.of_right (by decide)))) (by rw [Int.natCast_mul]; rfl)) (evL_cons (ev_global (by rfl) T.g_after T.i_after) evL_nil))) (signs_spec T (most := wn * 2) (some_ := afterL) hns (by omega) f1 (by omega)) (by omega) (by omega)).to ?_
            rintro _ _ ⟨y, at', st', rfl, y1, y2, rfl⟩
            refine ⟨_, bin_catT (szl (by simp; omega)), 92 :: y, at', st', by rw [List.append_assoc]; rfl, by simp; omega, fun c hc => ?_, rfl⟩
            rcases List.mem_cons.mp hc with rfl | hc
            · decide
            · exact alpha_ascii (f3 c (y2 c hc))
          rintro _ _ ⟨y, at', st', rfl, y1, y2, rfl⟩
          exact ex_nil (ex_nil (fin y at' st' y1 y2 _ (subLoc_some (subLoc_none (subLoc_some (subLoc_some (subLoc_none (subLoc_none subLoc_nil))))))))
      · rintro ⟨x, at4, st4⟩ ⟨x1, x2⟩
        have x1 : x.length ≤ 5 * ((List.range (n : Int).toNat).map fun i => LV.i (i : Nat)).length := x1
        exact ⟨x, at4, st4, by simp at x1; omega, x2, subLoc_some (subLoc_none (subLoc_some (subLoc_some (subLoc_none (subLoc_none subLoc_nil))))), rfl⟩
    rintro Λ' _ ⟨x, at3, st3, x1, x2, hsb, rfl⟩
    refine Ex.weak hsb ?_
    have hqA : AlphaB qc = true := by rcases hq with rfl | rfl <;> decide
    have hz : ∀ c ∈ [qc] ++ x ++ [qc], AlphaB c = true := fun c hc => by
      simp only [List.mem_append, List.mem_singleton] at hc
      rcases hc with (rfl | hc) | rfl
      · exact hqA
      · exact x2 c hc
      · exact hqA
    have hz0 : ([qc] ++ x ++ [qc]).getD 0 0 ≠ 76 := by
      show qc ≠ 76
      omega
    have hzl : ([qc] ++ x ++ [qc]).length = x.length + 2 := by simp
    have hq3 : ∀ {p1 p2 p3 p4 p5 : Pos}, Ev (C.hold a o) [some (.r wa), none, some (.t [qc]), some (.t x), none, none] (wellG wa ns at3 st3) (eval (.BinOp (.BinOp (.Name "quote" p1) .Add (.Name "text" p2) p3) .Add (.Name "quote" p4) p5) (C.hold a o).env) (.t ([qc] ++ x ++ [qc])) := fun {p1 p2 p3 p4 p5} =>
      ev_bin (ev_bin (ev_name (i := 2) rfl rfl) (ev_name (i := 3) rfl rfl) (bin_catT (szl (by simp; omega)))) (ev_name (i := 2) rfl rfl) (bin_catT (szl (by simp; omega)))
    have hsh := lod_shaped ([qc] ++ x ++ [qc])
    generalize [qc] ++ x ++ [qc] = z at *
    refine ex_cons (ex_if (b := false) (ts_eq (ts_cmp (EvG.one (evG_spec T.d_literal_octets T.g_literal_octets (evL_cons hq3 evL_nil) (literal_octets_spec T (by omega) (by omega) hz0) (by omega) (by omega))) (EvG.one (evG_spec T.d_octets_due T.g_octets_due (evL_cons hq3 evL_nil) (octets_due_spec T (by omega) (by omega) hz) (by omega) (by omega))) (cmp_neD hsh (by rw [← lod_od]; exact hsh))) (by rw [← lod_od]; exact same_shaped hsh)) (fun h => nomatch h) fun _ => ex_nil (ex_nil ⟨(at3, st3), trivial, subLoc_some (subLoc_none (subLoc_none (subLoc_none (subLoc_none (subLoc_none subLoc_nil))))), rfl⟩))
  · rintro ⟨at1, st1⟩ _
    exact ex_cons (ex_return1 ev_bool ⟨_, _, rfl, fun g' hg => List.mem_map_of_mem (f := (·.1)) hg, rfl, at1, st1, rfl⟩)
end


def callE : Stmt → PySem.Expr
  | .For _ _ (.If (.UnaryOp _ e _) _ _ _ :: _) _ _ => e
  | _ => .Constant .none 0 ⟨0, 0, 0, 0⟩
section
variable {B : Bs} {F F' : Fd} {C : Cx B F} {Λ : Loc} {G : Gs} {O : Out → Prop}
/-- a call leaves another list alone -/
theorem Spec.frame {f : Addr} {k : Nat} {args : List LV} {G : Gs} {P : LV → Gs → Prop} (h : Spec B f k args G P) (x : Addr × List LV) : Spec B f k args (x :: G) fun l G'' => ∃ G', G'' = x :: G' ∧ P l G' := fun A K s vs hh hd hu g hv R q => by
  have hnd := g.nd
  rw [List.map_cons, List.nodup_cons] at hnd
  obtain ⟨ox, ex⟩ := (g.gl x (.head _)).here
  refine h A K s vs hh hd hu ⟨g.sub, g.base, fun y hy => g.gl y (.tail _ hy), fun y hy => g.out y (.tail _ hy), hnd.2, g.gens, g.os⟩ hv R fun K' v s' l G' k' g' hnew hold hG hP hl => ?_
  refine q K' v s' l (x :: G') k' ⟨g'.sub, g'.base, fun y hy => ?_, fun y hy => ?_, ?_, g'.gens, g'.os⟩ hnew (fun b o e hb => hold b o e fun hm => hb (.tail _ hm)) (fun y hy => ?_) ⟨G', rfl, hP⟩ hl
  · cases hy with
    | head => exact (GIs.heap (fun o e => hold _ o e hnd.1) (g.gl x (.head _))).mono k'
    | tail _ hy => exact g'.gl y hy
  · cases hy with
    | head =>
      cases e : K'.get? x.1 with
      | none => rfl
      | some o =>
        rcases hnew _ _ e with z | z
        · rw [g.out x (.head _)] at z; cases z
        · exact absurd (Heap.lt_size ex) (Nat.not_lt.mpr z)
    | tail _ hy => exact g'.out y hy
  · rw [List.map_cons, List.nodup_cons]
    refine ⟨fun hm => ?_, g'.nd⟩
    obtain ⟨y, hy, e⟩ := List.mem_map.mp hm
    exact hnd.1 (e ▸ hG y hy)
  · cases hy with
    | head => exact .head _
    | tail _ hy => exact .tail _ (hG y hy)
theorem Inv.dropAll {C : Cx B F} (hgin : C.gin = []) : ∀ {G : Gs} {K : Heap} {s : Shared}, Inv C K Λ G s → ∃ K', Sub K K' ∧ Inv C K' Λ [] s
  | [], K, s, g => ⟨K, Sub.refl K, g⟩
  | (a, ls) :: G, K, s, g => by
    have ha : C.entry.objs.size ≤ a := by
      rcases (g.gap (a, ls) (.head _)).2 with h | h
      · rw [hgin] at h; cases h
      · exact h
    obtain ⟨K₁, _, k₁, _, _, g₁⟩ := Inv.freeze (G₁ := []) g ha
    obtain ⟨K₂, k₂, g₂⟩ := Inv.dropAll hgin (G := G) g₁
    exact ⟨K₂, k₁.trans k₂, g₂⟩
theorem ex_returnA {e : PySem.Expr} {pos : Pos} {l : LV} (he : Ev C Λ G (eval e C.env) l) (hgin : C.gin = []) (h : O (.rt l [])) : Ex C Λ G (exec (.Return (some e) pos) C.env) O := fun K s g Q E q =>
  wpAny_Return_some (he K s g _ E fun K' v s' k' g' i' => by
    obtain ⟨K₂, k₂, g₂⟩ := Inv.dropAll hgin g'
    exact q K₂ _ s' _ (k'.trans k₂) h ⟨v, Λ, rfl, i'.mono k₂, g₂⟩)
def TsG (C : Cx B F) (Λ : Loc) (G : Gs) (t : Sem Bool) (P : Bool → Gs → Prop) : Prop :=
  ∀ K s, Inv C K Λ G s → ∀ (Q : Bool → Shared → Prop) (E : Value → Shared → Prop), (∀ K' s' b G', Sub K K' → P b G' → Inv C K' Λ G' s' → Q b s') → wpAny C.M C.A t Q E s
theorem ex_ifG {test : PySem.Expr} {body orelse : List Stmt} {pos : Pos} {P : Bool → Gs → Prop} (ht : TsG C Λ G (isTrue test C.env (eval test C.env)) P)
    (h1 : ∀ G', P true G' → Ex C Λ G' (execs body C.env) O) (h2 : ∀ G', P false G' → Ex C Λ G' (execs orelse C.env) O) : Ex C Λ G (exec (.If test body orelse pos) C.env) O := fun K s g Q E q => by
  refine wpAny_If (ht K s g _ E fun K' s' b G' a p i => ?_)
  cases b with
  | true => exact h1 G' p K' s' i Q E fun K'' f s'' o x y z => q K'' f s'' o (a.trans x) y z
  | false => exact h2 G' p K' s' i Q E fun K'' f s'' o x y z => q K'' f s'' o (a.trans x) y z
theorem tsG_not {x : PySem.Expr} {pos : Pos} {whole : Sem Value} {P P' : Bool → Gs → Prop} (h : TsG C Λ G (isTrue x C.env (eval x C.env)) P) (hp : ∀ b G', P b G' → P' (!b) G') : TsG C Λ G (isTrue (.UnaryOp .Not x pos) C.env whole) P' := fun K s g Q E q =>
  wpAny_isTrue_Not (h K s g _ E fun K' s' b G' k p g' => q K' s' (!b) G' k (hp b G' p) g')
theorem tsG_val {e : PySem.Expr} {P : Bool → Gs → Prop} (h : EvG C Λ G (eval e C.env) fun l G' => ∃ b, l = .b b ∧ P b G') (he : isTrue e C.env (eval e C.env) = (do let v ← eval e C.env; standAt e.pos; holding [v] (truthy v)) := by rfl) : TsG C Λ G (isTrue e C.env (eval e C.env)) P := fun K s g Q E q =>
  wpAny_isTrue_value (h K s g _ E fun K' v s' l G' k ⟨b, e1, hp⟩ g' i => by
    subst e1
    rw [is_bool i]; exact wpAny_truthy_bool (q K' s' b G' k hp g')) he
def modD : LV → PyData
  | .d (.int x) => .int (x.fmod 2147483647)
  | _ => .none
/-- [int(cell) % 2147483647 for cell in cells] -/
theorem ev_cells {iter : PySem.Expr} {p1 p2 p3 p4 p5 px pos : Pos} {kc : Nat} {scope : Scope} {ms : List Int} (hm : B.mg "int" = none) (hb : B.mb "int" = some (.type "int")) (hi : Ev C Λ G (eval iter C.env) (.d (.list (ms.map .int)))) (hn : ms.length ≤ sizeLine)
    (hk : scope.kind = .function := by rfl) (hs : scope.names.lookup ("cell" : Str) = some .local := by rfl) (ho : scope.names.lookup ("int" : Str) = some .globalImplicit := by rfl) (hf : ∀ x ∈ scope.names, x.2 ≠ .free := by decide +kernel)
    (hc : ∀ x ∈ scope.names, x.2 ≠ .cell := by decide +kernel) (hl : ∀ y ∈ scope.names, y.2 = .local → scope.names.lookup y.1 = some .local := by decide +kernel) (hfs : ∀ x, foldedSetIterable iter C.env x = pure x := by intro _; rfl) :
    Ev C Λ G (eval (.ListComp (.BinOp (.Call (.Name "int" p1) [.Name "cell" p2] [] p3) .Mod (.Constant (.int 2147483647) kc p4) p5) [⟨.Name "cell" px, iter, [], 0⟩] scope pos) C.env) (.d (.list ((ms.map fun x => x.fmod 2147483647).map .int))) := by
  have e : (((ms.map PyData.int).map LV.d).filter fun _ => true).map modD = (ms.map fun x => x.fmod 2147483647).map .int := by
    rw [List.filter_eq_self.mpr fun _ _ => rfl, List.map_map, List.map_map, List.map_map]
    exact List.map_congr_left fun c _ => rfl
  rw [← e]
  refine ev_comp (F' := Fd.comp F scope C.env ["cell"] hk (fun x hx => by obtain rfl := List.mem_singleton.mp hx; exact hs) (by decide +kernel) (by decide +kernel)) (compOk_none rfl rfl hf hc hk hl) hi itR_list ?_ (by simpa using hn) hfs
  intro x hx L' held Λ₀ h0
  simp only [List.map_map, List.mem_map] at hx
  obtain ⟨k, hk', rfl⟩ := hx
  obtain ⟨y, rfl⟩ := one_of h0
  refine ⟨_, rfl, as_name (i := 0) rfl, tst_nil, fun _ => ?_⟩
  exact ev_bin (ev_callB (.ty _) (by show (relabel scope C.env).names.lookup _ = _; rw [relabel_plain _ hf]; exact ho) hm hb (evL_cons (ev_name (i := 0) rfl rfl) evL_nil) call_intI) ev_int (bin_mod (by decide) (pylong_small (by decide)))

set_option maxHeartbeats 2000000 in
theorem law_spec (T : Tp B) {ms : List Int} (hms : ms.length ≤ sizeLine) :
    Spec B T.a_law 5 [.d (.list (ms.map .int))] [] fun l G' => l = .b true ∧ G' = [] := by
  refine spec_of T.d_law ⟨_, rfl⟩ (by decide +kernel) rfl fun C hgin hd hu => ?_
  have hgin : C.gin = [] := hgin
  generalize hns : (ms.take 63).map (fun x => x.fmod 2147483647) = ns
  have hnl : ns.length ≤ 63 := by rw [← hns]; simp; omega
  refine ex_cons (ex_assign (i := 1) (P := fun l G' => ∃ wa, l = .r wa ∧ G' = wellG wa ns 0 17) rfl ?_ ?_)
  · refine (evG_own (P := fun ls G' => ls = [.d (.list (ns.map .int)), .i 0, .i 17] ∧ G' = []) (evLG_cons (P₁ := fun l G' => l = .d (.list (ns.map .int)) ∧ G' = []) ?_ ?_) ?_).to ?_
    · rw [← hns]
      refine (ev_cells T.n_int T.m_int (ev_eq (ev_sliceL (ev_name (i := 0) rfl rfl) (a := none) evo_none (show EvO _ _ _ (some _) (some _) from ev_int) (by simpa using hms)) ?_) (by simp; exact szl (by omega))).e
      congr 2
      simp only [Option.elim, List.drop_zero, List.length_map]
      rw [← List.map_take]
      congr 1
      unfold clipAt
      simp only [show ¬ ((63 : Int) < 0) by decide, if_false]
      apply List.ext_getElem?
      intro n
      rw [List.getElem?_take, List.getElem?_take]
      split <;> split <;> first | rfl | (rw [List.getElem?_eq_none (by omega)]) | (symm; rw [List.getElem?_eq_none (by omega)])
    · rintro _ _ ⟨rfl, rfl⟩
      refine evLG_cons ev_int.e ?_
      rintro _ _ ⟨rfl, rfl⟩
      refine evLG_cons ev_int.e ?_
      rintro _ _ ⟨rfl, rfl⟩
      exact evLG_nil ⟨rfl, rfl⟩
    · rintro ls G' ⟨rfl, rfl⟩
      exact Nat.le_of_ble_eq_true rfl
    · rintro _ _ ⟨wa, ls, G₁, rfl, rfl, rfl, rfl⟩
      exact ⟨wa, rfl, rfl⟩
  rintro _ _ ⟨wa, rfl, rfl⟩
  refine ex_cons (ex_assign (i := 2) (P := fun l G' => ∃ pa, l = .r pa ∧ G' = (pa, [.r T.a_numbers_right, .r T.a_escapes_right, .r T.a_literals_right, .r T.a_rows_right]) :: wellG wa ns 0 17) rfl ?_ ?_)
  · refine (evG_own (P := fun ls G' => ls = [.r T.a_numbers_right, .r T.a_escapes_right, .r T.a_literals_right, .r T.a_rows_right] ∧ G' = wellG wa ns 0 17) (evL_cons (ev_global (by rfl) T.g_numbers_right (r_is _ _)) (evL_cons (ev_global (by rfl) T.g_escapes_right (r_is _ _)) (evL_cons (ev_global (by rfl) T.g_literals_right (r_is _ _)) (evL_cons (ev_global (by rfl) T.g_rows_right (r_is _ _)) evL_nil)))) ?_).to ?_
    · rintro ls G' ⟨rfl, rfl⟩
      exact Nat.le_of_ble_eq_true rfl
    · rintro _ _ ⟨pa, ls, G₁, rfl, rfl, rfl, rfl⟩
      exact ⟨pa, rfl, rfl⟩
  rintro _ _ ⟨pa, rfl, rfl⟩
  generalize hpl : ([.r T.a_numbers_right, .r T.a_escapes_right, .r T.a_literals_right, .r T.a_rows_right] : List LV) = pl
  refine ex_cons (ex_assign (i := 3) (P := fun l G' => ∃ (j : Int) (at' : Nat) (st' : Int), l = .i j ∧ 0 ≤ j ∧ j < 4 ∧ G' = (pa, pl) :: wellG wa ns at' st') rfl ?_ ?_)
  · refine (evG_spec T.d_draw T.g_draw (evL_cons (ev_name (i := 1) rfl rfl) (evL_cons ev_int evL_nil)) ((draw_spec T hnl (size := 4) (by decide) (by decide)).frame (pa, pl)) (by omega) (by omega)).to ?_
    rintro _ _ ⟨G', rfl, j, at', st', rfl, j0, j1, rfl⟩
    exact ⟨j, at', st', rfl, j0, j1, rfl⟩
  rintro _ _ ⟨first, at1, st1, rfl, f0, f1, rfl⟩
  refine ex_cons ?_
  refine ex_for (σ := Nat × Int) (P := fun l G' => l = .rg 4 ∧ G' = (pa, pl) :: wellG wa ns at1 st1) (ev_callB (.ty _) (by rfl) T.n_range T.m_range (evL_cons ev_int evL_nil) call_rangeI).e ?_
  rintro _ _ ⟨rfl, rfl⟩
  refine ⟨_, fun _ _ => [none, some (.r wa), some (.r pa), some (.i first), none], fun i _ => [none, some (.r wa), some (.r pa), some (.i first), some (.i (i : Nat))], fun _ x => (pa, pl) :: wellG wa ns x.1 x.2, fun _ _ => True, (at1, st1), itR_range (by decide) (by decide), trivial, subLoc_none (subLoc_some (subLoc_some (subLoc_some (subLoc_none subLoc_nil)))), rfl, ?_, ?_, ?_⟩
  · intro i x l hx hl a o
    rw [range_elt hl]
    exact as_name (i := 4) rfl
  · rintro i ⟨at2, st2⟩ hi _ a o
    show Ex (C.hold a o) [none, some (.r wa), some (.r pa), some (.i first), some (.i (i : Nat))] ((pa, pl) :: wellG wa ns at2 st2) _ _
    have hdd : (C.hold a o).A.depth + 4 < recursionLimit := hd
    have huu : (C.hold a o).A.units + 4 * 4 + 70 < cLine := hu
    refine ex_cons (ex_ifG (P := fun b G' => b = false ∧ ∃ (at' : Nat) (st' : Int), G' = (pa, pl) :: wellG wa ns at' st') (tsG_not (P := fun b G' => b = true ∧ ∃ (at' : Nat) (st' : Int), G' = (pa, pl) :: wellG wa ns at' st') (tsG_val ?_) ?_) ?_ ?_)
    · have hm0 := Int.emod_nonneg (first + i) (b := 4) (by decide)
      have hm1 := Int.emod_lt_of_pos (first + i) (b := 4) (by decide)
      have hfm : (first + (i : Int)).fmod 4 = (first + i) % 4 := Int.fmod_eq_emod_of_nonneg _ (by decide)
      have hgo : ∀ (f : Addr) (F' : Fd) (ps : List Str) (body : List Stmt) (k : Nat), DefAt B f F' ps body → k ≤ 4 → pl[((first + i) % 4).toNat]? = some (.r f) → (∀ {at_ : Nat} {st : Int}, Spec B f k [.r wa] (wellG wa ns at_ st) fun l G' => l = .b true ∧ ∃ (at' : Nat) (st' : Int), G' = wellG wa ns at' st') →
          EvG (C.hold a o) [none, some (.r wa), some (.r pa), some (.i first), some (.i (i : Nat))] ((pa, pl) :: wellG wa ns at2 st2) (eval (callE (b_law.getD 3 (.Pass ⟨0, 0, 0, 0⟩))) (C.hold a o).env) fun l G' => ∃ b, l = .b b ∧ b = true ∧ ∃ (at' : Nat) (st' : Int), G' = (pa, pl) :: wellG wa ns at' st' := fun f F' ps body k D hk hget hS => by
        refine evG_callv (f := f) (k := k) (Pa := fun _ _ => True) (Pf := fun l G' => l = .r f ∧ G' = (pa, pl) :: wellG wa ns at2 st2) rfl (ev_sub (ev_name (i := 2) rfl rfl) (ev_eq (ev_bin (ev_bin (ev_name (i := 3) rfl rfl) (ev_name (i := 4) rfl rfl) bin_add) ev_int (bin_mod (by decide) (pylong_small (by decide)))) (by rw [hfm])) (sub_own (.head _) hm0 hget (by omega))).e ?_
        rintro _ _ ⟨rfl, rfl⟩
        refine ⟨F', f, k, ps, body, ⟨D⟩, rfl, by omega, by omega, ?_⟩
        intro K s g pos Q E q
        refine (evL_cons (ev_name (i := 1) rfl rfl) evL_nil : EvL (C.hold a o) [none, some (.r wa), some (.r pa), some (.i first), some (.i (i : Nat))] ((pa, pl) :: wellG wa ns at2 st2) _ [.r wa]) K s g pos Q E fun K' vs s' ls' G' k' p g' i' => ?_
        obtain ⟨rfl, rfl⟩ := p
        refine q K' vs s' _ _ k' ?_ g' i'
        intro A K₁ s₁ vs₁ hh₁ hd₁ hu₁ g₁ hv₁ R q₁
        refine (hS.frame (pa, pl)) A K₁ s₁ vs₁ hh₁ hd₁ hu₁ g₁ hv₁ R fun K₂ v s₂ l G₂ k₂ g₂ hnew hold hG ⟨G', e1, e2, at', st', e3⟩ hl => q₁ K₂ v s₂ l G₂ k₂ g₂ hnew hold hG ⟨true, e2, rfl, at', st', by rw [e1, e3]⟩ hl
      have hcase : ((first + i) % 4).toNat = 0 ∨ ((first + i) % 4).toNat = 1 ∨ ((first + i) % 4).toNat = 2 ∨ ((first + i) % 4).toNat = 3 := by omega
      rcases hcase with h | h | h | h
      · exact hgo _ _ _ _ 3 T.d_numbers_right (by decide) (by rw [h, ← hpl]; rfl) (numbers_right_spec T hnl)
      · exact hgo _ _ _ _ 3 T.d_escapes_right (by decide) (by rw [h, ← hpl]; rfl) (escapes_right_spec T hnl)
      · exact hgo _ _ _ _ 4 T.d_literals_right (by decide) (by rw [h, ← hpl]; rfl) (literals_right_spec T hnl)
      · exact hgo _ _ _ _ 3 T.d_rows_right (by decide) (by rw [h, ← hpl]; rfl) (rows_right_spec T hnl)
    · rintro b G' ⟨rfl, h⟩
      exact ⟨rfl, h⟩
    · rintro G' ⟨h, _⟩
      cases h
    · rintro _ ⟨_, at', st', rfl⟩
      exact ex_nil (ex_nil ⟨(at', st'), trivial, subLoc_none (subLoc_some (subLoc_some (subLoc_some (subLoc_none subLoc_nil)))), rfl⟩)
  · rintro ⟨at2, st2⟩ _
    exact ex_cons (ex_returnA ev_bool hgin ⟨_, _, rfl, fun g' hg => (nomatch hg), rfl, rfl⟩)
end

end Mine
end
section
open PySem PySem.Calls PyProof.Rows PySem.W PySem.Builtin PySem.Builtin.Str
set_option maxRecDepth 4000
namespace Mine
section
variable {prog : Program} {w : World} {A : Around} {E : Value → Shared → Prop} {s : Shared}
/-- the end of a text's iterator, told to the object -/
theorem ascii_end {it : Addr} {x : Str} {t : Tok} {i : Nat} {Q : Option Value → Shared → Prop} (hh : A.handled = none)
    (hit : s.heap.IsStrIter it "str_ascii_iterator" x t i) (hx : x.cps[i]? = none)
    (hQ : ∀ h' o1 o2, Heap.SameBut it s.heap h' → (∃ o, h'.get? it = some o) → h'.life = s.heap.life → o1.isFreed = false → o2.isFreed = false → Q none { s with heap := (h'.push o1).push o2 }) : wpAny (model prog w) A (pyNext (.ref it)) Q E s := by
  obtain ⟨o, ho, hc, hd⟩ := id hit
  unfold pyNext
  refine wpAny_bind (wpAny_attempt (wpAny_callSpecial?_slot (name := Str.ofString "__next__") hit.typeIs _root_.PySem.F.slot_str_ascii_iterator_next
    (wpAny_call_entry _root_.PySem.F.slot_str_ascii_iterator_next hit.typeIs _root_.PySem.F.entry_str_ascii_iterator_next ?_ (_root_.PySem.F.args_str_ascii_iterator_next_1 _))))
  show wpAny _ _ (field (.ref it) 0 >>= _) _ _ s
  refine wpAny_bind (wpAny_field ho hd (x := .str x t) rfl ?_)
  show wpAny _ _ (field (.ref it) 1 >>= _) _ _ s
  refine wpAny_bind (wpAny_field ho hd (x := .int i 0) rfl ?_)
  simp only [Int.toNat_natCast, hx]
  refine wpAny_bind (wpAny_rule (wpAny_bind (wpAny_setField ho hd (by simp) (wpAny_bind (wpAny_letGo ?_)))))
  show wpAny _ _ (newExc (.type "StopIteration") [] >>= _) _ _ _
  refine wpAny_bind ?_
  simp only [newExc, newTuple]
  refine wpAny_bind (wpAny_newObj_type ?_ (by size_fits))
  refine wpAny_bind (m := firstArgMember _ _) (wpAny_of_eq (a := Value.none) (by first | rfl | (simp only [firstArgMember]; rfl)) ?_)
  refine wpAny_newObj_type ?_ (by size_fits)
  simp only [raiseNew]
  refine wpAny_bind (wpAny_handled ?_)
  rw [show A.in1.handled = none from hh]
  refine wpAny_bind (wpAny_pure (wpAny_throw ?_))
  refine wpAny_bind (wpAny_isInstance (T := "StopIteration") (b := true) ⟨_, Heap.get?_push_size _ rfl, rfl⟩ isSubtype_stop ?_)
  refine wpAny_pure (hQ _ _ _ (Heap.SameBut.update ..) ⟨_, Heap.get?_update_self _ ho (Obj.isFreed_of_fields (Obj.data_mapFields hd _))⟩ ?_ rfl rfl)
  rfl

theorem setOf_eq {a : Addr} {S S' : Str → Bool} {n n' : Nat} {h : Heap} (x : h.SetOf (PySem.strKind prog w) a S n) (e : S = S') (en : n = n') : h.SetOf (PySem.strKind prog w) a S' n' := by subst e; subst en; exact x
theorem setOf_same {a : Addr} {S : Str → Bool} {n : Nat} {h h' : Heap} (x : h.SetOf (PySem.strKind prog w) a S n) (e : h'.get? a = h.get? a) : h'.SetOf (PySem.strKind prog w) a S n := by
  obtain ⟨o, es, ep, t, ho, r⟩ := x
  exact ⟨o, es, ep, t, e.trans ho, r⟩
/-- the signs of a text, put into a set one after another -/
theorem text_loop {R : Result → Shared → Prop} {a it : Addr} {l : List Nat} {t : Tok} (hh : A.handled = none) (hne : a ≠ it) (hnd : l.Nodup) (hsz : l.length + 1 < scanBound) :
    ∀ (k i : Nat) (s : Shared), l.length - i = k → i ≤ l.length → s.heap.IsStrIter it "str_ascii_iterator" (tx l) t i → s.heap.SetOf (PySem.strKind prog w) a (fun k' => (l.take i).any fun c => k' == tx [c]) i →
      (∀ (h' : Heap) (o1 o2 : Obj), h'.objs.size = s.heap.objs.size → (∀ b, b ≠ a → b ≠ it → h'.get? b = s.heap.get? b) → (∃ o, h'.get? it = some o) → h'.SetOf (PySem.strKind prog w) a (fun k' => l.any fun c => k' == tx [c]) l.length → o1.isFreed = false → o2.isFreed = false →
        R (.ok (.ret .none)) { s with heap := (h'.push o1).push o2, toks := s.toks + 2 * (l.length - i) }) →
      codeAny (model prog w) A (.builtin "set.update.loop" ⟨[.ref a, .ref it], []⟩) R s := by
  intro k
  induction k with
  | zero =>
    intro i s hk hi hst hS hR
    have hin : i = l.length := by omega
    subst hin
    refine codeAny_builtin _root_.PyProof.Rows.F.entry_set_update_loop ?_
    rw [Around.under_plainId _root_.PyProof.Rows.F.plain_set_update_loop _]
    show wpAny _ A.in1 (pyNext (.ref it) >>= _) _ _ s
    refine wpAny_bind (ascii_end (A := A.in1) hh hst (by simp [tx]) fun h' o1 o2 hs hit _ f1 f2 => ?_)
    show wpAny _ A.in1 (ret Value.none) _ _ _
    have := hR h' o1 o2 hs.1 (fun b hb1 hb2 => hs.2 b hb2) hit (setOf_same (setOf_eq hS (by rw [List.take_length]) rfl) (hs.2 a hne)) f1 f2
    rw [Nat.sub_self, Nat.mul_zero, Nat.add_zero] at this
    exact wpAny_pure this
  | succ k ih =>
    intro i s hk hi hst hS hR
    have hlt : i < l.length := by omega
    refine codeAny_builtin _root_.PyProof.Rows.F.entry_set_update_loop ?_
    rw [Around.under_plainId _root_.PyProof.Rows.F.plain_set_update_loop _]
    show wpAny _ A.in1 (pyNext (.ref it) >>= _) _ _ s
    refine wpAny_bind (wpAny_pyNext_ascii_item hst (c := l[i]) (by simp [tx, hlt]) fun h₁ hit₁ hs₁ => ?_)
    show wpAny _ A.in1 (holding [Value.str (tx [l[i]]) s.toks] (setAdd a (.str (tx [l[i]]) s.toks)) >>= _) _ _ _
    refine wpAny_bind (wpAny_holding ?_)
    unfold setAdd
    refine wpAny_holding ?_
    refine wpAny_bind ((PySem.strKind prog w).pyHash (k := tx [l[i]]) (strKind_is _ _ _ _) ?_)
    have hS₁ : h₁.SetOf (PySem.strKind prog w) a (fun k' => (l.take i).any fun c => k' == tx [c]) i := setOf_same hS (hs₁.2 a hne)
    have hnew : ((l.take i).any fun c => tx [l[i]] == tx [c]) = false := by
      rw [List.any_eq_false]
      intro c hc hcc
      have e : l[i] = c := by
        have := tx_inj.mp (beq_iff_eq.mp hcc)
        simpa using this
      obtain ⟨j, hj, hj2⟩ := List.getElem_of_mem hc
      rw [List.length_take] at hj
      rw [List.getElem_take] at hj2
      have := (List.getElem_inj hnd).mp (hj2.trans e.symm)
      omega
    refine wpAny_setAddHashed_of (knd := PySem.strKind prog w) (s := { s with heap := h₁, toks := s.toks + 1 + 1 }) (strKind_is _ _ _ _) rfl hS₁ (by omega) fun h₂ hsb hS₂ => ?_
    have htk : l.take (i + 1) = l.take i ++ [l[i]] := by rw [List.take_add_one, List.getElem?_eq_getElem hlt]; rfl
    have hSi : h₂.SetOf (PySem.strKind prog w) a (fun k' => (l.take (i + 1)).any fun c => k' == tx [c]) (i + 1) := by
      refine setOf_eq hS₂ (funext fun k' => ?_) (by rw [hnew]; rfl)
      rw [htk, List.any_append, List.any_cons, List.any_nil, Bool.or_false]
      congr 1
    have hit₂ : h₂.IsStrIter it "str_ascii_iterator" (tx l) t (i + 1) := by
      obtain ⟨o, ho, r⟩ := hit₁
      exact ⟨o, (hsb.2 it (Ne.symm hne)).trans ho, r⟩
    refine wpAny_pure ⟨plainId_quiet _root_.PyProof.Rows.F.plain_set_update_loop _, ih (i + 1) _ (by omega) hlt hit₂ hSi fun h' o1 o2 z1 z2 z3 z4 z5 z6 => ?_⟩
    have := hR h' o1 o2 (z1.trans (hsb.1.trans hs₁.1)) (fun b hb1 hb2 => (z2 b hb1 hb2).trans ((hsb.2 b hb1).trans (hs₁.2 b hb2))) z3 z4 z5 z6
    have e : s.toks + 1 + 1 + 2 * (l.length - (i + 1)) = s.toks + 2 * (l.length - i) := by omega
    rw [← e] at this
    exact this
end

end Mine
end
section
open PySem PySem.Calls PyProof.Rows PySem.W PySem.Builtin PySem.Builtin.Str
set_option maxRecDepth 4000
namespace Mine
section
variable {M : Model}
theorem runN_add {n m : Nat} : ∀ {s : Shared} {th : Thread} {s' : Shared} {th' : Thread}, M.runN n s th = .running s' th' → M.runN (n + m) s th = M.runN m s' th' := by
  induction n with
  | zero =>
    intro s th s' th' h
    have h' : Run.running s th = .running s' th' := h
    injection h' with h1 h2
    subst h1 h2
    rw [Nat.zero_add]
  | succ n ih =>
    intro s th s' th' h
    rw [runN_succ] at h
    rw [show n + 1 + m = n + m + 1 by omega, runN_succ]
    cases hs : M.step s th with
    | go s₁ t₁ => simp only [hs] at h ⊢; exact ih h
    | halt o s₁ => simp only [hs] at h; cases h
/-- it comes to this -/
def Leads (M : Model) (s : Shared) (th : Thread) (P : Shared → Thread → Prop) : Prop := ∃ n s' th', M.runN n s th = .running s' th' ∧ P s' th'
theorem Leads.here {s : Shared} {th : Thread} {P : Shared → Thread → Prop} (h : P s th) : Leads M s th P := ⟨0, s, th, rfl, h⟩
theorem Leads.next {n : Nat} {s s' : Shared} {th th' : Thread} {P : Shared → Thread → Prop} (h : M.runN n s th = .running s' th') (k : Leads M s' th' P) : Leads M s th P := by
  obtain ⟨m, s₂, th₂, e, p⟩ := k
  exact ⟨n + m, s₂, th₂, (runN_add h).trans e, p⟩
theorem Leads.then {s : Shared} {th : Thread} {P P' : Shared → Thread → Prop} (h : Leads M s th P) (k : ∀ s' th', P s' th' → Leads M s' th' P') : Leads M s th P' := by
  obtain ⟨n, s', th', e, p⟩ := h
  exact Leads.next e (k s' th' p)
theorem code_leads {A : Around} {c : Code} {R : Result → Shared → Prop} {s : Shared} {K : List Frame} {p : Pos} (h : codeAny M A c R s) (hb : (Ctx.of c K).Below A) : Leads M s ⟨M.den c, c, p, K⟩ fun s' th' => ∃ r c' p', th' = ⟨leafOf r, c', p', K⟩ ∧ R r s' := by
  obtain ⟨r, s', hr, hR⟩ := h (Ctx.of c K) p rfl hb
  obtain ⟨n, t', c', p', pre', e, rfl, rfl⟩ := (runs_reach hr K (Ctx.fits_of c K)).runN
  exact ⟨n, s', _, e, r, c', p', rfl, hR⟩
theorem runNI_K {den : Code → Sem Fin} {prog : Program} {w : World} : ∀ {n : Nat} {s s' : Shared} {t t' : Thread}, runNI den prog w n s t = .running s' t' → runNK den prog w n s t = .running s' t'
  | 0, _, _, _, _, h => h
  | n + 1, s, s', t, t', h => by
    simp only [runNI] at h
    cases hl : t.loud with
    | true => rw [stepI_loud den prog w hl] at h; cases h
    | false =>
      rw [stepI_quiet den prog w hl] at h
      simp only [runNK]
      cases hs : stepK den prog w s t with
      | go s₁ t₁ => rw [hs] at h; exact runNI_K h
      | halt o s₁ => rw [hs] at h; cases h
/-- the top's run, as the scheduler sees it -/
theorem top_sched {prog : Program} {w : World} {s s₁ : Shared} {t : Sem Fin} {c : Code} {p : Pos} (hr : s.asleep) (h : Leads (model prog w) s ⟨t, c, p, []⟩ fun s₂ th₂ => (∃ v c' p', th₂ = ⟨leafOf (.ok (.ret v)), c', p', []⟩) ∧ leftWithCleanup s₂.gens = false ∧ s₂ = s₁) :
    ∃ n s₂ t₂, schedN (denote table) prog w n (.single s ⟨t, c, p, []⟩) = .running (.single s₂ t₂) ∧ through t₂ = true ∧ s₂.forget = s₁.forget := by
  obtain ⟨n, s', th', e, ⟨v, c', p', rfl⟩, hl, rfl⟩ := h
  have hh : (model prog w).runN (n + 1) s ⟨t, c, p, []⟩ = .halted (outcomeOf (.ok (.ret v))) s' := by
    rw [runN_snoc e, step_leaf_nil]
    simp only [finish, hl, Bool.false_eq_true, if_false]
  have hh' : runNI (denote table) prog w (n + 1) s ⟨t, c, p, []⟩ = .halted (outcomeOf (.ok (.ret v))) s' := hh
  obtain ⟨s'', hn, hf, hc⟩ := runNI_real (denote table) prog w hh' (outcomeOf_ends _)
  have hne : ∀ k s₂, runN (denote table) prog w k s ⟨t, c, p, []⟩ ≠ .halted (.unsupported "lifetime:generator-with-cleanup-left-suspended") s₂ := by
    intro k s₂ hk
    have a := runN_mono (denote table) prog w (n + 1) k s ⟨t, c, p, []⟩ _ s'' hn
    have b := runN_mono (denote table) prog w k (n + 1) s ⟨t, c, p, []⟩ _ s₂ hk
    rw [Nat.add_comm, b] at a
    injection a with a1 _
    cases a1
  have hs := schedN_eq_runN (denote table) prog w s ⟨t, c, p, []⟩ hr ⟨hc, hne⟩ n
  have hK := runNI_K (den := denote table) (prog := prog) (w := w) e
  have hsame := runNK_same (denote table) prog w n (s₁ := s) (s₂ := s) (t₁ := ⟨t, c, p, []⟩) (t₂ := ⟨t, c, p, []⟩) rfl rfl
  rw [hK] at hsame
  cases hrun : runN (denote table) prog w n s ⟨t, c, p, []⟩ with
  | halted o s₂ => rw [hrun] at hsame; cases hsame
  | running s₂ t₂ =>
    rw [hrun] at hsame hs
    have hsame' : Run.running s'.forget (Thread.forget ⟨leafOf (.ok (.ret v)), c', p', []⟩) = Run.running s₂.forget t₂.forget := hsame
    injection hsame' with e1 e2
    refine ⟨n, s₂, t₂, hs, ?_, e1.symm⟩
    obtain ⟨cur, c2, p2, st⟩ := t₂
    injection e2 with f1 _ _ f4
    have f1 : leafOf (.ok (.ret v)) = cur := f1
    have f4 : [] = forgetAll st := f4
    subst f1
    cases st with
    | nil => rfl
    | cons F fs => rw [forgetAll_cons] at f4; cases f4
theorem runNI_life {n : Nat} : ∀ {s : Shared} {th : Thread} {s' : Shared} {th' : Thread}, M.runN n s th = .running s' th' → s'.heap.life = s.heap.life := by
  induction n with
  | zero =>
    intro s th s' th' h
    have h' : Run.running s th = .running s' th' := h
    injection h' with h1 h2
    subst h1; rfl
  | succ n ih =>
    intro s th s' th' h
    rw [runN_succ] at h
    cases hs : M.step s th with
    | go s₁ t₁ =>
      simp only [hs] at h
      refine (ih h).trans ?_
      have hl : th.loud = false := by
        cases hl : th.loud with
        | false => rfl
        | true => rw [M.step_loud hl] at hs; cases hs
      rw [M.step_quiet hl] at hs
      have e := stepK_forget M.den M.prog M.w s th
      rw [hs] at e
      cases hr : step M.den M.prog M.w s th with
      | halt o s₂ => rw [hr] at e; cases e
      | go s₂ t₂ =>
        rw [hr] at e
        have e' : Step.go s₁.forget t₁.forget = Step.go s₂.forget t₂.forget := e
        injection e' with e1 _
        obtain ⟨eh, _⟩ := Shared.forget_eq e1
        rw [eh]
        exact step_life _ _ _ _ _ _ _ hr
    | halt o s₁ => simp only [hs] at h; cases h
end

end Mine
end
section
open PySem PySem.Calls PyProof.Rows PySem.W PySem.Builtin PySem.Builtin.Str
set_option maxRecDepth 4000
namespace Mine
theorem get_objs {h : Heap} {b : Addr} {o : Obj} (e : h.get? b = some o) : h.objs[b]? = some o := (Heap.get?_some_iff.mp e).1
theorem heap_exact {h h' : Heap} {a it : Nat} {O I : Obj} (hsz : h'.objs.size = h.objs.size) (hother : ∀ b, b ≠ a → b ≠ it → h'.get? b = h.get? b) (hO : h'.get? a = some O) (hI : h'.get? it = some I) (hlive : ∀ b, b < h.objs.size → ∃ o, h.get? b = some o) (hlife : h'.life = h.life) :
    h' = ⟨(h.objs.setIfInBounds a O).setIfInBounds it I, h.life⟩ := by
  obtain ⟨objs', life'⟩ := h'
  have hlife : life' = h.life := hlife
  subst hlife
  congr 1
  apply Array.ext_getElem?
  intro b
  rw [Array.getElem?_setIfInBounds, Array.getElem?_setIfInBounds]
  have gI : objs'[it]? = some I := get_objs hI
  have gO : objs'[a]? = some O := get_objs hO
  have hsz : objs'.size = h.objs.size := hsz
  by_cases h1 : it = b
  · subst h1
    have : it < objs'.size := (Array.getElem?_eq_some_iff.mp gI).1
    rw [if_pos rfl, if_pos (by rw [Array.size_setIfInBounds]; omega)]
    exact gI
  · rw [if_neg h1]
    by_cases h2 : a = b
    · subst h2
      have : a < objs'.size := (Array.getElem?_eq_some_iff.mp gO).1
      rw [if_pos rfl, if_pos (by omega)]
      exact gO
    · rw [if_neg h2]
      by_cases h3 : b < h.objs.size
      · obtain ⟨o, e⟩ := hlive b h3
        rw [get_objs e]
        exact get_objs ((hother b (Ne.symm h2) (Ne.symm h1)).trans e)
      · rw [Array.getElem?_eq_none (by omega), Array.getElem?_eq_none (by omega)]
theorem live_of {h : Heap} (e : h.objs.toList.all (fun o => !o.isFreed) = true) : ∀ b, b < h.objs.size → ∃ o, h.get? b = some o := fun b hb => by
  refine ⟨h.objs[b], ?_⟩
  have hf : (h.objs[b]).isFreed = false := by
    have := List.all_eq_true.mp e h.objs[b] (Array.mem_toList_iff.mpr (Array.getElem_mem hb))
    simpa using this
  exact Heap.get?_some_iff.mpr ⟨Array.getElem?_eq_getElem hb, hf⟩
/-- an object that is a set of these, wherever it stands -/
def SObj (w : World) (O : Obj) (S : Str → Bool) (n : Nat) : Prop := ∀ (h : Heap) (b : Addr), h.get? b = some O → h.SetOf (PySem.strKind PySem.Challenge.pw_nm0005_01 w) b S n
theorem sObj_of {w : World} {h : Heap} {a : Addr} {S : Str → Bool} {n : Nat} (x : h.SetOf (PySem.strKind PySem.Challenge.pw_nm0005_01 w) a S n) : ∃ O, h.get? a = some O ∧ SObj w O S n := by
  obtain ⟨o, es, ep, t, ho, r⟩ := x
  exact ⟨o, ho, fun h' b e => ⟨o, es, ep, t, e, r⟩⟩

end Mine
end
section
open PySem PySem.Calls PyProof.Rows PySem.W PySem.Builtin PySem.Builtin.Str
set_option maxRecDepth 4000
namespace Mine
abbrev PP : Program := PySem.Challenge.pw_nm0005_01
noncomputable def tmm (w : World) : Model := { den := denote treeTable, prog := PP, w := w }
theorem tmm_eq (w : World) : tmm w = model PP w := by unfold tmm model; rw [table_eq_tree]
noncomputable def S0 (w : World) (os : OsState) : Shared := ⟨boot_heap w.params, Array.mk [], boot_drawn, boot_toks, os⟩
def rS : Run → Shared
  | .running s _ => s
  | .halted _ s => s
def rT : Run → Thread
  | .running _ t => t
  | .halted _ _ => ⟨.pure (.done .next), .builtin "" {}, default, []⟩
def isRun : Run → Bool
  | .running _ _ => true
  | _ => false
theorem run_eq {r : Run} (h : isRun r = true) : r = .running (rS r) (rT r) := by cases r with | running s t => rfl | halted o s => cases h
abbrev sgr (w : World) (b : Bool) : World := w.withFollow "special-get-raises" b
def after (s : Shared) (a it : Nat) (O I X Y : Obj) (tk : Nat) : Shared := { s with heap := ⟨(((s.heap.objs.setIfInBounds a O).setIfInBounds it I).push X).push Y, s.heap.life⟩, toks := tk }
def leafNone : Sem Fin := leafOf (.ok (.ret .none))
abbrev loopC (a it : Nat) : Code := .builtin "set.update.loop" ⟨[.ref a, .ref it], []⟩
def obs (r : Run) (a it : Nat) (ops : List Nat) := (isRun r, (rT r).cur, (rT r).code, (rS r).toks, (rS r).heap.objs.size, (rS r).heap.get? a, (rS r).heap.get? it, (rS r).heap.objs.toList.zipIdx.all (fun o => ops.contains o.2 || !o.1.isFreed), ops.map (fun i => (rS r).heap.objs[i]?), (rS r).gens, (rS r).os, (Ctx.of (rT r).code (rT r).stack).handled)
def good (w : World) (os : OsState) (a it tk sz : Nat) (x : Str) (u : Tok) (os₁ : List Obj) : Bool × Sem Fin × Code × Nat × Nat × Option Obj × Option Obj × Bool × List (Option Obj) × Array GenState × OsState × Option Value :=
  (true, (denote treeTable) (loopC a it), loopC a it, tk, sz, some { cls := .type "set", dict := none, data := .set #[] 0 (.fresh 0 0 (!w.params.followText "set-order")) }, some { cls := .type "str_ascii_iterator", data := .fields #[.str x u, .int 0 0] }, true, os₁.map some, Array.mk [], os, none)
noncomputable def RA (w : World) (os : OsState) : Run := (tmm w).runN 49 (S0 w os) (topStub PP)
noncomputable def SB (w : World) (os : OsState) (O I X Y : Obj) : Shared := after (rS (RA w os)) 15 16 O I X Y 210
noncomputable def RB (w : World) (os : OsState) (O I X Y : Obj) (c : Code) (p : Pos) : Run := (tmm w).runN 39 (SB w os O I X Y) ⟨leafNone, c, p, (rT (RA w os)).stack⟩
theorem live_ops {h : Heap} {ops : List Nat} {os₁ : List Obj} (e : h.objs.toList.zipIdx.all (fun o => ops.contains o.2 || !o.1.isFreed) = true) (e8 : ops.map (fun i => h.objs[i]?) = os₁.map some) (hos : ∀ o ∈ os₁, o.isFreed = false) : ∀ b, b < h.objs.size → ∃ o, h.get? b = some o := fun b hb => by
  by_cases hm : b ∈ ops
  · have : h.objs[b]? ∈ os₁.map some := by rw [← e8]; exact List.mem_map.mpr ⟨b, hm, rfl⟩
    obtain ⟨o, ho, e⟩ := List.mem_map.mp this
    exact ⟨o, Heap.get?_some_iff.mpr ⟨e.symm, hos o ho⟩⟩
  · have h1 := List.all_eq_true.mp e (h.objs[b], b) (by rw [List.mem_zipIdx_iff_getElem?]; simp [hb])
    have h2 : ops.contains b = false := by
      apply eq_false_of_ne_true
      intro hc; exact hm (List.contains_iff_mem.mp hc)
    simp only at h1
    rw [h2, Bool.false_or] at h1
    exact ⟨_, Heap.get?_some_iff.mpr ⟨Array.getElem?_eq_getElem hb, by simpa using h1⟩⟩
def aroundOf (c : Code) (K : List Frame) : Around := { handled := (Ctx.of c K).handled, depth := frameCount (Ctx.of c K).below, frames := none, guards := none, units := unitsOf (Ctx.of c K).below }
theorem aroundOf_below (c : Code) (K : List Frame) : (Ctx.of c K).Below (aroundOf c K) := ⟨rfl, Nat.le_refl _, fun _ h => (nomatch h), fun _ h => (nomatch h), Nat.le_refl _⟩
theorem den_eq (w : World) : (model PP w).den = denote treeTable := by
  have h : (model PP w).den = denote table := rfl
  rw [h, table_eq_tree]
theorem room_51 : 50 + 1 < scanBound := by decide +kernel
theorem loop_stage {w : World} {os : OsState} {r : Run} {a it tk sz : Nat} {l : List Nat} {x : Str} {u : Tok} {ops : List Nat} {os₁ : List Obj} (h : obs r a it ops = good w os a it tk sz x u os₁) (hos : ∀ o ∈ os₁, o.isFreed = false) (hx : x = tx l) (hne : a ≠ it) (hnd : l.Nodup) (hl : l.length ≤ 50) :
    Leads (model PP w) (rS r) (rT r) fun s' th' => ∃ O I X Y c' p', s' = after (rS r) a it O I X Y (tk + 2 * l.length) ∧ th' = ⟨leafNone, c', p', (rT r).stack⟩ ∧ SObj w O (fun k' => l.any fun c => k' == tx [c]) l.length ∧ O.isFreed = false ∧ I.isFreed = false ∧ X.isFreed = false ∧ Y.isFreed = false := by
  subst hx
  have e1 : (rT r).cur = denote treeTable (loopC a it) := congrArg (fun z => z.2.1) h
  have e2 : (rT r).code = loopC a it := congrArg (fun z => z.2.2.1) h
  have e3 : (rS r).toks = tk := congrArg (fun z => z.2.2.2.1) h
  have e5 : (rS r).heap.get? a = some { cls := .type "set", dict := none, data := .set #[] 0 (.fresh 0 0 (!w.params.followText "set-order")) } := congrArg (fun z => z.2.2.2.2.2.1) h
  have e6 : (rS r).heap.get? it = some { cls := .type "str_ascii_iterator", data := .fields #[.str (tx l) u, .int 0 0] } := congrArg (fun z => z.2.2.2.2.2.2.1) h
  have e7 : (rS r).heap.objs.toList.zipIdx.all (fun o => ops.contains o.2 || !o.1.isFreed) = true := congrArg (fun z => z.2.2.2.2.2.2.2.1) h
  have e8 : ops.map (fun i => (rS r).heap.objs[i]?) = os₁.map some := congrArg (fun z => z.2.2.2.2.2.2.2.2.1) h
  have e10 : (Ctx.of (rT r).code (rT r).stack).handled = none := congrArg (fun z => z.2.2.2.2.2.2.2.2.2.2.2) h
  generalize rS r = s at *
  generalize rT r = th at *
  obtain ⟨cur, code, pos, K⟩ := th
  simp only at e1 e2 e10 ⊢
  subst e1 e2
  have hc : codeAny (model PP w) (aroundOf (loopC a it) K) (loopC a it) (fun r' s' => r' = .ok (.ret .none) ∧ ∃ (h' : Heap) (o1 o2 : Obj), h'.objs.size = s.heap.objs.size ∧ (∀ b, b ≠ a → b ≠ it → h'.get? b = s.heap.get? b) ∧ (∃ o, h'.get? it = some o) ∧ h'.SetOf (PySem.strKind PP w) a (fun k' => l.any fun c => k' == tx [c]) l.length ∧ o1.isFreed = false ∧ o2.isFreed = false ∧
      s' = { s with heap := (h'.push o1).push o2, toks := s.toks + 2 * (l.length - 0) }) s :=
    text_loop (A := aroundOf (loopC a it) K) e10 hne hnd (Nat.lt_of_le_of_lt (Nat.succ_le_succ hl) room_51) l.length 0 s rfl (Nat.zero_le _) ⟨_, e6, rfl, rfl⟩
      ⟨_, #[], 0, _, e5, ⟨rfl, rfl, rfl⟩, rfl, fun e he => by simp at he, fun k => by simp, by decide, by rfl, rfl⟩
      fun h' o1 o2 z1 z2 z3 z4 z5 z6 => ⟨rfl, h', o1, o2, z1, z2, z3, z4, z5, z6, rfl⟩
  rw [← den_eq w]
  obtain ⟨n, s', th', hrun, r', c', p', rfl, rfl, h', o1, o2, z1, z2, ⟨I, z3⟩, z4, z5, z6, rfl⟩ := code_leads (K := K) (p := pos) hc (aroundOf_below _ _)
  obtain ⟨O, hO, hS⟩ := sObj_of z4
  have hlife := runNI_life hrun
  have hlife' : h'.life = s.heap.life := hlife
  have hex := heap_exact z1 z2 hO z3 (live_ops e7 e8 hos) hlife'
  refine ⟨n, _, _, hrun, O, I, o1, o2, c', p', ?_, rfl, hS, ?_, ?_, z5, z6⟩
  · rw [hex, ← e3]; rfl
  · exact (Heap.get?_some_iff.mp hO).2
  · exact (Heap.get?_some_iff.mp z3).2

end Mine
end
section
open PySem PySem.Calls PyProof.Rows PySem.W PySem.Builtin PySem.Builtin.Str
set_option maxRecDepth 4000
namespace Mine
set_option maxRecDepth 100000
noncomputable def SC (w : World) (os : OsState) (O I X Y : Obj) (c : Code) (p : Pos) (O2 I2 X2 Y2 : Obj) : Shared := after (rS (RB w os O I X Y c p)) 19 20 O2 I2 X2 Y2 256
noncomputable def RC (w : World) (os : OsState) (O I X Y : Obj) (c : Code) (p : Pos) (O2 I2 X2 Y2 : Obj) (c2 : Code) (p2 : Pos) : Run := (tmm w).runN 39 (SC w os O I X Y c p O2 I2 X2 Y2) ⟨leafNone, c2, p2, (rT (RB w os O I X Y c p)).stack⟩

end Mine
end
section
open PySem PySem.Calls PyProof.Rows PySem.W PySem.Builtin PySem.Builtin.Str
set_option maxRecDepth 4000
namespace Mine
set_option maxRecDepth 100000
noncomputable def SD (w : World) (os : OsState) (O I X Y : Obj) (c : Code) (p : Pos) (O2 I2 X2 Y2 : Obj) (c2 : Code) (p2 : Pos) (O3 I3 X3 Y3 : Obj) : Shared := after (rS (RC w os O I X Y c p O2 I2 X2 Y2 c2 p2)) 23 24 O3 I3 X3 Y3 274
noncomputable def RD (w : World) (os : OsState) (O I X Y : Obj) (c : Code) (p : Pos) (O2 I2 X2 Y2 : Obj) (c2 : Code) (p2 : Pos) (O3 I3 X3 Y3 : Obj) (c3 : Code) (p3 : Pos) : Run := (tmm w).runN 156 (SD w os O I X Y c p O2 I2 X2 Y2 c2 p2 O3 I3 X3 Y3) ⟨leafNone, c3, p3, (rT (RC w os O I X Y c p O2 I2 X2 Y2 c2 p2)).stack⟩
def bodyEnv : Code → Env
  | .body _ e => e
  | _ => default
def isBody : Code → Bool
  | .body _ _ => true
  | _ => false
/-- the rest of the top, from a statement on -/
def rest (stmts : List Stmt) (env : Env) : Sem Fin := ((execs stmts env).onRaise (leaving env)).bind fun f => .pure (.done f)
def topFrame (K : List Frame) : Frame := K.headD (.gen 0 (fun _ => .pure (.done .next)) [] (.builtin "" {}) default)
def frameRet : Frame → Bool
  | .ret .. => true
  | _ => false

end Mine
end
section
open PySem PySem.Calls PyProof.Rows PySem.W PySem.Builtin PySem.Builtin.Str
set_option maxRecDepth 4000
namespace Mine
set_option maxHeartbeats 4000000
set_option maxRecDepth 100000
/-- a tree that begins with a piece whose effect is known -/
theorem piece_leads' {M : Model} {α : Type} {A : Around} {T : Sem Fin} {t : Sem α} {k5 : α → Sem Fin} {Q : α → Shared → Prop} {s : Shared} {c : Code} {p : Pos} {k : Result → Sem Fin} {h : Option Value} {g : Bool} {l : List Value} {c₁ : Code} {p₁ : Pos} {kp : List Value} {P : Result → Shared → Prop}
    (hT : ∀ (Γ : Ctx) (Post : Fin → Pos → Shared → Prop) (Exc : Value → Pos → Shared → Prop) (p : Pos) (s : Shared), Sem.wp M Γ t (fun v p' s' => Sem.wp M Γ (k5 v) Post Exc p' s') (fun _ _ _ => False) p s → Sem.wp M Γ T Post Exc p s)
    (hin : ((Ctx.of c []).over [.ret k h g l c₁ p₁ kp]).In A) (hw : wpAny M A t Q (fun _ _ => False) s)
    (hrest : ∀ v s' p', Q v s' → Leads M s' ⟨k5 v, c, p', [.ret k h g l c₁ p₁ kp]⟩ fun s₂ th₂ => ∃ fin c' p'', th₂ = ⟨leafOf fin, c', p'', []⟩ ∧ leftWithCleanup s₂.gens = false ∧ P fin s₂) :
    Leads M s ⟨T, c, p, [.ret k h g l c₁ p₁ kp]⟩ fun s₂ th₂ => ∃ fin c' p'', th₂ = ⟨leafOf fin, c', p'', []⟩ ∧ P fin s₂ := by
  have key : Sem.wp M ((Ctx.of c []).over [.ret k h g l c₁ p₁ kp]) T (Sem.finPost M ((Ctx.of c []).over [.ret k h g l c₁ p₁ kp]) fun r1 s1 => ∃ fin s₂, Runs M ((Ctx.of c []).goto c₁) p₁ (k r1) [] s1 (.ret fin) s₂ ∧ P fin s₂)
      (fun e _ s' => ∃ fin s₂, Runs M ((Ctx.of c []).goto c₁) p₁ (k (.error e)) [] s' (.ret fin) s₂ ∧ P fin s₂) p s := by
    refine hT _ _ _ p s ?_
    refine Sem.wp_mono M _ t (fun v p' s' (hQ : Q v s') => ?_) (fun e p' s' (hf : False) => hf.elim) p s (hw _ p hin)
    rw [Sem.wp_iff_runs M _ (k5 v) (fun r1 s1 => ∃ fin s₂, Runs M ((Ctx.of c []).goto c₁) p₁ (k r1) [] s1 (.ret fin) s₂ ∧ P fin s₂) p' s']
    obtain ⟨n, s₂, th₂, e, fin, c', p'', rfl, hl, hP⟩ := hrest v s' p' hQ
    have hh : M.runN (n + 1) s' ⟨k5 v, c, p', [.ret k h g l c₁ p₁ kp]⟩ = .halted (outcomeOf fin) s₂ := by
      rw [runN_snoc e, step_leaf_nil]
      simp only [finish, hl, Bool.false_eq_true, if_false]
    obtain ⟨hr, _⟩ := halted_reach _ _ _ _ _ _ hh
    have hr := reach_runs hr
    generalize k5 v = tt at hr ⊢
    cases hr with
    | segRet a b => exact ⟨_, _, a, _, _, b, hP⟩
    | segSuspGen hsp _ _ _ =>
      rw [splitAtGen_ret] at hsp
      cases hsp
  obtain ⟨r1, s1, hr, fin, s₂, hb, hP⟩ := (Sem.wp_iff_runs M _ T (fun r1 s1 => ∃ fin s₂, Runs M ((Ctx.of c []).goto c₁) p₁ (k r1) [] s1 (.ret fin) s₂ ∧ P fin s₂) p s).mp key
  have hall : Runs M (Ctx.of c []) p T [.ret k h g l c₁ p₁ kp] s (.ret fin) s₂ := .segRet hr hb
  obtain ⟨n, t', c', p', pre', e, rfl, rfl⟩ := (runs_reach hall [] (Ctx.fits_of c [])).runN
  exact ⟨n, s₂, _, e, fin, c', p', rfl, hP⟩
def sufE : List PySem.Expr := [.Constant (.str "") 0 ⟨6, 12, 6, 14⟩, .Constant (.str "u") 0 ⟨6, 16, 6, 19⟩, .Constant (.str "l") 0 ⟨6, 21, 6, 24⟩, .Constant (.str "ul") 0 ⟨6, 26, 6, 30⟩, .Constant (.str "lu") 0 ⟨6, 32, 6, 36⟩]
def sufV : PySem.Expr := .Set sufE 0 ⟨6, 11, 6, 37⟩
theorem drop5 : PP.main.body.drop 5 = .Assign [.Name "SUFFIXES" ⟨6, 0, 6, 8⟩] sufV ⟨6, 0, 6, 37⟩ :: PP.main.body.drop 6 := by kernel_rfl
/-- what is left of the top once the set stands -/
def rest6 (env : Env) (v : Value) : Sem Fin :=
  (Sem.bind (Sem.onRaise (Sem.bind (Sem.bind (standAt ⟨6, 0, 6, 8⟩) fun _ => Sem.bind (bindName env "SUFFIXES" v) fun _ => Sem.pure Flow.next) fun f => match f with | .next => execs (PP.main.body.drop 6) env | f => Sem.pure f) (leaving env)) fun f => .pure (.done f))
theorem rest5_wp {M : Model} (env : Env) (Γ : Ctx) (Post : Fin → Pos → Shared → Prop) (Exc : Value → Pos → Shared → Prop) (p : Pos) (s : Shared)
    (h : Sem.wp M Γ (do standAt ⟨6, 0, 6, 37⟩; eval sufV env) (fun v p' s' => Sem.wp M Γ (rest6 env v) Post Exc p' s') (fun _ _ _ => False) p s) : Sem.wp M Γ (rest (PP.main.body.drop 5) env) Post Exc p s := by
  have e : exec (.Assign [.Name "SUFFIXES" ⟨6, 0, 6, 8⟩] sufV ⟨6, 0, 6, 37⟩) env = Sem.bind (do standAt ⟨6, 0, 6, 37⟩; eval sufV env) fun v => (Sem.bind (standAt ⟨6, 0, 6, 8⟩) fun _ => Sem.bind (bindName env "SUFFIXES" v) fun _ => Sem.pure Flow.next) := rfl
  rw [drop5]
  unfold rest
  rw [Sem.wp_bind, Sem.wp_onRaise, execs_cons]
  show Sem.wp M Γ (Sem.bind (exec _ env) fun f => match f with | .next => execs (PP.main.body.drop 6) env | f => Sem.pure f) _ _ p s
  rw [Sem.wp_bind, e, Sem.wp_bind]
  refine Sem.wp_mono M _ _ (fun v p' s' hQ => ?_) (fun e p' s' (hf : False) => hf.elim) p s h
  unfold rest6 at hQ
  rw [Sem.wp_bind, Sem.wp_onRaise, Sem.wp_bind] at hQ
  exact hQ
def codeOk (h : Heap) : Value → Bool
  | .ref c => match h.get? c with
    | some ⟨_, _, .fields _, _⟩ => true
    | _ => false
  | _ => false
theorem codeOk_of {h : Heap} {v : Value} (e : codeOk h v = true) : ∃ c o vs, v = .ref c ∧ h.get? c = some o ∧ o.data = .fields vs := by
  unfold codeOk at e
  split at e
  · split at e
    · rename_i ho
      exact ⟨_, _, _, rfl, ho, rfl⟩
    · cases e
  · cases e
theorem heap_exact1 {h h' : Heap} {O : Obj} (hsz : h'.objs.size = h.objs.size + 1) (hother : ∀ b, b ≠ h.objs.size → h'.get? b = h.get? b) (hO : h'.get? h.objs.size = some O) (hlive : ∀ b, b < h.objs.size → ∃ o, h.get? b = some o) :
    h' = ⟨h.objs.push O, h'.life⟩ := by
  obtain ⟨objs', life'⟩ := h'
  congr 1
  apply Array.ext_getElem?
  intro b
  have hsz : objs'.size = h.objs.size + 1 := hsz
  rw [Array.getElem?_push]
  by_cases h1 : b = h.objs.size
  · rw [if_pos h1, h1]; exact get_objs hO
  · rw [if_neg h1]
    by_cases h3 : b < h.objs.size
    · obtain ⟨o, e⟩ := hlive b h3
      rw [get_objs e]
      exact get_objs ((hother b h1).trans e)
    · rw [Array.getElem?_eq_none (by omega), Array.getElem?_eq_none (by omega)]
theorem push_other {h : Heap} {o : Obj} {b : Addr} (hb : b ≠ h.objs.size) (hlive : ∀ b, b < h.objs.size → ∃ o, h.get? b = some o) : (h.push o).get? b = h.get? b := by
  by_cases h3 : b < h.objs.size
  · obtain ⟨o, e⟩ := hlive b h3
    rw [e]; exact Heap.get?_push_of_some _ e
  · rw [Heap.get?_none_of_le (a := b) (by rw [Heap.size_push]; exact Nat.succ_le_of_lt (Nat.lt_of_le_of_ne (Nat.le_of_not_lt h3) (Ne.symm hb))), Heap.get?_none_of_le (a := b) (Nat.le_of_not_lt h3)]
theorem room_5 : 5 + 1 < scanBound := by decide +kernel
section
variable {w : World} {A : Around} {E : Value → Shared → Prop}
theorem add_new {S : Str → Bool} {n : Nat} {d : Addr} {x : Str} {u : Tok} {s : Shared} {Q : Bool → Shared → Prop} (hS : s.heap.SetOf (PySem.strKind PP w) d S n) (hb : n + 1 < scanBound) (hx : S x = false)
    (h : ∀ h', Heap.SameBut d s.heap h' → h'.SetOf (PySem.strKind PP w) d (fun k' => S k' || decide (k' = x)) (n + 1) → Q true { s with heap := h', toks := s.toks + 1 }) : wpAny (model PP w) A (setAdd d (.str x u)) Q E s := by
  unfold setAdd
  refine wpAny_holding (wpAny_bind ((PySem.strKind PP w).pyHash (k := x) (strKind_is _ _ _ _) ?_))
  refine wpAny_setAddHashed_of (knd := PySem.strKind PP w) (s := { s with toks := s.toks + 1 }) (strKind_is _ _ _ _) rfl hS hb fun h' hsb hS' => ?_
  rw [hx] at hS' ⊢
  exact h h' hsb hS'
theorem unled_of {S : Str → Bool} {n : Nat} {d : Addr} {s : Shared} {Q : Unit → Shared → Prop} (hS : s.heap.SetOf (PySem.strKind PP w) d S n)
    (h : ∀ h', Heap.SameBut d s.heap h' → h'.SetOf (PySem.strKind PP w) d S n → Q () { s with heap := h' }) : wpAny (model PP w) A (setUnled d) Q E s := by
  obtain ⟨o, es, ep, t, ho, hex, hd, hel, hmem, hb, hf, hn⟩ := hS
  have hf' : ({ t with led := false } : SetTable).fits es.size = true := by cases t; exact hf
  unfold setUnled
  refine wpAny_bind (wpAny_setState_of ho hd hf ?_)
  dsimp only
  refine wpAny_storeSet_of ho hd ?_ (fits_of_scanBound hb)
  obtain ⟨_, hS⟩ := SetOf_store (knd := PySem.strKind PP w) ho hex hd hel hmem hb hf'
  rw [hn] at hS
  exact h _ (Heap.SameBut.update s.heap d (Obj.putSet es { t with led := false })) hS
theorem same_trans {d : Addr} {a b c : Heap} (x : Heap.SameBut d a b) (y : Heap.SameBut d b c) : Heap.SameBut d a c := ⟨y.1.trans x.1, fun k hk => (y.2 k hk).trans (x.2 k hk)⟩
theorem suf_1 : tx (cs "") = Str.ofString "" := by kernel_rfl
theorem suf_2 : tx (cs "u") = Str.ofString "u" := by kernel_rfl
theorem suf_3 : tx (cs "l") = Str.ofString "l" := by kernel_rfl
theorem suf_4 : tx (cs "ul") = Str.ofString "ul" := by kernel_rfl
theorem suf_5 : tx (cs "lu") = Str.ofString "lu" := by kernel_rfl
theorem suf_fun : (fun x => sSuf.any fun c => x == tx c) = (fun k' => ((((false || decide (k' = Str.ofString "")) || decide (k' = Str.ofString "u")) || decide (k' = Str.ofString "l")) || decide (k' = Str.ofString "ul")) || decide (k' = Str.ofString "lu")) := by
  funext k'
  unfold sSuf
  simp only [List.map_cons, List.map_nil, List.any_cons, List.any_nil]
  rw [suf_1, suf_2, suf_3, suf_4, suf_5]
  have hb : ∀ a b : Str, (a == b) = decide (a = b) := fun a b => by by_cases h : a = b <;> simp [h]
  simp only [Bool.or_false, Bool.false_or, hb, Bool.or_assoc]
theorem suf_end {h h6 : Heap} {o : Obj} {S : Str → Bool} {n : Nat} (hs : Heap.SameBut h.objs.size (h.push o) h6) (S6 : h6.SetOf (PySem.strKind PP w) h.objs.size S n) (hlive : ∀ b, b < h.objs.size → ∃ o, h.get? b = some o) :
    ∃ O, h6 = ⟨h.objs.push O, h6.life⟩ ∧ O.isFreed = false ∧ SObj w O S n := by
  obtain ⟨O, hO, hSO⟩ := sObj_of S6
  exact ⟨O, heap_exact1 (hs.1.trans (Heap.size_push _ _)) (fun b hb => (hs.2 b hb).trans (push_other hb hlive)) hO hlive, (Heap.get?_some_iff.mp hO).2, hSO⟩
theorem suf_fin {Q : Value → Shared → Prop} {s s5 : Shared} {h6 : Heap} {o : Obj} {S S' : Str → Bool} {n : Nat} (hs : Heap.SameBut s.heap.objs.size (s.heap.push o) h6) (S6 : h6.SetOf (PySem.strKind PP w) s.heap.objs.size S n) (hlive : ∀ b, b < s.heap.objs.size → ∃ o, s.heap.get? b = some o)
    (eS : S = S') (en : n = 5) (eg : s5.gens = s.gens) (ed : s5.drawn = s.drawn) (et : s5.toks = s.toks + 10) (eo : s5.os = s.os)
    (h : ∀ O L, O.isFreed = false → SObj w O S' 5 → Q (.ref s.heap.objs.size) { s with heap := ⟨s.heap.objs.push O, L⟩, toks := s.toks + 10 }) : Q (.ref s.heap.objs.size) { s5 with heap := h6 } := by
  subst eS en
  obtain ⟨O, hex, hfr, hSO⟩ := suf_end hs S6 hlive
  have := h O h6.life hfr hSO
  rw [eg, ed, et, eo, hex]
  exact this
/-- the set display of stmt 5 -/
theorem suf_eval {env : Env} {s : Shared} {Q : Value → Shared → Prop} (hc : codeOk s.heap env.code = true) (hlive : ∀ b, b < s.heap.objs.size → ∃ o, s.heap.get? b = some o)
    (h : ∀ O L, O.isFreed = false → SObj w O (fun x => sSuf.any fun c => x == tx c) 5 → Q (.ref s.heap.objs.size) { s with heap := ⟨s.heap.objs.push O, L⟩, toks := s.toks + 10 }) :
    wpAny (model PP w) A (do standAt ⟨6, 0, 6, 37⟩; eval sufV env) Q E s := by
  refine wpAny_bind (wpAny_standAt ?_)
  unfold sufV
  rw [arm_eval_Set]
  refine wpAny_bind (wpAny_standAt ?_)
  have hmain : ∀ {Q : Bool → Shared → Prop}, (∀ b, Q b s) → wpAny (model PP w) A (inMainModule env) Q E s := by
    intro Q hq
    obtain ⟨c, o, vs, e, ho, hd⟩ := codeOk_of hc
    unfold inMainModule
    try dsimp only
    rw [e]
    split
    · exact wpAny_pure (hq _)
    · refine wpAny_bind (wpAny_fieldsOf ho hd ?_)
      split
      · exact wpAny_bind (wpAny_askSetting (wpAny_pure (hq _)))
      · exact wpAny_pure (hq _)
  refine wpAny_bind (hmain fun b => ?_)
  rw [kds_star sufE rfl, List.map_map]
  refine kds_core (ts := (evalEach sufE env).map fun t => do let v ← t; standAt ⟨6, 11, 6, 37⟩; pure v) rfl ?_ ?_ ?_ fun led => ?_
  · refine List.findIdx?_eq_none_iff.mpr fun x hx => ?_
    obtain ⟨t, _, rfl⟩ := List.mem_map.mp hx
    rfl
  · rw [List.length_map, kds_len]; decide
  · rw [List.map_map]; try rfl
  refine kds_all _ sufE _ _ ?_
  refine Calls.Constant_str (Calls.Constant_str (Calls.Constant_str (Calls.Constant_str (Calls.Constant_str ?_))))
  show KdsFill _ _ _ _ _ _ _ _
  have S0 : (s.heap.push { cls := .type "set", dict := none, data := .set #[] 0 (.fresh 0 0 led) }).SetOf (PySem.strKind PP w) s.heap.objs.size (fun _ => false) 0 := (setObjOf_fresh led).setOf (Heap.get?_push_size _ rfl) (Nat.zero_lt_of_lt room_5)
  refine kds_fill_cons (add_new S0 (Nat.lt_of_le_of_lt (by decide) room_5) rfl fun h1 b1 S1 => ?_)
  refine kds_fill_cons (add_new S1 (Nat.lt_of_le_of_lt (by decide) room_5) (by decide) fun h2 b2 S2 => ?_)
  refine kds_fill_cons (add_new S2 (Nat.lt_of_le_of_lt (by decide) room_5) (by decide) fun h3 b3 S3 => ?_)
  refine kds_fill_cons (add_new S3 (Nat.lt_of_le_of_lt (by decide) room_5) (by decide) fun h4 b4 S4 => ?_)
  refine kds_fill_cons (add_new S4 (Nat.lt_of_le_of_lt (by decide) room_5) (by decide) fun h5 b5 S5 => ?_)
  refine kds_fill_unled rfl (unled_of S5 fun h6 b6 S6 => ?_)
  have hs := same_trans b1 (same_trans b2 (same_trans b3 (same_trans b4 (same_trans b5 b6))))
  exact suf_fin hs S6 hlive suf_fun.symm rfl rfl rfl rfl rfl h
end

end Mine
end
section
open PySem PySem.Calls PyProof.Rows PySem.W PySem.Builtin PySem.Builtin.Str
set_option maxRecDepth 4000
namespace Mine
set_option maxHeartbeats 4000000
set_option maxRecDepth 100000
def aroundIn (Γ : Ctx) : Around := { handled := Γ.handled, depth := frameCount Γ.below + Γ.code.weight, frames := none, guards := none, units := Γ.units }
theorem aroundIn_in (Γ : Ctx) : Γ.In (aroundIn Γ) := ⟨rfl, Nat.le_refl _, fun _ h => (nomatch h), fun _ h => (nomatch h), Nat.le_refl _⟩
/-- the objects that the three loops leave -/
structure Ops where
  (O I X Y O2 I2 X2 Y2 O3 I3 X3 Y3 : Obj)
def sEnt (w : World) (x : Str) (t : Tok) (v : Value) : DictEntry := ⟨hashStr w x, .str x t, v⟩
/-- the names of the text, ahead of SUFFIXES -/
def mainD (w : World) : Obj := { cls := .type "dict", data := .dict (Array.mk [sEnt w "__name__" 165 (.str "corecc.scanner" 187), sEnt w "__doc__" 166 .none, sEnt w "__package__" 167 .none, sEnt w "__loader__" 168 (.builtin "__main__.__loader__#opaque"), sEnt w "__spec__" 169 .none, sEnt w "__annotations__" 170 (.ref 6), sEnt w "__builtins__" 171 (.ref 4),
  sEnt w "__file__" 173 (.str "/claim/cut.py" 172), sEnt w "__cached__" 174 .none, sEnt w "DIGITS" 210 (.ref 15), sEnt w "HEX_DIGITS" 256 (.ref 19), sEnt w "OCTAL_DIGITS" 274 (.ref 23), sEnt w "TRIGRAPHS" 302 (.ref 27)]) 13 }
def codeD : Obj := { cls := .type "code", data := .fields (Array.mk [.str "<module>" 182, .str "<module>" 183, .str "/claim/cut.py" 184, .int 1 0, .int 0 0, .int 0 0, .int 0 0, .int 0 0, .ref 11, .bool false, .int 181 0, .ref 12, .none, .none, .none, .none, .int 185 0, .int 1 0, .str "/claim/cut.py" 186]) }
def frameD : Obj := { cls := .type "frame", slots := Array.mk [some (.ref 13), some (.ref 3), some (.ref 3), none, some (.str "__main__" 164), none, some (.ref 0)] }
def triD (w : World) : Obj := { cls := .type "dict", data := .dict (Array.mk [sEnt w "=" 275 (.str "#" 276), sEnt w "(" 277 (.str "[" 278), sEnt w "/" 279 (.str "\\" 280), sEnt w ")" 281 (.str "]" 282), sEnt w "'" 283 (.str "^" 284), sEnt w "<" 285 (.str "{" 286), sEnt w "!" 287 (.str "|" 288), sEnt w ">" 289 (.str "}" 290), sEnt w "-" 291 (.str "~" 292)]) 9 }
/-- all objects ahead of the set display -/
noncomputable def litD (w : World) (z : Ops) : List Obj := [boot_o_0 w.params, boot_o_1 w.params, boot_o_2 w.params, mainD w, boot_o_4 w.params, boot_o_5 w.params, boot_o_6 w.params, boot_o_7 w.params, boot_o_8 w.params, boot_o_9 w.params, boot_o_10 w.params,
  { cls := .type "tuple", data := .seq (Array.mk []) 0 }, { cls := .none, data := .fields (Array.mk []) }, codeD, frameD, z.O, z.I, z.X, z.Y, z.O2, z.I2, z.X2, z.Y2, z.O3, z.I3, z.X3, z.Y3, triD w]
def envL : Env := { scope := PP.main.scope, locals := mainNs, globals := mainNs, cells := [], code := .ref 13, frame := some 14 }
def codeL : Code := .body PP.main.body envL
def nextLeaf : Sem Fin := .pure (.done .next)
/-- what stands ahead of the set display, and what comes behind the text's last row -/
noncomputable def viewD (w : World) (r : Run) (s : Shared) (p : Pos) :=
  ((isRun r, (rT r).cur, (rT r).code, (rT r).stack.length, frameRet (topFrame (rT r).stack)), ((rS r).toks, (rS r).gens, (rS r).drawn, (rS r).os, (rS r).heap.objs), (fun q : Run => (isRun q, (rT q).cur, (rT q).stack, rS q)) ((tmm w).runN 1 s ⟨nextLeaf, codeL, p, (rT r).stack⟩))
noncomputable def seenD (w : World) (os : OsState) (z : Ops) (s : Shared) :=
  ((true, rest (PP.main.body.drop 5) envL, codeL, 1, true), (303, (#[] : Array GenState), boot_drawn, os, Array.mk (litD w z)), (true, leafOf (.ok (.ret .none)), ([] : List Frame), s))

end Mine
end
section
open PySem PySem.Calls PyProof.Rows PySem.W PySem.Builtin PySem.Builtin.Str
set_option maxRecDepth 4000
namespace Mine
set_option maxHeartbeats 4000000
set_option maxRecDepth 100000
mutual
/-- a value of texts, numbers and tuples, read by a decision -/
def readsD (h : Heap) : Value → PyData → Bool
  | v, .int j => match v with | .int i _ => decide (i = j) | _ => false
  | v, .str u => match v with | .str s _ => s == u | _ => false
  | v, .tuple ds => match v with
    | .ref a => (match h.get? a with
      | some ⟨.type c, _, .seq vs _, _⟩ => c == "tuple" && readsDs h vs.toList ds
      | _ => false)
    | _ => false
  | _, _ => false
def readsDs (h : Heap) : List Value → List PyData → Bool
  | vs, [] => vs.isEmpty
  | vs, d :: ds => match vs with
    | [] => false
    | v :: vs => readsD h v d && readsDs h vs ds
end
def datas : List (Str × PyData) := [("MOST_OCTET", .int 255), ("_law_figures", .str (tx (cs "0123456789abcdef"))), ("_law_after", .str (tx (cs "01234567890123xxabfnrtvABCDEF'\"?qgXde\\ "))),
  ("_law_endings", .tuple (endingsL.map fun x => .str (tx x))), ("_law_spoilt", .tuple (spoiltL.map fun x => .str (tx x))), ("_law_plain", .tuple (plainL.map fun x => .str (tx x))), ("_law_torn", .tuple (tornL.map fun x => .str (tx x))),
  ("_law_shorts", .tuple (shortsL.map fun x => .tuple [.str (tx [x.1]), .int x.2])), ("_law_threes", .tuple (threesL.map fun x => .tuple [.str (tx [x.1]), .str (tx [x.2])]))]
def dataOk (h : Heap) : Bool := datas.all fun x => match h.nsMap mainGlobals x.1 with | some v => readsD h v x.2 | none => false
def hidden : List Str := ["len", "ord", "sum", "max", "int", "range", "enumerate"]
def vview : Value → Option PyData
  | .str x _ => some (.str x)
  | .int i _ => some (.int i)
  | _ => none
def kview : Value → Option Str
  | .str x _ => some x
  | _ => none
def dview (o : Option Obj) : Option (Value × Option Addr × Nat × List (Int × Option Str × Option PyData)) := match o with
  | some ⟨c, d, .dict es _, sl⟩ => some (c, d, sl.size, es.toList.map fun e => (e.hash, kview e.key, vview e.val))
  | _ => none
def dR (x : Str × Nat) : DefRec := ⟨x.1, sArgs (stm x.2), sBody (stm x.2), sScope (stm x.2), ⟨0, 0, 0, 0⟩⟩
def fns : List (Str × Nat) := [("spliced", 8), ("number_parts", 9), ("escape_at", 10), ("literal_values", 11), ("literal_octets", 12), ("_law_draw", 22), ("_law_signs", 23), ("_law_value", 24), ("_law_number_due", 25), ("_law_numbers_right", 26),
  ("_law_escape_due", 27), ("_law_escapes_right", 28), ("_law_octets_due", 29), ("_law_literals_right", 30), ("_law_spliced_due", 31), ("_law_rows_right", 32), ("law", 33)]
def named : List Str := ["DIGITS", "HEX_DIGITS", "OCTAL_DIGITS", "SUFFIXES", "TRIGRAPHS", "ESCAPES"]
def goodB (h₀ h : Heap) : Bool := h.accountedOkI (importedModules PP.main.body) && staticsOk (importedModules PP.main.body) h₀ h && namesBound PP h && laidKept h₀ h && h.isNs mainGlobals && h.isNs builtinsNs && h.bmainOk && h.noLimitOk &&
  Nat.blt sysModules h.objs.size && dataOk h && hidden.all fun x => (h.nsMap mainGlobals x).isNone
def stays : List Nat := (List.range 11).filter fun b => b != mainNs && b != cStatics && b != 6
def seenE (h₀ : Heap) (r : Run) := (isRun r, ((rT r).cur, (rT r).code), (rT r).stack, (rS r).gens, (rS r).os, goodB h₀ (rS r).heap, (rS r).heap.bltView, stays.map (fun i => (rS r).heap.objs[i]?), fns.map (fun x => (rS r).heap.shapeAt mainGlobals x.1), named.map (fun x => (rS r).heap.nsMap mainGlobals x),
  [15, 19, 23, 28].map (fun i => (rS r).heap.objs[i]?), dview ((rS r).heap.get? 27), dview ((rS r).heap.get? 29))
def triRows (w : World) : List (Int × Option Str × Option PyData) := threesL.map fun p => (hashStr w (tx [p.1]), some (tx [p.1]), some (.str (tx [p.2])))
def escRows (w : World) : List (Int × Option Str × Option PyData) := shortsL.map fun p => (hashStr w (tx [p.1]), some (tx [p.1]), some (.int p.2))

end Mine
end
section
open PySem PySem.Calls PyProof.Rows PySem.W PySem.Builtin PySem.Builtin.Str
set_option maxRecDepth 4000
namespace Mine
set_option maxHeartbeats 4000000
set_option maxRecDepth 100000
/-- the four stages ahead of the set display, seen at once: the machine runs in the kernel once a case -/
theorem obs4_t (w : World) (os : OsState) (O I X Y : Obj) (c : Code) (p : Pos) (O2 I2 X2 Y2 : Obj) (c2 : Code) (p2 : Pos) (O3 I3 X3 Y3 : Obj) (c3 : Code) (p3 : Pos) (s : Shared) (q : Pos) :
    (obs (RA (sgr w true) os) 15 16 [], obs (RB (sgr w true) os O I X Y c p) 19 20 [15, 16, 17, 18], obs (RC (sgr w true) os O I X Y c p O2 I2 X2 Y2 c2 p2) 23 24 [15, 16, 17, 18, 19, 20, 21, 22], viewD (sgr w true) (RD (sgr w true) os O I X Y c p O2 I2 X2 Y2 c2 p2 O3 I3 X3 Y3 c3 p3) s q) =
      (good (sgr w true) os 15 16 190 17 (Str.ofString "0123456789") 189 [], good (sgr w true) os 19 20 212 21 (Str.ofString "0123456789abcdefABCDEF") 211 [O, I, X, Y], good (sgr w true) os 23 24 258 25 (Str.ofString "01234567") 257 [O, I, X, Y, O2, I2, X2, Y2], seenD (sgr w true) os ⟨O, I, X, Y, O2, I2, X2, Y2, O3, I3, X3, Y3⟩ s) := by kernel_rfl
theorem obs4_f (w : World) (os : OsState) (O I X Y : Obj) (c : Code) (p : Pos) (O2 I2 X2 Y2 : Obj) (c2 : Code) (p2 : Pos) (O3 I3 X3 Y3 : Obj) (c3 : Code) (p3 : Pos) (s : Shared) (q : Pos) :
    (obs (RA (sgr w false) os) 15 16 [], obs (RB (sgr w false) os O I X Y c p) 19 20 [15, 16, 17, 18], obs (RC (sgr w false) os O I X Y c p O2 I2 X2 Y2 c2 p2) 23 24 [15, 16, 17, 18, 19, 20, 21, 22], viewD (sgr w false) (RD (sgr w false) os O I X Y c p O2 I2 X2 Y2 c2 p2 O3 I3 X3 Y3 c3 p3) s q) =
      (good (sgr w false) os 15 16 190 17 (Str.ofString "0123456789") 189 [], good (sgr w false) os 19 20 212 21 (Str.ofString "0123456789abcdefABCDEF") 211 [O, I, X, Y], good (sgr w false) os 23 24 258 25 (Str.ofString "01234567") 257 [O, I, X, Y, O2, I2, X2, Y2], seenD (sgr w false) os ⟨O, I, X, Y, O2, I2, X2, Y2, O3, I3, X3, Y3⟩ s) := by kernel_rfl
theorem obs4 (w : World) (os : OsState) (O I X Y : Obj) (c : Code) (p : Pos) (O2 I2 X2 Y2 : Obj) (c2 : Code) (p2 : Pos) (O3 I3 X3 Y3 : Obj) (c3 : Code) (p3 : Pos) (s : Shared) (q : Pos) : ∀ b,
    (obs (RA (sgr w b) os) 15 16 [], obs (RB (sgr w b) os O I X Y c p) 19 20 [15, 16, 17, 18], obs (RC (sgr w b) os O I X Y c p O2 I2 X2 Y2 c2 p2) 23 24 [15, 16, 17, 18, 19, 20, 21, 22], viewD (sgr w b) (RD (sgr w b) os O I X Y c p O2 I2 X2 Y2 c2 p2 O3 I3 X3 Y3 c3 p3) s q) =
      (good (sgr w b) os 15 16 190 17 (Str.ofString "0123456789") 189 [], good (sgr w b) os 19 20 212 21 (Str.ofString "0123456789abcdefABCDEF") 211 [O, I, X, Y], good (sgr w b) os 23 24 258 25 (Str.ofString "01234567") 257 [O, I, X, Y, O2, I2, X2, Y2], seenD (sgr w b) os ⟨O, I, X, Y, O2, I2, X2, Y2, O3, I3, X3, Y3⟩ s)
  | true => obs4_t w os O I X Y c p O2 I2 X2 Y2 c2 p2 O3 I3 X3 Y3 c3 p3 s q
  | false => obs4_f w os O I X Y c p O2 I2 X2 Y2 c2 p2 O3 I3 X3 Y3 c3 p3 s q
theorem obsA (w : World) (os : OsState) (b : Bool) : obs (RA (sgr w b) os) 15 16 [] = good (sgr w b) os 15 16 190 17 (Str.ofString "0123456789") 189 [] :=
  (Prod.mk.inj (obs4 w os default default default default default default default default default default default default default default default default default default {} default b)).1
theorem obsB (w : World) (os : OsState) (O I X Y : Obj) (c : Code) (p : Pos) (b : Bool) : obs (RB (sgr w b) os O I X Y c p) 19 20 [15, 16, 17, 18] = good (sgr w b) os 19 20 212 21 (Str.ofString "0123456789abcdefABCDEF") 211 [O, I, X, Y] :=
  (Prod.mk.inj (Prod.mk.inj (obs4 w os O I X Y c p default default default default default default default default default default default default {} default b)).2).1
theorem obsC (w : World) (os : OsState) (O I X Y : Obj) (c : Code) (p : Pos) (O2 I2 X2 Y2 : Obj) (c2 : Code) (p2 : Pos) (b : Bool) : obs (RC (sgr w b) os O I X Y c p O2 I2 X2 Y2 c2 p2) 23 24 [15, 16, 17, 18, 19, 20, 21, 22] = good (sgr w b) os 23 24 258 25 (Str.ofString "01234567") 257 [O, I, X, Y, O2, I2, X2, Y2] :=
  (Prod.mk.inj (Prod.mk.inj (Prod.mk.inj (obs4 w os O I X Y c p O2 I2 X2 Y2 c2 p2 default default default default default default {} default b)).2).2).1
theorem obsD (w : World) (os : OsState) (O I X Y : Obj) (c : Code) (p : Pos) (O2 I2 X2 Y2 : Obj) (c2 : Code) (p2 : Pos) (O3 I3 X3 Y3 : Obj) (c3 : Code) (p3 : Pos) (s : Shared) (q : Pos) (b : Bool) : viewD (sgr w b) (RD (sgr w b) os O I X Y c p O2 I2 X2 Y2 c2 p2 O3 I3 X3 Y3 c3 p3) s q = seenD (sgr w b) os ⟨O, I, X, Y, O2, I2, X2, Y2, O3, I3, X3, Y3⟩ s :=
  (Prod.mk.inj (Prod.mk.inj (Prod.mk.inj (obs4 w os O I X Y c p O2 I2 X2 Y2 c2 p2 O3 I3 X3 Y3 c3 p3 s q b)).2).2).2
noncomputable def SE (w : World) (os : OsState) (z : Ops) (O5 : Obj) (L5 : Life) : Shared := ⟨⟨Array.mk (litD w z ++ [O5]), L5⟩, #[], boot_drawn, 313, os⟩
noncomputable def RE (w : World) (os : OsState) (z : Ops) (O5 : Obj) (L5 : Life) (p5 : Pos) (K : List Frame) : Run := (tmm w).runN 948 (SE w os z O5 L5) ⟨rest6 envL (.ref 28), codeL, p5, K⟩
noncomputable def goodE (w : World) (os : OsState) (O O2 O3 O5 : Obj) (K : List Frame) := (true, (nextLeaf, codeL), K, (#[] : Array GenState), os, true, bltViewBooted, stays.map (fun i => (boot_heap w.params).objs[i]?), fns.map (fun x => some (dR x).shape), ([15, 19, 23, 28, 27, 29] : List Addr).map (fun a => some (Value.ref a)),
        [O, O2, O3, O5].map some, some (Value.type "dict", (none : Option Addr), 0, triRows w), some (Value.type "dict", (none : Option Addr), 0, escRows w))
theorem obsE_t (w : World) (os : OsState) (z : Ops) (O5 : Obj) (L5 : Life) (p5 : Pos) (K : List Frame) : seenE (boot_heap (sgr w true).params) (RE (sgr w true) os z O5 L5 p5 K) = goodE (sgr w true) os z.O z.O2 z.O3 O5 K := by kernel_rfl
theorem obsE_f (w : World) (os : OsState) (z : Ops) (O5 : Obj) (L5 : Life) (p5 : Pos) (K : List Frame) : seenE (boot_heap (sgr w false).params) (RE (sgr w false) os z O5 L5 p5 K) = goodE (sgr w false) os z.O z.O2 z.O3 O5 K := by kernel_rfl
theorem obsE (w : World) (os : OsState) (z : Ops) (O5 : Obj) (L5 : Life) (p5 : Pos) (K : List Frame) : ∀ b, seenE (boot_heap (sgr w b).params) (RE (sgr w b) os z O5 L5 p5 K) = goodE (sgr w b) os z.O z.O2 z.O3 O5 K
  | true => obsE_t w os z O5 L5 p5 K
  | false => obsE_f w os z O5 L5 p5 K

end Mine
end
section
open PySem PySem.Calls PyProof.Rows PySem.W PySem.Builtin PySem.Builtin.Str
set_option maxRecDepth 4000
namespace Mine
set_option maxHeartbeats 4000000
set_option maxRecDepth 100000
def dig10 : Str → Bool := fun x => sDig.any fun c => x == tx [c]
def hex22 : Str → Bool := fun x => sHex.any fun c => x == tx [c]
def oct8 : Str → Bool := fun x => sOct.any fun c => x == tx [c]
def suf5 : Str → Bool := fun x => sSuf.any fun c => x == tx c
/-- what the top leaves, told of its last state -/
structure TopEnd (w : World) (os : OsState) (s : Shared) : Prop where
  gens : s.gens = #[]
  os_ : s.os = os
  good : goodB (boot_heap w.params) s.heap = true
  blt : s.heap.bltView = bltViewBooted
  stay : stays.map (fun i => s.heap.objs[i]?) = stays.map (fun i => (boot_heap w.params).objs[i]?)
  fn : fns.map (fun x => s.heap.shapeAt mainGlobals x.1) = fns.map (fun x => some (dR x).shape)
  names : named.map (fun x => s.heap.nsMap mainGlobals x) = ([15, 19, 23, 28, 27, 29] : List Addr).map (fun a => some (.ref a))
  dig : s.heap.SetOf (PySem.strKind PP w) 15 dig10 10
  hex : s.heap.SetOf (PySem.strKind PP w) 19 hex22 22
  oct : s.heap.SetOf (PySem.strKind PP w) 23 oct8 8
  suf : s.heap.SetOf (PySem.strKind PP w) 28 suf5 5
  tri : dview (s.heap.get? 27) = some (.type "dict", none, 0, triRows w)
  esc : dview (s.heap.get? 29) = some (.type "dict", none, 0, escRows w)
theorem run_tmm {w : World} {n : Nat} {s : Shared} {t : Thread} {r : Run} (e : r = (tmm w).runN n s t) (h : isRun r = true) : (model PP w).runN n s t = .running (rS r) (rT r) := by
  rw [← tmm_eq, ← e]; exact run_eq h
theorem obs_run {r : Run} {a it : Nat} {ops : List Nat} {w : World} {os : OsState} {tk sz : Nat} {x : Str} {u : Tok} {os₁ : List Obj} (h : obs r a it ops = good w os a it tk sz x u os₁) : isRun r = true := congrArg Prod.fst h
theorem dig_tx : Str.ofString "0123456789" = tx sDig := by kernel_rfl
theorem hex_tx : Str.ofString "0123456789abcdefABCDEF" = tx sHex := by kernel_rfl
theorem oct_tx : Str.ofString "01234567" = tx sOct := by kernel_rfl
theorem stA (w : World) (os : OsState) (b : Bool) : Leads (model PP (sgr w b)) (S0 (sgr w b) os) (topStub PP) fun s th => ∃ O I X Y c p, s = SB (sgr w b) os O I X Y ∧ th = ⟨leafNone, c, p, (rT (RA (sgr w b) os)).stack⟩ ∧
    SObj (sgr w b) O dig10 10 ∧ O.isFreed = false ∧ I.isFreed = false ∧ X.isFreed = false ∧ Y.isFreed = false := by
  have o := obsA w os b
  refine Leads.next (run_tmm (by unfold RA; rfl) (obs_run o)) ((loop_stage o (fun _ h => (nomatch h)) dig_tx (by decide) (by decide +kernel) (by decide +kernel)).then ?_)
  rintro _ _ ⟨O, I, X, Y, c, p, rfl, rfl, h⟩
  exact Leads.here ⟨O, I, X, Y, c, p, rfl, rfl, h⟩
theorem stB (w : World) (os : OsState) (b : Bool) (O I X Y : Obj) (c : Code) (p : Pos) (hO : O.isFreed = false) (hI : I.isFreed = false) (hX : X.isFreed = false) (hY : Y.isFreed = false) :
    Leads (model PP (sgr w b)) (SB (sgr w b) os O I X Y) ⟨leafNone, c, p, (rT (RA (sgr w b) os)).stack⟩ fun s th => ∃ O2 I2 X2 Y2 c2 p2, s = SC (sgr w b) os O I X Y c p O2 I2 X2 Y2 ∧ th = ⟨leafNone, c2, p2, (rT (RB (sgr w b) os O I X Y c p)).stack⟩ ∧
    SObj (sgr w b) O2 hex22 22 ∧ O2.isFreed = false ∧ I2.isFreed = false ∧ X2.isFreed = false ∧ Y2.isFreed = false := by
  have o := obsB w os O I X Y c p b
  refine Leads.next (run_tmm (by unfold RB; rfl) (obs_run o)) ((loop_stage o ?_ hex_tx (by decide) (by decide +kernel) (by decide +kernel)).then ?_)
  · intro o ho
    simp only [List.mem_cons, List.not_mem_nil, or_false] at ho
    rcases ho with rfl | rfl | rfl | rfl <;> assumption
  rintro _ _ ⟨O2, I2, X2, Y2, c2, p2, rfl, rfl, h⟩
  exact Leads.here ⟨O2, I2, X2, Y2, c2, p2, rfl, rfl, h⟩
theorem stC (w : World) (os : OsState) (b : Bool) (O I X Y : Obj) (c : Code) (p : Pos) (O2 I2 X2 Y2 : Obj) (c2 : Code) (p2 : Pos) (hos : ∀ o ∈ [O, I, X, Y, O2, I2, X2, Y2], o.isFreed = false) :
    Leads (model PP (sgr w b)) (SC (sgr w b) os O I X Y c p O2 I2 X2 Y2) ⟨leafNone, c2, p2, (rT (RB (sgr w b) os O I X Y c p)).stack⟩ fun s th => ∃ O3 I3 X3 Y3 c3 p3, s = SD (sgr w b) os O I X Y c p O2 I2 X2 Y2 c2 p2 O3 I3 X3 Y3 ∧ th = ⟨leafNone, c3, p3, (rT (RC (sgr w b) os O I X Y c p O2 I2 X2 Y2 c2 p2)).stack⟩ ∧
    SObj (sgr w b) O3 oct8 8 ∧ O3.isFreed = false ∧ I3.isFreed = false ∧ X3.isFreed = false ∧ Y3.isFreed = false := by
  have o := obsC w os O I X Y c p O2 I2 X2 Y2 c2 p2 b
  refine Leads.next (run_tmm (by unfold RC; rfl) (obs_run o)) ((loop_stage o hos oct_tx (by decide) (by decide +kernel) (by decide +kernel)).then ?_)
  rintro _ _ ⟨O3, I3, X3, Y3, c3, p3, rfl, rfl, h⟩
  exact Leads.here ⟨O3, I3, X3, Y3, c3, p3, rfl, rfl, h⟩
theorem ret_of {st : List Frame} (h1 : st.length = 1) (h2 : frameRet (topFrame st) = true) : ∃ k h g l c₁ p₁ kp, st = [.ret k h g l c₁ p₁ kp] := by
  obtain ⟨f, rfl⟩ := List.length_eq_one_iff.mp h1
  have h2 : frameRet f = true := h2
  revert h2
  cases f <;> intro h2 <;> first | exact ⟨_, _, _, _, _, _, _, rfl⟩ | exact absurd h2 Bool.false_ne_true
theorem end_of {w : World} {os : OsState} {r : Run} {K : List Frame} {O O2 O3 O5 : Obj} (o : seenE (boot_heap w.params) r = goodE w os O O2 O3 O5 K)
    (hO : O.isFreed = false) (hO2 : O2.isFreed = false) (hO3 : O3.isFreed = false) (hO5 : O5.isFreed = false) (q1 : SObj w O dig10 10) (q2 : SObj w O2 hex22 22) (q3 : SObj w O3 oct8 8) (q5 : SObj w O5 suf5 5) :
    isRun r = true ∧ ∃ p', rT r = ⟨nextLeaf, codeL, p', K⟩ ∧ TopEnd w os (rS r) := by
  unfold seenE goodE at o
  obtain ⟨e0, o⟩ := Prod.mk.inj o
  obtain ⟨e1, o⟩ := Prod.mk.inj o
  obtain ⟨e1, e1'⟩ := Prod.mk.inj e1
  obtain ⟨e2, o⟩ := Prod.mk.inj o
  obtain ⟨e3, o⟩ := Prod.mk.inj o
  obtain ⟨e4, o⟩ := Prod.mk.inj o
  obtain ⟨e5, o⟩ := Prod.mk.inj o
  obtain ⟨e6, o⟩ := Prod.mk.inj o
  obtain ⟨e7, o⟩ := Prod.mk.inj o
  obtain ⟨e8, o⟩ := Prod.mk.inj o
  obtain ⟨e9, o⟩ := Prod.mk.inj o
  obtain ⟨e10, o⟩ := Prod.mk.inj o
  obtain ⟨e11, e12⟩ := Prod.mk.inj o
  have f1 : (rS r).heap.objs[15]? = some O := congrArg (fun x : List (Option Obj) => x.headD none) e10
  have f2 : (rS r).heap.objs[19]? = some O2 := congrArg (fun x : List (Option Obj) => (x.drop 1).headD none) e10
  have f3 : (rS r).heap.objs[23]? = some O3 := congrArg (fun x : List (Option Obj) => (x.drop 2).headD none) e10
  have f4 : (rS r).heap.objs[28]? = some O5 := congrArg (fun x : List (Option Obj) => (x.drop 3).headD none) e10
  refine ⟨e0, (rT r).pos, ?_, ⟨e3, e4, e5, e6, e7, e8, e9, q1 _ _ (Heap.get?_some_iff.mpr ⟨f1, hO⟩), q2 _ _ (Heap.get?_some_iff.mpr ⟨f2, hO2⟩), q3 _ _ (Heap.get?_some_iff.mpr ⟨f3, hO3⟩), q5 _ _ (Heap.get?_some_iff.mpr ⟨f4, hO5⟩), e11, e12⟩⟩
  rw [← e1, ← e1', ← e2]
/-- from the set display to the text's last row -/
theorem stE (w : World) (os : OsState) (b : Bool) (z : Ops) (O5 : Obj) (L5 : Life) (p5 : Pos) (K : List Frame) (hO : z.O.isFreed = false) (hO2 : z.O2.isFreed = false) (hO3 : z.O3.isFreed = false) (hO5 : O5.isFreed = false)
    (q1 : SObj (sgr w b) z.O dig10 10) (q2 : SObj (sgr w b) z.O2 hex22 22) (q3 : SObj (sgr w b) z.O3 oct8 8) (q5 : SObj (sgr w b) O5 suf5 5) :
    Leads (model PP (sgr w b)) (SE (sgr w b) os z O5 L5) ⟨rest6 envL (.ref 28), codeL, p5, K⟩ fun s₂ th₂ => ∃ p', th₂ = ⟨nextLeaf, codeL, p', K⟩ ∧ TopEnd (sgr w b) os s₂ := by
  obtain ⟨hr, h⟩ := end_of (obsE w os z O5 L5 p5 K b) hO hO2 hO3 hO5 q1 q2 q3 q5
  exact Leads.next (run_tmm (by unfold RE; rfl) hr) (Leads.here h)

end Mine
end
section
open PySem PySem.Calls PyProof.Rows PySem.W PySem.Builtin PySem.Builtin.Str
set_option maxRecDepth 4000
namespace Mine
set_option maxHeartbeats 4000000
set_option maxRecDepth 100000
theorem rest5_wp' {M : Model} (env : Env) : ∀ (Γ : Ctx) (Post : Fin → Pos → Shared → Prop) (Exc : Value → Pos → Shared → Prop) (p : Pos) (s : Shared),
    Sem.wp M Γ (do standAt ⟨6, 0, 6, 37⟩; eval sufV env) (fun v p' s' => Sem.wp M Γ (rest6 env v) Post Exc p' s') (fun _ _ _ => False) p s → Sem.wp M Γ (rest (PP.main.body.drop 5) env) Post Exc p s := fun Γ Post Exc p s h => rest5_wp env Γ Post Exc p s h
/-- stmt 5 and all behind it, from a state that is known by its parts -/
theorem last_piece {w : World} {s : Shared} {th : Thread} {env : Env} {P : Result → Shared → Prop} (e1 : th.cur = rest (PP.main.body.drop 5) env) (e2 : th.stack.length = 1) (e3 : frameRet (topFrame th.stack) = true) (hc : codeOk s.heap env.code = true) (hlive : ∀ b, b < s.heap.objs.size → ∃ o, s.heap.get? b = some o)
    (h : ∀ O L p, O.isFreed = false → SObj w O suf5 5 → Leads (model PP w) { s with heap := ⟨s.heap.objs.push O, L⟩, toks := s.toks + 10 } ⟨rest6 env (.ref s.heap.objs.size), th.code, p, th.stack⟩ fun s₂ th₂ => ∃ fin c' p'', th₂ = ⟨leafOf fin, c', p'', []⟩ ∧ leftWithCleanup s₂.gens = false ∧ P fin s₂) :
    Leads (model PP w) s th fun s₂ th₂ => ∃ fin c' p'', th₂ = ⟨leafOf fin, c', p'', []⟩ ∧ P fin s₂ := by
  obtain ⟨k, hh, g, l, c₁, p₁, kp, hst⟩ := ret_of e2 e3
  obtain ⟨cur, code, pos, stack⟩ := th
  have e1 : cur = _ := e1
  have hst : stack = _ := hst
  subst e1 hst
  refine piece_leads' (A := aroundIn ((Ctx.of code []).over [.ret k hh g l c₁ p₁ kp])) (k5 := rest6 env) (t := do standAt ⟨6, 0, 6, 37⟩; eval sufV env) (Q := fun v s' => ∃ O L, O.isFreed = false ∧ SObj w O suf5 5 ∧ v = .ref s.heap.objs.size ∧ s' = { s with heap := ⟨s.heap.objs.push O, L⟩, toks := s.toks + 10 })
    (rest5_wp' env) (aroundIn_in _) (suf_eval hc hlive fun O L h1 h2 => ⟨O, L, h1, h2, rfl, rfl⟩) ?_
  rintro v s' p' ⟨O, L, h1, h2, rfl, rfl⟩
  exact h O L p' h1 h2

end Mine
end
section
open PySem PySem.Calls PyProof.Rows PySem.W PySem.Builtin PySem.Builtin.Str
set_option maxRecDepth 4000
namespace Mine
set_option maxHeartbeats 1000000
set_option maxRecDepth 100000
def opsL : List Nat := [15, 16, 17, 18, 19, 20, 21, 22, 23, 24, 25, 26]
def Ops.objs (z : Ops) : List Obj := [z.O, z.I, z.X, z.Y, z.O2, z.I2, z.X2, z.Y2, z.O3, z.I3, z.X3, z.Y3]
theorem lit_code (w : World) (z : Ops) (L : Life) : codeOk ⟨Array.mk (litD w z), L⟩ envL.code = true := by kernel_rfl
theorem lit_all (w : World) (z : Ops) : (litD w z).zipIdx.all (fun o => opsL.contains o.2 || !o.1.isFreed) = true := by kernel_rfl
theorem lit_ops (w : World) (z : Ops) : opsL.map (fun i => (Array.mk (litD w z))[i]?) = z.objs.map some := by kernel_rfl
theorem lit_size (w : World) (z : Ops) : (Array.mk (litD w z)).size = 28 := by kernel_rfl
theorem thread_of {th : Thread} {cur : Sem Fin} (e1 : th.cur = cur) (e2 : th.stack = []) : th = ⟨cur, th.code, th.pos, []⟩ := by rw [← e1, ← e2]
theorem last_stage {w : World} {os : OsState} {r : Run} {z : Ops} (o : ∀ s q, viewD w r s q = seenD w os z s) (hos : ∀ o ∈ z.objs, o.isFreed = false)
    (h : ∀ O5 L5 p K, O5.isFreed = false → SObj w O5 suf5 5 → Leads (model PP w) (SE w os z O5 L5) ⟨rest6 envL (.ref 28), codeL, p, K⟩ fun s₂ th₂ => ∃ p', th₂ = ⟨nextLeaf, codeL, p', K⟩ ∧ TopEnd w os s₂) :
    isRun r = true ∧ Leads (model PP w) (rS r) (rT r) fun s₂ th₂ => ∃ fin c' p'', th₂ = ⟨leafOf fin, c', p'', []⟩ ∧ (fin = .ok (.ret .none) ∧ TopEnd w os s₂) := by
  unfold viewD seenD at o
  obtain ⟨a, ab⟩ := Prod.mk.inj (o (rS r) (rT r).pos)
  obtain ⟨ab, _⟩ := Prod.mk.inj ab
  obtain ⟨e0, a⟩ := Prod.mk.inj a
  obtain ⟨e1, a⟩ := Prod.mk.inj a
  obtain ⟨e2, a⟩ := Prod.mk.inj a
  obtain ⟨e3, e4⟩ := Prod.mk.inj a
  obtain ⟨g1, ab⟩ := Prod.mk.inj ab
  obtain ⟨g2, ab⟩ := Prod.mk.inj ab
  obtain ⟨g3, ab⟩ := Prod.mk.inj ab
  obtain ⟨g4, g5⟩ := Prod.mk.inj ab
  have ot := fun s q => (Prod.mk.inj (Prod.mk.inj (o s q)).2).2
  clear o
  generalize rS r = s at *
  generalize rT r = th at *
  obtain ⟨⟨objs, life⟩, gens, drawn, toks, os'⟩ := s
  have g1 : toks = 303 := g1
  have g2 : gens = #[] := g2
  have g3 : drawn = boot_drawn := g3
  have g4 : os' = os := g4
  have g5 : objs = Array.mk (litD w z) := g5
  subst g1 g2 g3 g4 g5
  refine ⟨e0, last_piece (env := envL) (P := fun fin s₂ => fin = .ok (.ret .none) ∧ TopEnd w os' s₂) e1 e3 e4 (lit_code w z life) (live_ops (lit_all w z) (lit_ops w z) hos) fun O L p h1 h2 => ?_⟩
  have hl := h O L p th.stack h1 h2
  show Leads (model PP w) ⟨⟨(Array.mk (litD w z)).push O, L⟩, #[], boot_drawn, 303 + 10, os'⟩ ⟨rest6 envL (.ref (Array.mk (litD w z)).size), th.code, p, th.stack⟩ _
  rw [lit_size, e2, List.push_toArray]
  refine hl.then ?_
  rintro s₂ th₂ ⟨p', rfl, hE⟩
  have t := ot s₂ p'
  obtain ⟨t0, t⟩ := Prod.mk.inj t
  obtain ⟨t1, t⟩ := Prod.mk.inj t
  obtain ⟨t2, t3⟩ := Prod.mk.inj t
  refine Leads.next (run_tmm rfl t0) (Leads.here ⟨.ok (.ret .none), _, _, (thread_of t1 t2), ?_, rfl, ?_⟩)
  · rw [t3, hE.gens]; exact leftWithCleanup_false_of_bare AllBare.empty
  · rw [t3]; exact hE
theorem stD (w : World) (os : OsState) (b : Bool) (O I X Y : Obj) (c : Code) (p : Pos) (O2 I2 X2 Y2 : Obj) (c2 : Code) (p2 : Pos) (O3 I3 X3 Y3 : Obj) (c3 : Code) (p3 : Pos) (hos : ∀ o ∈ [O, I, X, Y, O2, I2, X2, Y2, O3, I3, X3, Y3], o.isFreed = false)
    (q1 : SObj (sgr w b) O dig10 10) (q2 : SObj (sgr w b) O2 hex22 22) (q3 : SObj (sgr w b) O3 oct8 8) :
    Leads (model PP (sgr w b)) (SD (sgr w b) os O I X Y c p O2 I2 X2 Y2 c2 p2 O3 I3 X3 Y3) ⟨leafNone, c3, p3, (rT (RC (sgr w b) os O I X Y c p O2 I2 X2 Y2 c2 p2)).stack⟩
      fun s₂ th₂ => ∃ fin c' p'', th₂ = ⟨leafOf fin, c', p'', []⟩ ∧ (fin = .ok (.ret .none) ∧ TopEnd (sgr w b) os s₂) := by
  have o := fun s q => obsD w os O I X Y c p O2 I2 X2 Y2 c2 p2 O3 I3 X3 Y3 c3 p3 s q b
  have e : RD (sgr w b) os O I X Y c p O2 I2 X2 Y2 c2 p2 O3 I3 X3 Y3 c3 p3 = (tmm (sgr w b)).runN 156 (SD (sgr w b) os O I X Y c p O2 I2 X2 Y2 c2 p2 O3 I3 X3 Y3) ⟨leafNone, c3, p3, (rT (RC (sgr w b) os O I X Y c p O2 I2 X2 Y2 c2 p2)).stack⟩ := by unfold RD; rfl
  generalize RD (sgr w b) os O I X Y c p O2 I2 X2 Y2 c2 p2 O3 I3 X3 Y3 c3 p3 = r at *
  obtain ⟨hr, h⟩ := last_stage o hos fun O5 L5 p5 K h1 h2 =>
    stE w os b ⟨O, I, X, Y, O2, I2, X2, Y2, O3, I3, X3, Y3⟩ O5 L5 p5 K (hos _ (by simp)) (hos _ (by simp)) (hos _ (by simp)) h1 q1 q2 q3 h2
  exact Leads.next (run_tmm e hr) h
theorem top_ends_b (w : World) (os : OsState) (b : Bool) : Leads (model PP (sgr w b)) (S0 (sgr w b) os) (topStub PP) fun s th => (∃ v c' p', th = ⟨leafOf (.ok (.ret v)), c', p', []⟩) ∧ leftWithCleanup s.gens = false ∧ TopEnd (sgr w b) os s := by
  refine (stA w os b).then ?_
  rintro _ _ ⟨O, I, X, Y, c, p, rfl, rfl, q1, a1, a2, a3, a4⟩
  refine (stB w os b O I X Y c p a1 a2 a3 a4).then ?_
  rintro _ _ ⟨O2, I2, X2, Y2, c2, p2, rfl, rfl, q2, b1, b2, b3, b4⟩
  refine (stC w os b O I X Y c p O2 I2 X2 Y2 c2 p2 ?_).then ?_
  · intro o ho
    simp only [List.mem_cons, List.not_mem_nil, or_false] at ho
    rcases ho with rfl | rfl | rfl | rfl | rfl | rfl | rfl | rfl <;> assumption
  rintro _ _ ⟨O3, I3, X3, Y3, c3, p3, rfl, rfl, q3, d1, d2, d3, d4⟩
  refine (stD w os b O I X Y c p O2 I2 X2 Y2 c2 p2 O3 I3 X3 Y3 c3 p3 ?_ q1 q2 q3).then ?_
  · intro o ho
    simp only [List.mem_cons, List.not_mem_nil, or_false] at ho
    rcases ho with rfl | rfl | rfl | rfl | rfl | rfl | rfl | rfl | rfl | rfl | rfl | rfl <;> assumption
  rintro s th ⟨fin, c', p'', rfl, rfl, hE⟩
  exact Leads.here ⟨⟨_, c', p'', rfl⟩, by rw [hE.gens]; exact leftWithCleanup_false_of_bare AllBare.empty, hE⟩
theorem top_ends (w : World) (os : OsState) : Leads (model PP w) (S0 w os) (topStub PP) fun s th => (∃ v c' p', th = ⟨leafOf (.ok (.ret v)), c', p', []⟩) ∧ leftWithCleanup s.gens = false ∧ TopEnd w os s := by
  have h := top_ends_b w os (w.params.followText "special-get-raises")
  rw [show sgr w (w.params.followText "special-get-raises") = w from World.withFollow_self w "special-get-raises"] at h
  exact h

end Mine
end
section
open PySem PySem.Calls PyProof.Rows PySem.W PySem.Builtin PySem.Builtin.Str
set_option maxRecDepth 4000
namespace Mine
open PySem.Challenge (rw_nm0005_01)
set_option maxHeartbeats 4000000
set_option maxRecDepth 100000
theorem pp_bare : PP.bare := ⟨rfl, rfl, rfl, rfl, rfl, by decide +kernel⟩
theorem pp_opensWell : opensWell PP = true := by decide +kernel
theorem pp_opening : opening PP = plainProg PP.main.scope.names := by kernel_rfl
theorem pp_fence : ∀ s, fenceModules? PP s = some s := fun s => by kernel_rfl
theorem and_both {a b : Bool} (h : a = true) (k : b = true) : (a && b) = true := by rw [h, k]; rfl
theorem pp_looks : looksOpen PP = true := by
  unfold looksOpen
  repeat' (with_reducible refine and_both ?_ ?_)
  all_goals decide +kernel
theorem row_part : rw_nm0005_01.row.partSaid = true := by
  unfold OpenRow.partSaid
  repeat' (with_reducible refine and_both ?_ ?_)
  · exact pp_looks
  all_goals decide +kernel
theorem row_said : rw_nm0005_01.row.wellSaid = true := by
  unfold OpenRow.wellSaid
  exact and_both (and_both row_part (by decide +kernel)) (by decide +kernel)
theorem rw_said : rw_nm0005_01.wellSaid = true := by
  unfold OpenLaw.wellSaid
  repeat' (with_reducible refine and_both ?_ ?_)
  · exact row_said
  all_goals decide +kernel
theorem row_promised : rw_nm0005_01.row.toRowW.promised := ⟨[.list []], by decide +kernel, by decide +kernel⟩
theorem pp_has_int {d : WData} (h : WShape.has [] d .int = true) : ∃ m, d = .int m := by
  cases d <;> first | exact ⟨_, rfl⟩ | exact absurd h Bool.false_ne_true
theorem pp_ints {cl : Str → Option Addr} {h : Heap} : ∀ {ms : List WData} {vs : List Value} {as : List Addr}, WShape.hasItems [] ms .int = true → ReadsAllW [] cl h vs ms as → ∃ ks : List Int, ks.length = ms.length ∧ ReadsAll h vs (ks.map PyData.int) []
  | [], vs, as, _, r => by cases r; exact ⟨[], rfl, .nil⟩
  | d :: ms, vs, as, hi, r => by
    unfold WShape.hasItems at hi
    obtain ⟨h1, h2⟩ := Bool.and_eq_true_iff.mp hi
    obtain ⟨m, rfl⟩ := pp_has_int h1
    cases r with
    | cons r1 r2 =>
      cases r1 with
      | int _ t =>
        obtain ⟨ks, e, rs⟩ := pp_ints h2 r2
        exact ⟨m :: ks, by rw [List.length_cons, List.length_cons, e], .cons (.int m t) rs⟩
theorem pp_list {d : WData} (h : WShape.has [] d (.list .int) = true) : ∃ ms, d = .list ms ∧ WShape.hasItems [] ms .int = true := by
  cases d <;> first | exact absurd h Bool.false_ne_true | exact ⟨_, rfl, (Bool.or_false _).symm.trans h⟩
/-- what the law's own condition says of its argument -/
theorem pp_pre {args : List WData} (h : rw_nm0005_01.row.toRowW.claim.pre args = true) : ∃ ms, args = [.list ms] ∧ WShape.hasItems [] ms .int = true ∧ ms.length ≤ 63 := by
  obtain ⟨h1, h2⟩ := pre_splitW h
  have h1 : WShape.hasAll [] args [.list .int] = true := h1
  obtain ⟨d, r, rfl, hd, hr⟩ := hasAllW_cons h1
  obtain rfl := hasAllW_nil hr
  obtain ⟨ms, rfl, hi⟩ := pp_list hd
  refine ⟨ms, rfl, hi, ?_⟩
  have h2 : WTm.holds [] (.and (.not (.lt (.lit (.int 63)) (.len (.arg 0)))) (.lit (.bool true))) { args := [.list ms] } = true := h2
  by_cases hc : (63 : Int) < ms.length
  · have hl : less? (.int 63) (.int ms.length) = some true := by
      have : less? (.int 63) (.int ms.length) = some (decide ((63 : Int) < ms.length)) := rfl
      rw [this, decide_eq_true hc]
    simp [WTm.holds, WTm.value, hl] at h2
  · omega
theorem pp_reads {cl : Str → Option Addr} {h : Heap} {ms : List WData} {vs : List Value} {as : List Addr} (hi : WShape.hasItems [] ms .int = true) (r : ReadsAllW [] cl h vs [.list ms] as) : ∃ v, ∃ ks : List Int, vs = [v] ∧ ks.length = ms.length ∧ AllIs h vs [.d (.list (ks.map PyData.int))] := by
  cases r with
  | cons r1 r2 =>
    cases r2
    cases r1 with
    | list h1 h2 h3 h4 =>
      obtain ⟨ks, e, rs⟩ := pp_ints hi h4
      exact ⟨_, ks, rfl, e, allIs_cons (by unfold LV.Is; exact ⟨_, .list h1 h2 h3 rs⟩) rfl⟩

end Mine
end
section
open PySem PySem.Calls PyProof.Rows PySem.W PySem.Builtin PySem.Builtin.Str
set_option maxRecDepth 4000
namespace Mine
set_option maxHeartbeats 1000000
set_option maxRecDepth 100000
theorem len_1 {l : List Value} (h : l.length = 1) : ∃ a, l = [a] := List.length_eq_one_iff.mp h
theorem len_2 {l : List Value} (h : l.length = 2) : ∃ a b, l = [a, b] := by
  cases l with
  | nil => cases h
  | cons a r => obtain ⟨b, rfl⟩ := len_1 (Nat.succ.inj h); exact ⟨a, b, rfl⟩
theorem len_3 {l : List Value} (h : l.length = 3) : ∃ a b c, l = [a, b, c] := by
  cases l with
  | nil => cases h
  | cons a r => obtain ⟨b, c, rfl⟩ := len_2 (Nat.succ.inj h); exact ⟨a, b, c, rfl⟩
theorem fn_of {B : Bs} (F : Fd) (i : Nat) (ps : List Str) (hmem : (F.name, i) ∈ fns) (hmg : B.mg = B.base.nsMap mainGlobals) (hfn : fns.map (fun x => B.base.shapeAt mainGlobals x.1) = fns.map (fun x => some (dR x).shape)) (hs : F.scope = sScope (stm i))
    (hbind : ∀ (pm cd doc : Value) (args : List Value), args.length = ps.length → bindArgs (Calls.docDef F.name (sArgs (stm i)) (sBody (stm i)) F.scope pm cd doc) ⟨args, []⟩ = pure (ps.zip args)) (co : F.scope.isCoroutine = false) (gen : F.scope.isGenerator = false) :
    ∃ a, B.mg F.name = some (.ref a) ∧ Nonempty (DefAt B a F ps (sBody (stm i))) := by
  have h : B.base.shapeAt mainGlobals F.name = some (dR (F.name, i)).shape := List.map_inj_left.mp hfn (F.name, i) hmem
  obtain ⟨a, o, pm, cd, doc, h1, h2, h3, h4⟩ := Heap.hasFn_of_shape (d := dR (F.name, i)) h
  refine ⟨a, by rw [hmg]; exact h1, ⟨⟨o, sArgs (stm i), pm, cd, doc, h2, ?_, h4, hbind pm cd doc, co, gen⟩⟩⟩
  rw [hs]
  exact h3
mutual
theorem reads_of_readsD {h : Heap} : ∀ (d : PyData) (v : Value), readsD h v d = true → ∃ as, Reads h v d as
  | .int j, v, e => by
    cases v with
    | int i t => 
      have e : decide (i = j) = true := e
      obtain rfl := of_decide_eq_true e
      exact ⟨_, .int i t⟩
    | _ => cases e
  | .str u, v, e => by
    cases v with
    | str s t =>
      have e : (s == u) = true := e
      obtain rfl := eq_of_beq e
      exact ⟨_, .str s t⟩
    | _ => cases e
  | .tuple ds, v, e => by
    cases v with
    | ref a =>
      unfold readsD at e
      dsimp only at e
      split at e
      · rename_i c dd vs n sl ho
        obtain ⟨e1, e2⟩ := Bool.and_eq_true_iff.mp e
        obtain rfl := eq_of_beq e1
        obtain ⟨as, r⟩ := reads_of_readsDs ds vs.toList e2
        exact ⟨as, .tuple ho rfl rfl r⟩
      · cases e
    | _ => cases e
  | .none, v, e => by cases v <;> cases e
  | .bool _, v, e => by cases v <;> cases e
  | .list _, v, e => by cases v <;> cases e
  | .dict _, v, e => by cases v <;> cases e
theorem reads_of_readsDs {h : Heap} : ∀ (ds : List PyData) (vs : List Value), readsDs h vs ds = true → ∃ as, ReadsAll h vs ds as
  | [], vs, e => by
    unfold readsDs at e
    obtain rfl := List.isEmpty_iff.mp e
    exact ⟨_, .nil⟩
  | d :: ds, vs, e => by
    cases vs with
    | nil => cases e
    | cons v vs =>
      unfold readsDs at e
      obtain ⟨e1, e2⟩ := Bool.and_eq_true_iff.mp e
      obtain ⟨as, r⟩ := reads_of_readsD d v e1
      obtain ⟨bs, q⟩ := reads_of_readsDs ds vs e2
      exact ⟨_, .cons r q⟩
end
theorem data_of {h : Heap} (e : dataOk h = true) {x : Str} {d : PyData} (hm : (x, d) ∈ datas) : ∃ v, h.nsMap mainGlobals x = some v ∧ (LV.d d).Is h v := by
  have := List.all_eq_true.mp e (x, d) hm
  dsimp only at this
  split at this
  · rename_i v hv
    exact ⟨v, hv, by unfold LV.Is; exact reads_of_readsD d v this⟩
  · cases this
theorem kview_some {v : Value} {x : Str} (h : some x = kview v) : ∃ t, v = .str x t := by
  cases v with
  | str y t =>
    have h : some x = some y := h
    obtain rfl := Option.some.inj h
    exact ⟨t, rfl⟩
  | _ => cases h
theorem vview_is {K : Heap} {v : Value} {d : PyData} (h : some d = vview v) : (LV.d d).Is K v := by
  unfold LV.Is
  cases v with
  | str y t =>
    have h : some d = some (.str y) := h
    obtain rfl := Option.some.inj h
    exact ⟨_, .str y t⟩
  | int i t =>
    have h : some d = some (.int i) := h
    obtain rfl := Option.some.inj h
    exact ⟨_, .int i t⟩
  | _ => cases h
theorem find_rows {hash : Str → Int} {x : Str} : ∀ (l : List DictEntry) (rows : List (Str × PyData)), l.map (fun e => (e.hash, kview e.key, vview e.val)) = rows.map (fun p => (hash p.1, some p.1, some p.2)) →
    (((l.find? fun e => Value.isStrOf x e.key).map (·.val)).isSome = (rows.find? fun p => x == p.1).isSome) ∧ ∀ v q, (l.find? fun e => Value.isStrOf x e.key).map (·.val) = some v → rows.find? (fun p => x == p.1) = some q → some q.2 = vview v
  | [], [], _ => ⟨rfl, fun v q h => (nomatch h)⟩
  | [], _ :: _, h => (nomatch h)
  | _ :: _, [], h => (nomatch h)
  | e :: l, p :: rows, h => by
    rw [List.map_cons, List.map_cons] at h
    obtain ⟨h1, h2⟩ := List.cons.inj h
    obtain ⟨_, h1⟩ := Prod.mk.inj h1
    obtain ⟨h3, h4⟩ := Prod.mk.inj h1
    obtain ⟨t, ht⟩ := kview_some h3.symm
    have hb : Value.isStrOf x e.key = (x == p.1) := by
      rw [ht]
      show (p.1 == x) = (x == p.1)
      by_cases hx : x = p.1
      · subst hx; rfl
      · have h5 : (p.1 == x) = false := by simp; exact Ne.symm hx
        have h6 : (x == p.1) = false := by simp [hx]
        rw [h5, h6]
    rw [List.find?_cons, List.find?_cons, hb]
    cases hx : (x == p.1) with
    | true =>
      refine ⟨rfl, fun v q hv hq => ?_⟩
      obtain rfl := Option.some.inj hv
      obtain rfl := Option.some.inj hq
      exact h4.symm
    | false => exact find_rows l rows h2
theorem map_of {w : World} {h : Heap} {a : Addr} {rows : List (Str × PyData)} (e : dview (h.get? a) = some (.type "dict", none, 0, rows.map fun p => (hashStr w p.1, some p.1, some p.2))) :
    ∃ f, h.MapOf (PySem.strKind PP w) a f ∧ ∀ x, (f x).isSome = (rows.find? fun p => x == p.1).isSome ∧ ∀ v q, f x = some v → rows.find? (fun p => x == p.1) = some q → some q.2 = vview v := by
  unfold dview at e
  split at e
  · rename_i c d es ep sl ho
    have e := Option.some.inj e
    obtain ⟨e1, e⟩ := Prod.mk.inj e
    obtain ⟨e2, e⟩ := Prod.mk.inj e
    obtain ⟨e3, e4⟩ := Prod.mk.inj e
    subst e1 e2
    obtain rfl := Array.eq_empty_of_size_eq_zero e3
    refine ⟨findBy Value.isStrOf es, ⟨_, es, ep, ho, ⟨rfl, rfl, rfl⟩, rfl, fun en hen => ?_, fun _ => rfl⟩, fun x => ?_⟩
    · have : (en.hash, kview en.key, vview en.val) ∈ rows.map (fun p => (hashStr w p.1, some p.1, some p.2)) := by
        rw [← e4]; exact List.mem_map.mpr ⟨en, Array.mem_toList_iff.mpr hen, rfl⟩
      obtain ⟨p, _, hp⟩ := List.mem_map.mp this
      obtain ⟨h1, hp⟩ := Prod.mk.inj hp
      obtain ⟨h2, _⟩ := Prod.mk.inj hp
      obtain ⟨t, ht⟩ := kview_some h2
      exact ⟨p.1, by rw [ht]; exact strKind_is _ _ _ _, h1.symm⟩
    · have := find_rows (x := x) es.toList rows e4
      unfold findBy
      rw [← Array.find?_toList]
      exact this
  · cases e
theorem bind_spliced (pm cd doc : Value) : ∀ args : List Value, args.length = (["text"] : List Str).length → bindArgs (Calls.docDef F_spliced.name (sArgs (stm 8)) (sBody (stm 8)) F_spliced.scope pm cd doc) ⟨args, []⟩ = pure ((["text"] : List Str).zip args) :=
  fun args h => by obtain ⟨a, rfl⟩ := len_1 h; kernel_rfl
theorem bind_number_parts (pm cd doc : Value) : ∀ args : List Value, args.length = (["text"] : List Str).length → bindArgs (Calls.docDef F_number_parts.name (sArgs (stm 9)) (sBody (stm 9)) F_number_parts.scope pm cd doc) ⟨args, []⟩ = pure ((["text"] : List Str).zip args) :=
  fun args h => by obtain ⟨a, rfl⟩ := len_1 h; kernel_rfl
theorem bind_escape_at (pm cd doc : Value) : ∀ args : List Value, args.length = (["inner", "at"] : List Str).length → bindArgs (Calls.docDef F_escape_at.name (sArgs (stm 10)) (sBody (stm 10)) F_escape_at.scope pm cd doc) ⟨args, []⟩ = pure ((["inner", "at"] : List Str).zip args) :=
  fun args h => by obtain ⟨a, b, rfl⟩ := len_2 h; kernel_rfl
theorem bind_literal_values (pm cd doc : Value) : ∀ args : List Value, args.length = (["text", "most"] : List Str).length → bindArgs (Calls.docDef F_literal_values.name (sArgs (stm 11)) (sBody (stm 11)) F_literal_values.scope pm cd doc) ⟨args, []⟩ = pure ((["text", "most"] : List Str).zip args) :=
  fun args h => by obtain ⟨a, b, rfl⟩ := len_2 h; kernel_rfl
theorem bind_literal_octets (pm cd doc : Value) : ∀ args : List Value, args.length = (["text"] : List Str).length → bindArgs (Calls.docDef F_literal_octets.name (sArgs (stm 12)) (sBody (stm 12)) F_literal_octets.scope pm cd doc) ⟨args, []⟩ = pure ((["text"] : List Str).zip args) :=
  fun args h => by obtain ⟨a, rfl⟩ := len_1 h; kernel_rfl
theorem bind_draw (pm cd doc : Value) : ∀ args : List Value, args.length = (["well", "size"] : List Str).length → bindArgs (Calls.docDef F_draw.name (sArgs (stm 22)) (sBody (stm 22)) F_draw.scope pm cd doc) ⟨args, []⟩ = pure ((["well", "size"] : List Str).zip args) :=
  fun args h => by obtain ⟨a, b, rfl⟩ := len_2 h; kernel_rfl
theorem bind_signs (pm cd doc : Value) : ∀ args : List Value, args.length = (["well", "most", "some"] : List Str).length → bindArgs (Calls.docDef F_signs.name (sArgs (stm 23)) (sBody (stm 23)) F_signs.scope pm cd doc) ⟨args, []⟩ = pure ((["well", "most", "some"] : List Str).zip args) :=
  fun args h => by obtain ⟨a, b, c, rfl⟩ := len_3 h; kernel_rfl
theorem bind_value (pm cd doc : Value) : ∀ args : List Value, args.length = (["digits", "base"] : List Str).length → bindArgs (Calls.docDef F_value.name (sArgs (stm 24)) (sBody (stm 24)) F_value.scope pm cd doc) ⟨args, []⟩ = pure ((["digits", "base"] : List Str).zip args) :=
  fun args h => by obtain ⟨a, b, rfl⟩ := len_2 h; kernel_rfl
theorem bind_number_due (pm cd doc : Value) : ∀ args : List Value, args.length = (["text"] : List Str).length → bindArgs (Calls.docDef F_number_due.name (sArgs (stm 25)) (sBody (stm 25)) F_number_due.scope pm cd doc) ⟨args, []⟩ = pure ((["text"] : List Str).zip args) :=
  fun args h => by obtain ⟨a, rfl⟩ := len_1 h; kernel_rfl
theorem bind_numbers_right (pm cd doc : Value) : ∀ args : List Value, args.length = (["well"] : List Str).length → bindArgs (Calls.docDef F_numbers_right.name (sArgs (stm 26)) (sBody (stm 26)) F_numbers_right.scope pm cd doc) ⟨args, []⟩ = pure ((["well"] : List Str).zip args) :=
  fun args h => by obtain ⟨a, rfl⟩ := len_1 h; kernel_rfl
theorem bind_escape_due (pm cd doc : Value) : ∀ args : List Value, args.length = (["inner", "at"] : List Str).length → bindArgs (Calls.docDef F_escape_due.name (sArgs (stm 27)) (sBody (stm 27)) F_escape_due.scope pm cd doc) ⟨args, []⟩ = pure ((["inner", "at"] : List Str).zip args) :=
  fun args h => by obtain ⟨a, b, rfl⟩ := len_2 h; kernel_rfl
theorem bind_escapes_right (pm cd doc : Value) : ∀ args : List Value, args.length = (["well"] : List Str).length → bindArgs (Calls.docDef F_escapes_right.name (sArgs (stm 28)) (sBody (stm 28)) F_escapes_right.scope pm cd doc) ⟨args, []⟩ = pure ((["well"] : List Str).zip args) :=
  fun args h => by obtain ⟨a, rfl⟩ := len_1 h; kernel_rfl
theorem bind_octets_due (pm cd doc : Value) : ∀ args : List Value, args.length = (["text"] : List Str).length → bindArgs (Calls.docDef F_octets_due.name (sArgs (stm 29)) (sBody (stm 29)) F_octets_due.scope pm cd doc) ⟨args, []⟩ = pure ((["text"] : List Str).zip args) :=
  fun args h => by obtain ⟨a, rfl⟩ := len_1 h; kernel_rfl
theorem bind_literals_right (pm cd doc : Value) : ∀ args : List Value, args.length = (["well"] : List Str).length → bindArgs (Calls.docDef F_literals_right.name (sArgs (stm 30)) (sBody (stm 30)) F_literals_right.scope pm cd doc) ⟨args, []⟩ = pure ((["well"] : List Str).zip args) :=
  fun args h => by obtain ⟨a, rfl⟩ := len_1 h; kernel_rfl
theorem bind_spliced_due (pm cd doc : Value) : ∀ args : List Value, args.length = (["text"] : List Str).length → bindArgs (Calls.docDef F_spliced_due.name (sArgs (stm 31)) (sBody (stm 31)) F_spliced_due.scope pm cd doc) ⟨args, []⟩ = pure ((["text"] : List Str).zip args) :=
  fun args h => by obtain ⟨a, rfl⟩ := len_1 h; kernel_rfl
theorem bind_rows_right (pm cd doc : Value) : ∀ args : List Value, args.length = (["well"] : List Str).length → bindArgs (Calls.docDef F_rows_right.name (sArgs (stm 32)) (sBody (stm 32)) F_rows_right.scope pm cd doc) ⟨args, []⟩ = pure ((["well"] : List Str).zip args) :=
  fun args h => by obtain ⟨a, rfl⟩ := len_1 h; kernel_rfl
theorem bind_law (pm cd doc : Value) : ∀ args : List Value, args.length = (["script"] : List Str).length → bindArgs (Calls.docDef F_law.name (sArgs (stm 33)) (sBody (stm 33)) F_law.scope pm cd doc) ⟨args, []⟩ = pure ((["script"] : List Str).zip args) :=
  fun args h => by obtain ⟨a, rfl⟩ := len_1 h; kernel_rfl
section
variable {B : Bs}
theorem at_spliced (hmg : B.mg = B.base.nsMap mainGlobals) (hfn : fns.map (fun x => B.base.shapeAt mainGlobals x.1) = fns.map (fun x => some (dR x).shape)) : ∃ a, B.mg F_spliced.name = some (.ref a) ∧ Nonempty (DefAt B a F_spliced ["text"] b_spliced) :=
  fn_of F_spliced 8 ["text"] (by decide +kernel) hmg hfn rfl (bind_spliced) (by decide +kernel) (by decide +kernel)
theorem at_number_parts (hmg : B.mg = B.base.nsMap mainGlobals) (hfn : fns.map (fun x => B.base.shapeAt mainGlobals x.1) = fns.map (fun x => some (dR x).shape)) : ∃ a, B.mg F_number_parts.name = some (.ref a) ∧ Nonempty (DefAt B a F_number_parts ["text"] b_number_parts) :=
  fn_of F_number_parts 9 ["text"] (by decide +kernel) hmg hfn rfl (bind_number_parts) (by decide +kernel) (by decide +kernel)
theorem at_escape_at (hmg : B.mg = B.base.nsMap mainGlobals) (hfn : fns.map (fun x => B.base.shapeAt mainGlobals x.1) = fns.map (fun x => some (dR x).shape)) : ∃ a, B.mg F_escape_at.name = some (.ref a) ∧ Nonempty (DefAt B a F_escape_at ["inner", "at"] b_escape_at) :=
  fn_of F_escape_at 10 ["inner", "at"] (by decide +kernel) hmg hfn rfl (bind_escape_at) (by decide +kernel) (by decide +kernel)
theorem at_literal_values (hmg : B.mg = B.base.nsMap mainGlobals) (hfn : fns.map (fun x => B.base.shapeAt mainGlobals x.1) = fns.map (fun x => some (dR x).shape)) : ∃ a, B.mg F_literal_values.name = some (.ref a) ∧ Nonempty (DefAt B a F_literal_values ["text", "most"] b_literal_values) :=
  fn_of F_literal_values 11 ["text", "most"] (by decide +kernel) hmg hfn rfl (bind_literal_values) (by decide +kernel) (by decide +kernel)
theorem at_literal_octets (hmg : B.mg = B.base.nsMap mainGlobals) (hfn : fns.map (fun x => B.base.shapeAt mainGlobals x.1) = fns.map (fun x => some (dR x).shape)) : ∃ a, B.mg F_literal_octets.name = some (.ref a) ∧ Nonempty (DefAt B a F_literal_octets ["text"] b_literal_octets) :=
  fn_of F_literal_octets 12 ["text"] (by decide +kernel) hmg hfn rfl (bind_literal_octets) (by decide +kernel) (by decide +kernel)
theorem at_draw (hmg : B.mg = B.base.nsMap mainGlobals) (hfn : fns.map (fun x => B.base.shapeAt mainGlobals x.1) = fns.map (fun x => some (dR x).shape)) : ∃ a, B.mg F_draw.name = some (.ref a) ∧ Nonempty (DefAt B a F_draw ["well", "size"] b_draw) :=
  fn_of F_draw 22 ["well", "size"] (by decide +kernel) hmg hfn rfl (bind_draw) (by decide +kernel) (by decide +kernel)
theorem at_signs (hmg : B.mg = B.base.nsMap mainGlobals) (hfn : fns.map (fun x => B.base.shapeAt mainGlobals x.1) = fns.map (fun x => some (dR x).shape)) : ∃ a, B.mg F_signs.name = some (.ref a) ∧ Nonempty (DefAt B a F_signs ["well", "most", "some"] b_signs) :=
  fn_of F_signs 23 ["well", "most", "some"] (by decide +kernel) hmg hfn rfl (bind_signs) (by decide +kernel) (by decide +kernel)
theorem at_value (hmg : B.mg = B.base.nsMap mainGlobals) (hfn : fns.map (fun x => B.base.shapeAt mainGlobals x.1) = fns.map (fun x => some (dR x).shape)) : ∃ a, B.mg F_value.name = some (.ref a) ∧ Nonempty (DefAt B a F_value ["digits", "base"] b_value) :=
  fn_of F_value 24 ["digits", "base"] (by decide +kernel) hmg hfn rfl (bind_value) (by decide +kernel) (by decide +kernel)
theorem at_number_due (hmg : B.mg = B.base.nsMap mainGlobals) (hfn : fns.map (fun x => B.base.shapeAt mainGlobals x.1) = fns.map (fun x => some (dR x).shape)) : ∃ a, B.mg F_number_due.name = some (.ref a) ∧ Nonempty (DefAt B a F_number_due ["text"] b_number_due) :=
  fn_of F_number_due 25 ["text"] (by decide +kernel) hmg hfn rfl (bind_number_due) (by decide +kernel) (by decide +kernel)
theorem at_numbers_right (hmg : B.mg = B.base.nsMap mainGlobals) (hfn : fns.map (fun x => B.base.shapeAt mainGlobals x.1) = fns.map (fun x => some (dR x).shape)) : ∃ a, B.mg F_numbers_right.name = some (.ref a) ∧ Nonempty (DefAt B a F_numbers_right ["well"] b_numbers_right) :=
  fn_of F_numbers_right 26 ["well"] (by decide +kernel) hmg hfn rfl (bind_numbers_right) (by decide +kernel) (by decide +kernel)
theorem at_escape_due (hmg : B.mg = B.base.nsMap mainGlobals) (hfn : fns.map (fun x => B.base.shapeAt mainGlobals x.1) = fns.map (fun x => some (dR x).shape)) : ∃ a, B.mg F_escape_due.name = some (.ref a) ∧ Nonempty (DefAt B a F_escape_due ["inner", "at"] b_escape_due) :=
  fn_of F_escape_due 27 ["inner", "at"] (by decide +kernel) hmg hfn rfl (bind_escape_due) (by decide +kernel) (by decide +kernel)
theorem at_escapes_right (hmg : B.mg = B.base.nsMap mainGlobals) (hfn : fns.map (fun x => B.base.shapeAt mainGlobals x.1) = fns.map (fun x => some (dR x).shape)) : ∃ a, B.mg F_escapes_right.name = some (.ref a) ∧ Nonempty (DefAt B a F_escapes_right ["well"] b_escapes_right) :=
  fn_of F_escapes_right 28 ["well"] (by decide +kernel) hmg hfn rfl (bind_escapes_right) (by decide +kernel) (by decide +kernel)
theorem at_octets_due (hmg : B.mg = B.base.nsMap mainGlobals) (hfn : fns.map (fun x => B.base.shapeAt mainGlobals x.1) = fns.map (fun x => some (dR x).shape)) : ∃ a, B.mg F_octets_due.name = some (.ref a) ∧ Nonempty (DefAt B a F_octets_due ["text"] b_octets_due) :=
  fn_of F_octets_due 29 ["text"] (by decide +kernel) hmg hfn rfl (bind_octets_due) (by decide +kernel) (by decide +kernel)
theorem at_literals_right (hmg : B.mg = B.base.nsMap mainGlobals) (hfn : fns.map (fun x => B.base.shapeAt mainGlobals x.1) = fns.map (fun x => some (dR x).shape)) : ∃ a, B.mg F_literals_right.name = some (.ref a) ∧ Nonempty (DefAt B a F_literals_right ["well"] b_literals_right) :=
  fn_of F_literals_right 30 ["well"] (by decide +kernel) hmg hfn rfl (bind_literals_right) (by decide +kernel) (by decide +kernel)
theorem at_spliced_due (hmg : B.mg = B.base.nsMap mainGlobals) (hfn : fns.map (fun x => B.base.shapeAt mainGlobals x.1) = fns.map (fun x => some (dR x).shape)) : ∃ a, B.mg F_spliced_due.name = some (.ref a) ∧ Nonempty (DefAt B a F_spliced_due ["text"] b_spliced_due) :=
  fn_of F_spliced_due 31 ["text"] (by decide +kernel) hmg hfn rfl (bind_spliced_due) (by decide +kernel) (by decide +kernel)
theorem at_rows_right (hmg : B.mg = B.base.nsMap mainGlobals) (hfn : fns.map (fun x => B.base.shapeAt mainGlobals x.1) = fns.map (fun x => some (dR x).shape)) : ∃ a, B.mg F_rows_right.name = some (.ref a) ∧ Nonempty (DefAt B a F_rows_right ["well"] b_rows_right) :=
  fn_of F_rows_right 32 ["well"] (by decide +kernel) hmg hfn rfl (bind_rows_right) (by decide +kernel) (by decide +kernel)
theorem at_law (hmg : B.mg = B.base.nsMap mainGlobals) (hfn : fns.map (fun x => B.base.shapeAt mainGlobals x.1) = fns.map (fun x => some (dR x).shape)) : ∃ a, B.mg F_law.name = some (.ref a) ∧ Nonempty (DefAt B a F_law ["script"] b_law) :=
  fn_of F_law 33 ["script"] (by decide +kernel) hmg hfn rfl (bind_law) (by decide +kernel) (by decide +kernel)
end
theorem good_parts {h₀ h : Heap} (e : goodB h₀ h = true) : h.accountedOkI (importedModules PP.main.body) = true ∧ staticsOk (importedModules PP.main.body) h₀ h = true ∧ namesBound PP h = true ∧ laidKept h₀ h = true ∧ h.isNs mainGlobals = true ∧ h.isNs builtinsNs = true ∧ h.bmainOk = true ∧ h.noLimitOk = true ∧
    sysModules < h.objs.size ∧ dataOk h = true ∧ ∀ x ∈ hidden, h.nsMap mainGlobals x = none := by
  unfold goodB at e
  simp only [Bool.and_eq_true] at e
  obtain ⟨⟨⟨⟨⟨⟨⟨⟨⟨⟨e1, e2⟩, e3⟩, e4⟩, e5⟩, e6⟩, e7⟩, e8⟩, e9⟩, e10⟩, e11⟩ := e
  exact ⟨e1, e2, e3, e4, e5, e6, e7, e8, (Nat.blt_eq.mp e9), e10, fun x hx => Option.isNone_iff_eq_none.mp (List.all_eq_true.mp e11 x hx)⟩
theorem tp_of {w : World} {os : OsState} {s : Shared} (E : TopEnd w os s) : ∃ B : Bs, B.prog = PP ∧ B.w = w ∧ B.base = s.heap ∧ B.os = s.os ∧ Nonempty (Tp B) := by
  obtain ⟨_, _, _, _, hg, hb, _, hl, hlow, hd, hh⟩ := good_parts E.good
  let B : Bs := ⟨PP, w, s.heap, s.os, s.heap.nsMap mainGlobals, s.heap.nsMap builtinsNs, .of_isNs hg, .of_isNs hb, .of_ok hl⟩
  refine ⟨B, rfl, rfl, rfl, rfl, ?_⟩
  have hn := E.names
  have n0 : s.heap.nsMap mainGlobals "DIGITS" = some (.ref 15) := congrArg (fun x : List (Option Value) => x.headD none) hn
  have n1 : s.heap.nsMap mainGlobals "HEX_DIGITS" = some (.ref 19) := congrArg (fun x : List (Option Value) => (x.drop 1).headD none) hn
  have n2 : s.heap.nsMap mainGlobals "OCTAL_DIGITS" = some (.ref 23) := congrArg (fun x : List (Option Value) => (x.drop 2).headD none) hn
  have n3 : s.heap.nsMap mainGlobals "SUFFIXES" = some (.ref 28) := congrArg (fun x : List (Option Value) => (x.drop 3).headD none) hn
  have n4 : s.heap.nsMap mainGlobals "TRIGRAPHS" = some (.ref 27) := congrArg (fun x : List (Option Value) => (x.drop 4).headD none) hn
  have n5 : s.heap.nsMap mainGlobals "ESCAPES" = some (.ref 29) := congrArg (fun x : List (Option Value) => (x.drop 5).headD none) hn
  have mb : ∀ (x : Str) (v : Value), x ≠ "__name__" → bootBuiltins x = some v → B.mb x = some v := fun x v h1 h2 => (Heap.of_bltView hb E.blt x h1).trans h2
  obtain ⟨ft, Mt, Ht⟩ := map_of (w := w) (rows := threesL.map fun p => (tx [p.1], PyData.str (tx [p.2]))) (E.tri.trans (by unfold triRows; rw [List.map_map]; rfl))
  obtain ⟨fe, Me, He⟩ := map_of (w := w) (rows := shortsL.map fun p => (tx [p.1], PyData.int p.2)) (E.esc.trans (by unfold escRows; rw [List.map_map]; rfl))
  have Ht' : ∀ x, (ft x).isSome = (triOf x).isSome ∧ ∀ l v, triOf x = some l → ft x = some v → l.Is B.base v := fun x => by
    obtain ⟨a, b⟩ := Ht x
    have hk : (threesL.map fun p => (tx [p.1], PyData.str (tx [p.2]))).find? (fun p => x == p.1) = (threesL.find? fun p => x == tx [p.1]).map fun p => (tx [p.1], PyData.str (tx [p.2])) := List.find?_map ..
    rw [hk] at a b
    unfold triOf
    refine ⟨a.trans (by rw [Option.isSome_map, Option.isSome_map]), fun l v hl hv => ?_⟩
    obtain ⟨p, hp, rfl⟩ := Option.map_eq_some_iff.mp hl
    exact vview_is (b v _ hv (by rw [hp]; rfl))
  have He' : ∀ x, (fe x).isSome = (escOf x).isSome ∧ ∀ l v, escOf x = some l → fe x = some v → l.Is B.base v := fun x => by
    obtain ⟨a, b⟩ := He x
    have hk : (shortsL.map fun p => (tx [p.1], PyData.int p.2)).find? (fun p => x == p.1) = (shortsL.find? fun p => x == tx [p.1]).map fun p => (tx [p.1], PyData.int p.2) := List.find?_map ..
    rw [hk] at a b
    unfold escOf
    refine ⟨a.trans (by rw [Option.isSome_map, Option.isSome_map]), fun l v hl hv => ?_⟩
    obtain ⟨p, hp, rfl⟩ := Option.map_eq_some_iff.mp hl
    exact vview_is (b v _ hv (by rw [hp]; rfl))
  obtain ⟨a_spliced, g_spliced, ⟨d_spliced⟩⟩ := at_spliced (B := B) rfl E.fn
  obtain ⟨a_number_parts, g_number_parts, ⟨d_number_parts⟩⟩ := at_number_parts (B := B) rfl E.fn
  obtain ⟨a_escape_at, g_escape_at, ⟨d_escape_at⟩⟩ := at_escape_at (B := B) rfl E.fn
  obtain ⟨a_literal_values, g_literal_values, ⟨d_literal_values⟩⟩ := at_literal_values (B := B) rfl E.fn
  obtain ⟨a_literal_octets, g_literal_octets, ⟨d_literal_octets⟩⟩ := at_literal_octets (B := B) rfl E.fn
  obtain ⟨a_draw, g_draw, ⟨d_draw⟩⟩ := at_draw (B := B) rfl E.fn
  obtain ⟨a_signs, g_signs, ⟨d_signs⟩⟩ := at_signs (B := B) rfl E.fn
  obtain ⟨a_value, g_value, ⟨d_value⟩⟩ := at_value (B := B) rfl E.fn
  obtain ⟨a_number_due, g_number_due, ⟨d_number_due⟩⟩ := at_number_due (B := B) rfl E.fn
  obtain ⟨a_numbers_right, g_numbers_right, ⟨d_numbers_right⟩⟩ := at_numbers_right (B := B) rfl E.fn
  obtain ⟨a_escape_due, g_escape_due, ⟨d_escape_due⟩⟩ := at_escape_due (B := B) rfl E.fn
  obtain ⟨a_escapes_right, g_escapes_right, ⟨d_escapes_right⟩⟩ := at_escapes_right (B := B) rfl E.fn
  obtain ⟨a_octets_due, g_octets_due, ⟨d_octets_due⟩⟩ := at_octets_due (B := B) rfl E.fn
  obtain ⟨a_literals_right, g_literals_right, ⟨d_literals_right⟩⟩ := at_literals_right (B := B) rfl E.fn
  obtain ⟨a_spliced_due, g_spliced_due, ⟨d_spliced_due⟩⟩ := at_spliced_due (B := B) rfl E.fn
  obtain ⟨a_rows_right, g_rows_right, ⟨d_rows_right⟩⟩ := at_rows_right (B := B) rfl E.fn
  obtain ⟨a_law, g_law, ⟨d_law⟩⟩ := at_law (B := B) rfl E.fn
  obtain ⟨x_most, g_most, i_most⟩ := data_of hd (x := "MOST_OCTET") (by unfold datas; exact .head _)
  obtain ⟨x_figures, g_figures, i_figures⟩ := data_of hd (x := "_law_figures") (by unfold datas; exact .tail _ (.head _))
  obtain ⟨x_after, g_after, i_after⟩ := data_of hd (x := "_law_after") (by unfold datas; exact .tail _ (.tail _ (.head _)))
  obtain ⟨x_endings, g_endings, i_endings⟩ := data_of hd (x := "_law_endings") (by unfold datas; exact .tail _ (.tail _ (.tail _ (.head _))))
  obtain ⟨x_spoilt, g_spoilt, i_spoilt⟩ := data_of hd (x := "_law_spoilt") (by unfold datas; exact .tail _ (.tail _ (.tail _ (.tail _ (.head _)))))
  obtain ⟨x_plain, g_plain, i_plain⟩ := data_of hd (x := "_law_plain") (by unfold datas; exact .tail _ (.tail _ (.tail _ (.tail _ (.tail _ (.head _))))))
  obtain ⟨x_torn, g_torn, i_torn⟩ := data_of hd (x := "_law_torn") (by unfold datas; exact .tail _ (.tail _ (.tail _ (.tail _ (.tail _ (.tail _ (.head _)))))))
  obtain ⟨x_shorts, g_shorts, i_shorts⟩ := data_of hd (x := "_law_shorts") (by unfold datas; exact .tail _ (.tail _ (.tail _ (.tail _ (.tail _ (.tail _ (.tail _ (.head _))))))))
  obtain ⟨x_threes, g_threes, i_threes⟩ := data_of hd (x := "_law_threes") (by unfold datas; exact .tail _ (.tail _ (.tail _ (.tail _ (.tail _ (.tail _ (.tail _ (.tail _ (.head _)))))))))
  exact ⟨{ a_spliced := a_spliced, g_spliced := g_spliced, d_spliced := d_spliced, a_number_parts := a_number_parts, g_number_parts := g_number_parts, d_number_parts := d_number_parts, a_escape_at := a_escape_at, g_escape_at := g_escape_at, d_escape_at := d_escape_at, a_literal_values := a_literal_values, g_literal_values := g_literal_values, d_literal_values := d_literal_values, a_literal_octets := a_literal_octets, g_literal_octets := g_literal_octets, d_literal_octets := d_literal_octets, a_draw := a_draw, g_draw := g_draw, d_draw := d_draw, a_signs := a_signs, g_signs := g_signs, d_signs := d_signs, a_value := a_value, g_value := g_value, d_value := d_value, a_number_due := a_number_due, g_number_due := g_number_due, d_number_due := d_number_due, a_numbers_right := a_numbers_right, g_numbers_right := g_numbers_right, d_numbers_right := d_numbers_right, a_escape_due := a_escape_due, g_escape_due := g_escape_due, d_escape_due := d_escape_due, a_escapes_right := a_escapes_right, g_escapes_right := g_escapes_right, d_escapes_right := d_escapes_right, a_octets_due := a_octets_due, g_octets_due := g_octets_due, d_octets_due := d_octets_due, a_literals_right := a_literals_right, g_literals_right := g_literals_right, d_literals_right := d_literals_right, a_spliced_due := a_spliced_due, g_spliced_due := g_spliced_due, d_spliced_due := d_spliced_due, a_rows_right := a_rows_right, g_rows_right := g_rows_right, d_rows_right := d_rows_right, a_law := a_law, g_law := g_law, d_law := d_law, n_len := hh _ (by decide +kernel), m_len := mb _ _ (by decide +kernel) (by kernel_rfl), n_ord := hh _ (by decide +kernel), m_ord := mb _ _ (by decide +kernel) (by kernel_rfl), n_sum := hh _ (by decide +kernel), m_sum := mb _ _ (by decide +kernel) (by kernel_rfl), n_max := hh _ (by decide +kernel), m_max := mb _ _ (by decide +kernel) (by kernel_rfl), n_int := hh _ (by decide +kernel), m_int := mb _ _ (by decide +kernel) (by kernel_rfl), n_range := hh _ (by decide +kernel), m_range := mb _ _ (by decide +kernel) (by kernel_rfl), n_enumerate := hh _ (by decide +kernel), m_enumerate := mb _ _ (by decide +kernel) (by kernel_rfl), s_dig := 15, g_dig := n0, S_dig := E.dig, s_hex := 19, g_hex := n1, S_hex := E.hex, s_oct := 23, g_oct := n2, S_oct := E.oct, s_suf := 28, g_suf := n3, S_suf := E.suf, t_tri := 27, g_tri := n4, v_tri := ft, M_tri := Mt, h_tri := Ht', ns_tri := by decide +kernel, t_esc := 29, g_esc := n5, v_esc := fe, M_esc := Me, h_esc := He', ns_esc := by decide +kernel, x_most := x_most, g_most := g_most, i_most := i_most, x_figures := x_figures, g_figures := g_figures, i_figures := i_figures, x_after := x_after, g_after := g_after, i_after := i_after, x_endings := x_endings, g_endings := g_endings, i_endings := i_endings, x_spoilt := x_spoilt, g_spoilt := g_spoilt, i_spoilt := i_spoilt, x_plain := x_plain, g_plain := g_plain, i_plain := i_plain, x_torn := x_torn, g_torn := g_torn, i_torn := i_torn, x_shorts := x_shorts, g_shorts := g_shorts, i_shorts := i_shorts, x_threes := x_threes, g_threes := g_threes, i_threes := i_threes }⟩

end Mine
end
section
open PySem PySem.Calls PyProof.Rows PySem.W PySem.Builtin PySem.Builtin.Str
set_option maxRecDepth 4000
namespace Mine
set_option maxHeartbeats 1000000
set_option maxRecDepth 100000
theorem TopEnd.congr {w : World} {os : OsState} {s s' : Shared} (E : TopEnd w os s) (eh : s'.heap = s.heap) (eg : s'.gens = #[]) (eo : s'.os = s.os) : TopEnd w os s' := by
  obtain ⟨h1, h2, h3, h4, h5, h6, h7, h8, h9, h10, h11, h12, h13⟩ := E
  rw [← eh] at h3 h4 h5 h6 h7 h8 h9 h10 h11 h12 h13
  exact ⟨eg, eo.trans h2, h3, h4, h5, h6, h7, h8, h9, h10, h11, h12, h13⟩
theorem boot_size (P : Params) : (boot_heap P).objs.size = 11 := by kernel_rfl
theorem boot_ann (P : Params) : (boot_heap P).isNs mainGlobals = true ∧ (boot_heap P).nsMap mainGlobals "__annotations__" = some (.ref 6) := ⟨by kernel_rfl, by kernel_rfl⟩
theorem stays_all : ∀ b, b < 11 → b ∈ stays ∨ b = mainNs ∨ b = cStatics ∨ b = 6 := by decide +kernel
theorem law_def : PP.theDef "law" = some (sArgs (stm 33), sBody (stm 33), sScope (stm 33)) := by kernel_rfl
theorem top_ran {w : World} {os : OsState} (hz : (S0 w os).asleep) : ∃ s₁, TopRan PP w (S0 w os) s₁ ∧ s₁.asleep ∧ TopEnd w os s₁ := by
  obtain ⟨n, s', th', e, hv, hl, hE⟩ := top_ends w os
  obtain ⟨n₂, s₂, t₂, hs, ht, hf⟩ := top_sched (s₁ := s') hz ⟨n, s', th', e, hv, hl, rfl⟩
  have hlife : s'.heap.life = (S0 w os).heap.life := runNI_life e
  obtain ⟨eh, _, _, eo, eg⟩ := Shared.forget_eq hf
  have eg : s₂.gens = #[] := by
    rw [hE.gens] at eg
    have := congrArg Array.size eg
    rw [Array.size_map, Array.size_map] at this
    exact Array.eq_empty_of_size_eq_zero (this.trans rfl)
  have E := hE.congr eh eg eo
  have hl2 : s₂.heap.life = (S0 w os).heap.life := by rw [eh]; exact hlife
  obtain ⟨g1, g2, g3, g4, hg, hb, g7, g8, g9, g10, g11⟩ := good_parts E.good
  refine ⟨s₂, ⟨⟨n₂, t₂, hs, ht⟩, hl2, Shared.rest_eq E.os_, fun b o ho hn => ?_, Heap.accountedI_of_ok g1, statics_of_ok g2, Pin.keysAreStrs_of hg, fun x hx => (Pin.builtinOf_eq hb x).trans (Heap.of_bltView hb E.blt x hx), ?_, fun g h => ?_, names_of_bound g3, laid_of_kept g4⟩, Shared.asleep_of_life hl2 hz, E⟩
  · have hlt : b < 11 := by
      have := Heap.lt_size ho
      rwa [show (S0 w os).heap.objs.size = 11 from boot_size w.params] at this
    rcases stays_all b hlt with h | h | h | h
    · have h1 := List.map_inj_left.mp E.stay b h
      obtain ⟨h2, h3⟩ := Heap.get?_some_iff.mp ho
      exact Heap.get?_some_iff.mpr ⟨h1.trans h2, h3⟩
    · exact absurd (.inl h) hn
    · exact absurd (.inr (.inl h)) hn
    · subst h
      exact absurd (.inr (.inr ((Pin.globalOf_eq (boot_ann w.params).1 _).trans (boot_ann w.params).2))) hn
  · obtain ⟨bm, ob, a, _, c, d, f, _⟩ := Heap.bmainOk_spec g7
    exact ⟨bm, ob, (Pin.globalOf_eq hg _).trans a, c, d, f⟩
  · rw [eg] at h
    exact absurd h (by simp)
theorem law_pinned {w : World} {os : OsState} {s : Shared} (E : TopEnd w os s) : isTheDefsW PP s.heap "law" := by
  obtain ⟨g1, g2, g3, g4, hg, _⟩ := good_parts E.good
  have h : s.heap.shapeAt mainGlobals "law" = some (dR ("law", 33)).shape := List.map_inj_left.mp E.fn ("law", 33) (by decide +kernel)
  obtain ⟨a, o, pm, cd, doc, h1, h2, h3, h4⟩ := Heap.hasFn_of_shape (d := dR ("law", 33)) h
  exact ⟨a, o, _, sArgs (stm 33), sBody (stm 33), sScope (stm 33), (Pin.globalOf_eq hg _).trans h1, h2, h3, law_def, rfl, rfl, rfl, rfl, rfl, rfl, rfl, rfl, .inl ⟨by kernel_rfl, rfl⟩, [], by kernel_rfl, .inl ⟨rfl, rfl⟩⟩

end Mine
end
section
open PySem PySem.Calls PyProof.Rows PySem.W PySem.Builtin PySem.Builtin.Str
set_option maxRecDepth 4000
namespace Mine
open PySem.Challenge (rw_nm0005_01)
set_option maxHeartbeats 1000000
set_option maxRecDepth 100000
theorem units_ok : callerA.units + 4 * 5 + 70 < cLine := by decide +kernel
theorem depth_ok : callerA.depth + 5 < recursionLimit := by decide +kernel
theorem size_63 : 63 ≤ sizeLine := by decide +kernel
theorem law_post (args : List WData) : rw_nm0005_01.row.toRowW.claim.post args (.bool true) args = true := by kernel_rfl
/-- a call of the law in a world in which the top has run -/
theorem law_call {w : World} {s s₁ : Shared} {f : Addr} {ks : List Int} {vs : List Value} {B : Bs} (e1 : B.prog = PP) (e2 : B.w = w) (e3 : B.base = s.heap) (e4 : B.os = s.os) (S : Spec B f 5 [.d (.list (ks.map .int))] [] fun l G' => l = .b true ∧ G' = [])
    (keeps : ∀ b o, s.heap.get? b = some o → s₁.heap.get? b = some o) (hg : s₁.gens = #[]) (ho : s₁.os = s.os) (hv : AllIs s₁.heap vs [.d (.list (ks.map .int))]) {cl : Str → Option Addr} {mean : ExcName → Option Value} {args : List WData} :
    codeAny (model PP w) callerA (.call (.ref f) ⟨vs, []⟩) (fun r s' => ∃ v, r = .ok (.ret v) ∧ GoodWG rw_nm0005_01.row.toRowW.claim cl mean args s₁ (.ok (.ret v)) s') s₁ := by
  rw [← e1, ← e2]
  refine S callerA s₁.heap s₁ vs rfl depth_ok units_ok ⟨fun _ _ e => e, fun b o e => keeps b o (by rw [← e3]; exact e), fun _ h => (nomatch h), fun _ h => (nomatch h), List.nodup_nil, hg, ho.trans e4.symm⟩ hv _ ?_
  rintro K' v s' _ _ hsub gi hnew hold _ ⟨rfl, rfl⟩ hl
  unfold LV.Is at hl
  obtain ⟨as, hl⟩ := hl
  cases hl with
  | bool _ =>
    exact ⟨_, rfl, .inl ⟨_, .bool true, [], rfl, fun _ => rfl, .bool true, law_post args, fun _ => ⟨List.nodup_nil, fun _ h => (nomatch h)⟩⟩, .of_keep fun b o e => hold b o e (by simp), gi.os.trans (e4.trans ho.symm), .of_eq gi.gens⟩
theorem rw_ident (a b : List Whence) : rw_nm0005_01.row.toRowW.claim.ident a b = true := ident_freeW rfl rfl rfl a b
theorem call_from {w : World} {os : OsState} {s₀ s : Shared} (hT : TopRan PP w s₀ s) (hz : s.asleep) (E : TopEnd w os s) :
    rw_nm0005_01.row.toRowW.claim.CallFrom (callStub "law") w (fun b => false = true ∧ madeByTheTop s₀ s b) (false = false) (fun h' => false = true → namesKept PP rw_nm0005_01.own s.heap h' ∧ ∀ x ∈ ([] : WRecords), ∀ a, classAt s.heap x.1 = some a → recordClass h' a x.1 (x.2.map (·.1)) = true) s := by
  refine ClaimW.callFrom_of_specG (c := rw_nm0005_01.row.toRowW.claim) hz E.gens fun args hpre hlay ord hord => ?_
  obtain ⟨⟨vs, s₁⟩, hlaid⟩ := Option.isSome_iff_exists.mp (layAllW_isSome (R := []) (P := w.params) (ord := ord) (cl := classAt s.heap) (fun c hc => (nomatch hc)) args rw_nm0005_01.row.toRowW.args s (pre_splitW hpre).1)
  have keeps := layAllW_keeps _ _ _ hlaid
  have hal := layAllW_rest _ _ _ hlaid
  obtain ⟨as, hrd, hin, hold⟩ := reads_layAllW hord _ _ _ hlaid hlay s₁.heap (fun _ _ e => e)
  have L : Laid [] w s s₁ args vs as := ⟨⟨ord, hord, hlaid⟩, hrd, hin, hold, keeps, hal.1.trans E.gens, hal.2.2.1⟩
  obtain ⟨ms, rfl, hi, hlen⟩ := pp_pre hpre
  obtain ⟨v, ks, _, hks, hv⟩ := pp_reads hi hrd
  obtain ⟨B, e1, e2, e3, e4, ⟨T⟩⟩ := tp_of E
  have hg := (good_parts E.good).2.2.2.2.1
  have G : s₁.heap.Ns mainGlobals (s.heap.nsMap mainGlobals) := Heap.Ns.keeps (.of_isNs hg) keeps
  have hf : s.heap.nsMap mainGlobals "law" = some (.ref T.a_law) := by
    have n1 := B.hmg
    rw [e3] at n1
    exact (Pin.globalOf_eq hg _).symm.trans ((PySem.Claim2Try.globalOf_of_ns n1 _).trans T.g_law)
  refine ⟨vs, s₁, hlaid, wpAny_bind (wpAny_nsGet G ?_)⟩
  rw [hf]
  have hS : Spec B T.a_law 5 [.d (.list (ks.map .int))] [] fun l G' => l = .b true ∧ G' = [] := law_spec T (by rw [hks]; exact Nat.le_trans hlen size_63)
  have hc := law_call (cl := classAt s.heap) (mean := ExcName.means s.heap) (args := [.list ms]) e1 e2 e3 e4 hS keeps L.gens L.os hv
  refine wpAny_bind (wpAny_call (codeAny_mono hc ?_))
  rintro r s' ⟨v, rfl, g⟩
  have z := g.laid (c := rw_nm0005_01.row.toRowW.claim) rfl rfl rw_ident L
  exact wpAny_pure ⟨_, rfl, z.1, z.2.1, z.2.2, fun q => (nomatch q)⟩
theorem pp_asleep {w : World} {s : Shared} (h : AfterRun (opening PP) w s) : s.asleep := AfterImport.life h
theorem behind_boot (w : World) : ∃ s, AfterRun (opening PP) w s ∧ ∃ os, s = S0 w os := by
  obtain ⟨s, hs, hv⟩ := Option.map_eq_some_iff.mp (boot_open (p := PP) (N := 600) pp_opening rfl pp_fence w)
  unfold fencedOpening at hs
  rw [← table_eq_tree] at hs
  obtain ⟨s', h1, h2⟩ := Option.bind_eq_some_iff.mp hs
  rw [pp_fence] at h2
  obtain rfl := Option.some.inj h2
  refine ⟨s', AfterImport.of_importEnds h1, s'.os, ?_⟩
  obtain ⟨heap, gens, drawn, toks, os⟩ := s'
  obtain ⟨h3, hv⟩ := Prod.mk.inj hv
  obtain ⟨h4, hv⟩ := Prod.mk.inj hv
  obtain ⟨h5, h6⟩ := Prod.mk.inj hv
  have h3 : heap = _ := h3
  have h4 : gens = _ := h4
  have h5 : drawn = _ := h5
  have h6 : toks = _ := h6
  subst h3 h4 h5 h6
  rfl
theorem nm_holds : rw_nm0005_01.Holds := by
  refine ⟨rw_said, row_said, row_promised, ⟨pp_bare, pp_opensWell, rfl⟩, row_promised.witness, fun w => ?_⟩
  obtain ⟨s, hA, os, he⟩ := behind_boot w
  refine ⟨⟨s, hA⟩, fun s' hs' => ?_⟩
  obtain rfl : s' = s := AfterImport.unique hs' hA
  have hz := pp_asleep hA
  subst he
  obtain ⟨s₁, hT, hz₁, E⟩ := top_ran hz
  exact ⟨_, pp_fence _, rfl, s₁, hT, fun n hn => by
    have hn : n ∈ [("law" : Str)] := hn
    rw [List.mem_singleton] at hn
    subst hn
    exact law_pinned E, fun x hx => (nomatch hx), fun x hx => (nomatch hx), call_from hT hz₁ E⟩

end Mine
end
set_option maxRecDepth 100000 in
set_option maxHeartbeats 8000000 in
theorem PySem.Challenge.cw_nm0005_01_holds : PySem.Challenge.rw_nm0005_01.Holds :=
  Mine.nm_holds
