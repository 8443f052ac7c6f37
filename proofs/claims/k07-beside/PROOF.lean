import PyProof.Rows.All
import Wide.All
import OpenK.AllK
import Wide.FinOn
import HandS.ForMost
import HandS.HotCalls
import HandS.ExcIs
import HandS.IsInst
import HandS.Walk
import HandS.Style
import HandS.TupMul
import HandS.Codes
import HandS.Deep
import PySem.Challenge.RW_fracgraph_k07_whole_beside
set_option Elab.async false
set_option linter.all false
set_option maxRecDepth 100000
set_option maxHeartbeats 4000000
/-! Fg1: data by value over the hand layer: bindings, results, the relation between a mirror's state and the machine's. -/
namespace Fg
open PySem PySem.Spec PyProof.Rows L2

abbrev D := PyData
abbrev Sl := L2.St
/-- an object that one variable owns -/
inductive Ob where
  | lst (ds : List D)
  | dct (kvs : List ((Int × Int) × D))
  | wlk (ds : List D) (k : Int)
  | ex (a : Addr)
inductive Bd where
  | v (d : D)
  | o (par : Bool) (ob : Ob)
abbrev En := List (Option Bd)
/-- the program's exceptions -/
inductive Ec where
  | fr | wo | ex | nu | ma | ne | pa | ab | to | eq | la | un | pe
  deriving DecidableEq
def Ec.nm : Ec → Str
  | .fr => "InvalidFraction" | .wo => "InvalidWord" | .ex => "InvalidExpansion" | .nu => "InvalidNumber" | .ma => "InvalidMatrix"
  | .ne => "NotNeighbours" | .pa => "NoParents" | .ab => "NotAbove" | .to => "IsTop" | .eq => "Equal" | .la => "TooLarge"
  | .un => "NothingToUndo" | .pe => "ParseError"
def Ec.ix : Ec → Int
  | .fr => 0 | .wo => 1 | .ex => 2 | .nu => 3 | .ma => 4 | .ne => 5 | .pa => 6 | .ab => 7 | .to => 8 | .eq => 9 | .la => 10 | .un => 11 | .pe => 12
inductive R (α : Type) where
  | ok (a : α) (r : En)
  | exc (e : Ec) (r : En)
  | bad
abbrev Mn (α : Type) := En → R α
@[inline] def ret {α : Type} (a : α) : Mn α := fun r => .ok a r
@[inline] def bnd {α β : Type} (c : Mn α) (f : α → Mn β) : Mn β := fun r => match c r with
  | .ok a r' => f a r'
  | .exc e r' => .exc e r'
  | .bad => .bad
@[inline] def lf {α : Type} (o : Option α) : Mn α := fun r => match o with
  | some a => .ok a r
  | none => .bad

/-- the written part and the module's names -/
structure Gm where
  K : PySem.W.Frag
  mg : Str → Option Value
def Gm.cls (G : Gm) (e : Ec) : Value := (G.mg e.nm).getD .none
abbrev Cx.gm (X : Cx) : Gm := ⟨X.K, X.mg⟩

/-! ### data that stands in a heap stays when the heap grows -/
theorem same_t {K : PySem.W.Frag} {H H' : Hp} {a : Addr} {xs : List V} (e : Same H H') (h : SqT K H a xs) : SqT K H' a xs := by
  rcases h with (h | ⟨o, h⟩) | h
  · exact .inl (.inl (e _ _ h))
  · exact .inl (.inr ⟨o, e _ _ h⟩)
  · exact .inr h
/-- the script as data: it is read alone -/
def scrD (ns : List Int) : D := .dict (ns.map fun n => (.int n, .none))
mutual
/-- v stands for the data d in the heap F -/
inductive Rp (K : PySem.W.Frag) (F : Hp) : V → D → Prop
  | non : Rp K F .non .none
  | bl (b : Bool) : Rp K F (.bl b) (.bool b)
  | int (i : Int) : Rp K F (.int i) (.int i)
  | str (x : Str) : Rp K F (.str x) (.str x)
  | lst {a : Addr} {xs : List V} {ds : List D} : F a = some (.lst xs) → RpA K F xs ds → Rp K F (.ref a) (.list ds)
  | tup {a : Addr} {xs : List V} {ds : List D} : SqT K F a xs → RpA K F xs ds → Rp K F (.ref a) (.tuple ds)
  | scr {a : Addr} {ns : List Int} : SqL K F a (ns.map V.int) → Rp K F (.ref a) (scrD ns)
inductive RpA (K : PySem.W.Frag) (F : Hp) : List V → List D → Prop
  | nil : RpA K F [] []
  | cons {v : V} {vs : List V} {d : D} {ds : List D} : Rp K F v d → RpA K F vs ds → RpA K F (v :: vs) (d :: ds)
end
mutual
theorem dp_mono {K : PySem.W.Frag} {H H' : Hp} (e : Same H H') : ∀ {v : V} {d : D}, Rp K H v d → Rp K H' v d
  | _, _, .non => .non
  | _, _, .bl b => .bl b
  | _, _, .int i => .int i
  | _, _, .str x => .str x
  | _, _, .lst h a => .lst (e _ _ h) (dpa_mono e a)
  | _, _, .tup h a => .tup (same_t e h) (dpa_mono e a)
  | _, _, .scr h => .scr (e.seq h)
theorem dpa_mono {K : PySem.W.Frag} {H H' : Hp} (e : Same H H') : ∀ {vs : List V} {ds : List D}, RpA K H vs ds → RpA K H' vs ds
  | _, _, .nil => .nil
  | _, _, .cons h t => .cons (dp_mono e h) (dpa_mono e t)
end
theorem dpa_len {K : PySem.W.Frag} {H : Hp} : ∀ {vs : List V} {ds : List D}, RpA K H vs ds → vs.length = ds.length
  | _, _, .nil => rfl
  | _, _, .cons _ t => congrArg (· + 1) (dpa_len t)
theorem dpa_get {K : PySem.W.Frag} {H : Hp} : ∀ {vs : List V} {ds : List D} {i : Nat} {d : D}, RpA K H vs ds → ds[i]? = some d → ∃ v, vs[i]? = some v ∧ Rp K H v d
  | _, _, _, _, .nil, h => by simp at h
  | _, _, 0, _, .cons h _, e => by
    simp at e
    subst e
    exact ⟨_, rfl, h⟩
  | _, _, i + 1, d, .cons _ t, e => by
    obtain ⟨v, a, b⟩ := dpa_get (i := i) (d := d) t (by simpa using e)
    exact ⟨v, by simpa using a, b⟩
theorem dpa_getV {K : PySem.W.Frag} {H : Hp} : ∀ {vs : List V} {ds : List D} {i : Nat} {v : V}, RpA K H vs ds → vs[i]? = some v → ∃ d, ds[i]? = some d ∧ Rp K H v d
  | _, _, _, _, .nil, h => by simp at h
  | _, _, 0, _, .cons h _, e => by
    simp at e
    subst e
    exact ⟨_, rfl, h⟩
  | _, _, i + 1, v, .cons _ t, e => by
    obtain ⟨d, a, b⟩ := dpa_getV (i := i) (v := v) t (by simpa using e)
    exact ⟨d, by simpa using a, b⟩
theorem dpa_app {K : PySem.W.Frag} {H : Hp} : ∀ {vs us : List V} {ds es : List D}, RpA K H vs ds → RpA K H us es → RpA K H (vs ++ us) (ds ++ es)
  | _, _, _, _, .nil, h => h
  | _, _, _, _, .cons a t, h => .cons a (dpa_app t h)
theorem dpa_drop {K : PySem.W.Frag} {H : Hp} : ∀ {vs : List V} {ds : List D} (n : Nat), RpA K H vs ds → RpA K H (vs.drop n) (ds.drop n)
  | _, _, 0, h => h
  | _, _, _ + 1, .nil => .nil
  | _, _, n + 1, .cons _ t => dpa_drop n t
theorem dpa_take {K : PySem.W.Frag} {H : Hp} : ∀ {vs : List V} {ds : List D} (n : Nat), RpA K H vs ds → RpA K H (vs.take n) (ds.take n)
  | _, _, 0, _ => .nil
  | _, _, _ + 1, .nil => .nil
  | _, _, n + 1, .cons h t => .cons h (dpa_take n t)
theorem dpa_set {K : PySem.W.Frag} {H : Hp} {x : V} {d : D} (h : Rp K H x d) : ∀ {vs : List V} {ds : List D} (n : Nat), RpA K H vs ds → RpA K H (vs.set n x) (ds.set n d)
  | _, _, _, .nil => .nil
  | _, _, 0, .cons _ t => .cons h t
  | _, _, n + 1, .cons a t => .cons a (dpa_set h n t)
theorem dpa_rev {K : PySem.W.Frag} {H : Hp} : ∀ {vs : List V} {ds : List D}, RpA K H vs ds → RpA K H vs.reverse ds.reverse
  | _, _, .nil => .nil
  | _, _, .cons h t => by
    rw [List.reverse_cons, List.reverse_cons]
    exact dpa_app (dpa_rev t) (.cons h .nil)
theorem dpa_dropLast {K : PySem.W.Frag} {H : Hp} {vs : List V} {ds : List D} (h : RpA K H vs ds) : RpA K H vs.dropLast ds.dropLast := by
  rw [List.dropLast_eq_take, List.dropLast_eq_take, dpa_len h]
  exact dpa_take _ h

/-! ### heaps -/
/-- from the world (F0, H0) to (F, H): what H0 had stands but at I; the frozen part has grown by new things alone -/
structure Ext (I : List Addr) (F0 H0 F H : Hp) : Prop where
  kb : ∀ a o, a ∉ I → H0 a = some o → H a = some o
  dm : ∀ a o, H0 a = some o → H a ≠ none
  ff : Same F0 F
  fh : Same F H
  nw : ∀ a o, H0 a = some o → F a = F0 a
theorem Ext.refl {I : List Addr} {F H : Hp} (h : Same F H) : Ext I F H F H :=
  ⟨fun _ _ _ e => e, fun _ _ e z => (nomatch e.symm.trans z), Same.refl _, h, fun _ _ _ => rfl⟩
theorem some_of_ne {α : Type} {o : Option α} (h : o ≠ none) : ∃ a, o = some a := by
  cases o with
  | none => exact absurd rfl h
  | some a => exact ⟨a, rfl⟩
theorem Ext.trans {I J : List Addr} {F0 H0 F H F' H' : Hp} (a : Ext I F0 H0 F H) (b : Ext J F H F' H') (hJ : ∀ x ∈ J, x ∈ I ∨ H0 x = none) : Ext I F0 H0 F' H' where
  kb := fun x o hx e => b.kb x o (fun hj => (hJ x hj).elim hx fun z => by rw [e] at z; cases z) (a.kb x o hx e)
  dm := fun x o e => by
    obtain ⟨o', e'⟩ := some_of_ne (a.dm x o e)
    exact b.dm x o' e'
  ff := a.ff.trans b.ff
  fh := b.fh
  nw := fun x o e => by
    obtain ⟨o', e'⟩ := some_of_ne (a.dm x o e)
    rw [b.nw x o' e']
    exact a.nw x o e
theorem Ext.free {I : List Addr} {F0 H0 F H : Hp} (a : Ext I F0 H0 F H) {p : Addr} (h : H p = none) : H0 p = none ∧ F p = none ∧ F0 p = none := by
  have f : F p = none := a.fh.free h
  refine ⟨?_, f, a.ff.free f⟩
  cases e : H0 p with
  | none => rfl
  | some o => exact absurd h (a.dm p o e)
theorem same_upd {H : Hp} {p : Addr} {o : HO} (h : H p = none) : Same H (upd H p o) := fun b x e => by
  rw [upd_ne (ne_of_none e h)]
  exact e
theorem same_upd2 {F H : Hp} {p : Addr} {o : HO} (s : Same F H) : Same (upd F p o) (upd H p o) := fun b x e => by
  by_cases hb : b = p
  · subst hb
    rw [upd_same] at e ⊢
    exact e
  · rw [upd_ne hb] at e ⊢
    exact s b x e
theorem same_skip {F H : Hp} {p : Addr} {o : HO} (s : Same F H) (h : F p = none) : Same F (upd H p o) := fun b x e => by
  rw [upd_ne (ne_of_none e h)]
  exact s b x e
/-- a new object, frozen at once -/
theorem Ext.new {F H : Hp} {p : Addr} {o : HO} (s : Same F H) (h : H p = none) : Ext [] F H (upd F p o) (upd H p o) where
  kb := fun a x _ e => same_upd h a x e
  dm := fun a x e z => by
    rw [same_upd h a x e] at z
    cases z
  ff := same_upd (s.free h)
  fh := same_upd2 s
  nw := fun a x e => upd_ne (ne_of_none e h)
/-- a new object, not frozen -/
theorem Ext.raw {F H : Hp} {p : Addr} {o : HO} (s : Same F H) (h : H p = none) : Ext [] F H F (upd H p o) where
  kb := fun a x _ e => same_upd h a x e
  dm := fun a x e z => by
    rw [same_upd h a x e] at z
    cases z
  ff := Same.refl _
  fh := same_skip s (s.free h)
  nw := fun _ _ _ => rfl

/-! ### what a variable owns -/
def keyOf (k : Int × Int) : List Key := [.inl k.1, .inl k.2]
inductive KvOk (G : Gm) (F : Hp) : List (List Key × V) → List ((Int × Int) × D) → Prop
  | nil : KvOk G F [] []
  | cons {k : Int × Int} {v : V} {d : D} {l : List (List Key × V)} {l' : List ((Int × Int) × D)} : Rp G.K F v d → KvOk G F l l' → KvOk G F ((keyOf k, v) :: l) ((k, d) :: l')
theorem KvOk.mono {G : Gm} {F F' : Hp} (s : Same F F') : ∀ {l : List (List Key × V)} {l' : List ((Int × Int) × D)}, KvOk G F l l' → KvOk G F' l l'
  | _, _, .nil => .nil
  | _, _, .cons h t => .cons (dp_mono s h) (t.mono s)
def OwnOk (G : Gm) (F H : Hp) (v : V) : Ob → List Addr → Prop
  | .lst ds, fp => ∃ p vs, v = .ref p ∧ fp = [p] ∧ H p = some (.lst vs) ∧ RpA G.K F vs ds
  | .dct kvs, fp => ∃ p l, v = .ref p ∧ fp = [p] ∧ H p = some (.dT l) ∧ KvOk G F l kvs
  | .wlk ds k, fp => ∃ a dx p vs C, v = .ref a ∧ fp = [a, dx, p] ∧ G.mg "Walker" = some (.ref C) ∧ H a = some (.ins C dx [("points", .ref p), ("kept", .int k)]) ∧ H dx = some (.own a) ∧ H p = some (.lst vs) ∧ RpA G.K F vs ds
  | .ex a, fp => v = .ref a ∧ fp = []
theorem OwnOk.mono {G : Gm} {F H F' H' : Hp} {v : V} {ob : Ob} {fp : List Addr} (h : OwnOk G F H v ob fp) (s : Same F F') (k : ∀ a ∈ fp, H' a = H a) : OwnOk G F' H' v ob fp := by
  cases ob with
  | lst ds =>
    obtain ⟨p, vs, e, rfl, hp, da⟩ := h
    exact ⟨p, vs, e, rfl, (k p (by simp)).trans hp, dpa_mono s da⟩
  | dct kvs =>
    obtain ⟨p, l, e, rfl, hp, da⟩ := h
    exact ⟨p, l, e, rfl, (k p (by simp)).trans hp, da.mono s⟩
  | wlk ds n =>
    obtain ⟨a, dx, p, vs, C, e, rfl, g, h1, h2, h3, da⟩ := h
    exact ⟨a, dx, p, vs, C, e, rfl, g, (k a (by simp)).trans h1, (k dx (by simp)).trans h2, (k p (by simp)).trans h3, dpa_mono s da⟩
  | ex a => exact h
theorem OwnOk.there {G : Gm} {F H : Hp} {v : V} {ob : Ob} {fp : List Addr} (h : OwnOk G F H v ob fp) : ∀ a ∈ fp, ∃ o, H a = some o := by
  intro a ha
  cases ob with
  | lst ds =>
    obtain ⟨p, vs, e, rfl, hp, da⟩ := h
    have : a = p := by simpa using ha
    subst this
    exact ⟨_, hp⟩
  | dct kvs =>
    obtain ⟨p, l, e, rfl, hp, da⟩ := h
    have : a = p := by simpa using ha
    subst this
    exact ⟨_, hp⟩
  | wlk ds n =>
    obtain ⟨x, dx, p, vs, C, e, rfl, g, h1, h2, h3, da⟩ := h
    have : a = x ∨ a = dx ∨ a = p := by simpa using ha
    rcases this with rfl | rfl | rfl
    · exact ⟨_, h1⟩
    · exact ⟨_, h2⟩
    · exact ⟨_, h3⟩
  | ex x =>
    obtain ⟨e, rfl⟩ := h
    cases ha

/-- the mirror's state r and the machine's: slots s, frozen part F, heap H, since the entry (s0, F0, H0); I: what may change of the entry's; fp: what each slot owns -/
structure RelF (G : Gm) (I : List Addr) (s0 : Sl) (F0 H0 : Hp) (r : En) (s : Sl) (F H : Hp) (fp : Nat → List Addr) : Prop where
  ext : Ext I F0 H0 F H
  val : ∀ (i : Nat) (d : D), r[i]? = some (some (Bd.v d)) → ∃ v, s[i]? = some (some v) ∧ Rp G.K F v d
  own : ∀ (i : Nat) (b : Bool) (ob : Ob), r[i]? = some (some (Bd.o b ob)) → ∃ v, s[i]? = some (some v) ∧ OwnOk G F H v ob (fp i)
  fre : ∀ (i : Nat) (b : Bool) (ob : Ob) (a : Addr), r[i]? = some (some (Bd.o b ob)) → a ∈ fp i → F a = none ∧ ((b = true ∧ a ∈ I) ∨ H0 a = none)
  dis : ∀ (i j : Nat) (bi : Bool) (oi : Ob) (bj : Bool) (oj : Ob) (a : Addr), r[i]? = some (some (Bd.o bi oi)) → r[j]? = some (some (Bd.o bj oj)) → a ∈ fp i → a ∈ fp j → i = j
  par : ∀ (i : Nat) (ob : Ob), r[i]? = some (some (Bd.o true ob)) → s[i]? = s0[i]?
  len : s.length = r.length
  ini : ∀ a ∈ I, ∃ o, H0 a = some o
def Rel (G : Gm) (I : List Addr) (s0 : Sl) (F0 H0 : Hp) (r : En) (s : Sl) (F H : Hp) : Prop := ∃ fp, RelF G I s0 F0 H0 r s F H fp
section
variable {G : Gm} {I : List Addr} {s0 s : Sl} {F0 H0 F H F' H' : Hp} {r : En}
theorem Rel.ext (h : Rel G I s0 F0 H0 r s F H) : Ext I F0 H0 F H := let ⟨_, h⟩ := h; h.ext
theorem Rel.fh (h : Rel G I s0 F0 H0 r s F H) : Same F H := h.ext.fh
theorem Rel.len (h : Rel G I s0 F0 H0 r s F H) : s.length = r.length := let ⟨_, h⟩ := h; h.len
theorem Rel.val {i : Nat} {d : D} (h : Rel G I s0 F0 H0 r s F H) (e : r[i]? = some (some (Bd.v d))) : ∃ v, s[i]? = some (some v) ∧ Rp G.K F v d := let ⟨_, h⟩ := h; h.val i d e
/-- the world has grown, nothing that is owned has changed -/
theorem RelF.grow {fp : Nat → List Addr} (h : RelF G I s0 F0 H0 r s F H fp) (x : Ext [] F H F' H') : RelF G I s0 F0 H0 r s F' H' fp := by
  refine ⟨h.ext.trans x (fun _ z => (nomatch z)), fun i d e => ?_, fun i b ob e => ?_, fun i b ob a e ha => ?_, h.dis, h.par, h.len, h.ini⟩
  · obtain ⟨v, h1, h2⟩ := h.val i d e
    exact ⟨v, h1, dp_mono x.ff h2⟩
  · obtain ⟨v, h1, h2⟩ := h.own i b ob e
    refine ⟨v, h1, h2.mono x.ff fun a ha => ?_⟩
    obtain ⟨o, ho⟩ := h2.there a ha
    rw [ho]
    exact x.kb a o (by simp) ho
  · obtain ⟨v, h1, h2⟩ := h.own i b ob e
    obtain ⟨o, ho⟩ := h2.there a ha
    exact ⟨(x.nw a o ho).trans (h.fre i b ob a e ha).1, (h.fre i b ob a e ha).2⟩
theorem Rel.grow (h : Rel G I s0 F0 H0 r s F H) (x : Ext [] F H F' H') : Rel G I s0 F0 H0 r s F' H' := let ⟨fp, h⟩ := h; ⟨fp, h.grow x⟩
/-- p is nobody's and is changed -/
theorem RelF.poke {fp : Nat → List Addr} {p : Addr} {o : HO} (h : RelF G I s0 F0 H0 r s F H fp) (h0 : H0 p = none) (hF : F p = none) (hn : ∀ (i : Nat) (b : Bool) (ob : Ob), r[i]? = some (some (Bd.o b ob)) → p ∉ fp i) : RelF G I s0 F0 H0 r s F (upd H p o) fp := by
  refine ⟨⟨fun a x ha e => ?_, fun a x e z => ?_, h.ext.ff, fun a x e => ?_, h.ext.nw⟩, h.val, fun i b ob e => ?_, h.fre, h.dis, h.par, h.len, h.ini⟩
  · rw [upd_ne (ne_of_none e h0)]
    exact h.ext.kb a x ha e
  · rw [upd_ne (ne_of_none e h0)] at z
    exact h.ext.dm a x e z
  · rw [upd_ne (ne_of_none e hF)]
    exact h.ext.fh a x e
  · obtain ⟨v, h1, h2⟩ := h.own i b ob e
    exact ⟨v, h1, h2.mono (Same.refl _) fun a ha => upd_ne (show a ≠ p from fun z => hn i b ob e (z ▸ ha))⟩
/-- p is nobody's and is frozen -/
theorem RelF.ice {fp : Nat → List Addr} {p : Addr} {o : HO} (h : RelF G I s0 F0 H0 r s F H fp) (h0 : H0 p = none) (hF : F p = none) (hp : H p = some o) (hn : ∀ (i : Nat) (b : Bool) (ob : Ob), r[i]? = some (some (Bd.o b ob)) → p ∉ fp i) : RelF G I s0 F0 H0 r s (upd F p o) H fp := by
  have sm : Same F (upd F p o) := fun b x e => by
    rw [upd_ne (ne_of_none e hF)]
    exact e
  refine ⟨⟨h.ext.kb, h.ext.dm, h.ext.ff.trans sm, fun a x e => ?_, fun a x e => ?_⟩, fun i d e => ?_, fun i b ob e => ?_, fun i b ob a e ha => ?_, h.dis, h.par, h.len, h.ini⟩
  · by_cases z : a = p
    · subst z
      rw [upd_same] at e
      rw [hp]
      exact e
    · rw [upd_ne z] at e
      exact h.ext.fh a x e
  · rw [upd_ne (ne_of_none e h0)]
    exact h.ext.nw a x e
  · obtain ⟨v, h1, h2⟩ := h.val i d e
    exact ⟨v, h1, dp_mono sm h2⟩
  · obtain ⟨v, h1, h2⟩ := h.own i b ob e
    exact ⟨v, h1, h2.mono sm fun _ _ => rfl⟩
  · refine ⟨?_, (h.fre i b ob a e ha).2⟩
    rw [upd_ne (show a ≠ p from fun z => hn i b ob e (z ▸ ha))]
    exact (h.fre i b ob a e ha).1
end

/-! ### readings that follow a mirror -/
/-- what is wanted of a mirror's result -/
def Post {α β : Type} (G : Gm) (W : WX) (rep : Hp → Sl → β → α → Prop) (I : List Addr) (s0 : Sl) (F0 H0 : Hp) (s : Sl) (F : Hp) (Q : β → Hp → Prop) : R α → Prop
  | .ok a r => ∀ x F' H', Rel G I s0 F0 H0 r s F' H' → Same F F' → rep F' s x a → Q x H'
  | .exc e r => ∀ F' H', Rel G I s0 F0 H0 r s F' H' → Same F F' → W (G.cls e) none s H'
  | .bad => False
def SG {α β : Type} (G : Gm) (W : WX) (rep : Hp → Sl → β → α → Prop) (t : Sl → Hp → (β → Hp → Prop) → Prop) (c : Mn α) : Prop :=
  ∀ (I : List Addr) (s0 : Sl) (F0 H0 : Hp) (r : En) (s : Sl) (F H : Hp), Rel G I s0 F0 H0 r s F H → ∀ Q : β → Hp → Prop, Post G W rep I s0 F0 H0 s F Q (c r) → t s H Q
/-- a value, a truth, arguments -/
def rpV (G : Gm) : Hp → Sl → V → D → Prop := fun F _ v d => Rp G.K F v d
def rpB : Hp → Sl → Bool → Bool → Prop := fun _ _ x a => x = a
def rpA (G : Gm) : Hp → Sl → List V → List D → Prop := fun F _ vs ds => RpA G.K F vs ds
/-- a value, or what the i-th slot owns -/
inductive Hv where
  | d (d : D)
  | ow (i : Nat)
def rpH (G : Gm) : Hp → Sl → V → Hv → Prop := fun F s v h => match h with
  | .d d => Rp G.K F v d
  | .ow i => s[i]? = some (some v)
def obD : Ob → Option D
  | .lst ds => some (.list ds)
  | _ => none
/-- its data, now -/
def peek (h : Hv) : Mn D := fun r => match h with
  | .d d => .ok d r
  | .ow i => match r[i]? with
    | some (some (Bd.o _ (.lst ds))) => .ok (.list ds) r
    | _ => .bad
structure ME (X : Cx) (W : WX) (e : Expr) (c : Mn D) : Prop where
  ex : ∃ t, PE X e t ∧ SG (Cx.gm X) W (rpV (Cx.gm X)) t c
structure MP (X : Cx) (W : WX) (e : Expr) (c : Mn Hv) : Prop where
  ex : ∃ t, PE X e t ∧ SG (Cx.gm X) W (rpH (Cx.gm X)) t c
structure MT (X : Cx) (W : WX) (e : Expr) (c : Mn Bool) : Prop where
  ex : ∃ t, PT X e t ∧ SG (Cx.gm X) W rpB t c
structure MA (X : Cx) (W : WX) (es : List Expr) (c : Mn (List D)) : Prop where
  ex : ∃ t, PA X es t ∧ SG (Cx.gm X) W (rpA (Cx.gm X)) t c
section
variable {G : Gm} {W : WX} {α β γ δ : Type}
/-- one after the other -/
theorem sg_bind {repA : Hp → Sl → β → α → Prop} {repB : Hp → Sl → δ → γ → Prop} {ta : Sl → Hp → (β → Hp → Prop) → Prop} {c : Mn α} {f : α → Mn γ} {tb : β → Sl → Hp → (δ → Hp → Prop) → Prop}
    (ha : SG G W repA ta c) (hb : ∀ (x : β) (a : α) (I : List Addr) (s0 : Sl) (F0 H0 : Hp) (r : En) (s : Sl) (F H : Hp), Rel G I s0 F0 H0 r s F H → repA F s x a → ∀ Q : δ → Hp → Prop, Post G W repB I s0 F0 H0 s F Q (f a r) → tb x s H Q) :
    SG G W repB (fun s H Q => ta s H fun x H1 => tb x s H1 Q) (bnd c f) := by
  intro I s0 F0 H0 r s F H rel Q h
  refine ha I s0 F0 H0 r s F H rel _ ?_
  unfold bnd at h
  cases e : c r with
  | bad =>
    rw [e] at h
    exact h
  | exc n r' =>
    rw [e] at h
    exact h
  | ok a r' =>
    rw [e] at h
    have h : Post G W repB I s0 F0 H0 s F Q (f a r') := h
    intro x F' H' rel' sm rx
    refine hb x a I s0 F0 H0 r' s F' H' rel' rx Q ?_
    revert h
    generalize f a r' = z
    intro h
    cases z with
    | bad => exact h
    | exc n r2 => exact fun F2 H2 rl s2 => h F2 H2 rl (sm.trans s2)
    | ok b r2 => exact fun y F2 H2 rl s2 ry => h y F2 H2 rl (sm.trans s2) ry
theorem post_ok {rep : Hp → Sl → β → α → Prop} {I : List Addr} {s0 : Sl} {F0 H0 : Hp} {r : En} {s : Sl} {F H : Hp} {Q : β → Hp → Prop} {a : α} {x : β} (h : Post G W rep I s0 F0 H0 s F Q (.ok a r)) (rel : Rel G I s0 F0 H0 r s F H) (rx : rep F s x a) : Q x H :=
  h x F H rel (Same.refl _) rx
end
end Fg
set_option maxRecDepth 100000
set_option maxHeartbeats 4000000
/-! Fg2: names, constants, operators, displays, subscripts. -/
namespace Fg
open PySem PySem.Spec PyProof.Rows L2

/-! ### an object beside what is owned is held -/
theorem Rel.hold {G : Gm} {I : List Addr} {s0 s : Sl} {F0 H0 F H : Hp} {r : En} {p : Addr} {o : HO} {fp : Nat → List Addr} (h : RelF G I s0 F0 H0 r s F H fp) (h0 : H0 p = none) (hp : H p = some o) (hF : F p = none) (hn : ∀ (i : Nat) (b : Bool) (ob : Ob), r[i]? = some (some (Bd.o b ob)) → p ∉ fp i) :
    Rel G I s0 F0 (upd H0 p o) r s F H := by
  have at_ : ∀ {a : Addr} {x : HO}, upd H0 p o a = some x → (a = p ∧ x = o) ∨ (a ≠ p ∧ H0 a = some x) := fun {a x} e => by
    by_cases z : a = p
    · subst z
      rw [upd_same] at e
      exact .inl ⟨rfl, (Option.some.inj e).symm⟩
    · rw [upd_ne z] at e
      exact .inr ⟨z, e⟩
  refine ⟨fp, ⟨fun a x ha e => ?_, fun a x e => ?_, h.ext.ff, h.ext.fh, fun a x e => ?_⟩, h.val, h.own, fun i b ob a e ha => ⟨(h.fre i b ob a e ha).1, ?_⟩, h.dis, h.par, h.len, fun a ha => ?_⟩
  · rcases at_ e with ⟨rfl, rfl⟩ | ⟨_, e⟩
    · exact hp
    · exact h.ext.kb a x ha e
  · rcases at_ e with ⟨rfl, rfl⟩ | ⟨_, e⟩
    · rw [hp]
      exact fun z => by cases z
    · exact h.ext.dm a x e
  · rcases at_ e with ⟨rfl, rfl⟩ | ⟨_, e⟩
    · rw [hF, h.ext.ff.free hF]
    · exact h.ext.nw a x e
  · rcases (h.fre i b ob a e ha).2 with z | z
    · exact .inl z
    · refine .inr ?_
      rw [upd_ne (show a ≠ p from fun q => hn i b ob e (q ▸ ha))]
      exact z
  · obtain ⟨x, e⟩ := h.ini a ha
    exact ⟨x, by rw [upd_ne (ne_of_none e h0)]; exact e⟩
/-- and let go -/
theorem Rel.drop {G : Gm} {I : List Addr} {s0 s : Sl} {F0 H0 F H : Hp} {r : En} {p : Addr} {o : HO} (h : Rel G I s0 F0 (upd H0 p o) r s F H) (h0 : H0 p = none) (hi : p ∉ I) :
    ∃ fp, RelF G I s0 F0 H0 r s F H fp ∧ H p = some o ∧ F p = F0 p ∧ ∀ (i : Nat) (b : Bool) (ob : Ob), r[i]? = some (some (Bd.o b ob)) → p ∉ fp i := by
  obtain ⟨fp, h⟩ := h
  have up : ∀ {a : Addr} {x : HO}, H0 a = some x → upd H0 p o a = some x := fun {a x} e => by
    rw [upd_ne (ne_of_none e h0)]
    exact e
  have no : ∀ {a : Addr}, upd H0 p o a = none → a ≠ p ∧ H0 a = none := fun {a} e => by
    by_cases z : a = p
    · subst z
      rw [upd_same] at e
      cases e
    · rw [upd_ne z] at e
      exact ⟨z, e⟩
  refine ⟨fp, ⟨⟨fun a x ha e => h.ext.kb a x ha (up e), fun a x e => h.ext.dm a x (up e), h.ext.ff, h.ext.fh, fun a x e => h.ext.nw a x (up e)⟩, h.val, h.own, fun i b ob a e ha => ⟨(h.fre i b ob a e ha).1, (h.fre i b ob a e ha).2.imp id fun z => (no z).2⟩, h.dis, h.par, h.len, fun a ha => ?_⟩,
    h.ext.kb p o hi upd_same, h.ext.nw p o upd_same, fun i b ob e hp => ?_⟩
  · obtain ⟨x, e⟩ := h.ini a ha
    by_cases z : a = p
    · exact absurd (z ▸ ha) hi
    · rw [upd_ne z] at e
      exact ⟨x, e⟩
  · rcases (h.fre i b ob p e hp).2 with z | z
    · exact hi z.2
    · exact (no z).1 rfl

/-! ### values now -/
inductive Pk (K : PySem.W.Frag) (F H : Hp) : V → D → Prop
  | fz {v : V} {d : D} : Rp K F v d → Pk K F H v d
  | ls {p : Addr} {vs : List V} {ds : List D} : H p = some (.lst vs) → RpA K F vs ds → Pk K F H (.ref p) (.list ds)
theorem Pk.rp {K : PySem.W.Frag} {F H : Hp} {v : V} {d : D} (s : Same F H) (h : Pk K F H v d) : Rp K H v d := by
  cases h with
  | fz h => exact dp_mono s h
  | ls h a => exact .lst h (dpa_mono s a)
theorem Pk.lst {K : PySem.W.Frag} {F H : Hp} {v : V} {ds : List D} (s : Same F H) (h : Pk K F H v (.list ds)) : ∃ p vs, v = .ref p ∧ H p = some (.lst vs) ∧ RpA K F vs ds := by
  cases h with
  | fz h =>
    cases h with
    | lst h a => exact ⟨_, _, rfl, s _ _ h, a⟩
  | ls h a => exact ⟨_, _, rfl, h, a⟩
theorem Pk.tup {K : PySem.W.Frag} {F H : Hp} {v : V} {ds : List D} (s : Same F H) (h : Pk K F H v (.tuple ds)) : ∃ p vs, v = .ref p ∧ SqT K H p vs ∧ RpA K F vs ds := by
  cases h with
  | fz h =>
    cases h with
    | tup h a => exact ⟨_, _, rfl, same_t s h, a⟩
theorem scrD_inj : ∀ {ns ms : List Int}, scrD ns = scrD ms → ns = ms
  | [], [], _ => rfl
  | [], _ :: _, h => by
    injection h with h
    cases h
  | _ :: _, [], h => by
    injection h with h
    cases h
  | n :: ns, m :: ms, h => by
    injection h with h
    injection h with h1 h2
    injection h1 with h1 _
    injection h1 with h1
    rw [h1, scrD_inj (ns := ns) (ms := ms) (congrArg PyData.dict h2)]
theorem Pk.scr {K : PySem.W.Frag} {F H : Hp} {v : V} {ns : List Int} (s : Same F H) (h : Pk K F H v (scrD ns)) : ∃ p, v = .ref p ∧ SqL K H p (ns.map V.int) := by
  generalize e : scrD ns = d at h
  cases h with
  | fz h =>
    cases h with
    | scr h =>
      have e := scrD_inj e
      subst e
      exact ⟨_, rfl, s.seq h⟩
    | _ => cases e
  | ls h a => cases e
theorem Pk.int {K : PySem.W.Frag} {F H : Hp} {v : V} {i : Int} (h : Pk K F H v (.int i)) : v = .int i := by
  cases h with
  | fz h =>
    cases h
    rfl
theorem Pk.bl {K : PySem.W.Frag} {F H : Hp} {v : V} {i : Bool} (h : Pk K F H v (.bool i)) : v = .bl i := by
  cases h with
  | fz h =>
    cases h
    rfl
theorem Pk.str {K : PySem.W.Frag} {F H : Hp} {v : V} {i : Str} (h : Pk K F H v (.str i)) : v = .str i := by
  cases h with
  | fz h =>
    cases h
    rfl
theorem Pk.non {K : PySem.W.Frag} {F H : Hp} {v : V} (h : Pk K F H v .none) : v = .non := by
  cases h with
  | fz h =>
    cases h
    rfl
section
variable {G : Gm} {I : List Addr} {s0 s : Sl} {F0 H0 F H F' H' : Hp} {r r' : En}
/-- what a peek tells -/
theorem peek_ok {h : Hv} {v : V} {d : D} (rel : Rel G I s0 F0 H0 r s F H) (rp : rpH G F s v h) (e : peek h r = .ok d r') : r' = r ∧ Pk G.K F H v d := by
  unfold peek at e
  cases h with
  | d d' =>
    injection e with e1 e2
    subst e1 e2
    exact ⟨rfl, .fz rp⟩
  | ow i =>
    dsimp only at e
    split at e
    · rename_i b ds he
      injection e with e1 e2
      subst e1 e2
      obtain ⟨fp, rf⟩ := rel
      obtain ⟨w, h1, p, vs, e3, _, h3, h4⟩ := rf.own i b _ he
      have ev : v = w := by
        have q : s[i]? = some (some v) := rp
        rw [h1] at q
        injection q with q
        injection q with q
        exact q.symm
      subst ev e3
      exact ⟨rfl, .ls h3 h4⟩
    · cases e
theorem peek_nx {h : Hv} {r r' : En} {e : Ec} (z : peek h r = .exc e r') : False := by
  unfold peek at z
  cases h with
  | d d' => cases z
  | ow i =>
    dsimp only at z
    split at z <;> cases z
theorem rpH_mono {h : Hv} {v : V} (s2 : Same F F') (rp : rpH G F s v h) : rpH G F' s v h := by
  cases h with
  | d d' => exact dp_mono s2 rp
  | ow i => exact rp
end

/-! ### operations on values -/
/-- from values that read as a, b: a value that is f a b, in a world that has grown -/
def OS2 (G : Gm) (rd : R2) (f : D → D → Option D) : Prop := ∀ (F H : Hp) (x y : V) (a b d : D) (Q : VK), Same F H → Pk G.K F H x a → Pk G.K F H y b → f a b = some d →
  (∀ v F' H', Ext [] F H F' H' → Rp G.K F' v d → Q v H') → rd x y H Q
def OS1 (G : Gm) (rd : V → Hp → VK → Prop) (f : D → Option D) : Prop := ∀ (F H : Hp) (x : V) (a d : D) (Q : VK), Same F H → Pk G.K F H x a → f a = some d →
  (∀ v F' H', Ext [] F H F' H' → Rp G.K F' v d → Q v H') → rd x H Q
/-- many arguments -/
def OSn (G : Gm) (rd : List V → Hp → VK → Prop) (f : List D → Option D) : Prop := ∀ (F H : Hp) (xs : List V) (as : List D) (d : D) (Q : VK), Same F H → RpA G.K F xs as → f as = some d →
  (∀ v F' H', Ext [] F H F' H' → Rp G.K F' v d → Q v H') → rd xs H Q
theorem orElse_some {α : Type} {o o' : Option α} {d : α} (e : (o.orElse fun _ => o') = some d) : o = some d ∨ o' = some d := by
  cases o with
  | some a => exact .inl e
  | none => exact .inr e
theorem OS2.or {G : Gm} {r r' : R2} {f f' : D → D → Option D} (h : OS2 G r f) (h' : OS2 G r' f') : OS2 G (fun x y H Q => r x y H Q ∨ r' x y H Q) (fun a b => (f a b).orElse fun _ => f' a b) := fun F H x y a b d Q s1 h1 h2 e k =>
  (orElse_some e).imp (fun z => h F H x y a b d Q s1 h1 h2 z k) fun z => h' F H x y a b d Q s1 h1 h2 z k
theorem OS1.or {G : Gm} {r r' : V → Hp → VK → Prop} {f f' : D → Option D} (h : OS1 G r f) (h' : OS1 G r' f') : OS1 G (fun x H Q => r x H Q ∨ r' x H Q) (fun a => (f a).orElse fun _ => f' a) := fun F H x a d Q s1 h1 e k =>
  (orElse_some e).imp (fun z => h F H x a d Q s1 h1 z k) fun z => h' F H x a d Q s1 h1 z k
theorem OSn.or {G : Gm} {r r' : List V → Hp → VK → Prop} {f f' : List D → Option D} (h : OSn G r f) (h' : OSn G r' f') : OSn G (fun x H Q => r x H Q ∨ r' x H Q) (fun a => (f a).orElse fun _ => f' a) := fun F H x a d Q s1 h1 e k =>
  (orElse_some e).imp (fun z => h F H x a d Q s1 h1 z k) fun z => h' F H x a d Q s1 h1 z k
def bin (f : D → D → Option D) (ca cb : Mn D) : Mn D := bnd ca fun x => bnd cb fun y => lf (f x y)
def binP (f : D → D → Option D) (ca cb : Mn Hv) : Mn D := bnd ca fun h => bnd cb fun k => bnd (peek h) fun x => bnd (peek k) fun y => lf (f x y)
def un1 (f : D → Option D) (ca : Mn D) : Mn D := bnd ca fun x => lf (f x)
def un1P (f : D → Option D) (ca : Mn Hv) : Mn D := bnd ca fun h => bnd (peek h) fun x => lf (f x)
def mh (c : Mn D) : Mn Hv := bnd c fun d => ret (.d d)
section
variable {G : Gm} {W : WX}
theorem post_lf {β : Type} {α : Type} {rep : Hp → Sl → β → α → Prop} {I : List Addr} {s0 : Sl} {F0 H0 : Hp} {r : En} {s : Sl} {F : Hp} {Q : β → Hp → Prop} {o : Option α} (h : Post G W rep I s0 F0 H0 s F Q (lf o r)) :
    ∃ a, o = some a ∧ ∀ x F' H', Rel G I s0 F0 H0 r s F' H' → Same F F' → rep F' s x a → Q x H' := by
  cases o with
  | none => exact h.elim
  | some a => exact ⟨a, rfl, h⟩
/-- a step of a chain whose end is wanted: P of the rest -/
theorem sg_run {α β γ : Type} {rep : Hp → Sl → β → α → Prop} {ta : Sl → Hp → (β → Hp → Prop) → Prop} {c : Mn α} {f : α → Mn γ} {P : R γ → Prop} {I : List Addr} {s0 : Sl} {F0 H0 : Hp} {r : En} {s : Sl} {F H : Hp} {K : β → Hp → Prop}
    (ha : SG G W rep ta c) (rel : Rel G I s0 F0 H0 r s F H) (h : P (bnd c f r)) (hx : ∀ e r', P (.exc e r') → ∀ F' H', Rel G I s0 F0 H0 r' s F' H' → Same F F' → W (G.cls e) none s H') (hb : ¬ P .bad)
    (k : ∀ x a r' F' H', Rel G I s0 F0 H0 r' s F' H' → Same F F' → rep F' s x a → P (f a r') → K x H') : ta s H K := by
  refine ha I s0 F0 H0 r s F H rel K ?_
  unfold bnd at h
  cases e : c r with
  | bad =>
    rw [e] at h
    exact hb h
  | exc n r' =>
    rw [e] at h
    exact hx n r' h
  | ok a r' =>
    rw [e] at h
    exact fun x F' H' rl sm rx => k x a r' F' H' rl sm rx h
/-- the same where the end is a value's -/
theorem sg_runE {α β γ δ : Type} {rep : Hp → Sl → β → α → Prop} {rep' : Hp → Sl → δ → γ → Prop} {ta : Sl → Hp → (β → Hp → Prop) → Prop} {c : Mn α} {f : α → Mn γ} {I : List Addr} {s0 : Sl} {F0 H0 : Hp} {r : En} {s : Sl} {B F H : Hp} {Q : δ → Hp → Prop} {K : β → Hp → Prop}
    (ha : SG G W rep ta c) (rel : Rel G I s0 F0 H0 r s F H) (sb : Same B F) (h : Post G W rep' I s0 F0 H0 s B Q (bnd c f r))
    (k : ∀ x a r' F' H', Rel G I s0 F0 H0 r' s F' H' → Same F F' → Same B F' → rep F' s x a → Post G W rep' I s0 F0 H0 s B Q (f a r') → K x H') : ta s H K :=
  sg_run (P := Post G W rep' I s0 F0 H0 s B Q) ha rel h (fun e r' z F' H' rl sm => z F' H' rl (sb.trans sm)) (fun z => z) fun x a r' F' H' rl sm rx z => k x a r' F' H' rl sm (sb.trans sm) rx z
theorem post_bad {β γ : Type} {rep : Hp → Sl → β → γ → Prop} {I : List Addr} {s0 : Sl} {F0 H0 : Hp} {s : Sl} {F : Hp} {Q : β → Hp → Prop} : ¬ Post G W rep I s0 F0 H0 s F Q .bad := fun h => h
/-- a peek within a chain -/
theorem peek_run {γ : Type} {P : R γ → Prop} {h : Hv} {f : D → Mn γ} {I : List Addr} {s0 : Sl} {F0 H0 : Hp} {r : En} {s : Sl} {F H : Hp} {v : V} (rel : Rel G I s0 F0 H0 r s F H) (rp : rpH G F s v h) (z : P (bnd (peek h) f r)) (hb : ¬ P .bad) : ∃ d, Pk G.K F H v d ∧ P (f d r) := by
  unfold bnd at z
  cases e : peek h r with
  | bad =>
    rw [e] at z
    exact absurd z hb
  | exc n r' => exact (peek_nx e).elim
  | ok d r' =>
    rw [e] at z
    obtain ⟨rfl, q⟩ := peek_ok rel rp e
    exact ⟨d, q, z⟩
theorem lf_run {α γ : Type} {P : R γ → Prop} {o : Option α} {f : α → Mn γ} {r : En} (z : P (bnd (lf o) f r)) (hb : ¬ P .bad) : ∃ a, o = some a ∧ P (f a r) := by
  unfold bnd lf at z
  cases o with
  | none => exact absurd z hb
  | some a => exact ⟨a, rfl, z⟩
theorem sg_op {rd : R2} {f : D → D → Option D} {ta tb : TE} {ca cb : Mn D} (os : OS2 G rd f) (ha : SG G W (rpV G) ta ca) (hb : SG G W (rpV G) tb cb) : SG G W (rpV G) (tOp rd ta tb) (bin f ca cb) := by
  intro I s0 F0 H0 r s F H rel Q h
  unfold tOp
  refine sg_runE ha rel (Same.refl _) h fun x a r1 F1 H1 rel1 s1 sb1 rx h1 => ?_
  refine sg_runE hb rel1 sb1 h1 fun y b r2 F2 H2 rel2 s2 sb2 ry h2 => ?_
  obtain ⟨d, e, k⟩ := post_lf h2
  exact os F2 H2 x y a b d Q rel2.fh (.fz (dp_mono s2 rx)) (.fz ry) e fun v F' H' x' dv => k v F' H' (rel2.grow x') (sb2.trans x'.ff) dv
theorem sg_opP {rd : R2} {f : D → D → Option D} {ta tb : TE} {ca cb : Mn Hv} (os : OS2 G rd f) (ha : SG G W (rpH G) ta ca) (hb : SG G W (rpH G) tb cb) : SG G W (rpV G) (tOp rd ta tb) (binP f ca cb) := by
  intro I s0 F0 H0 r s F H rel Q h
  unfold tOp
  refine sg_runE ha rel (Same.refl _) h fun x a r1 F1 H1 rel1 s1 sb1 rx h1 => ?_
  refine sg_runE hb rel1 sb1 h1 fun y b r2 F2 H2 rel2 s2 sb2 ry h2 => ?_
  obtain ⟨da, pa, h3⟩ := peek_run rel2 (rpH_mono s2 rx) h2 post_bad
  obtain ⟨db, pb, h4⟩ := peek_run rel2 ry h3 post_bad
  obtain ⟨d, e, k⟩ := post_lf h4
  exact os F2 H2 x y da db d Q rel2.fh pa pb e fun v F' H' x' dv => k v F' H' (rel2.grow x') (sb2.trans x'.ff) dv
theorem sg_un {rd : V → Hp → VK → Prop} {f : D → Option D} {ta : TE} {ca : Mn D} (os : OS1 G rd f) (ha : SG G W (rpV G) ta ca) : SG G W (rpV G) (tUn rd ta) (un1 f ca) := by
  intro I s0 F0 H0 r s F H rel Q h
  unfold tUn
  refine sg_runE ha rel (Same.refl _) h fun x a r1 F1 H1 rel1 s1 sb1 rx h1 => ?_
  obtain ⟨d, e, k⟩ := post_lf h1
  exact os F1 H1 x a d Q rel1.fh (.fz rx) e fun v F' H' x' dv => k v F' H' (rel1.grow x') (sb1.trans x'.ff) dv
theorem sg_unP {rd : V → Hp → VK → Prop} {f : D → Option D} {ta : TE} {ca : Mn Hv} (os : OS1 G rd f) (ha : SG G W (rpH G) ta ca) : SG G W (rpV G) (tUn rd ta) (un1P f ca) := by
  intro I s0 F0 H0 r s F H rel Q h
  unfold tUn
  refine sg_runE ha rel (Same.refl _) h fun x a r1 F1 H1 rel1 s1 sb1 rx h1 => ?_
  obtain ⟨da, pa, h3⟩ := peek_run rel1 rx h1 post_bad
  obtain ⟨d, e, k⟩ := post_lf h3
  exact os F1 H1 x da d Q rel1.fh pa e fun v F' H' x' dv => k v F' H' (rel1.grow x') (sb1.trans x'.ff) dv
end

/-! ### names, constants -/
def gv (i : Nat) : Mn D := fun r => match r[i]? with
  | some (some (.v d)) => .ok d r
  | _ => .bad
def go (i : Nat) : Mn Hv := fun r => match r[i]? with
  | some (some (.o _ _)) => .ok (.ow i) r
  | _ => .bad
section
variable {X : Cx} {W : WX} {e : Expr} {i : Nat}
theorem me_var (h : PE X e (tVar i)) : ME X W e (gv i) := by
  refine ⟨_, h, fun I s0 F0 H0 r s F H rel Q z => ?_⟩
  unfold gv at z
  split at z
  · rename_i d e
    obtain ⟨v, h1, h2⟩ := rel.val e
    exact ⟨v, h1, post_ok z rel h2⟩
  · exact z.elim
theorem mp_own (h : PE X e (tVar i)) : MP X W e (go i) := by
  refine ⟨_, h, fun I s0 F0 H0 r s F H rel Q z => ?_⟩
  unfold go at z
  split at z
  · rename_i b ob e
    obtain ⟨fp, rf⟩ := id rel
    obtain ⟨v, h1, h2⟩ := rf.own i b ob e
    exact ⟨v, h1, post_ok z rel h1⟩
  · exact z.elim
theorem mp_val {c : Mn D} (h : ME X W e c) : MP X W e (mh c) := by
  obtain ⟨t, h1, h2⟩ := h
  refine ⟨t, h1, fun I s0 F0 H0 r s F H rel Q z => ?_⟩
  exact sg_runE h2 rel (Same.refl _) z fun x a r1 F1 H1 rel1 s1 sb1 rx z1 => z1 x F1 H1 rel1 sb1 rx
theorem me_c {v : V} {d : D} (h : PE X e (tC v)) (hd : ∀ F : Hp, Rp X.K F v d) : ME X W e (ret d) :=
  ⟨_, h, fun I s0 F0 H0 r s F H rel Q z => post_ok z rel (hd F)⟩
theorem me_int {i : Int} {j : Nat} {pos : Pos} : ME X W (.Constant (.int i) j pos) (ret (.int i)) := me_c pe_int fun _ => .int i
theorem me_bl {b : Bool} {j : Nat} {pos : Pos} : ME X W (.Constant (.bool b) j pos) (ret (.bool b)) := me_c pe_bl fun _ => .bl b
theorem me_non {j : Nat} {pos : Pos} : ME X W (.Constant .none j pos) (ret .none) := me_c pe_non fun _ => .non
theorem me_str {x : Str} {j : Nat} {pos : Pos} : ME X W (.Constant (.str x) j pos) (ret (.str x)) := me_c pe_str fun _ => .str x
theorem me_bin {a b : Expr} {ca cb : Mn D} {op : Operator} {rd : R2} {f : D → D → Option D} {pos : Pos} (ho : OpR X (binaryOp op) rd) (os : OS2 (Cx.gm X) rd f) (ha : ME X W a ca) (hb : ME X W b cb) : ME X W (.BinOp a op b pos) (bin f ca cb) := by
  obtain ⟨ta, h1, h2⟩ := ha
  obtain ⟨tb, h3, h4⟩ := hb
  exact ⟨_, pe_op ho h1 h3, sg_op os h2 h4⟩
theorem me_binP {a b : Expr} {ca cb : Mn Hv} {op : Operator} {rd : R2} {f : D → D → Option D} {pos : Pos} (ho : OpR X (binaryOp op) rd) (os : OS2 (Cx.gm X) rd f) (ha : MP X W a ca) (hb : MP X W b cb) : ME X W (.BinOp a op b pos) (binP f ca cb) := by
  obtain ⟨ta, h1, h2⟩ := ha
  obtain ⟨tb, h3, h4⟩ := hb
  exact ⟨_, pe_op ho h1 h3, sg_opP os h2 h4⟩
theorem me_cmp {a b : Expr} {ca cb : Mn D} {op : CmpOp} {rd : R2} {f : D → D → Option D} {pos : Pos} (ho : OpR X (compareOp op) rd) (os : OS2 (Cx.gm X) rd f) (ha : ME X W a ca) (hb : ME X W b cb) (hm : behindInMarks op b = false) : ME X W (.Compare a [op] [b] pos) (bin f ca cb) := by
  obtain ⟨ta, h1, h2⟩ := ha
  obtain ⟨tb, h3, h4⟩ := hb
  exact ⟨_, pe_cmpR ho h1 h3 hm, sg_op os h2 h4⟩
theorem me_cmpP {a b : Expr} {ca cb : Mn Hv} {op : CmpOp} {rd : R2} {f : D → D → Option D} {pos : Pos} (ho : OpR X (compareOp op) rd) (os : OS2 (Cx.gm X) rd f) (ha : MP X W a ca) (hb : MP X W b cb) (hm : behindInMarks op b = false) : ME X W (.Compare a [op] [b] pos) (binP f ca cb) := by
  obtain ⟨ta, h1, h2⟩ := ha
  obtain ⟨tb, h3, h4⟩ := hb
  exact ⟨_, pe_cmpR ho h1 h3 hm, sg_opP os h2 h4⟩
end
/-! ### truth -/
def asB : D → Mn Bool := fun d => match d with
  | .bool b => ret b
  | _ => fun _ => .bad
section
variable {X : Cx} {W : WX} {a b c e : Expr}
theorem sg_tb {G : Gm} {te : TE} {ca : Mn D} (ha : SG G W (rpV G) te ca) : SG G W rpB (fun s H Q => te s H fun x H' => ∃ k, x = .bl k ∧ Q k H') (bnd ca asB) := by
  intro I s0 F0 H0 r s F H rel Q h
  refine sg_runE ha rel (Same.refl _) h fun x a r1 F1 H1 rel1 s1 sb1 rx h1 => ?_
  unfold asB at h1
  cases a with
  | bool k =>
    cases rx
    exact ⟨k, rfl, h1 k F1 H1 rel1 sb1 rfl⟩
  | _ => exact h1.elim
theorem mt_cmp {ca cb : Mn D} {op : CmpOp} {rd : R2} {f : D → D → Option D} {pos : Pos} (ho : OpR X (compareOp op) rd) (os : OS2 (Cx.gm X) rd f) (ha : ME X W a ca) (hb : ME X W b cb) (hm : behindInMarks op b = false) : MT X W (.Compare a [op] [b] pos) (bnd (bin f ca cb) asB) := by
  obtain ⟨ta, h1, h2⟩ := ha
  obtain ⟨tb, h3, h4⟩ := hb
  exact ⟨_, pt_cmpR ho h1 h3 hm, sg_tb (sg_op os h2 h4)⟩
theorem mt_cmpP {ca cb : Mn Hv} {op : CmpOp} {rd : R2} {f : D → D → Option D} {pos : Pos} (ho : OpR X (compareOp op) rd) (os : OS2 (Cx.gm X) rd f) (ha : MP X W a ca) (hb : MP X W b cb) (hm : behindInMarks op b = false) : MT X W (.Compare a [op] [b] pos) (bnd (binP f ca cb) asB) := by
  obtain ⟨ta, h1, h2⟩ := ha
  obtain ⟨tb, h3, h4⟩ := hb
  exact ⟨_, pt_cmpR ho h1 h3 hm, sg_tb (sg_opP os h2 h4)⟩
/-- any expression whose truth is asked in the common way -/
theorem mt_val {ca : Mn D} (ha : ME X W e ca) (he : ∀ whole, isTrue e X.env whole = (do let v ← whole; standAt e.pos; holding [v] (truthy v)) := by intro _; rfl) : MT X W e (bnd ca asB) := by
  obtain ⟨ta, h1, h2⟩ := ha
  exact ⟨_, pt_val h1 he, sg_tb h2⟩
def notM (c : Mn Bool) : Mn Bool := bnd c fun b => ret (!b)
def andM (c d : Mn Bool) : Mn Bool := bnd c fun b => if b then d else ret false
def orM (c d : Mn Bool) : Mn Bool := bnd c fun b => if b then ret true else d
theorem mt_not {ca : Mn Bool} {pos : Pos} (ha : MT X W a ca) : MT X W (.UnaryOp .Not a pos) (notM ca) := by
  obtain ⟨ta, h1, h2⟩ := ha
  refine ⟨_, pt_not h1, fun I s0 F0 H0 r s F H rel Q h => ?_⟩
  unfold tNot
  refine sg_runE h2 rel (Same.refl _) h fun x a r1 F1 H1 rel1 s1 sb1 rx h1 => ?_
  cases rx
  exact h1 _ F1 H1 rel1 sb1 rfl
/-- and | or as tests -/
structure MW (X : Cx) (W : WX) (e : Expr) (c : Mn Bool) : Prop where
  ex : ∃ t, PW X e t ∧ SG (Cx.gm X) W rpB t c
theorem mw_pt {ca : Mn Bool} (h : MW X W e ca) : MT X W e ca := by
  obtain ⟨t, h1, h2⟩ := h
  exact ⟨t, h1.pt, h2⟩
theorem mw_and1 {ca : Mn Bool} {pos : Pos} (h : MT X W a ca) : MW X W (.BoolOp .And [a] pos) ca := by
  obtain ⟨t, h1, h2⟩ := h
  exact ⟨t, pw_and1 h1, h2⟩
theorem mw_or1 {ca : Mn Bool} {pos : Pos} (h : MT X W a ca) : MW X W (.BoolOp .Or [a] pos) ca := by
  obtain ⟨t, h1, h2⟩ := h
  exact ⟨t, pw_or1 h1, h2⟩
theorem sg_and {G : Gm} {t u : TT} {ca cb : Mn Bool} (ha : SG G W rpB t ca) (hb : SG G W rpB u cb) : SG G W rpB (tAnd t u) (andM ca cb) := by
  intro I s0 F0 H0 r s F H rel Q h
  unfold tAnd
  refine sg_runE ha rel (Same.refl _) h fun x a r1 F1 H1 rel1 s1 sb1 rx h1 => ?_
  cases rx
  cases x with
  | true =>
    rw [if_pos rfl] at h1 ⊢
    refine hb I s0 F0 H0 r1 s F1 H1 rel1 Q ?_
    revert h1
    generalize cb r1 = z
    intro h1
    cases z with
    | bad => exact h1
    | exc n r2 => exact fun F2 H2 rl s2 => h1 F2 H2 rl (sb1.trans s2)
    | ok b r2 => exact fun y F2 H2 rl s2 ry => h1 y F2 H2 rl (sb1.trans s2) ry
  | false =>
    rw [if_neg Bool.false_ne_true] at h1 ⊢
    exact h1 _ F1 H1 rel1 sb1 rfl
theorem sg_or {G : Gm} {t u : TT} {ca cb : Mn Bool} (ha : SG G W rpB t ca) (hb : SG G W rpB u cb) : SG G W rpB (tOr t u) (orM ca cb) := by
  intro I s0 F0 H0 r s F H rel Q h
  unfold tOr
  refine sg_runE ha rel (Same.refl _) h fun x a r1 F1 H1 rel1 s1 sb1 rx h1 => ?_
  cases rx
  cases x with
  | false =>
    rw [if_neg Bool.false_ne_true] at h1 ⊢
    refine hb I s0 F0 H0 r1 s F1 H1 rel1 Q ?_
    revert h1
    generalize cb r1 = z
    intro h1
    cases z with
    | bad => exact h1
    | exc n r2 => exact fun F2 H2 rl s2 => h1 F2 H2 rl (sb1.trans s2)
    | ok b r2 => exact fun y F2 H2 rl s2 ry => h1 y F2 H2 rl (sb1.trans s2) ry
  | true =>
    rw [if_pos rfl] at h1 ⊢
    exact h1 _ F1 H1 rel1 sb1 rfl
theorem mw_and {ca cb : Mn Bool} {rest : List Expr} {pos : Pos} (h : MT X W a ca) (hb : MW X W (.BoolOp .And (b :: rest) pos) cb) : MW X W (.BoolOp .And (a :: b :: rest) pos) (andM ca cb) := by
  obtain ⟨t, h1, h2⟩ := h
  obtain ⟨u, h3, h4⟩ := hb
  exact ⟨_, pw_and h1 h3, sg_and h2 h4⟩
theorem mw_or {ca cb : Mn Bool} {rest : List Expr} {pos : Pos} (h : MT X W a ca) (hb : MW X W (.BoolOp .Or (b :: rest) pos) cb) : MW X W (.BoolOp .Or (a :: b :: rest) pos) (orM ca cb) := by
  obtain ⟨t, h1, h2⟩ := h
  obtain ⟨u, h3, h4⟩ := hb
  exact ⟨_, pw_or h1 h3, sg_or h2 h4⟩
end
end Fg
set_option maxRecDepth 100000
set_option maxHeartbeats 4000000
/-! Fg3: the operators' answers on data. -/
namespace Fg
open PySem PySem.Spec PyProof.Rows L2

theorem ext_same {F H : Hp} (s : Same F H) : Ext [] F H F H := Ext.refl s
theorem szl {n : Nat} (h : n ≤ 100000) : n ≤ sizeLine := Nat.le_trans h (by rw [sizeLine_eq]; decide)
theorem szlt {n : Nat} (h : n < 100000) : n < sizeLine := Nat.lt_of_lt_of_le h (by rw [sizeLine_eq]; decide)
/-! ### arithmetic -/
def iop (g : Int → Int → D) : D → D → Option D
  | .int i, .int j => some (g i j)
  | _, _ => none
theorem iop_some {g : Int → Int → D} {a b d : D} (h : iop g a b = some d) : ∃ i j, a = .int i ∧ b = .int j ∧ d = g i j := by
  unfold iop at h
  split at h
  · injection h with h
    exact ⟨_, _, rfl, rfl, h.symm⟩
  · cases h
theorem os_I0 {G : Gm} {g : Int → Int → Int} : OS2 G (rI0 fun i j => .int (g i j)) (iop fun i j => .int (g i j)) := by
  intro F H x y a b d Q s ha hb e k
  obtain ⟨i, j, rfl, rfl, rfl⟩ := iop_some e
  exact ⟨i, j, ha.int, hb.int, k _ F H (ext_same s) (.int _)⟩
theorem os_B0 {G : Gm} {g : Int → Int → Bool} : OS2 G (rI0 fun i j => .bl (g i j)) (iop fun i j => .bool (g i j)) := by
  intro F H x y a b d Q s ha hb e k
  obtain ⟨i, j, rfl, rfl, rfl⟩ := iop_some e
  exact ⟨i, j, ha.int, hb.int, k _ F H (ext_same s) (.bl _)⟩
def fSub : D → D → Option D := iop fun i j => .int (i - j)
def fLt : D → D → Option D := iop fun i j => .bool (decide (i < j))
def fLe : D → D → Option D := iop fun i j => .bool (decide (i ≤ j))
def fGt : D → D → Option D := iop fun i j => .bool (decide (j < i))
def fGe : D → D → Option D := iop fun i j => .bool (decide (j ≤ i))
section
variable {G : Gm}
theorem os_sub : OS2 G (rI0 fun i j => .int (i - j)) fSub := os_I0 (g := fun i j => i - j)
theorem os_lt : OS2 G (rI0 fun i j => .bl (decide (i < j))) fLt := os_B0 (g := fun i j => decide (i < j))
theorem os_le : OS2 G (rI0 fun i j => .bl (decide (i ≤ j))) fLe := os_B0 (g := fun i j => decide (i ≤ j))
theorem os_gt : OS2 G (rI0 fun i j => .bl (decide (j < i))) fGt := os_B0 (g := fun i j => decide (j < i))
theorem os_ge : OS2 G (rI0 fun i j => .bl (decide (j ≤ i))) fGe := os_B0 (g := fun i j => decide (j ≤ i))
/-- a new list, a new tuple, frozen -/
theorem new_lst {F H : Hp} {vs : List V} {ds : List D} {Q : VK} (s : Same F H) (ha : RpA G.K F vs ds) (k : ∀ v F' H', Ext [] F H F' H' → Rp G.K F' v (.list ds) → Q v H') : ∀ p, H p = none → Q (.ref p) (upd H p (.lst vs)) := fun p hp =>
  have x : Ext [] F H (upd F p (.lst vs)) (upd H p (.lst vs)) := Ext.new s hp
  k _ _ _ x (.lst upd_same (dpa_mono x.ff ha))
theorem new_tup {F H : Hp} {vs : List V} {ds : List D} {Q : VK} (s : Same F H) (ha : RpA G.K F vs ds) (k : ∀ v F' H', Ext [] F H F' H' → Rp G.K F' v (.tuple ds) → Q v H') : ∀ p, H p = none → Q (.ref p) (upd H p (.tup vs)) := fun p hp =>
  have x : Ext [] F H (upd F p (.tup vs)) (upd H p (.tup vs)) := Ext.new s hp
  k _ _ _ x (.tup (SqT.of upd_same) (dpa_mono x.ff ha))
/-! + -/
def fAdd : D → D → Option D
  | .int i, .int j => some (.int (i + j))
  | .str x, .str y => if x.length + y.length ≤ 100000 then some (.str (x ++ y)) else none
  | .list xs, .list ys => if xs.length + ys.length ≤ 100000 then some (.list (xs ++ ys)) else none
  | .tuple xs, .tuple ys => if xs.length + ys.length ≤ 100000 then (match xs with | [] => none | _ :: _ => some (.tuple (xs ++ ys))) else none
  | _, _ => none
def rPlus (K : PySem.W.Frag) : R2 := fun x y H Q => rI0 (fun i j => .int (i + j)) x y H Q ∨ (∃ i j, x = .str i ∧ y = .str j ∧ i.length + j.length ≤ sizeLine ∧ Q (.str (i ++ j)) H) ∨ rCat x y H Q ∨ rCatT K x y H Q
theorem op_plus {X : Cx} : OpR X (binaryOp .Add) (rPlus X.K) := op_add.or (op_add_str.or (op_cat.or op_catT))
theorem os_add : OS2 G (rPlus G.K) fAdd := by
  intro F H x y a b d Q s ha hb e k
  unfold fAdd at e
  split at e
  · injection e with e
    subst e
    exact .inl ⟨_, _, ha.int, hb.int, k _ F H (ext_same s) (.int _)⟩
  · split at e
    · rename_i hl
      injection e with e
      subst e
      exact .inr (.inl ⟨_, _, ha.str, hb.str, szl hl, k _ F H (ext_same s) (.str _)⟩)
    · cases e
  · split at e
    · rename_i hl
      injection e with e
      subst e
      obtain ⟨p, vs, rfl, h1, h2⟩ := ha.lst s
      obtain ⟨q, us, rfl, h3, h4⟩ := hb.lst s
      refine .inr (.inr (.inl ⟨p, q, vs, us, rfl, rfl, h1, h3, szl ?_, new_lst s (dpa_app h2 h4) k⟩))
      rw [dpa_len h2, dpa_len h4]
      exact hl
    · cases e
  · split at e
    · rename_i hl
      split at e
      · cases e
      · injection e with e
        subst e
        obtain ⟨p, vs, rfl, h1, h2⟩ := ha.tup s
        obtain ⟨q, us, rfl, h3, h4⟩ := hb.tup s
        refine .inr (.inr (.inr ⟨p, q, vs, us, rfl, rfl, h1, h3, ?_, szl ?_, fun z => ?_, fun _ => new_tup s (dpa_app h2 h4) k⟩))
        · rintro rfl
          cases h2
        · rw [dpa_len h2, dpa_len h4]
          exact hl
        · subst z
          cases h4
          refine k _ F H (ext_same s) ?_
          cases ha with
          | fz h =>
            rw [List.append_nil]
            exact h
    · cases e
  · cases e
/-! // % ** -/
def iopC (C : Int → Int → Bool) (g : Int → Int → Int) : D → D → Option D
  | .int i, .int j => if C i j then some (.int (g i j)) else none
  | _, _ => none
theorem os_IC {P : Int → Int → Prop} {C : Int → Int → Bool} {g : Int → Int → Int} (hc : ∀ i j, C i j = true → P i j) : OS2 G (rI P fun i j => .int (g i j)) (iopC C g) := by
  intro F H x y a b d Q s ha hb e k
  unfold iopC at e
  split at e
  · split at e
    · rename_i h
      injection e with e
      subst e
      exact ⟨_, _, ha.int, hb.int, hc _ _ h, k _ F H (ext_same s) (.int _)⟩
    · cases e
  · cases e
def fDiv : D → D → Option D := iopC (fun _ j => decide (0 < j) && decide (j < 1073741824)) fun i j => i / j
def fMod : D → D → Option D := iopC (fun _ j => decide (0 < j)) fun i j => i % j
def fPow : D → D → Option D := iopC (fun i j => decide (0 ≤ j) && decide (j ≤ 1000000) && decide (i.natAbs < 2 ^ 64)) fun i j => i ^ j.toNat
theorem os_div : OS2 G (rI CDiv fun i j => .int (i / j)) fDiv := os_IC fun i j h => by
  simp only [Bool.and_eq_true, decide_eq_true_eq] at h
  exact h
theorem os_mod : OS2 G (rI (fun _ j => 0 < j) fun i j => .int (i % j)) fMod := os_IC fun i j h => of_decide_eq_true h
theorem os_pow : OS2 G (rI CPow fun i j => .int (i ^ j.toNat)) fPow := os_IC fun i j h => by
  simp only [Bool.and_eq_true, decide_eq_true_eq] at h
  exact ⟨h.1.1, h.1.2, h.2⟩
theorem rpa_flat {K : PySem.W.Frag} {F : Hp} {vs : List V} {ds : List D} (h : RpA K F vs ds) : ∀ k : Nat, RpA K F (List.replicate k vs).flatten (List.replicate k ds).flatten
  | 0 => .nil
  | k + 1 => by
    rw [List.replicate_succ, List.replicate_succ, List.flatten_cons, List.flatten_cons]
    exact dpa_app h (rpa_flat h k)
/-! equality -/
def norm : D → D
  | .dict kvs => .list (kvs.map Prod.fst)
  | d => d
mutual
theorem rp_dp {K : PySem.W.Frag} {H : Hp} : ∀ {v : V} {d : D}, Rp K H v d → d.canLay0 = true → Dp K H v d
  | _, _, .non, _ => .non
  | _, _, .bl b, _ => .bl b
  | _, _, .int i, _ => .int i
  | _, _, .str x, _ => .str x
  | _, _, .lst h a, c => .lst (SqL.of h) (rpa_dp a (by rw [PyData.canLay0] at c; exact c))
  | _, _, .tup h a, c => .tup h (rpa_dp a (by rw [PyData.canLay0] at c; exact c))
  | _, _, .scr h, c => by
    unfold scrD at c
    rw [PyData.canLay0] at c
    cases c
theorem rpa_dp {K : PySem.W.Frag} {H : Hp} : ∀ {vs : List V} {ds : List D}, RpA K H vs ds → PyData.canLayAll0 ds = true → DpAll K H vs ds
  | _, _, .nil, _ => .nil
  | _, _, .cons h t, c => by
    rw [PyData.canLayAll0, Bool.and_eq_true] at c
    exact .cons (rp_dp h c.1) (rpa_dp t c.2)
end
theorem dpa_ints {K : PySem.W.Frag} {H : Hp} : ∀ ns : List Int, DpAll K H (ns.map V.int) (ns.map PyData.int)
  | [] => .nil
  | n :: ns => .cons (.int n) (dpa_ints ns)
theorem scr_fst : ∀ ns : List Int, (ns.map fun n => ((.int n, .none) : D × D)).map Prod.fst = ns.map PyData.int
  | [] => rfl
  | n :: ns => congrArg (PyData.int n :: ·) (scr_fst ns)
theorem dp_norm {K : PySem.W.Frag} {F H : Hp} {v : V} {d : D} (s : Same F H) (h : Pk K F H v d) (c : SeqAt.shaped (norm d) = true) : Dp K H v (norm d) := by
  have c := SeqAt.canLay_of_shaped c
  have hr := h.rp s
  clear h
  cases hr with
  | scr q =>
    show Dp K H _ (.list ((_ : List (D × D)).map Prod.fst))
    rw [scr_fst]
    exact .lst q (dpa_ints _)
  | non => exact .non
  | bl b => exact .bl b
  | int i => exact .int i
  | str x => exact .str x
  | lst q a => exact rp_dp (.lst q a) c
  | tup q a => exact rp_dp (.tup q a) c
def eqB (a b : D) : Option Bool := if SeqAt.shaped (norm a) && SeqAt.shaped (norm b) then some (PyData.eqv (norm a) (norm b)) else none
def fEq (a b : D) : Option D := (eqB a b).map fun k => .bool k
def fNe (a b : D) : Option D := (eqB a b).map fun k => .bool (!k)
theorem eqB_some {a b : D} {k : Bool} (h : eqB a b = some k) : SeqAt.shaped (norm a) = true ∧ SeqAt.shaped (norm b) = true ∧ k = PyData.eqv (norm a) (norm b) := by
  unfold eqB at h
  split at h
  · rename_i c
    injection h with h
    rw [Bool.and_eq_true] at c
    exact ⟨c.1, c.2, h.symm⟩
  · cases h
theorem os_eq : OS2 G (rEqD G.K) fEq := by
  intro F H x y a b d Q s ha hb e k
  unfold fEq at e
  cases z : eqB a b with
  | none =>
    rw [z] at e
    cases e
  | some q =>
    rw [z] at e
    injection e with e
    subst e
    obtain ⟨h1, h2, rfl⟩ := eqB_some z
    exact ⟨_, _, dp_norm s ha h1, dp_norm s hb h2, h1, h2, k _ F H (ext_same s) (.bl _)⟩
theorem os_ne : OS2 G (rNeD G.K) fNe := by
  intro F H x y a b d Q s ha hb e k
  unfold fNe at e
  cases z : eqB a b with
  | none =>
    rw [z] at e
    cases e
  | some q =>
    rw [z] at e
    injection e with e
    subst e
    obtain ⟨h1, h2, rfl⟩ := eqB_some z
    exact ⟨_, _, dp_norm s ha h1, dp_norm s hb h2, h1, h2, k _ F H (ext_same s) (.bl _)⟩
/-! is, is not: of None, True, False -/
def isNone : D → Bool
  | .none => true
  | _ => false
def fIsN (a b : D) : Option D := match b with
  | .none => some (.bool (isNone a))
  | _ => none
def fNotN (a b : D) : Option D := match b with
  | .none => some (.bool (!isNone a))
  | _ => none
theorem isNone_rp {K : PySem.W.Frag} {F H : Hp} {v : V} {d : D} (h : Pk K F H v d) : decide (v = .non) = isNone d := by
  cases h with
  | fz h => cases h <;> simp [isNone, scrD]
  | ls h a => simp [isNone]
theorem os_isN : OS2 G (fun x y H Q => y = .non ∧ Q (.bl (decide (x = .non))) H) fIsN := by
  intro F H x y a b d Q s ha hb e k
  unfold fIsN at e
  split at e
  · injection e with e
    subst e
    refine ⟨hb.non, ?_⟩
    rw [isNone_rp ha]
    exact k _ F H (ext_same s) (.bl _)
  · cases e
theorem os_notN : OS2 G (fun x y H Q => y = .non ∧ Q (.bl (!decide (x = .non))) H) fNotN := by
  intro F H x y a b d Q s ha hb e k
  unfold fNotN at e
  split at e
  · injection e with e
    subst e
    refine ⟨hb.non, ?_⟩
    rw [isNone_rp ha]
    exact k _ F H (ext_same s) (.bl _)
  · cases e
def bop (g : Bool → Bool → Bool) : D → D → Option D
  | .bool i, .bool j => some (.bool (g i j))
  | _, _ => none
def fIsB : D → D → Option D := bop fun i j => decide (i = j)
def fNotB : D → D → Option D := bop fun i j => !decide (i = j)
theorem bop_some {g : Bool → Bool → Bool} {a b d : D} (h : bop g a b = some d) : ∃ i j, a = .bool i ∧ b = .bool j ∧ d = .bool (g i j) := by
  unfold bop at h
  split at h
  · injection h with h
    exact ⟨_, _, rfl, rfl, h.symm⟩
  · cases h
theorem os_isB : OS2 G rIsB fIsB := by
  intro F H x y a b d Q s ha hb e k
  obtain ⟨i, j, rfl, rfl, rfl⟩ := bop_some e
  exact ⟨i, j, ha.bl, hb.bl, k _ F H (ext_same s) (.bl _)⟩
theorem os_notB : OS2 G rNotB fNotB := by
  intro F H x y a b d Q s ha hb e k
  obtain ⟨i, j, rfl, rfl, rfl⟩ := bop_some e
  exact ⟨i, j, ha.bl, hb.bl, k _ F H (ext_same s) (.bl _)⟩
/-! subscripts -/
def ixD {α : Type} (xs : List α) (i : Int) : Option α := atI xs i
def fIx : D → D → Option D
  | .list xs, .int i => atI xs i
  | .tuple xs, .int i => atI xs i
  | .str z, .int i => if z.length ≤ 100000 then (atI z.cps.toList i).map fun c => .str ⟨#[c]⟩ else none
  | .dict kvs, .int i => (atI kvs i).map Prod.fst
  | _, _ => none
theorem ixN_len {n m : Nat} {i : Int} (h : n = m) : ixN n i = ixN m i := by rw [h]
theorem atI_rp {K : PySem.W.Frag} {F : Hp} {vs : List V} {ds : List D} {i : Int} {d : D} (h : RpA K F vs ds) (e : atI ds i = some d) : ∃ v, atI vs i = some v ∧ Rp K F v d := by
  unfold atI at e ⊢
  rw [dpa_len h]
  cases z : ixN ds.length i with
  | none =>
    rw [z] at e
    cases e
  | some j =>
    rw [z] at e
    exact dpa_get h e
theorem atI_map {α β : Type} (f : α → β) (xs : List α) (i : Int) : atI (xs.map f) i = (atI xs i).map f := by
  unfold atI
  rw [List.length_map]
  cases ixN xs.length i with
  | none => rfl
  | some j => simp
theorem os_ix : OS2 G (rIx G.K) fIx := by
  intro F H x y a b d Q s ha hb e k
  unfold fIx at e
  split at e
  · obtain ⟨p, vs, rfl, h1, h2⟩ := ha.lst s
    obtain ⟨v, h3, h4⟩ := atI_rp h2 e
    exact .inl ⟨p, vs, _, v, rfl, hb.int, SqL.of h1, h3, k _ F H (ext_same s) h4⟩
  · obtain ⟨p, vs, rfl, h1, h2⟩ := ha.tup s
    obtain ⟨v, h3, h4⟩ := atI_rp h2 e
    exact .inr (.inl ⟨p, vs, _, v, rfl, hb.int, h1, h3, k _ F H (ext_same s) h4⟩)
  · split at e
    · rename_i z i hl
      cases q : atI z.cps.toList i with
      | none =>
        rw [q] at e
        cases e
      | some c =>
        rw [q] at e
        injection e with e
        subst e
        exact .inr (.inr ⟨z, i, c, ha.str, hb.int, szl hl, q, k _ F H (ext_same s) (.str _)⟩)
    · cases e
  · rename_i kvs i
    cases ha with
    | fz h =>
      cases h with
      | @scr p ns h =>
        rw [atI_map] at e
        cases q : atI ns i with
        | none =>
          rw [q] at e
          cases e
        | some n =>
          rw [q] at e
          injection e with e
          subst e
          refine .inl ⟨p, ns.map V.int, i, .int n, rfl, hb.int, s.seq h, ?_, k _ F H (ext_same s) (.int _)⟩
          rw [atI_map, q]
          rfl
  · cases e
end
end Fg
set_option maxRecDepth 100000
set_option maxHeartbeats 4000000
/-! Fg4: products, slices, chains, membership, displays, calls of built-ins. -/
namespace Fg
open PySem PySem.Spec PyProof.Rows L2

/-! ### text * int -/
def mulS (x : Str) (n : Int) : Str := ⟨(List.replicate n.toNat x.cps.toList).flatten.toArray⟩
theorem foldl_cps (l : List Nat) : ∀ (n : Nat) (acc : List Nat), ((List.replicate n l.toArray).foldl (· ++ ·) acc.toArray) = (acc ++ (List.replicate n l).flatten).toArray
  | 0, acc => by simp
  | n + 1, acc => by
    rw [List.replicate_succ, List.replicate_succ, List.foldl_cons, List.flatten_cons]
    have e : acc.toArray ++ l.toArray = (acc ++ l).toArray := by simp
    rw [e, foldl_cps l n (acc ++ l), List.append_assoc]
theorem mulS_fold (x : Str) (n : Int) : (⟨(List.replicate n.toNat x.cps).foldl (· ++ ·) #[]⟩ : Str) = mulS x n := by
  unfold mulS
  have h := foldl_cps x.cps.toList n.toNat []
  rw [List.nil_append] at h
  rw [← h]
def rMulS : R2 := fun x y H Q => ∃ (z : Str) (n : Int), x = .str z ∧ y = .int n ∧ z.length ≤ 1000 ∧ -1000000 ≤ n ∧ n ≤ 10000 ∧ Q (.str (mulS z n)) H
theorem op_mulS {X : Cx} : OpR X (binaryOp .Mult) rMulS := by
  intro pins s σ H x y v u Q I rx ry h
  obtain ⟨z, n, rfl, rfl, hz, h1, h2, q⟩ := h
  obtain ⟨t, rfl⟩ := rx
  obtain ⟨t', rfl⟩ := ry
  refine PySem.P.mul_str ?_ (fun hn _ => ?_) (fun hn _ => ?_) ?_
  · rw [decide_eq_false (by omega), decide_eq_false (by omega)]
    rfl
  · have : (0 : Int) < n := by omega
    rw [Int.not_lt]
    refine Int.le_trans (b := 1000) (by omega) ?_
    exact (Int.le_ediv_iff_mul_le this).mpr (by omega)
  · unfold Builtin.Str.tooLong
    have e : z.length * n.toNat ≤ 1000 * 10000 := Nat.mul_le_mul hz (by omega)
    refine decide_eq_false ?_
    rw [sizeLine_eq]
    omega
  · by_cases c : n < 1
    · rw [if_pos c]
      refine ⟨by decide, .str _, H, I.tok _, ⟨_, rfl⟩, ?_⟩
      have e : mulS z n = Str.empty := by
        unfold mulS
        rw [show n.toNat = 0 by omega]
        rfl
      rw [← e]
      exact q
    · rw [if_neg c]
      by_cases c2 : (n == 1 || z.length == 0) = true
      · rw [if_pos c2]
        refine ⟨.str z, H, I, ⟨t, rfl⟩, ?_⟩
        have e : mulS z n = z := by
          unfold mulS
          rw [Bool.or_eq_true] at c2
          rcases c2 with c2 | c2
          · have : n = 1 := by simpa using c2
            subst this
            simp
          · have : z.cps = #[] := by
              have : z.length = 0 := by simpa using c2
              exact Array.eq_empty_of_size_eq_zero this
            obtain ⟨cs⟩ := z
            subst this
            simp
        rw [← e]
        exact q
      · rw [if_neg c2]
        refine ⟨?_, .str _, H, I.tok _, ⟨_, rfl⟩, ?_⟩
        · rw [mulS_fold]
          show ((List.replicate n.toNat z.cps.toList).flatten.toArray).size ≤ sizeLine
          rw [List.size_toArray, List.length_flatten, List.map_replicate, List.sum_replicate_nat, sizeLine_eq]
          have e : n.toNat * z.cps.toList.length ≤ 10000 * 1000 := Nat.mul_le_mul (by omega) (by rw [Array.length_toList]; exact hz)
          omega
        · rw [mulS_fold]
          exact q
def fMul : D → D → Option D
  | .int i, .int j => if decide (i.natAbs < 2 ^ 62) || decide (j.natAbs < 2 ^ 62) then some (.int (i * j)) else none
  | .str z, .int n => if decide (z.length ≤ 1000) && decide (-1000000 ≤ n) && decide (n ≤ 10000) then some (.str (mulS z n)) else none
  | .list xs, .int k => if decide (-1000000 ≤ k) && decide (k ≤ 100000) && decide (xs.length * k.toNat ≤ 100000) then some (.list (List.replicate k.toNat xs).flatten) else none
  | .tuple xs, .int k => if decide (2 ≤ k) && decide (k ≤ 1000) && decide (xs.length ≤ 1000) then (match xs with | [] => none | _ :: _ => some (.tuple (List.replicate k.toNat xs).flatten)) else none
  | _, _ => none
def rTimes (K : PySem.W.Frag) : R2 := fun x y H Q => rI CMul (fun i j => .int (i * j)) x y H Q ∨ rMulS x y H Q ∨ rRep x y H Q ∨ rRepT K x y H Q
theorem op_times {X : Cx} : OpR X (binaryOp .Mult) (rTimes X.K) := op_mul.or (op_mulS.or (op_rep.or op_repT))
section
variable {G : Gm}
theorem os_mul : OS2 G (rTimes G.K) fMul := by
  intro F H x y a b d Q s ha hb e k
  unfold fMul at e
  split at e
  · split at e
    · rename_i i j hc
      injection e with e
      subst e
      refine .inl ⟨i, j, ha.int, hb.int, ?_, k _ F H (ext_same s) (.int _)⟩
      simp only [Bool.or_eq_true, decide_eq_true_eq] at hc
      unfold CMul
      omega
    · cases e
  · split at e
    · rename_i hc
      injection e with e
      subst e
      simp only [Bool.and_eq_true, decide_eq_true_eq] at hc
      exact .inr (.inl ⟨_, _, ha.str, hb.int, hc.1.1, hc.1.2, hc.2, k _ F H (ext_same s) (.str _)⟩)
    · cases e
  · split at e
    · rename_i hc
      injection e with e
      subst e
      simp only [Bool.and_eq_true, decide_eq_true_eq] at hc
      obtain ⟨p, vs, rfl, h1, h2⟩ := ha.lst s
      refine .inr (.inr (.inl ⟨p, _, vs, rfl, hb.int, h1, by omega, by omega, szl ?_, new_lst s (rpa_flat h2 _) k⟩))
      rw [dpa_len h2]
      exact hc.2
    · cases e
  · split at e
    · rename_i hc
      split at e
      · cases e
      · injection e with e
        subst e
        simp only [Bool.and_eq_true, decide_eq_true_eq] at hc
        obtain ⟨p, vs, rfl, h1, h2⟩ := ha.tup s
        refine .inr (.inr (.inr ⟨p, _, vs, rfl, hb.int, h1, ?_, hc.1.1, hc.1.2, ?_, new_tup s (rpa_flat h2 _) k⟩))
        · rintro rfl
          cases h2
        · rw [dpa_len h2]
          exact hc.2
    · cases e
  · cases e
end
/-! ### slices -/
def cutD {α : Type} (xs : List α) (lo hi : Option Int) : List α := (xs.drop (HT.sIx xs.length 0 lo)).take (HT.sIx xs.length xs.length hi - HT.sIx xs.length 0 lo)
theorem cut_rp {K : PySem.W.Frag} {F : Hp} {vs : List V} {ds : List D} (h : RpA K F vs ds) (lo hi : Option Int) : RpA K F (cutV vs lo hi) (cutD ds lo hi) := by
  unfold cutV cutD
  rw [dpa_len h]
  exact dpa_take _ (dpa_drop _ h)
def fCut (d : D) (lo hi : Option Int) : Option D := match d with
  | .list xs => some (.list (cutD xs lo hi))
  | .str z => if z.length ≤ 100000 then some (.str (cutS z lo hi)) else none
  | _ => none
def rCutA (K : PySem.W.Frag) : V → Option Int → Option Int → Hp → VK → Prop := fun x lo hi H Q => rSlL K x lo hi H Q ∨ rSlS x lo hi H Q
theorem sl_any {X : Cx} : SlR X (rCutA X.K) := sl_list.or sl_str
/-- an optional part -/
def asO : D → Mn (Option Int) := fun d => match d with
  | .int i => ret (some i)
  | _ => fun _ => .bad
structure MO' (X : Cx) (W : WX) (e : Option Expr) (c : Mn (Option Int)) : Prop where
  ex : ∃ t, PO X e t ∧ SG (Cx.gm X) W (fun _ _ x a => x = a) t c
section
variable {X : Cx} {W : WX} {a b c e : Expr}
theorem mo_none : MO' X W none (ret none) := ⟨_, po_none, fun I s0 F0 H0 r s F H rel Q z => post_ok z rel rfl⟩
theorem mo_some {ce : Mn D} (h : ME X W e ce) : MO' X W (some e) (bnd ce asO) := by
  obtain ⟨t, h1, h2⟩ := h
  refine ⟨_, po_some h1, fun I s0 F0 H0 r s F H rel Q z => ?_⟩
  unfold tPart
  refine sg_runE h2 rel (Same.refl _) z fun x a r1 F1 H1 rel1 s1 sb1 rx h1 => ?_
  unfold asO at h1
  cases a with
  | int k =>
    cases rx
    exact ⟨k, rfl, h1 _ F1 H1 rel1 sb1 rfl⟩
  | _ => exact h1.elim
def cutM (ce : Mn Hv) (cl ch : Mn (Option Int)) : Mn D := bnd ce fun h => bnd cl fun lo => bnd ch fun hi => bnd (peek h) fun d => lf (fCut d lo hi)
theorem me_cut {lo hi : Option Expr} {ce : Mn Hv} {cl ch : Mn (Option Int)} {p2 pos : Pos} (he : MP X W e ce) (hl : MO' X W lo cl) (hh : MO' X W hi ch) : ME X W (.Subscript e (.Slice lo hi none p2) pos) (cutM ce cl ch) := by
  obtain ⟨te, e1, e2⟩ := he
  obtain ⟨tl, l1, l2⟩ := hl
  obtain ⟨th, u1, u2⟩ := hh
  refine ⟨_, pe_slice sl_any e1 l1 u1, fun I s0 F0 H0 r s F H rel Q z => ?_⟩
  unfold tSl
  refine sg_runE e2 rel (Same.refl _) z fun x a r1 F1 H1 rel1 s1 sb1 rx h1 => ?_
  refine sg_runE l2 rel1 sb1 h1 fun xl al r2 F2 H2 rel2 s2 sb2 rl h2 => ?_
  refine sg_runE u2 rel2 sb2 h2 fun xh ah r3 F3 H3 rel3 s3 sb3 rh h3 => ?_
  cases rl
  cases rh
  obtain ⟨d, pd, h4⟩ := peek_run rel3 (rpH_mono s3 (rpH_mono s2 rx)) h3 post_bad
  obtain ⟨d', ed, k⟩ := post_lf h4
  have k' : ∀ v F' H', Ext [] F3 H3 F' H' → Rp X.K F' v d' → Q v H' := fun v F' H' x' dv => k v F' H' (rel3.grow x') (sb3.trans x'.ff) dv
  unfold fCut at ed
  split at ed
  · injection ed with ed
    subst ed
    obtain ⟨p, vs, rfl, q1, q2⟩ := pd.lst rel3.fh
    exact .inl ⟨p, vs, rfl, SqL.of q1, new_lst (G := Cx.gm X) rel3.fh (cut_rp q2 _ _) k'⟩
  · split at ed
    · rename_i hz
      injection ed with ed
      subst ed
      exact .inr ⟨_, pd.str, szl hz, k' _ F3 H3 (ext_same rel3.fh) (.str _)⟩
    · cases ed
  · cases ed
/-- a tuple's slice -/
def fCutT (d : D) (lo hi : Option Int) : Option D := match d with
  | .list xs => some (.list xs.reverse)
  | _ => none
/-- xs[::-1] -/
def revD : D → Option D
  | .list xs => some (.list xs.reverse)
  | _ => none
def revM (ce : Mn Hv) : Mn D := bnd ce fun h => bnd (peek h) fun d => lf (revD d)
theorem me_rev {ce : Mn Hv} {k : Nat} {p1 p2 p3 pos : Pos} (he : MP X W e ce) : ME X W (.Subscript e (.Slice none none (some (.UnaryOp .USub (.Constant (.int 1) k p1) p2)) p3) pos) (revM ce) := by
  obtain ⟨te, e1, e2⟩ := he
  refine ⟨_, pe_revL e1, fun I s0 F0 H0 r s F H rel Q z => ?_⟩
  unfold tRevL
  refine sg_runE e2 rel (Same.refl _) z fun x a r1 F1 H1 rel1 s1 sb1 rx h1 => ?_
  obtain ⟨d, pd, h4⟩ := peek_run rel1 rx h1 post_bad
  obtain ⟨d', ed, k⟩ := post_lf h4
  unfold revD at ed
  split at ed
  · injection ed with ed
    subst ed
    obtain ⟨p, vs, rfl, q1, q2⟩ := pd.lst rel1.fh
    exact ⟨p, vs, rfl, SqL.of q1, new_lst (G := Cx.gm X) rel1.fh (dpa_rev q2) fun v F' H' x' dv => k v F' H' (rel1.grow x') (sb1.trans x'.ff) dv⟩
  · cases ed
/-! ### x[i] -/
theorem me_ix {ca cb : Mn Hv} {pos : Pos} (ha : MP X W a ca) (hb : MP X W b cb) (hs : PlainIx b) : ME X W (.Subscript a b pos) (binP fIx ca cb) := by
  obtain ⟨ta, h1, h2⟩ := ha
  obtain ⟨tb, h3, h4⟩ := hb
  exact ⟨_, pe_ix ix_seq h1 h3 hs, sg_opP (os_ix (G := Cx.gm X)) h2 h4⟩
theorem me_ixE {ca cb : Mn D} {pos : Pos} (ha : ME X W a ca) (hb : ME X W b cb) (hs : PlainIx b) : ME X W (.Subscript a b pos) (bin fIx ca cb) := by
  obtain ⟨ta, h1, h2⟩ := ha
  obtain ⟨tb, h3, h4⟩ := hb
  exact ⟨_, pe_ix ix_seq h1 h3 hs, sg_op (os_ix (G := Cx.gm X)) h2 h4⟩
/-! ### a < b < c -/
def chainM (f g : D → D → Option D) (ca cb cc : Mn D) : Mn D := bnd ca fun x => bnd cb fun y => bnd (lf (f x y)) fun z => bnd (asB z) fun k => if k then bnd cc fun w => lf (g y w) else ret (.bool false)
theorem post_mono {α β : Type} {G : Gm} {rep : Hp → Sl → β → α → Prop} {I : List Addr} {s0 : Sl} {F0 H0 : Hp} {s : Sl} {B F : Hp} {Q : β → Hp → Prop} {z : R α} (h : Post G W rep I s0 F0 H0 s B Q z) (sb : Same B F) : Post G W rep I s0 F0 H0 s F Q z := by
  cases z with
  | bad => exact h
  | exc n r2 => exact fun F2 H2 rl s2 => h F2 H2 rl (sb.trans s2)
  | ok b r2 => exact fun y F2 H2 rl s2 ry => h y F2 H2 rl (sb.trans s2) ry
theorem sg_chain {G : Gm} {rd rd' : R2} {f g : D → D → Option D} {ta tb tc : TE} {ca cb cc : Mn D} (os : OS2 G rd f) (os' : OS2 G rd' g) (ha : SG G W (rpV G) ta ca) (hb : SG G W (rpV G) tb cb) (hc : SG G W (rpV G) tc cc) :
    SG G W (rpV G) (tChain rd rd' ta tb tc) (chainM f g ca cb cc) := by
  intro I s0 F0 H0 r s F H rel Q z
  unfold tChain
  refine sg_runE ha rel (Same.refl _) z fun x a r1 F1 H1 rel1 s1 sb1 rx h1 => ?_
  refine sg_runE hb rel1 sb1 h1 fun y b r2 F2 H2 rel2 s2 sb2 ry h2 => ?_
  obtain ⟨d, e, h3⟩ := lf_run h2 post_bad
  refine os F2 H2 x y a b d _ rel2.fh (.fz (dp_mono s2 rx)) (.fz ry) e fun v F3 H3 x3 dv => ?_
  have rel3 := rel2.grow x3
  cases d with
  | bool k =>
    cases dv
    refine ⟨k, rfl, ?_⟩
    have h3 : Post G W (rpV G) I s0 F0 H0 s F Q ((if k then bnd cc fun w => lf (g b w) else ret (.bool false)) r2) := h3
    cases k with
    | false =>
      rw [if_neg Bool.false_ne_true]
      exact h3 _ F3 H3 rel3 (sb2.trans x3.ff) (.bl false)
    | true =>
      rw [if_pos rfl]
      refine sg_runE hc rel3 (sb2.trans x3.ff) h3 fun w' dw r4 F4 H4 rel4 s4 sb4 rw4 h4 => ?_
      obtain ⟨d', ed, k⟩ := post_lf h4
      exact os' F4 H4 y w' b dw d' Q rel4.fh (.fz (dp_mono s4 (dp_mono x3.ff ry))) (.fz rw4) ed fun v F' H' x' dv => k v F' H' (rel4.grow x') (sb4.trans x'.ff) dv
  | _ => exact h3.elim
theorem me_chain {op op' : CmpOp} {rd rd' : R2} {f g : D → D → Option D} {ca cb cc : Mn D} {pos : Pos} (ho : OpR X (compareOp op) rd) (ho' : OpR X (compareOp op') rd') (os : OS2 (Cx.gm X) rd f) (os' : OS2 (Cx.gm X) rd' g)
    (ha : ME X W a ca) (hb : ME X W b cb) (hc : ME X W c cc) (hm : lastMarks [op, op'] [b, c] = false := by with_unfolding_all rfl) : ME X W (.Compare a [op, op'] [b, c] pos) (chainM f g ca cb cc) := by
  obtain ⟨ta, a1, a2⟩ := ha
  obtain ⟨tb, b1, b2⟩ := hb
  obtain ⟨tc, c1, c2⟩ := hc
  exact ⟨_, pe_chain ho ho' a1 b1 c1 hm, sg_chain os os' a2 b2 c2⟩
theorem mt_chain {op op' : CmpOp} {rd rd' : R2} {f g : D → D → Option D} {ca cb cc : Mn D} {pos : Pos} (ho : OpR X (compareOp op) rd) (ho' : OpR X (compareOp op') rd') (os : OS2 (Cx.gm X) rd f) (os' : OS2 (Cx.gm X) rd' g)
    (ha : ME X W a ca) (hb : ME X W b cb) (hc : ME X W c cc) (hm : lastMarks [op, op'] [b, c] = false := by with_unfolding_all rfl) : MT X W (.Compare a [op, op'] [b, c] pos) (bnd (chainM f g ca cb cc) asB) := by
  obtain ⟨ta, a1, a2⟩ := ha
  obtain ⟨tb, b1, b2⟩ := hb
  obtain ⟨tc, c1, c2⟩ := hc
  exact ⟨_, pt_chain ho ho' a1 b1 c1 hm, sg_tb (sg_chain os os' a2 b2 c2)⟩
/-! ### and, or, not as values (of bools); a if t else b -/
def andV (ca cb : Mn D) : Mn D := bnd ca fun x => bnd (asB x) fun k => if k then cb else ret (.bool false)
def orV (ca cb : Mn D) : Mn D := bnd ca fun x => bnd (asB x) fun k => if k then ret (.bool true) else cb
def notV (ca : Mn D) : Mn D := bnd ca fun x => bnd (asB x) fun k => ret (.bool (!k))
theorem asB_run {γ : Type} {P : R γ → Prop} {d : D} {f : Bool → Mn γ} {r : En} (z : P (bnd (asB d) f r)) (hb : ¬ P .bad) : ∃ k, d = .bool k ∧ P (f k r) := by
  cases d with
  | bool k => exact ⟨k, rfl, z⟩
  | _ => exact absurd z hb
theorem me_one {op : BoolOp} {ca : Mn D} {pos : Pos} (h : ME X W a ca) : ME X W (.BoolOp op [a] pos) ca := by
  obtain ⟨t, h1, h2⟩ := h
  exact ⟨t, pe_one h1, h2⟩
theorem me_and {rest : List Expr} {ca cb : Mn D} {pos : Pos} (ha : ME X W a ca) (hb : ME X W (.BoolOp .And (b :: rest) pos) cb) : ME X W (.BoolOp .And (a :: b :: rest) pos) (andV ca cb) := by
  obtain ⟨ta, a1, a2⟩ := ha
  obtain ⟨tb, b1, b2⟩ := hb
  refine ⟨_, pe_and a1 b1, fun I s0 F0 H0 r s F H rel Q z => ?_⟩
  unfold tAndV
  refine sg_runE a2 rel (Same.refl _) z fun x a r1 F1 H1 rel1 s1 sb1 rx h1 => ?_
  obtain ⟨k, rfl, h2⟩ := asB_run h1 post_bad
  cases rx
  refine ⟨k, rfl, ?_⟩
  cases k with
  | false =>
    rw [if_neg Bool.false_ne_true]
    exact h2 _ F1 H1 rel1 sb1 (.bl false)
  | true =>
    rw [if_pos rfl]
    exact b2 I s0 F0 H0 r1 s F1 H1 rel1 Q (post_mono h2 sb1)
theorem me_or {rest : List Expr} {ca cb : Mn D} {pos : Pos} (ha : ME X W a ca) (hb : ME X W (.BoolOp .Or (b :: rest) pos) cb) : ME X W (.BoolOp .Or (a :: b :: rest) pos) (orV ca cb) := by
  obtain ⟨ta, a1, a2⟩ := ha
  obtain ⟨tb, b1, b2⟩ := hb
  refine ⟨_, pe_or a1 b1, fun I s0 F0 H0 r s F H rel Q z => ?_⟩
  unfold tOrV
  refine sg_runE a2 rel (Same.refl _) z fun x a r1 F1 H1 rel1 s1 sb1 rx h1 => ?_
  obtain ⟨k, rfl, h2⟩ := asB_run h1 post_bad
  cases rx
  refine ⟨k, rfl, ?_⟩
  cases k with
  | true =>
    rw [if_pos rfl]
    exact h2 _ F1 H1 rel1 sb1 (.bl true)
  | false =>
    rw [if_neg Bool.false_ne_true]
    exact b2 I s0 F0 H0 r1 s F1 H1 rel1 Q (post_mono h2 sb1)
theorem me_not {ca : Mn D} {pos : Pos} (ha : ME X W a ca) : ME X W (.UnaryOp .Not a pos) (notV ca) := by
  obtain ⟨ta, a1, a2⟩ := ha
  refine ⟨_, pe_not a1, fun I s0 F0 H0 r s F H rel Q z => ?_⟩
  unfold tNotV
  refine sg_runE a2 rel (Same.refl _) z fun x a r1 F1 H1 rel1 s1 sb1 rx h1 => ?_
  obtain ⟨k, rfl, h2⟩ := asB_run h1 post_bad
  cases rx
  exact ⟨k, rfl, h2 _ F1 H1 rel1 sb1 (.bl _)⟩
def iteM {α : Type} (ct : Mn Bool) (ca cb : Mn α) : Mn α := bnd ct fun k => if k then ca else cb
theorem me_ifE {ct : Mn Bool} {ca cb : Mn D} {pos : Pos} (hc : MT X W c ct) (ha : ME X W a ca) (hb : ME X W b cb) : ME X W (.IfExp c a b pos) (iteM ct ca cb) := by
  obtain ⟨tc, c1, c2⟩ := hc
  obtain ⟨ta, a1, a2⟩ := ha
  obtain ⟨tb, b1, b2⟩ := hb
  refine ⟨_, pe_ifExp c1 a1 b1, fun I s0 F0 H0 r s F H rel Q z => ?_⟩
  unfold tIf
  refine sg_runE c2 rel (Same.refl _) z fun x k r1 F1 H1 rel1 s1 sb1 rx h1 => ?_
  cases rx
  cases x with
  | true =>
    rw [if_pos rfl] at h1 ⊢
    exact a2 I s0 F0 H0 r1 s F1 H1 rel1 Q (post_mono h1 sb1)
  | false =>
    rw [if_neg Bool.false_ne_true] at h1 ⊢
    exact b2 I s0 F0 H0 r1 s F1 H1 rel1 Q (post_mono h1 sb1)
def fNeg : D → Option D
  | .int i => some (.int (-i))
  | _ => none
theorem me_neg {ca : Mn D} {pos : Pos} (ha : ME X W a ca) : ME X W (.UnaryOp .USub a pos) (un1 fNeg ca) := by
  obtain ⟨ta, a1, a2⟩ := ha
  refine ⟨_, pe_un un_neg a1, sg_un (G := Cx.gm X) (fun F H x a d Q s hx e k => ?_) a2⟩
  unfold fNeg at e
  split at e
  · injection e with e
    subst e
    exact ⟨_, hx.int, k _ F H (ext_same s) (.int _)⟩
  · cases e
/-! ### arguments, displays -/
def consM (ca : Mn D) (cr : Mn (List D)) : Mn (List D) := bnd ca fun d => bnd cr fun ds => ret (d :: ds)
theorem ma_nil : MA X W [] (ret []) := ⟨_, pa_nil, fun I s0 F0 H0 r s F H rel Q z => post_ok z rel .nil⟩
theorem ma_cons {es : List Expr} {ca : Mn D} {cr : Mn (List D)} (ha : ME X W e ca) (hr : MA X W es cr) (hs : starEach (e :: es) X.env = (false, eval e X.env) :: starEach es X.env := by rfl) : MA X W (e :: es) (consM ca cr) := by
  obtain ⟨ta, a1, a2⟩ := ha
  obtain ⟨tr, r1, r2⟩ := hr
  refine ⟨_, pa_cons a1 r1 hs, fun I s0 F0 H0 r s F H rel Q z => ?_⟩
  unfold tCons
  refine sg_runE a2 rel (Same.refl _) z fun x a r1 F1 H1 rel1 s1 sb1 rx h1 => ?_
  refine sg_runE r2 rel1 sb1 h1 fun xs ds r2 F2 H2 rel2 s2 sb2 rxs h2 => ?_
  exact h2 _ F2 H2 rel2 sb2 (.cons (dp_mono s2 rx) rxs)
def tupM (ca : Mn (List D)) : Mn D := bnd ca fun ds => if ds.length ≤ 100000 then ret (.tuple ds) else fun _ => .bad
def lstM (ca : Mn (List D)) : Mn D := bnd ca fun ds => if ds.length ≤ 100000 then ret (.list ds) else fun _ => .bad
theorem me_tup {es : List Expr} {x1 : Nat} {ca : Mn (List D)} {pos : Pos} (h : MA X W es ca) : ME X W (.Tuple es x1 pos) (tupM ca) := by
  obtain ⟨ta, a1, a2⟩ := h
  refine ⟨_, pe_tup a1, fun I s0 F0 H0 r s F H rel Q z => ?_⟩
  unfold tTup
  refine sg_runE a2 rel (Same.refl _) z fun xs ds r1 F1 H1 rel1 s1 sb1 rx h1 => ?_
  split at h1
  · rename_i hl
    refine ⟨szl (by rw [dpa_len rx]; exact hl), new_tup (G := Cx.gm X) rel1.fh rx fun v F' H' x' dv => h1 v F' H' (rel1.grow x') (sb1.trans x'.ff) dv⟩
  · exact h1.elim
theorem me_lst {es : List Expr} {ca : Mn (List D)} {pos : Pos} (h : MA X W es ca) : ME X W (.List es pos) (lstM ca) := by
  obtain ⟨ta, a1, a2⟩ := h
  refine ⟨_, pe_lst a1, fun I s0 F0 H0 r s F H rel Q z => ?_⟩
  unfold tLst
  refine sg_runE a2 rel (Same.refl _) z fun xs ds r1 F1 H1 rel1 s1 sb1 rx h1 => ?_
  split at h1
  · rename_i hl
    refine ⟨szl (by rw [dpa_len rx]; exact hl), new_lst (G := Cx.gm X) rel1.fh rx fun v F' H' x' dv => h1 v F' H' (rel1.grow x') (sb1.trans x'.ff) dv⟩
  · exact h1.elim
/-! ### built-ins -/
def cbM (f : List D → Option D) (ca : Mn (List D)) : Mn D := bnd ca fun ds => lf (f ds)
theorem sg_cb {G : Gm} {rd : List V → Hp → VK → Prop} {f : List D → Option D} {ta : TA} {ca : Mn (List D)} (os : OSn G rd f) (ha : SG G W (rpA G) ta ca) : SG G W (rpV G) (tCB rd ta) (cbM f ca) := by
  intro I s0 F0 H0 r s F H rel Q z
  unfold tCB
  refine sg_runE ha rel (Same.refl _) z fun xs ds r1 F1 H1 rel1 s1 sb1 rx h1 => ?_
  obtain ⟨d, e, k⟩ := post_lf h1
  exact os F1 H1 xs ds d Q rel1.fh rx e fun v F' H' x' dv => k v F' H' (rel1.grow x') (sb1.trans x'.ff) dv
theorem me_callB {x : Str} {id : String} {rd : List V → Hp → VK → Prop} {f : List D → Option D} {es : List Expr} {ca : Mn (List D)} {p pos : Pos} (hc : CallR X (.builtin id) rd) (os : OSn (Cx.gm X) rd f) (hg : Gl X x) (hm : X.mg x = none) (hv : bootBuiltins x = some (.builtin id)) (ha : MA X W (e :: es) ca)
    (hn : x ≠ "__name__" := by decide) (hdb : (x == ("__debug__" : Str)) = false := by decide) (he : starEach (e :: es) X.env = (false, eval e X.env) :: starEach es X.env := by rfl) (hpl : (backTo pos (starEach es X.env)).any (·.1) = false := by rfl) : ME X W (.Call (.Name x p) (e :: es) [] pos) (cbM f ca) := by
  obtain ⟨ta, a1, a2⟩ := ha
  exact ⟨_, pe_callB hc hg hm hv a1 hn hdb he hpl, sg_cb os a2⟩
theorem me_callTy {x : Str} {T : String} {rd : List V → Hp → VK → Prop} {f : List D → Option D} {es : List Expr} {ca : Mn (List D)} {p pos : Pos} (hc : CallR X (.type T) rd) (os : OSn (Cx.gm X) rd f) (hg : Gl X x) (hm : X.mg x = none) (hv : bootBuiltins x = some (.type T)) (ha : MA X W (e :: es) ca)
    (hn : x ≠ "__name__" := by decide) (hdb : (x == ("__debug__" : Str)) = false := by decide) (he : starEach (e :: es) X.env = (false, eval e X.env) :: starEach es X.env := by rfl) (hpl : (backTo pos (starEach es X.env)).any (·.1) = false := by rfl) : ME X W (.Call (.Name x p) (e :: es) [] pos) (cbM f ca) := by
  obtain ⟨ta, a1, a2⟩ := ha
  exact ⟨_, pe_callTy hc hg hm hv a1 hn hdb he hpl, sg_cb os a2⟩
/-- one argument that may be owned -/
theorem sg_cb1 {G : Gm} {rd : List V → Hp → VK → Prop} {f : D → Option D} {t : TE} {c : Mn Hv} (os : OS1 G (fun x => rd [x]) f) (ha : SG G W (rpH G) t c) : SG G W (rpV G) (tCB rd (tCons t tNil)) (un1P f c) := by
  intro I s0 F0 H0 r s F H rel Q z
  unfold tCB tCons tNil
  refine sg_runE ha rel (Same.refl _) z fun x a r1 F1 H1 rel1 s1 sb1 rx h1 => ?_
  obtain ⟨da, pa, h3⟩ := peek_run rel1 rx h1 post_bad
  obtain ⟨d, e, k⟩ := post_lf h3
  exact os F1 H1 x da d Q rel1.fh pa e fun v F' H' x' dv => k v F' H' (rel1.grow x') (sb1.trans x'.ff) dv
theorem me_call1B {x : Str} {id : String} {rd : List V → Hp → VK → Prop} {f : D → Option D} {ca : Mn Hv} {p pos : Pos} (hc : CallR X (.builtin id) rd) (os : OS1 (Cx.gm X) (fun x => rd [x]) f) (hg : Gl X x) (hm : X.mg x = none) (hv : bootBuiltins x = some (.builtin id)) (ha : MP X W e ca)
    (hn : x ≠ "__name__" := by decide) (hdb : (x == ("__debug__" : Str)) = false := by decide) (he : starEach [e] X.env = (false, eval e X.env) :: starEach [] X.env := by rfl) (hpl : (backTo pos (starEach [] X.env)).any (·.1) = false := by rfl) : ME X W (.Call (.Name x p) [e] [] pos) (un1P f ca) := by
  obtain ⟨ta, a1, a2⟩ := ha
  exact ⟨_, pe_callB hc hg hm hv (pa_cons a1 pa_nil he) hn hdb he hpl, sg_cb1 os a2⟩
theorem me_call1T {x : Str} {T : String} {rd : List V → Hp → VK → Prop} {f : D → Option D} {ca : Mn Hv} {p pos : Pos} (hc : CallR X (.type T) rd) (os : OS1 (Cx.gm X) (fun x => rd [x]) f) (hg : Gl X x) (hm : X.mg x = none) (hv : bootBuiltins x = some (.type T)) (ha : MP X W e ca)
    (hn : x ≠ "__name__" := by decide) (hdb : (x == ("__debug__" : Str)) = false := by decide) (he : starEach [e] X.env = (false, eval e X.env) :: starEach [] X.env := by rfl) (hpl : (backTo pos (starEach [] X.env)).any (·.1) = false := by rfl) : ME X W (.Call (.Name x p) [e] [] pos) (un1P f ca) := by
  obtain ⟨ta, a1, a2⟩ := ha
  exact ⟨_, pe_callTy hc hg hm hv (pa_cons a1 pa_nil he) hn hdb he hpl, sg_cb1 os a2⟩
end
end Fg
set_option maxRecDepth 100000
set_option maxHeartbeats 4000000
/-! Fg5: statements. -/
namespace Fg
open PySem PySem.Spec PyProof.Rows L2

inductive Fl where
  | nx | bk | ct
  | rt (d : D)
def PostS (G : Gm) (W : WX) (I : List Addr) (s0 : Sl) (F0 H0 : Hp) (B : Hp) (E : Ends) : R Fl → Prop
  | .ok .nx r => ∀ s F H, Rel G I s0 F0 H0 r s F H → Same B F → E.nx s H
  | .ok .bk r => ∀ s F H, Rel G I s0 F0 H0 r s F H → Same B F → E.bk s H
  | .ok .ct r => ∀ s F H, Rel G I s0 F0 H0 r s F H → Same B F → E.ct s H
  | .ok (.rt d) r => ∀ v s F H, Rel G I s0 F0 H0 r s F H → Same B F → Rp G.K F v d → E.rt v H
  | .exc e r => ∀ s F H, Rel G I s0 F0 H0 r s F H → Same B F → W (G.cls e) none s H
  | .bad => False
def SS (G : Gm) (W : WX) (t : TS) (c : Mn Fl) : Prop :=
  ∀ (I : List Addr) (s0 : Sl) (F0 H0 : Hp) (r : En) (s : Sl) (F H : Hp), Rel G I s0 F0 H0 r s F H → ∀ E : Ends, PostS G W I s0 F0 H0 F E (c r) → t E s H
theorem postS_mono {G : Gm} {W : WX} {I : List Addr} {s0 : Sl} {F0 H0 : Hp} {B F : Hp} {E : Ends} {z : R Fl} (sb : Same B F) (h : PostS G W I s0 F0 H0 B E z) : PostS G W I s0 F0 H0 F E z := by
  cases z with
  | bad => exact h
  | exc n r => exact fun s F' H' rl sm => h s F' H' rl (sb.trans sm)
  | ok f r =>
    cases f with
    | nx => exact fun s F' H' rl sm => h s F' H' rl (sb.trans sm)
    | bk => exact fun s F' H' rl sm => h s F' H' rl (sb.trans sm)
    | ct => exact fun s F' H' rl sm => h s F' H' rl (sb.trans sm)
    | rt d => exact fun v s F' H' rl sm => h v s F' H' rl (sb.trans sm)
structure MS (X : Cx) (W : WX) (st : Stmt) (c : Mn Fl) : Prop where
  ex : ∃ t, PS X st t ∧ SS (Cx.gm X) W t c
structure MB (X : Cx) (W : WX) (sts : List Stmt) (c : Mn Fl) : Prop where
  ex : ∃ t, PSs X sts t ∧ SS (Cx.gm X) W t c
section
variable {G : Gm} {W : WX} {I : List Addr} {s0 s : Sl} {F0 H0 F H B : Hp} {r : En} {E : Ends}
theorem postS_bad : ¬ PostS G W I s0 F0 H0 B E .bad := fun h => h
/-- a value's step within a statement -/
theorem sg_runS {α β : Type} {rep : Hp → Sl → β → α → Prop} {ta : Sl → Hp → (β → Hp → Prop) → Prop} {c : Mn α} {f : α → Mn Fl} {K : β → Hp → Prop} (ha : SG G W rep ta c) (rel : Rel G I s0 F0 H0 r s F H) (sb : Same B F) (h : PostS G W I s0 F0 H0 B E (bnd c f r))
    (k : ∀ x a r' F' H', Rel G I s0 F0 H0 r' s F' H' → Same F F' → Same B F' → rep F' s x a → PostS G W I s0 F0 H0 B E (f a r') → K x H') : ta s H K :=
  sg_run (P := PostS G W I s0 F0 H0 B E) ha rel h (fun e r' z F' H' rl sm => z s F' H' rl (sb.trans sm)) postS_bad fun x a r' F' H' rl sm rx z => k x a r' F' H' rl sm (sb.trans sm) rx z
/-! ### a slot is set -/
def parAt (r : En) (i : Nat) : Bool := match r[i]? with
  | some (some (.o true _)) => true
  | _ => false
theorem get_set {α : Type} {l : List α} {i j : Nat} {x y : α} (h : (l.set i x)[j]? = some y) : (j = i ∧ y = x) ∨ (j ≠ i ∧ l[j]? = some y) := by
  by_cases e : j = i
  · subst e
    refine .inl ⟨rfl, ?_⟩
    rw [List.getElem?_set] at h
    simp at h
    exact h.2.symm
  · refine .inr ⟨e, ?_⟩
    rw [List.getElem?_set_ne (Ne.symm e)] at h
    exact h
theorem set_self {α β : Type} {l : List α} {m : List β} {i : Nat} {x : α} {y : β} {b : β} (hl : l.length = m.length) (h : (m.set i y)[i]? = some b) : (l.set i x)[i]? = some x := by
  have hi : i < m.length := by
    have := (List.getElem?_eq_some_iff.mp h).1
    simpa using this
  rw [List.getElem?_set]
  simp
  omega
theorem Rel.setV {i : Nat} {v : V} {d : D} (h : Rel G I s0 F0 H0 r s F H) (hp : parAt r i = false) (rv : Rp G.K F v d) : Rel G I s0 F0 H0 (r.set i (some (.v d))) (s.set i (some v)) F H := by
  obtain ⟨fp, h⟩ := h
  have old : ∀ {j : Nat} {b : Bool} {ob : Ob}, (r.set i (some (.v d)))[j]? = some (some (Bd.o b ob)) → j ≠ i ∧ r[j]? = some (some (Bd.o b ob)) := fun {j b ob} e => by
    rcases get_set e with ⟨_, e2⟩ | e2
    · cases e2
    · exact e2
  refine ⟨fp, h.ext, fun j d' e => ?_, fun j b ob e => ?_, fun j b ob a e ha => h.fre j b ob a (old e).2 ha, fun j k bj oj bk ok a e1 e2 => h.dis j k bj oj bk ok a (old e1).2 (old e2).2, fun j ob e => ?_, by simpa using h.len, h.ini⟩
  · rcases get_set e with ⟨rfl, e2⟩ | ⟨ne, e2⟩
    · injection e2 with e2
      injection e2 with e2
      subst e2
      exact ⟨v, set_self h.len e, rv⟩
    · rw [List.getElem?_set_ne (Ne.symm ne)]
      exact h.val j d' e2
  · obtain ⟨ne, e2⟩ := old e
    rw [List.getElem?_set_ne (Ne.symm ne)]
    exact h.own j b ob e2
  · obtain ⟨ne, e2⟩ := old e
    rw [List.getElem?_set_ne (Ne.symm ne)]
    exact h.par j ob e2
def stM (i : Nat) (b : Bd) : Mn Fl := fun r => if parAt r i then .bad else .ok .nx (r.set i (some b))
def asgM (i : Nat) (c : Mn D) : Mn Fl := bnd c fun d => stM i (.v d)
theorem stM_run {i : Nat} {b : Bd} (h : PostS G W I s0 F0 H0 B E (stM i b r)) : parAt r i = false ∧ PostS G W I s0 F0 H0 B E (.ok .nx (r.set i (some b))) := by
  unfold stM at h
  split at h
  · exact h.elim
  · rename_i z
    exact ⟨by simpa using z, h⟩
theorem ss_asg {i : Nat} {te : TE} {c : Mn D} (he : SG G W (rpV G) te c) : SS G W (tAsg te (gName i)) (asgM i c) := by
  intro I s0 F0 H0 r s F H rel E h
  unfold tAsg gName
  refine sg_runS he rel (Same.refl _) h fun x a r1 F1 H1 rel1 s1 sb1 rx h1 => ?_
  obtain ⟨hp, h2⟩ := stM_run h1
  exact h2 _ F1 H1 (rel1.setV hp rx) sb1
def seqM (a b : Mn Fl) : Mn Fl := fun r => match a r with
  | .ok .nx r' => b r'
  | z => z
theorem ss_seq {t u : TS} {a b : Mn Fl} (h1 : SS G W t a) (h2 : SS G W u b) : SS G W (tSeq t u) (seqM a b) := by
  intro I s0 F0 H0 r s F H rel E h
  refine h1 I s0 F0 H0 r s F H rel _ ?_
  unfold seqM at h
  cases e : a r with
  | bad =>
    rw [e] at h
    exact h
  | exc n r' =>
    rw [e] at h
    exact h
  | ok f r' =>
    rw [e] at h
    cases f with
    | nx => exact fun s' F' H' rl sm => h2 I s0 F0 H0 r' s' F' H' rl E (postS_mono sm h)
    | bk => exact h
    | ct => exact h
    | rt d => exact h
end
section
variable {X : Cx} {W : WX} {st : Stmt} {rest : List Stmt} {a b e : Expr} {pos : Pos}
theorem mb_nil : MB X W [] (ret .nx) := ⟨_, pss_nil, fun I s0 F0 H0 r s F H rel E h => h s F H rel (Same.refl _)⟩
theorem mb_cons {c1 c2 : Mn Fl} (h1 : MS X W st c1) (h2 : MB X W rest c2) : MB X W (st :: rest) (seqM c1 c2) := by
  obtain ⟨t, a1, a2⟩ := h1
  obtain ⟨u, b1, b2⟩ := h2
  exact ⟨_, pss_cons a1 b1, ss_seq a2 b2⟩
theorem mb_one {c1 : Mn Fl} (h1 : MS X W st c1) : MB X W [st] c1 := by
  obtain ⟨t, a1, a2⟩ := h1
  exact ⟨_, pss_one a1, a2⟩
theorem ms_set {i : Nat} {x : Str} {c : Mn D} {pos' : Pos} (hN : X.N.Nodup) (hi : X.N[i]? = some x) (hx : Loc X.env.scope x) (he : ME X W e c) (hs : swapsWith e (some (.Name x pos')) pos.line X.env = pure false := by rfl)
    (hf : X.fn x = true ∨ X.env.scope.names.lookup x = some .local := by first | exact .inl rfl | exact .inr rfl | assumption) : MS X W (.Assign [.Name x pos'] e pos) (asgM i c) := by
  obtain ⟨t, a1, a2⟩ := he
  exact ⟨_, ps_set hN hi hx a1 hs hf, ss_asg a2⟩
def rtM (c : Mn D) : Mn Fl := bnd c fun d => ret (.rt d)
theorem ms_ret {c : Mn D} (he : ME X W e c) : MS X W (.Return (some e) pos) (rtM c) := by
  obtain ⟨t, a1, a2⟩ := he
  refine ⟨_, ps_ret a1, fun I s0 F0 H0 r s F H rel E h => ?_⟩
  unfold tRet
  exact sg_runS a2 rel (Same.refl _) h fun x a r1 F1 H1 rel1 s1 sb1 rx h1 => h1 x s F1 H1 rel1 sb1 rx
theorem ms_pass : MS X W (.Pass pos) (ret .nx) := ⟨_, ps_pass, fun I s0 F0 H0 r s F H rel E h => h s F H rel (Same.refl _)⟩
def dropM (c : Mn D) : Mn Fl := bnd c fun _ => ret .nx
theorem ms_expr {c : Mn D} (he : ME X W e c) (hs : swapsWith e none pos.line X.env = pure false := by rfl) : MS X W (.Expr e pos) (dropM c) := by
  obtain ⟨t, a1, a2⟩ := he
  refine ⟨_, ps_expr a1 hs, fun I s0 F0 H0 r s F H rel E h => ?_⟩
  unfold tDrop
  exact sg_runS a2 rel (Same.refl _) h fun x a r1 F1 H1 rel1 s1 sb1 rx h1 => h1 s F1 H1 rel1 sb1
theorem ms_if {c : Expr} {as bs : List Stmt} {ct : Mn Bool} {ca cb : Mn Fl} (hc : MT X W c ct) (ha : MB X W as ca) (hb : MB X W bs cb) : MS X W (.If c as bs pos) (iteM ct ca cb) := by
  obtain ⟨t, c1, c2⟩ := hc
  obtain ⟨u, a1, a2⟩ := ha
  obtain ⟨w, b1, b2⟩ := hb
  refine ⟨_, ps_if c1 a1 b1, fun I s0 F0 H0 r s F H rel E h => ?_⟩
  unfold tIfS
  refine sg_runS c2 rel (Same.refl _) h fun x k r1 F1 H1 rel1 s1 sb1 rx h1 => ?_
  cases rx
  cases x with
  | true =>
    rw [if_pos rfl] at h1 ⊢
    exact a2 I s0 F0 H0 r1 s F1 H1 rel1 E (postS_mono sb1 h1)
  | false =>
    rw [if_neg Bool.false_ne_true] at h1 ⊢
    exact b2 I s0 F0 H0 r1 s F1 H1 rel1 E (postS_mono sb1 h1)
/-! ### x, y = a, b -/
def par2 (i j : Nat) (c : Mn (List D)) : Mn Fl := bnd c fun ds => match ds with
  | [x, y] => seqM (stM i (.v x)) (stM j (.v y))
  | _ => fun _ => .bad
theorem seq_st {G : Gm} {I : List Addr} {s0 s : Sl} {F0 H0 F H B : Hp} {r : En} {E : Ends} {i : Nat} {d : D} {v : V} {c : Mn Fl} (rel : Rel G I s0 F0 H0 r s F H) (rv : Rp G.K F v d) (h : PostS G W I s0 F0 H0 B E (seqM (stM i (.v d)) c r)) :
    Rel G I s0 F0 H0 (r.set i (some (.v d))) (s.set i (some v)) F H ∧ PostS G W I s0 F0 H0 B E (c (r.set i (some (.v d)))) := by
  unfold seqM stM at h
  by_cases z : parAt r i = true
  · rw [if_pos z] at h
    exact h.elim
  · rw [if_neg z] at h
    exact ⟨rel.setV (by simpa using z) rv, h⟩
theorem ms_par {i j : Nat} {ca : Mn (List D)} (hp : ∀ ta, PA X [a, b] ta → PS X st (tPar i j ta)) (ha : MA X W [a, b] ca) : MS X W st (par2 i j ca) := by
  obtain ⟨ta, a1, a2⟩ := ha
  refine ⟨_, hp ta a1, fun I s0 F0 H0 r s F H rel E h => ?_⟩
  unfold tPar
  refine sg_runS a2 rel (Same.refl _) h fun vs ds r1 F1 H1 rel1 s1 sb1 rx h1 => ?_
  cases rx with
  | nil => exact h1.elim
  | cons r1' t1 =>
    cases t1 with
    | nil => exact h1.elim
    | cons r2' t2 =>
      cases t2 with
      | cons _ _ => exact h1.elim
      | nil =>
        refine ⟨_, _, rfl, ?_⟩
        obtain ⟨rel2, h2⟩ := seq_st rel1 r1' h1
        obtain ⟨hp2, h3⟩ := stM_run h2
        exact h3 _ F1 H1 (rel2.setV hp2 r2') sb1
def par3 (i j l : Nat) (c : Mn (List D)) : Mn Fl := bnd c fun ds => match ds with
  | [x, y, z] => seqM (stM i (.v x)) (seqM (stM j (.v y)) (stM l (.v z)))
  | _ => fun _ => .bad
theorem ms_par3 {i j l : Nat} {ca : Mn (List D)} {c : Expr} (hp : ∀ ta, PA X [a, b, c] ta → PS X st (tPar3 i j l ta)) (ha : MA X W [a, b, c] ca) : MS X W st (par3 i j l ca) := by
  obtain ⟨ta, a1, a2⟩ := ha
  refine ⟨_, hp ta a1, fun I s0 F0 H0 r s F H rel E h => ?_⟩
  unfold tPar3
  refine sg_runS a2 rel (Same.refl _) h fun vs ds r1 F1 H1 rel1 s1 sb1 rx h1 => ?_
  cases rx with
  | nil => exact h1.elim
  | cons r1' t1 =>
    cases t1 with
    | nil => exact h1.elim
    | cons r2' t2 =>
      cases t2 with
      | nil => exact h1.elim
      | cons r3' t3 =>
        cases t3 with
        | cons _ _ => exact h1.elim
        | nil =>
          refine ⟨_, _, _, rfl, ?_⟩
          obtain ⟨rel2, h2⟩ := seq_st rel1 r1' h1
          obtain ⟨rel3, h3⟩ := seq_st rel2 r2' h2
          obtain ⟨hp3, h4⟩ := stM_run h3
          exact h4 _ F1 H1 (rel3.setV hp3 r3') sb1
end
/-! ### targets -/
/-- the slots of ix alone may differ -/
def Only (ix : List Nat) (s s' : Sl) : Prop := s'.length = s.length ∧ ∀ j : Nat, j ∉ ix → s'[j]? = s[j]?
def PostG (G : Gm) (I : List Addr) (s0 : Sl) (F0 H0 : Hp) (F : Hp) (ix : List Nat) (s : Sl) (Q : Sl → Hp → Prop) : R Unit → Prop
  | .ok _ r => ∀ s' F' H', Rel G I s0 F0 H0 r s' F' H' → Same F F' → Only ix s s' → Q s' H'
  | _ => False
/-- the reading of a target that follows a mirror -/
def tG (G : Gm) (ix : List Nat) (c : D → Mn Unit) : TG := fun v s H Q => ∃ (I : List Addr) (s0 : Sl) (F0 H0 : Hp) (r : En) (F : Hp) (d : D), Rel G I s0 F0 H0 r s F H ∧ Rp G.K F v d ∧ PostG G I s0 F0 H0 F ix s Q (c d r)
def tGs (G : Gm) (ix : List Nat) (c : List D → Mn Unit) : TGs := fun vs s H Q => ∃ (I : List Addr) (s0 : Sl) (F0 H0 : Hp) (r : En) (F : Hp) (ds : List D), Rel G I s0 F0 H0 r s F H ∧ RpA G.K F vs ds ∧ PostG G I s0 F0 H0 F ix s Q (c ds r)
def MG (X : Cx) (tg : Expr) (ix : List Nat) (c : D → Mn Unit) : Prop := PG X tg (tG (Cx.gm X) ix c)
def MGs (X : Cx) (tgs : List Expr) (ix : List Nat) (c : List D → Mn Unit) : Prop := PGs X tgs (tGs (Cx.gm X) ix c)
theorem pg_imp {X : Cx} {tg : Expr} {g g' : TG} (h : PG X tg g) (k : ∀ v s H Q, g' v s H Q → g v s H Q) : PG X tg g' := ⟨fun pins s σ H v u Q I rv q => h.run pins s σ H v u Q I rv (k v σ H Q q)⟩
theorem pgs_imp {X : Cx} {tgs : List Expr} {g g' : TGs} (h : PGs X tgs g) (k : ∀ v s H Q, g' v s H Q → g v s H Q) : PGs X tgs g' := ⟨fun pins s σ H v u Q I rv q => h.run pins s σ H v u Q I rv (k v σ H Q q)⟩
def gN (i : Nat) : D → Mn Unit := fun d r => if parAt r i then .bad else .ok () (r.set i (some (.v d)))
def gT (n : Nat) (c : List D → Mn Unit) : D → Mn Unit := fun d => match d with
  | .tuple ds => if ds.length = n then c ds else fun _ => .bad
  | _ => fun _ => .bad
def gC (c : D → Mn Unit) (cs : List D → Mn Unit) : List D → Mn Unit := fun ds => match ds with
  | d :: ds => bnd (c d) fun _ => cs ds
  | [] => fun _ => .bad
def gE : List D → Mn Unit := fun ds => match ds with
  | [] => ret ()
  | _ => fun _ => .bad
section
variable {X : Cx} {W : WX} {tg e : Expr} {tgs : List Expr} {pos : Pos}
theorem mg_name {i : Nat} {x : Str} (hN : X.N.Nodup) (hi : X.N[i]? = some x) (hx : Loc X.env.scope x) (hf : X.fn x = true ∨ X.env.scope.names.lookup x = some .local := by first | exact .inl rfl | exact .inr rfl | assumption) : MG X (.Name x pos) [i] (gN i) := by
  refine pg_imp (pg_name hN hi hx hf) ?_
  rintro v s H Q ⟨I, s0, F0, H0, r, F, d, rel, rv, h⟩
  unfold gN at h
  split at h
  · exact h.elim
  · rename_i z
    refine h _ F H (rel.setV (by simpa using z) rv) (Same.refl _) ⟨List.length_set, fun j hj => ?_⟩
    rw [List.getElem?_set_ne (fun q => hj (by simp [q]))]
theorem mgs_nil : MGs X [] [] gE := by
  refine pgs_imp pgs_nil ?_
  rintro vs s H Q ⟨I, s0, F0, H0, r, F, ds, rel, rv, h⟩
  cases rv with
  | nil => exact ⟨rfl, h _ F H rel (Same.refl _) ⟨rfl, fun _ _ => rfl⟩⟩
  | cons _ _ => exact h.elim
theorem postG_bnd {G : Gm} {I : List Addr} {s0 s : Sl} {F0 H0 F : Hp} {ix : List Nat} {Q : Sl → Hp → Prop} {c : Mn Unit} {f : Unit → Mn Unit} {r : En} (h : PostG G I s0 F0 H0 F ix s Q (bnd c f r)) : ∃ r', c r = .ok () r' ∧ PostG G I s0 F0 H0 F ix s Q (f () r') := by
  unfold bnd at h
  cases e : c r with
  | bad =>
    rw [e] at h
    exact h.elim
  | exc n r' =>
    rw [e] at h
    exact h.elim
  | ok u r' =>
    rw [e] at h
    exact ⟨r', rfl, h⟩
theorem mgs_cons {ix jx : List Nat} {c : D → Mn Unit} {cs : List D → Mn Unit} (h1 : MG X tg ix c) (h2 : MGs X tgs jx cs) (hs : (assignEach (tg :: tgs) X.env).map (·.2) = assign tg X.env :: (assignEach tgs X.env).map (·.2) := by rfl) : MGs X (tg :: tgs) (ix ++ jx) (gC c cs) := by
  refine pgs_imp (pgs_cons h1 h2 hs) ?_
  rintro vs s H Q ⟨I, s0, F0, H0, r, F, ds, rel, rv, h⟩
  cases rv with
  | nil => exact h.elim
  | cons rv rt =>
    obtain ⟨r', e, h'⟩ := postG_bnd h
    refine ⟨_, _, rfl, I, s0, F0, H0, r, F, _, rel, rv, ?_⟩
    rw [e]
    intro s' F' H' rl sm o1
    refine ⟨I, s0, F0, H0, r', F', _, rl, dpa_mono sm rt, ?_⟩
    revert h'
    generalize cs _ r' = z
    intro h'
    cases z with
    | bad => exact h'
    | exc n r => exact h'
    | ok u r => exact fun s2 F2 H2 rl2 s3 o2 => h' s2 F2 H2 rl2 (sm.trans s3) ⟨o2.1.trans o1.1, fun j hj => (o2.2 j fun q => hj (by simp [q])).trans (o1.2 j fun q => hj (by simp [q]))⟩
theorem mg_tup {es : List Expr} {k n : Nat} {ix : List Nat} {c : List D → Mn Unit} (hc : X.calm = true) (h : MGs X es ix c) (hn : (assignEach es X.env).length = n := by rfl) (hst : (assignEach es X.env).findIdx? (·.1) = none := by rfl) : MG X (.Tuple es k pos) ix (gT n c) := by
  refine pg_imp (pg_tup hc h hn hst) ?_
  rintro v s H Q ⟨I, s0, F0, H0, r, F, d, rel, rv, h⟩
  unfold gT at h
  cases rv with
  | @tup p xs ds hs ha =>
    dsimp only at h
    by_cases hn : ds.length = n
    · rw [if_pos hn] at h
      exact ⟨_, _, rfl, same_t rel.fh hs, (dpa_len ha).trans hn, I, s0, F0, H0, r, F, ds, rel, ha, h⟩
    · rw [if_neg hn] at h
      exact h.elim
  | _ => exact h.elim
/-- a target's store, then f -/
def bg {α : Type} (z : Mn Unit) (f : Mn α) : Mn α := fun r => match z r with
  | .ok _ r' => f r'
  | _ => .bad
theorem bg_run {α : Type} {P : R α → Prop} {z : Mn Unit} {f : Mn α} {r : En} (h : P (bg z f r)) (hb : ¬ P .bad) : ∃ u r', z r = .ok u r' ∧ P (f r') := by
  unfold bg at h
  cases e : z r with
  | bad =>
    rw [e] at h
    exact absurd h hb
  | exc n r' =>
    rw [e] at h
    exact absurd h hb
  | ok u r' =>
    rw [e] at h
    exact ⟨u, r', rfl, h⟩
/-- the target's reading, used -/
theorem tG_run {G : Gm} {I : List Addr} {s0 s : Sl} {F0 H0 F H : Hp} {r r' : En} {ix : List Nat} {c : D → Mn Unit} {v : V} {d : D} {u : Unit} {Q : Sl → Hp → Prop} (rel : Rel G I s0 F0 H0 r s F H) (rv : Rp G.K F v d) (e : c d r = .ok u r')
    (k : ∀ s' F' H', Rel G I s0 F0 H0 r' s' F' H' → Same F F' → Only ix s s' → Q s' H') : tG G ix c v s H Q := by
  refine ⟨I, s0, F0, H0, r, F, d, rel, rv, ?_⟩
  rw [e]
  exact k
def asgG (c : Mn D) (g : D → Mn Unit) : Mn Fl := bnd c fun d => bg (g d) (ret .nx)
theorem ms_asg {ix : List Nat} {c : Mn D} {g : D → Mn Unit} (he : ME X W e c) (hg : MG X tg ix g) (hs : swapsWithSole [tg] e pos.line X.env = pure false := by rfl) (hw : swappedStores [tg] e X.env = pure none := by rfl)
    (h1 : (assignEach [tg] X.env).map (·.2) = [assign tg X.env] := by rfl) : MS X W (.Assign [tg] e pos) (asgG c g) := by
  obtain ⟨t, a1, a2⟩ := he
  refine ⟨_, ps_asg a1 hg hs hw h1, fun I s0 F0 H0 r s F H rel E h => ?_⟩
  unfold tAsg
  refine sg_runS a2 rel (Same.refl _) h fun x a r1 F1 H1 rel1 s1 sb1 rx h1 => ?_
  obtain ⟨u, r2, e2, h2⟩ := bg_run h1 postS_bad
  exact tG_run rel1 rx e2 fun s' F' H' rl sm _ => h2 s' F' H' rl (sb1.trans sm)
end
end Fg
set_option maxRecDepth 100000
set_option maxHeartbeats 4000000
/-! Fg6: loops. -/
namespace Fg
open PySem PySem.Spec PyProof.Rows L2

/-- behind a turn's body: on, out, or away -/
def turnM (cb : Mn Fl) (next : Mn Fl) : Mn Fl := fun r => match cb r with
  | .ok .nx r' => next r'
  | .ok .ct r' => next r'
  | .ok .bk r' => .ok .nx r'
  | z => z
def whileM (ct : Mn Bool) (cb : Mn Fl) : Nat → Mn Fl
  | 0 => fun _ => .bad
  | n + 1 => bnd ct fun k => if k then turnM cb (whileM ct cb n) else ret .nx
section
variable {G : Gm} {W : WX} {I : List Addr} {s0 s : Sl} {F0 H0 F H B : Hp} {r : En} {E : Ends}
/-- the body's reading, where what follows a turn is N -/
theorem ss_turn {tb : TS} {cb next : Mn Fl} {N : Sl → Hp → Prop} (hb : SS G W tb cb) (rel : Rel G I s0 F0 H0 r s F H) (sb : Same B F) (h : PostS G W I s0 F0 H0 B E (turnM cb next r))
    (hN : ∀ r' s' F' H', Rel G I s0 F0 H0 r' s' F' H' → Same F F' → PostS G W I s0 F0 H0 B E (next r') → N s' H') : tb { E with nx := N, ct := N, bk := E.nx } s H := by
  refine hb I s0 F0 H0 r s F H rel _ ?_
  unfold turnM at h
  cases e : cb r with
  | bad =>
    rw [e] at h
    exact h
  | exc n r' =>
    rw [e] at h
    exact fun s' F' H' rl sm => h s' F' H' rl (sb.trans sm)
  | ok f r' =>
    rw [e] at h
    cases f with
    | nx => exact fun s' F' H' rl sm => hN r' s' F' H' rl sm h
    | ct => exact fun s' F' H' rl sm => hN r' s' F' H' rl sm h
    | bk => exact fun s' F' H' rl sm => h s' F' H' rl (sb.trans sm)
    | rt d => exact fun v s' F' H' rl sm => h v s' F' H' rl (sb.trans sm)
theorem ss_while {tc : TT} {tb : TS} {ct : Mn Bool} {cb : Mn Fl} (n : Nat) (hc : SG G W rpB tc ct) (hb : SS G W tb cb) : SS G W (tWhile tc tb) (whileM ct cb n) := by
  intro I s0 F0 H0 r s B H rel E h
  refine ⟨fun m s H => ∃ r F, Rel G I s0 F0 H0 r s F H ∧ Same B F ∧ PostS G W I s0 F0 H0 B E (whileM ct cb m r), ⟨n, r, B, rel, Same.refl _, h⟩, ?_⟩
  rintro m s H ⟨r, F, rel, sb, h⟩
  cases m with
  | zero => exact h.elim
  | succ m =>
    refine sg_runS hc rel sb h fun x k r1 F1 H1 rel1 s1 sb1 rx h1 => ?_
    cases rx
    cases x with
    | false =>
      rw [if_neg Bool.false_ne_true] at h1 ⊢
      exact h1 s F1 H1 rel1 sb1
    | true =>
      rw [if_pos rfl] at h1 ⊢
      refine ⟨fun s' H' => ∃ r F, Rel G I s0 F0 H0 r s' F H' ∧ Same B F ∧ PostS G W I s0 F0 H0 B E (whileM ct cb m r), fun s' H' h' => ⟨m, Nat.lt_succ_self m, h'⟩, ?_⟩
      exact ss_turn hb rel1 sb1 h1 fun r' s' F' H' rl sm hn => ⟨r', F', rl, sb1.trans sm, hn⟩
end
theorem ms_while {X : Cx} {W : WX} {c : Expr} {body : List Stmt} {ct : Mn Bool} {cb : Mn Fl} {pos : Pos} (n : Nat) (hp : PassesOwn (model X.prog X.w) X.A X.env X.xe) (hc : MT X W c ct) (hb : MB X W body cb) : MS X W (.While c body [] pos) (whileM ct cb n) := by
  obtain ⟨t, c1, c2⟩ := hc
  obtain ⟨u, b1, b2⟩ := hb
  exact ⟨_, ps_while hp c1 b1, ss_while n c2 b2⟩

/-! ### what a for walks -/
/-- J gives the items ds, whatever happens beside -/
structure Src (G : Gm) (F1 : Hp) (J : It) (ds : List D) : Prop where
  ex : ∃ (Gd : Hp → Prop) (Y : Nat → Hp → V → Hp → Prop), Walk J ds.length Gd Y ∧ (∀ F H, Same F1 F → Same F H → Gd H) ∧
    ∀ i F H x H', i < ds.length → Same F1 F → Same F H → Y i H x H' → ∃ F' d, Ext [] F H F' H' ∧ ds[i]? = some d ∧ Rp G.K F' x d
def PostI (G : Gm) (W : WX) (I : List Addr) (s0 : Sl) (F0 H0 : Hp) (s : Sl) (F : Hp) (Q : It → Hp → Prop) : R (List D) → Prop
  | .ok ds r' => ∀ J F' H', Rel G I s0 F0 H0 r' s F' H' → Same F F' → Src G F' J ds → Q J H'
  | .exc e r' => ∀ F' H', Rel G I s0 F0 H0 r' s F' H' → Same F F' → W (G.cls e) none s H'
  | .bad => False
theorem postI_lf {G : Gm} {W : WX} {I : List Addr} {s0 : Sl} {F0 H0 : Hp} {s : Sl} {F : Hp} {Q : It → Hp → Prop} {o : Option (List D)} {r : En} (h : PostI G W I s0 F0 H0 s F Q (lf o r)) :
    ∃ ds, o = some ds ∧ ∀ J F' H', Rel G I s0 F0 H0 r s F' H' → Same F F' → Src G F' J ds → Q J H' := by
  cases o with
  | none => exact h.elim
  | some a => exact ⟨a, rfl, h⟩
structure MI (X : Cx) (W : WX) (tg iter : Expr) (c : Mn (List D)) : Prop where
  ex : ∃ wi, PI X tg iter wi ∧ ∀ (I : List Addr) (s0 : Sl) (F0 H0 : Hp) (r : En) (s : Sl) (F H : Hp), Rel (Cx.gm X) I s0 F0 H0 r s F H → ∀ R : It → Hp → Prop,
    PostI (Cx.gm X) W I s0 F0 H0 s F R (c r) → wi s H R
def forM (g : D → Mn Unit) (cb : Mn Fl) : List D → Mn Fl
  | [] => ret .nx
  | d :: ds => bg (g d) (turnM cb (forM g cb ds))
def forS (ci : Mn (List D)) (g : D → Mn Unit) (cb : Mn Fl) : Mn Fl := bnd ci fun ds => forM g cb ds
theorem drop_cons {α : Type} {l : List α} {i : Nat} {d : α} (h : l[i]? = some d) : l.drop i = d :: l.drop (i + 1) := by
  obtain ⟨hi, e⟩ := List.getElem?_eq_some_iff.mp h
  rw [List.drop_eq_getElem_cons hi, e]
theorem ms_for {X : Cx} {W : WX} {tg iter : Expr} {body : List Stmt} {ci : Mn (List D)} {g : D → Mn Unit} {cb : Mn Fl} {pos : Pos} (hp : PassesOwn (model X.prog X.w) X.A X.env X.xe) (hc : X.calm = true) {ix : List Nat} (hi : MI X W tg iter ci) (hg : MG X tg ix g) (hb : MB X W body cb)
    (hs : ∀ x, foldedSetIterable iter X.env x = pure x := by intro _; rfl) : MS X W (.For tg iter body [] pos) (forS ci g cb) := by
  obtain ⟨wi, i1, i2⟩ := hi
  obtain ⟨tb, b1, b2⟩ := hb
  refine ⟨_, ps_for hp hc i1 hg b1 hs, fun I s0 F0 H0 r s F H rel E h => ?_⟩
  unfold tFor
  refine i2 I s0 F0 H0 r s F H rel _ ?_
  unfold forS bnd at h
  cases e : ci r with
  | bad =>
    rw [e] at h
    exact h
  | exc n r' =>
    rw [e] at h
    exact fun F' H' rl sm => h s F' H' rl sm
  | ok ds r' =>
    rw [e] at h
    have h : PostS (Cx.gm X) W I s0 F0 H0 F E (forM g cb ds r') := h
    rintro J F1 H1 rel1 sm ⟨Gd, Y, w, hG, hY⟩
    refine for_it w (fun i s H => ∃ r F2, Rel (Cx.gm X) I s0 F0 H0 r s F2 H ∧ Same F1 F2 ∧ PostS (Cx.gm X) W I s0 F0 H0 F E (forM g cb (ds.drop i) r)) ⟨r', F1, rel1, Same.refl _, h⟩ (fun i s H hi ⟨r, F, rl, s2, _⟩ => hG F H s2 rl.fh) ?_ ?_
    · rintro i x s2 H2 H3 hi ⟨r2, F2, rel2, sm2, h2⟩ y
      obtain ⟨F3, d, x3, ed, rd⟩ := hY i F2 H2 x H3 hi sm2 rel2.fh y
      rw [drop_cons ed] at h2
      have rel3 := rel2.grow x3
      obtain ⟨u, r4, e4, h4⟩ := bg_run (P := PostS (Cx.gm X) W I s0 F0 H0 F E) h2 postS_bad
      refine tG_run rel3 rd e4 fun s4 F4 H4 rel4 sm4 _ => ?_
      have big : Same F1 F4 := (sm2.trans x3.ff).trans sm4
      exact ss_turn b2 rel4 (sm.trans big) h4 fun r5 s5 F5 H5 rel5 sm5 hn => ⟨r5, F5, rel5, big.trans sm5, hn⟩
    · rintro s2 H2 ⟨r2, F2, rel2, sm2, h2⟩
      rw [List.drop_eq_nil_of_le (Nat.le_refl _)] at h2
      exact h2 s2 F2 H2 rel2 (sm.trans sm2)
/-! the sources -/
def asL : D → Mn (List D) := fun d => match d with
  | .list ds => ret ds
  | _ => fun _ => .bad
def asT : D → Mn (List D) := fun d => match d with
  | .tuple ds => ret ds
  | _ => fun _ => .bad
theorem src_of {G : Gm} {F1 : Hp} {J : It} {xs : List V} {ds : List D} {Gd : Hp → Prop} (w : Walk J xs.length Gd (YAt xs)) (hG : ∀ F H, Same F1 F → Same F H → Gd H) (ha : RpA G.K F1 xs ds) : Src G F1 J ds := by
  rw [dpa_len ha] at w
  refine ⟨Gd, _, w, hG, ?_⟩
  rintro i F H x H' hi s1 s2 ⟨rfl, ex⟩
  obtain ⟨d, ed, rd⟩ := dpa_getV ha ex
  exact ⟨F, d, Ext.refl s2, ed, dp_mono s1 rd⟩
section
variable {X : Cx} {W : WX} {tg e : Expr}
theorem mi_list {c : Mn D} (he : ME X W e c) : MI X W tg e (bnd c asL) := by
  obtain ⟨te, e1, e2⟩ := he
  refine ⟨_, pi_list e1, fun I s0 F0 H0 r s F H rel R h => ?_⟩
  unfold iList
  refine sg_run (P := PostI (Cx.gm X) W I s0 F0 H0 s F R) e2 rel h (fun e r' z => z) (fun z => z) fun x a r1 F1 H1 rel1 sm rx h1 => ?_
  unfold asL at h1
  cases rx with
  | lst hp ha =>
    refine ⟨_, rfl, ⟨_, SqL.of (rel1.fh _ _ hp)⟩, h1 _ F1 H1 rel1 sm (src_of walk_list (fun F' H' s1 s2 => SqL.of (s2 _ _ (s1 _ _ hp))) ha)⟩
  | _ => exact h1.elim
theorem mi_tup {c : Mn D} (he : ME X W e c) : MI X W tg e (bnd c asT) := by
  obtain ⟨te, e1, e2⟩ := he
  refine ⟨_, pi_tup e1, fun I s0 F0 H0 r s F H rel R h => ?_⟩
  unfold iTup
  refine sg_run (P := PostI (Cx.gm X) W I s0 F0 H0 s F R) e2 rel h (fun e r' z => z) (fun z => z) fun x a r1 F1 H1 rel1 sm rx h1 => ?_
  unfold asT at h1
  cases rx with
  | tup hp ha =>
    refine ⟨_, rfl, ⟨_, same_t rel1.fh hp⟩, h1 _ F1 H1 rel1 sm (src_of walk_tup (fun F' H' s1 s2 => same_t s2 (same_t s1 hp)) ha)⟩
  | _ => exact h1.elim
/-- range(a), range(a, b) -/
def upto (lo : Int) (n : Nat) : List D := (List.range n).map fun i => .int (lo + (i : Nat))
theorem src_range {G : Gm} {F1 : Hp} {lo : Int} {n : Nat} : Src G F1 (Itr lo n) (upto lo n) := by
  have hl : (upto lo n).length = n := by simp [upto]
  have w : Walk (Itr lo n) n (fun _ => True) (YFn fun i => .int (lo + i)) := walk_range
  rw [← hl] at w
  rw [hl] at w
  refine ⟨fun _ => True, (YFn fun i => .int (lo + i)), by rw [hl]; exact w, fun _ _ _ _ => trivial, ?_⟩
  rintro i F H x H' hi s1 s2 ⟨rfl, rfl⟩
  refine ⟨F, .int (lo + (i : Nat)), Ext.refl s2, ?_, .int _⟩
  rw [hl] at hi
  simp [upto, hi]
def rng1 : List D → Option (List D)
  | [.int j] => if -4000000000000000000 ≤ j ∧ j < 4000000000000000000 then some (upto 0 j.toNat) else none
  | _ => none
def rng2 : List D → Option (List D)
  | [.int i, .int j] => if (-4000000000000000000 ≤ i ∧ i < 4000000000000000000) ∧ -4000000000000000000 ≤ j ∧ j < 4000000000000000000 then some (upto i (j - i).toNat) else none
  | _ => none
theorem mi_range1 {a : Expr} {ca : Mn (List D)} {p pos : Pos} (hg : Gl X "range") (hm : X.mg "range" = none) (ha : MA X W [a] ca) (hs : starEach [a] X.env = [(false, eval a X.env)] := by rfl) : MI X W tg (.Call (.Name "range" p) [a] [] pos) (bnd ca fun ds => lf (rng1 ds)) := by
  obtain ⟨te, e1, e2⟩ := ha
  refine ⟨_, pi_range1 hg hm e1 hs, fun I s0 F0 H0 r s F H rel R h => ?_⟩
  unfold iRng1
  refine sg_run (P := PostI (Cx.gm X) W I s0 F0 H0 s F R) e2 rel h (fun e r' z => z) (fun z => z) fun vs ds r1 F1 H1 rel1 sm rx h1 => ?_
  obtain ⟨l, el, k⟩ := postI_lf h1
  unfold rng1 at el
  split at el
  · rename_i j
    split at el
    · rename_i hb
      injection el with el
      subst el
      cases rx with
      | cons r1' t1 =>
        cases t1
        cases r1'
        exact ⟨j, rfl, by omega, by omega, k _ F1 H1 rel1 sm src_range⟩
    · cases el
  · cases el
theorem mi_range2 {a b : Expr} {ca : Mn (List D)} {p pos : Pos} (hg : Gl X "range") (hm : X.mg "range" = none) (ha : MA X W [a, b] ca) (hs : starEach [a, b] X.env = [(false, eval a X.env), (false, eval b X.env)] := by rfl) (hs2 : starEach [b] X.env = [(false, eval b X.env)] := by rfl) :
    MI X W tg (.Call (.Name "range" p) [a, b] [] pos) (bnd ca fun ds => lf (rng2 ds)) := by
  obtain ⟨te, e1, e2⟩ := ha
  refine ⟨_, pi_range2 hg hm e1 hs hs2, fun I s0 F0 H0 r s F H rel R h => ?_⟩
  unfold iRng2
  refine sg_run (P := PostI (Cx.gm X) W I s0 F0 H0 s F R) e2 rel h (fun e r' z => z) (fun z => z) fun vs ds r1 F1 H1 rel1 sm rx h1 => ?_
  obtain ⟨l, el, k⟩ := postI_lf h1
  unfold rng2 at el
  split at el
  · rename_i i j
    split at el
    · rename_i hb
      injection el with el
      subst el
      cases rx with
      | cons r1' t1 =>
        cases t1 with
        | cons r2' t2 =>
          cases t2
          cases r1'
          cases r2'
          exact ⟨i, j, rfl, by omega, k _ F1 H1 rel1 sm src_range⟩
    · cases el
  · cases el
end
end Fg
set_option maxRecDepth 100000
set_option maxHeartbeats 4000000
/-! Fg7: defs and their calls. -/
namespace Fg
open PySem PySem.Spec PyProof.Rows L2

inductive RI where
  | ok (d : D) (bs : List Bd)
  | exc (e : Ec) (bs : List Bd)
  | bad
def PostD (G : Gm) (J : List Addr) (vs : List V) (F H : Hp) (Q : VK) (E : XK) : RI → Prop
  | .ok d bs => ∀ v F' H', Rel G J (vs.map some) F H (bs.map some) (vs.map some) F' H' → Rp G.K F' v d → Q v H'
  | .exc e bs => ∀ F' H', Rel G J (vs.map some) F H (bs.map some) (vs.map some) F' H' → E (G.cls e) none H'
  | .bad => False
/-- the promise of a def with the mirror m -/
def spI (G : Gm) (n : Nat) (m : List Bd → RI) : Sp := fun vs H Q E => vs.length = n ∧ ∃ (F : Hp) (bs : List Bd) (J : List Addr), Rel G J (vs.map some) F H (bs.map some) (vs.map some) F H ∧ PostD G J vs F H Q E (m bs)
def flag : Bd → Bd
  | .o _ ob => .o true ob
  | b => b
def outB : List Bd → En → Option (List Bd)
  | [], _ => some []
  | .v d :: bs, _ :: r => (outB bs r).map fun l => .v d :: l
  | .o _ _ :: bs, some (.o true ob) :: r => (outB bs r).map fun l => .o true ob :: l
  | _, _ => none
def startR (nn : Nat) (bs : List Bd) : En := bs.map (fun b => some (flag b)) ++ List.replicate (nn - bs.length) none
def finD (d : D) (o : Option (List Bd)) : RI := match o with
  | some bs => .ok d bs
  | none => .bad
def finX (e : Ec) (o : Option (List Bd)) : RI := match o with
  | some bs => .exc e bs
  | none => .bad
def endD (bs : List Bd) : R Fl → RI
  | .ok .nx r => finD .none (outB bs r)
  | .ok (.rt d) r => finD d (outB bs r)
  | .exc e r => finX e (outB bs r)
  | _ => .bad
def runD (nn : Nat) (c : Mn Fl) (bs : List Bd) : RI := endD bs (c (startR nn bs))
theorem outB_get : ∀ {bs : List Bd} {r : En} {bs' : List Bd}, outB bs r = some bs' → bs'.length = bs.length ∧ (∀ (i : Nat) (d : D), bs'[i]? = some (.v d) → bs[i]? = some (.v d)) ∧
    ∀ (i : Nat) (b : Bool) (ob : Ob), bs'[i]? = some (.o b ob) → b = true ∧ r[i]? = some (some (.o true ob))
  | [], _, _, h => by
    injection h with h
    subst h
    exact ⟨rfl, fun i d e => by simp at e, fun i b ob e => by simp at e⟩
  | .v d :: bs, x :: r, bs', h => by
    have h : (outB bs r).map (fun l => Bd.v d :: l) = some bs' := h
    cases e : outB bs r with
    | none =>
      rw [e] at h
      cases h
    | some l =>
      rw [e] at h
      injection h with h
      subst h
      obtain ⟨h1, h2, h3⟩ := outB_get e
      refine ⟨by simp [h1], fun i d' q => ?_, fun i b ob q => ?_⟩
      · cases i with
        | zero => simpa using q
        | succ i =>
          rw [List.getElem?_cons_succ] at q ⊢
          exact h2 i d' q
      · cases i with
        | zero => simp at q
        | succ i =>
          rw [List.getElem?_cons_succ] at q ⊢
          exact h3 i b ob q
  | .o f o1 :: bs, some (.o true ob) :: r, bs', h => by
    have h : (outB bs r).map (fun l => Bd.o true ob :: l) = some bs' := h
    cases e : outB bs r with
    | none =>
      rw [e] at h
      cases h
    | some l =>
      rw [e] at h
      injection h with h
      subst h
      obtain ⟨h1, h2, h3⟩ := outB_get e
      refine ⟨by simp [h1], fun i d' q => ?_, fun i b ob' q => ?_⟩
      · cases i with
        | zero => simp at q
        | succ i =>
          rw [List.getElem?_cons_succ] at q ⊢
          exact h2 i d' q
      · cases i with
        | zero =>
          simp at q
          simp [← q.1, q.2]
        | succ i =>
          rw [List.getElem?_cons_succ] at q ⊢
          exact h3 i b ob' q
  | .v d :: bs, [], _, h => by cases h
  | .o f o1 :: bs, [], _, h => by cases h
  | .o f o1 :: bs, none :: r, _, h => by cases h
  | .o f o1 :: bs, some (.v d) :: r, _, h => by cases h
  | .o f o1 :: bs, some (.o false ob) :: r, _, h => by cases h
theorem startR_get {nn i : Nat} {bs : List Bd} {b : Bd} (h : (startR nn bs)[i]? = some (some b)) : ∃ b', bs[i]? = some b' ∧ b = flag b' := by
  unfold startR at h
  by_cases hi : i < bs.length
  · rw [List.getElem?_append_left (by simpa using hi), List.getElem?_map] at h
    cases e : bs[i]? with
    | none =>
      rw [e] at h
      cases h
    | some b' =>
      rw [e] at h
      injection h with h
      injection h with h
      exact ⟨b', rfl, h.symm⟩
  · rw [List.getElem?_append_right (by simpa using hi), List.getElem?_replicate] at h
    split at h <;> cases h
theorem map_some {α : Type} {l : List α} {i : Nat} {x : α} : (l.map some)[i]? = some (some x) ↔ l[i]? = some x := by
  rw [List.getElem?_map]
  cases l[i]? with
  | none => simp
  | some y => simp
theorem start_get {N : List Str} {vs : List V} {i : Nat} {v : V} (h : vs[i]? = some v) : (start N vs)[i]? = some (some v) := by
  unfold L2.start
  obtain ⟨hi, _⟩ := List.getElem?_eq_some_iff.mp h
  rw [List.getElem?_append_left (by simpa using hi)]
  exact map_some.mpr h
section
variable {G : Gm} {J : List Addr} {vs : List V} {F H F' H' : Hp} {bs bs' : List Bd} {N : List Str} {r : En} {s : Sl}
theorem rel_start (h : Rel G J (vs.map some) F H (bs.map some) (vs.map some) F H) (hl : vs.length ≤ N.length) : Rel G J (start N vs) F H (startR N.length bs) (start N vs) F H := by
  obtain ⟨fp, h⟩ := h
  have len : vs.length = bs.length := by simpa using h.len
  have old : ∀ {i : Nat} {b : Bool} {ob : Ob}, (startR N.length bs)[i]? = some (some (Bd.o b ob)) → ∃ b', b = true ∧ (bs.map some)[i]? = some (some (Bd.o b' ob)) := fun {i b ob} e => by
    obtain ⟨b', e1, e2⟩ := startR_get e
    cases b' with
    | v d => cases e2
    | o f ob' =>
      injection e2 with e4 e3
      subst e3
      exact ⟨f, e4, map_some.mpr e1⟩
  refine ⟨fp, h.ext, fun i d e => ?_, fun i b ob e => ?_, fun i b ob a e ha => ?_, fun i j bi oi bj oj a e1 e2 h1 h2 => ?_, fun _ _ _ => rfl, ?_, h.ini⟩
  · obtain ⟨b', e1, e2⟩ := startR_get e
    cases b' with
    | o f ob => cases e2
    | v d' =>
      injection e2 with e2
      subst e2
      obtain ⟨v, h1, h2⟩ := h.val i _ (map_some.mpr e1)
      exact ⟨v, start_get (map_some.mp h1), h2⟩
  · obtain ⟨b', _, e'⟩ := old e
    obtain ⟨v, h1, h2⟩ := h.own i b' ob e'
    exact ⟨v, start_get (map_some.mp h1), h2⟩
  · obtain ⟨b', eb, e'⟩ := old e
    exact ⟨(h.fre i b' ob a e' ha).1, (h.fre i b' ob a e' ha).2.imp (fun z => ⟨eb, z.2⟩) id⟩
  · obtain ⟨b1, _, e1'⟩ := old e1
    obtain ⟨b2, _, e2'⟩ := old e2
    exact h.dis i j b1 oi b2 oj a e1' e2' h1 h2
  · unfold L2.start startR
    simp [len]
theorem rel_end (h0 : Rel G J (vs.map some) F H (bs.map some) (vs.map some) F H) (h : Rel G J (start N vs) F H r s F' H') (e : outB bs r = some bs') : Rel G J (vs.map some) F H (bs'.map some) (vs.map some) F' H' := by
  obtain ⟨fp0, h0⟩ := h0
  obtain ⟨fp, h⟩ := h
  obtain ⟨l1, l2, l3⟩ := outB_get e
  have len : vs.length = bs.length := by simpa using h0.len
  have old : ∀ {i : Nat} {b : Bool} {ob : Ob}, (bs'.map some)[i]? = some (some (Bd.o b ob)) → b = true ∧ r[i]? = some (some (Bd.o true ob)) := fun {i b ob} e => l3 i b ob (map_some.mp e)
  refine ⟨fp, h.ext, fun i d q => ?_, fun i b ob q => ?_, fun i b ob a q ha => ⟨(h.fre i true ob a (old q).2 ha).1, (h.fre i true ob a (old q).2 ha).2.imp (fun z => ⟨(old q).1, z.2⟩) id⟩, fun i j bi oi bj oj a e1 e2 => h.dis i j true oi true oj a (old e1).2 (old e2).2, fun _ _ _ => rfl, by simp [l1, len], h.ini⟩
  · obtain ⟨v, h1, h2⟩ := h0.val i d (map_some.mpr (l2 i d (map_some.mp q)))
    exact ⟨v, h1, dp_mono h.ext.ff h2⟩
  · have e1 := (old q).2
    obtain ⟨v, h1, h2⟩ := h.own i true ob e1
    have hi : i < vs.length := by
      have q2 := map_some.mp q
      have := (List.getElem?_eq_some_iff.mp q2).1
      omega
    refine ⟨v, ?_, h2⟩
    have q3 := h.par i ob e1
    rw [h1] at q3
    have q4 : (start N vs)[i]? = some (some vs[i]) := start_get (by simp [hi])
    rw [q4] at q3
    injection q3 with q3
    injection q3 with q3
    subst q3
    exact map_some.mpr (by simp [hi])
end
/-- THE RULE for a def: its body's mirror -/
theorem fn_mir {P : Program} {w : World} {K : PySem.W.Frag} {mg : Str → Option Value} {base : Heap} {x qual : Str} {st : Stmt} {f : Addr} {fd : FuncData} {N ps : List Str} {k : Nat} {c : Mn Fl} (Fn : Fun K x qual st f fd) (S : FnScope N ps (defScope st))
    (hb : ∀ (cdv : Value) (A : Around) (outer : List Env) (s : Shared) (H : Hp) (E : XK), Room k (A.deeper (envOfC qual (defScope st) s.heap.objs.size f cdv)) →
      MB (cxOf (L2N.CX P w) P w K mg base N qual (defScope st) f cdv A outer s H E) (fun cls d _ H => E cls d H) (defBody st) c) :
    FnOk P w K mg base (L2N.CX P w) (k + 1) f fd ps (spI ⟨K, mg⟩ ps.length (runD N.length c)) := by
  obtain ⟨oc, od, kV, doc, pm, an, cdv, ct, osl, rfl, lk, hcd⟩ := Fn.ex
  refine fn_of lk hcd S (fun vs H Q E h => h.1) fun A outer s H vs Q E hr hsp => ?_
  obtain ⟨hl, F, bs, J, rel, post⟩ := hsp
  obtain ⟨t, h1, h2⟩ := hb cdv A outer s H E hr
  refine ⟨t, h1, ?_⟩
  have hpl : ps.length ≤ N.length := by
    have := congrArg List.length S.pre
    rw [List.length_take] at this
    omega
  refine h2 J (start N vs) F H (startR N.length bs) (start N vs) F H (rel_start rel (by omega)) _ ?_
  unfold runD at post
  revert post
  generalize c (startR N.length bs) = z
  intro post
  cases z with
  | bad => exact post
  | exc e r =>
    unfold endD finX at post
    dsimp only at post
    split at post
    · rename_i bs' e'
      exact fun s' F' H' rl _ => post F' H' (rel_end rel rl e')
    · exact post.elim
  | ok fl r =>
    cases fl with
    | bk => exact post.elim
    | ct => exact post.elim
    | nx =>
      unfold endD finD at post
      dsimp only at post
      split at post
      · rename_i bs' e'
        exact fun s' F' H' rl _ => post _ F' H' (rel_end rel rl e') .non
      · exact post.elim
    | rt d =>
      unfold endD finD at post
      dsimp only at post
      split at post
      · rename_i bs' e'
        exact fun v s' F' H' rl _ rv => post v F' H' (rel_end rel rl e') rv
      · exact post.elim

/-! ### calls, all arguments data -/
def cpM (m : List Bd → RI) (ca : Mn (List D)) : Mn D := bnd ca fun ds r => match m (ds.map .v) with
  | .ok d _ => .ok d r
  | .exc e _ => .exc e r
  | .bad => .bad
theorem rel_vals {G : Gm} {vs : List V} {ds : List D} {F H : Hp} (s : Same F H) (h : RpA G.K F vs ds) : Rel G [] (vs.map some) F H ((ds.map Bd.v).map some) (vs.map some) F H := by
  have no : ∀ {i : Nat} {b : Bool} {ob : Ob}, ((ds.map Bd.v).map some)[i]? = some (some (Bd.o b ob)) → False := fun {i b ob} e => by
    have e := map_some.mp e
    rw [List.getElem?_map] at e
    cases q : ds[i]? with
    | none =>
      rw [q] at e
      cases e
    | some d =>
      rw [q] at e
      injection e with e
      cases e
  refine ⟨fun _ => [], Ext.refl s, fun i d e => ?_, fun i b ob e => (no e).elim, fun i b ob a e => (no e).elim, fun i j bi oi bj oj a e => (no e).elim, fun i ob e => (no e).elim, by simp [dpa_len h], fun _ z => (nomatch z)⟩
  have e := map_some.mp e
  rw [List.getElem?_map] at e
  cases q : ds[i]? with
  | none =>
    rw [q] at e
    cases e
  | some d' =>
    rw [q] at e
    injection e with e
    injection e with e
    subst e
    obtain ⟨v, h1, h2⟩ := dpa_get h q
    exact ⟨v, map_some.mpr h1, h2⟩
section
variable {X : Cx} {W : WX} {k : Nat} {f : Addr} {fd : FuncData} {ps : List Str} {n : Nat} {m : List Bd → RI} {x : Str} {p pos : Pos} {e : Expr} {es : List Expr}
theorem sg_callP {G : Gm} {ta : TA} {ca : Mn (List D)} (hn : ∀ r ds r', ca r = .ok ds r' → ds.length = n) (ha : SG G W (rpA G) ta ca) : SG G W (rpV G) (tCallS (spI G n m) (WE W) ta) (cpM m ca) := by
  intro I s0 F0 H0 r s F H rel Q z
  unfold tCallS
  unfold cpM at z
  have hl : ∀ ds r', ca r = .ok ds r' → ds.length = n := fun ds r' e => hn r ds r' e
  refine ha I s0 F0 H0 r s F H rel _ ?_
  unfold bnd at z
  cases e : ca r with
  | bad =>
    rw [e] at z
    exact z
  | exc c r' =>
    rw [e] at z
    exact z
  | ok ds r1 =>
    rw [e] at z
    intro vs F1 H1 rel1 sm rx
    refine ⟨(dpa_len rx).trans (hl ds r1 e), F1, ds.map Bd.v, [], rel_vals rel1.fh rx, ?_⟩
    have z : Post G W (rpV G) I s0 F0 H0 s F Q (match m (ds.map Bd.v) with | .ok d _ => .ok d r1 | .exc e _ => .exc e r1 | .bad => .bad) := z
    revert z
    generalize m (ds.map Bd.v) = y
    intro z
    cases y with
    | bad => exact z
    | ok d bs => exact fun v F' H' rl rv => z v F' H' (rel1.grow rl.ext) (sm.trans rl.ext.ff) rv
    | exc c bs => exact fun F' H' rl => z F' H' (rel1.grow rl.ext) (sm.trans rl.ext.ff)
theorem me_callP {ca : Mn (List D)} (tk : L2N.Takes X W) (Fn : FnOk X.prog X.w X.K X.mg X.base (L2N.CX X.prog X.w) k f fd ps (spI (Cx.gm X) n m)) (hr : Room k X.A) (hg : Gl X x) (hm : X.mg x = some (.ref f)) (hk : PySem.W.keepIn X.K (.ref f) = true) (hb : Binds X.K fd ps [])
    (ha : MA X W (e :: es) ca) (hn : ∀ r ds r', ca r = .ok ds r' → ds.length = n) (hdb : (x == ("__debug__" : Str)) = false := by decide) (he : starEach (e :: es) X.env = (false, eval e X.env) :: starEach es X.env := by rfl) (hpl : (backTo pos (starEach es X.env)).any (·.1) = false := by rfl) :
    ME X W (.Call (.Name x p) (e :: es) [] pos) (cpM m ca) := by
  obtain ⟨ta, a1, a2⟩ := ha
  exact ⟨_, pe_callS Fn hr hg hm hk hb (fun σ => L2N.passAt tk σ) a1 hdb he hpl, sg_callP hn a2⟩
end
theorem len_nil {r : En} {ds : List D} {r' : En} (h : ret ([] : List D) r = .ok ds r') : ds.length = 0 := by
  injection h with h
  subst h
  rfl
theorem len_cons {n : Nat} {ca : Mn D} {cr : Mn (List D)} (hn : ∀ r ds r', cr r = .ok ds r' → ds.length = n) : ∀ r ds r', consM ca cr r = .ok ds r' → ds.length = n + 1 := by
  intro r ds r' h
  unfold consM bnd at h
  cases e : ca r with
  | bad =>
    rw [e] at h
    cases h
  | exc c r1 =>
    rw [e] at h
    cases h
  | ok d r1 =>
    rw [e] at h
    dsimp only at h
    cases e2 : cr r1 with
    | bad =>
      rw [e2] at h
      cases h
    | exc c r2 =>
      rw [e2] at h
      cases h
    | ok l r2 =>
      rw [e2] at h
      injection h with h
      subst h
      rw [List.length_cons, hn r1 l r2 e2]
theorem tk0 {X : Cx} : L2N.Takes X (fun _ _ _ _ => False) := fun _ _ x => by
  obtain ⟨_, _, _, _, _, _, _, _, _, _, _, _, _, _, _, _, z⟩ := x
  exact z.elim
end Fg
set_option maxRecDepth 100000
set_option maxHeartbeats 4000000
/-! Fg8: built-ins, owned lists, calls with owned arguments. -/
namespace Fg
open PySem PySem.Spec PyProof.Rows L2

/-! ### len, max, min, isinstance -/
def fLen : D → Option D
  | .list xs => some (.int xs.length)
  | .tuple xs => some (.int xs.length)
  | .dict kvs => some (.int kvs.length)
  | .str z => if z.length ≤ 100000 then some (.int z.length) else none
  | _ => none
def rLenA (K : PySem.W.Frag) : List V → Hp → VK → Prop := fun xs H Q => (∃ p ys, xs = [.ref p] ∧ (SqL K H p ys ∨ SqT K H p ys) ∧ Q (.int ys.length) H) ∨ (∃ z, xs = [.str z] ∧ z.length ≤ sizeLine ∧ Q (.int z.length) H)
theorem call_lenA {X : Cx} : CallR X (.builtin "len") (rLenA X.K) := call_len_seq.or call_len_str
section
variable {G : Gm}
theorem os_len : OS1 G (fun x => rLenA G.K [x]) fLen := by
  intro F H x a d Q s ha e k
  unfold fLen at e
  split at e
  · injection e with e
    subst e
    obtain ⟨p, vs, rfl, h1, h2⟩ := ha.lst s
    refine .inl ⟨p, vs, rfl, .inl (SqL.of h1), ?_⟩
    rw [dpa_len h2]
    exact k _ F H (ext_same s) (.int _)
  · injection e with e
    subst e
    obtain ⟨p, vs, rfl, h1, h2⟩ := ha.tup s
    refine .inl ⟨p, vs, rfl, .inr h1, ?_⟩
    rw [dpa_len h2]
    exact k _ F H (ext_same s) (.int _)
  · injection e with e
    subst e
    cases ha with
    | fz h =>
      cases h with
      | @scr p ns h =>
        refine .inl ⟨p, ns.map V.int, rfl, .inl (s.seq h), ?_⟩
        rw [List.length_map]
        rw [List.length_map] at k
        exact k _ F H (ext_same s) (.int _)
  · split at e
    · rename_i hz
      injection e with e
      subst e
      exact .inr ⟨_, by rw [ha.str], szl hz, k _ F H (ext_same s) (.int _)⟩
    · cases e
  · cases e
def fMax : List D → Option D
  | [.int i, .int j] => some (.int (if j > i then j else i))
  | _ => none
def fMin : List D → Option D
  | [.int i, .int j] => some (.int (if j < i then j else i))
  | _ => none
theorem rpa2 {K : PySem.W.Frag} {F : Hp} {vs : List V} {a b : D} (h : RpA K F vs [a, b]) : ∃ x y, vs = [x, y] ∧ Rp K F x a ∧ Rp K F y b := by
  cases h with
  | cons h1 t =>
    cases t with
    | cons h2 t2 =>
      cases t2
      exact ⟨_, _, rfl, h1, h2⟩
theorem rp_int {K : PySem.W.Frag} {F : Hp} {v : V} {i : Int} (h : Rp K F v (.int i)) : v = .int i := by
  cases h
  rfl
theorem os_max : OSn G (fun xs H Q => ∃ i j, xs = [.int i, .int j] ∧ Q (.int (if j > i then j else i)) H) fMax := by
  intro F H xs as d Q s ha e k
  unfold fMax at e
  split at e
  · injection e with e
    subst e
    obtain ⟨x, y, rfl, h1, h2⟩ := rpa2 ha
    cases rp_int h1
    cases rp_int h2
    exact ⟨_, _, rfl, k _ F H (ext_same s) (.int _)⟩
  · cases e
theorem os_min : OSn G (fun xs H Q => ∃ i j, xs = [.int i, .int j] ∧ Q (.int (if j < i then j else i)) H) fMin := by
  intro F H xs as d Q s ha e k
  unfold fMin at e
  split at e
  · injection e with e
    subst e
    obtain ⟨x, y, rfl, h1, h2⟩ := rpa2 ha
    cases rp_int h1
    cases rp_int h2
    exact ⟨_, _, rfl, k _ F H (ext_same s) (.int _)⟩
  · cases e
end
/-- the class of data -/
def tyN : D → Option String
  | .none => some "NoneType"
  | .bool _ => some "bool"
  | .int _ => some "int"
  | .str _ => some "str"
  | .list _ => some "list"
  | .tuple _ => some "tuple"
  | .dict _ => none
/-- isinstance(d, T), T one of int, bool, str, list, tuple -/
def isiD (T : String) : D → Option D
  | .none => some (.bool false)
  | .bool _ => some (.bool (T == "bool" || T == "int"))
  | .int _ => some (.bool (T == "int"))
  | .str _ => some (.bool (T == "str"))
  | .list _ => some (.bool (T == "list"))
  | .tuple _ => some (.bool (T == "tuple"))
  | .dict _ => none
theorem kit_all : ∀ T ∈ (["int", "bool", "str", "list", "tuple"] : List String), kitB "NoneType" T = some false ∧ kitB "bool" T = some (T == "bool" || T == "int") ∧ kitB "int" T = some (T == "int") ∧ kitB "str" T = some (T == "str") ∧ kitB "list" T = some (T == "list") ∧ kitB "tuple" T = some (T == "tuple") := by
  decide +kernel
theorem tyx_tup {K : PySem.W.Frag} {F H : Hp} {a : Addr} {xs : List V} (s : Same F H) (h : SqT K F a xs) : TyX K H (.ref a) (.type "tuple") := by
  rcases h with (h | ⟨o, h⟩) | ⟨o, its, n, h1, h2, _⟩
  · exact .base (.tup (s _ _ h))
  · exact .fTuple (s _ _ h)
  · exact .kTuple h1 h2
theorem isi_rp {K : PySem.W.Frag} {F H : Hp} {T : String} {v : V} {d e : D} (hT : T ∈ (["int", "bool", "str", "list", "tuple"] : List String)) (s : Same F H) (h : Rp K F v d) (z : isiD T d = some e) : ∃ t b, TyX K H v t ∧ PySem.W.kitOne K t (.type T) = some b ∧ e = .bool b := by
  obtain ⟨k0, k1, k2, k3, k4, k5⟩ := kit_all T hT
  cases h with
  | non =>
    injection z with z
    exact ⟨_, _, .base .non, kit_ty k0, z.symm⟩
  | bl b =>
    injection z with z
    exact ⟨_, _, .base (.bl b), kit_ty k1, z.symm⟩
  | int i =>
    injection z with z
    exact ⟨_, _, .base (.int i), kit_ty k2, z.symm⟩
  | str x =>
    injection z with z
    exact ⟨_, _, .base (.str x), kit_ty k3, z.symm⟩
  | lst h a =>
    injection z with z
    exact ⟨_, _, .base (.lst (s _ _ h)), kit_ty k4, z.symm⟩
  | tup h a =>
    injection z with z
    exact ⟨_, _, tyx_tup s h, kit_ty k5, z.symm⟩
  | scr h => cases z
theorem me_isi {X : Cx} {W : WX} {e : Expr} {c : Mn D} {T : String} {x : Str} {p p2 pos : Pos} (he : ME X W e c) (hT : T ∈ (["int", "bool", "str", "list", "tuple"] : List String)) (hg : Gl X "isinstance") (hm : X.mg "isinstance" = none) (hg2 : Gl X x) (hm2 : X.mg x = none) (hv : bootBuiltins x = some (.type T))
    (hb : bootBuiltins "isinstance" = some (.builtin "isinstance") := by decide +kernel) (hn : x ≠ "__name__" := by decide) (hd : (x == ("__debug__" : Str)) = false := by decide)
    (h1 : starEach [e, .Name x p2] X.env = (false, eval e X.env) :: starEach [.Name x p2] X.env := by rfl) (h2 : starEach [.Name x p2] X.env = (false, eval (.Name x p2) X.env) :: starEach [] X.env := by rfl) (hpl : (backTo pos (starEach [.Name x p2] X.env)).any (·.1) = false := by rfl) :
    ME X W (.Call (.Name "isinstance" p) [e, .Name x p2] [] pos) (un1 (isiD T) c) := by
  obtain ⟨t, a1, a2⟩ := he
  refine ⟨_, pe_callB call_isi hg hm hb (pa_cons a1 (pa_cons (pe_bltn (v := .ty T) hg2 hm2 hv rfl hn hd) pa_nil h2) h1) (by decide) (by decide) h1 hpl, fun I s0 F0 H0 r s F H rel Q z => ?_⟩
  unfold tCB tCons tNil tC
  refine sg_runE a2 rel (Same.refl _) z fun v a r1 F1 H1 rel1 s1 sb1 rx h1 => ?_
  obtain ⟨d, ed, k⟩ := post_lf h1
  obtain ⟨t', b, k1, k2, rfl⟩ := isi_rp hT rel1.fh rx ed
  exact ⟨v, _, t', _, b, rfl, .ty T, k1, k2, k _ F1 H1 rel1 sb1 (.bl b)⟩

/-! ### owned things -/
section
variable {G : Gm} {I : List Addr} {s0 s : Sl} {F0 H0 F H H' : Hp} {r : En}
/-- what slot i owns has changed -/
theorem own_upd {fp : Nat → List Addr} {i : Nat} {f : Bool} {ob ob' : Ob} {v : V} {fp' : List Addr} (h : RelF G I s0 F0 H0 r s F H fp) (e : r[i]? = some (some (Bd.o f ob))) (hs : s[i]? = some (some v)) (h1 : OwnOk G F H' v ob' fp')
    (hk : ∀ a o, a ∉ fp i → H a = some o → H' a = some o) (hd : ∀ a o, H a = some o → H' a ≠ none) (hf : ∀ a ∈ fp', a ∈ fp i ∨ H a = none) : Rel G I s0 F0 H0 (r.set i (some (.o f ob'))) s F H' := by
  have mine : ∀ a ∈ fp i, F a = none ∧ ((f = true ∧ a ∈ I) ∨ H0 a = none) := fun a ha => h.fre i f ob a e ha
  have mine' : ∀ a ∈ fp', F a = none ∧ ((f = true ∧ a ∈ I) ∨ H0 a = none) := fun a ha => by
    rcases hf a ha with z | z
    · exact mine a z
    · exact ⟨(h.ext.free z).2.1, .inr (h.ext.free z).1⟩
  have others : ∀ {j : Nat} {b : Bool} {o : Ob}, j ≠ i → r[j]? = some (some (Bd.o b o)) → ∀ a ∈ fp j, a ∉ fp i := fun {j b o} ne ej a ha hi => ne (h.dis j i b o f ob a ej e ha hi)
  have there : ∀ {j : Nat} {b : Bool} {o : Ob}, r[j]? = some (some (Bd.o b o)) → ∀ a ∈ fp j, ∃ u, H a = some u := fun {j b o} ej a ha => by
    obtain ⟨w, _, h2⟩ := h.own j b o ej
    exact h2.there a ha
  refine ⟨fun j => if j = i then fp' else fp j, ⟨fun a o ha q => ?_, fun a o q => ?_, h.ext.ff, fun a o q => ?_, h.ext.nw⟩, fun j d q => ?_, fun j b o q => ?_, fun j b o a q ha => ?_, fun j k bj oj bk ok a q1 q2 ha hb => ?_, fun j o q => ?_, by simpa using h.len, h.ini⟩
  · refine hk a o (fun z => ?_) (h.ext.kb a o ha q)
    rcases (mine a z).2 with y | y
    · exact ha y.2
    · rw [q] at y
      cases y
  · obtain ⟨o', q'⟩ := some_of_ne (h.ext.dm a o q)
    exact hd a o' q'
  · refine hk a o (fun z => ?_) (h.ext.fh a o q)
    rw [(mine a z).1] at q
    cases q
  · rcases get_set q with ⟨_, q2⟩ | ⟨ne, q2⟩
    · cases q2
    · exact h.val j d q2
  · rcases get_set q with ⟨rfl, q2⟩ | ⟨ne, q2⟩
    · injection q2 with q2
      injection q2 with q3 q4
      subst q4
      refine ⟨v, hs, ?_⟩
      rw [if_pos rfl]
      exact h1
    · obtain ⟨w, w1, w2⟩ := h.own j b o q2
      refine ⟨w, w1, ?_⟩
      rw [if_neg ne]
      refine w2.mono (Same.refl _) fun a ha => ?_
      obtain ⟨u, hu⟩ := there q2 a ha
      rw [hu]
      exact hk a u (others ne q2 a ha) hu
  · rcases get_set q with ⟨rfl, q2⟩ | ⟨ne, q2⟩
    · injection q2 with q2
      injection q2 with q3 q4
      subst q3
      rw [if_pos rfl] at ha
      exact mine' a ha
    · rw [if_neg ne] at ha
      exact h.fre j b o a q2 ha
  · have clash : ∀ {j : Nat} {b : Bool} {o : Ob}, j ≠ i → r[j]? = some (some (Bd.o b o)) → a ∈ fp j → a ∈ fp' → False := fun {j b o} ne ej hj hp => by
      rcases hf a hp with z | z
      · exact others ne ej a hj z
      · obtain ⟨u, hu⟩ := there ej a hj
        rw [z] at hu
        cases hu
    rcases get_set q1 with ⟨rfl, _⟩ | ⟨ne1, q1'⟩
    · rcases get_set q2 with ⟨rfl, _⟩ | ⟨ne2, q2'⟩
      · rfl
      · rw [if_pos rfl] at ha
        rw [if_neg ne2] at hb
        exact (clash ne2 q2' hb ha).elim
    · rw [if_neg ne1] at ha
      rcases get_set q2 with ⟨rfl, _⟩ | ⟨ne2, q2'⟩
      · rw [if_pos rfl] at hb
        exact (clash ne1 q1' ha hb).elim
      · rw [if_neg ne2] at hb
        exact h.dis j k bj oj bk ok a q1' q2' ha hb
  · rcases get_set q with ⟨rfl, q2⟩ | ⟨ne, q2⟩
    · injection q2 with q2
      injection q2 with q3 q4
      subst q3
      exact h.par j ob e
    · exact h.par j o q2
/-- a new owned thing comes into slot i -/
theorem own_new {i : Nat} {ob : Ob} {v : V} {fp' : List Addr} (h : Rel G I s0 F0 H0 r s F H) (hp : parAt r i = false) (h1 : OwnOk G F H' v ob fp') (hn : ∀ a ∈ fp', H a = none) (hk : ∀ a, a ∉ fp' → H' a = H a) :
    Rel G I s0 F0 H0 (r.set i (some (.o false ob))) (s.set i (some v)) F H' := by
  obtain ⟨fp, h⟩ := h
  have keep : ∀ a o, H a = some o → H' a = some o := fun a o q => by
    rw [hk a fun z => by rw [hn a z] at q; cases q]
    exact q
  have there : ∀ {j : Nat} {b : Bool} {o : Ob}, r[j]? = some (some (Bd.o b o)) → ∀ a ∈ fp j, ∃ u, H a = some u := fun {j b o} ej a ha => by
    obtain ⟨w, _, h2⟩ := h.own j b o ej
    exact h2.there a ha
  refine ⟨fun j => if j = i then fp' else fp j, ⟨fun a o ha q => keep a o (h.ext.kb a o ha q), fun a o q => ?_, h.ext.ff, fun a o q => keep a o (h.ext.fh a o q), h.ext.nw⟩, fun j d q => ?_, fun j b o q => ?_, fun j b o a q ha => ?_, fun j k bj oj bk ok a q1 q2 ha hb => ?_, fun j o q => ?_, by simpa using h.len, h.ini⟩
  · obtain ⟨o', q'⟩ := some_of_ne (h.ext.dm a o q)
    rw [keep a o' q']
    exact fun z => by cases z
  · rcases get_set q with ⟨_, q2⟩ | ⟨ne, q2⟩
    · cases q2
    · rw [List.getElem?_set_ne (Ne.symm ne)]
      exact h.val j d q2
  · rcases get_set q with ⟨rfl, q2⟩ | ⟨ne, q2⟩
    · injection q2 with q2
      injection q2 with q3 q4
      subst q4
      refine ⟨v, set_self h.len q, ?_⟩
      rw [if_pos rfl]
      exact h1
    · obtain ⟨w, w1, w2⟩ := h.own j b o q2
      refine ⟨w, by rw [List.getElem?_set_ne (Ne.symm ne)]; exact w1, ?_⟩
      rw [if_neg ne]
      refine w2.mono (Same.refl _) fun a ha => ?_
      obtain ⟨u, hu⟩ := there q2 a ha
      rw [hu]
      exact keep a u hu
  · rcases get_set q with ⟨rfl, q2⟩ | ⟨ne, q2⟩
    · rw [if_pos rfl] at ha
      exact ⟨(h.ext.free (hn a ha)).2.1, .inr (h.ext.free (hn a ha)).1⟩
    · rw [if_neg ne] at ha
      exact h.fre j b o a q2 ha
  · rcases get_set q1 with ⟨rfl, _⟩ | ⟨ne1, q1'⟩
    · rcases get_set q2 with ⟨rfl, _⟩ | ⟨ne2, q2'⟩
      · rfl
      · rw [if_pos rfl] at ha
        rw [if_neg ne2] at hb
        obtain ⟨u, hu⟩ := there q2' a hb
        rw [hn a ha] at hu
        cases hu
    · rw [if_neg ne1] at ha
      rcases get_set q2 with ⟨rfl, _⟩ | ⟨ne2, q2'⟩
      · rw [if_pos rfl] at hb
        obtain ⟨u, hu⟩ := there q1' a ha
        rw [hn a hb] at hu
        cases hu
      · rw [if_neg ne2] at hb
        exact h.dis j k bj oj bk ok a q1' q2' ha hb
  · rcases get_set q with ⟨rfl, q2⟩ | ⟨ne, q2⟩
    · injection q2 with q2
      injection q2 with q3 q4
      cases q3
    · rw [List.getElem?_set_ne (Ne.symm ne)]
      exact h.par j o q2
/-- an owned list is frozen -/
theorem own_frz {fp : Nat → List Addr} {i : Nat} {ds : List D} (h : RelF G I s0 F0 H0 r s F H fp) (e : r[i]? = some (some (Bd.o false (.lst ds)))) : ∃ F', Same F F' ∧ Rel G I s0 F0 H0 (r.set i (some (.v (.list ds)))) s F' H := by
  obtain ⟨v, hs, p, vs, rfl, efp, hp, da⟩ := h.own i false _ e
  have fp_p : F p = none := (h.fre i false _ p e (by rw [efp]; simp)).1
  have h0p : H0 p = none := by
    rcases (h.fre i false _ p e (by rw [efp]; simp)).2 with z | z
    · cases z.1
    · exact z
  have sm : Same F (upd F p (.lst vs)) := same_upd fp_p
  have oldJ : ∀ {j : Nat} {b : Bool} {o : Ob}, (r.set i (some (.v (.list ds))))[j]? = some (some (Bd.o b o)) → j ≠ i ∧ r[j]? = some (some (Bd.o b o)) := fun {j b o} q => by
    rcases get_set q with ⟨_, q2⟩ | q2
    · cases q2
    · exact q2
  have nep : ∀ {j : Nat} {b : Bool} {o : Ob}, j ≠ i → r[j]? = some (some (Bd.o b o)) → p ∉ fp j := fun {j b o} ne q hp => ne (h.dis j i b o false _ p q e hp (by rw [efp]; simp))
  refine ⟨upd F p (.lst vs), sm, fp, ⟨h.ext.kb, h.ext.dm, h.ext.ff.trans sm, fun a o q => ?_, fun a o q => ?_⟩, fun j d q => ?_, fun j b o q => ?_, fun j b o a q ha => ?_, fun j k bj oj bk ok a q1 q2 => h.dis j k bj oj bk ok a (oldJ q1).2 (oldJ q2).2, fun j o q => h.par j o (oldJ q).2, by simpa using h.len, h.ini⟩
  · by_cases z : a = p
    · subst z
      rw [upd_same] at q
      rw [hp]
      exact q
    · rw [upd_ne z] at q
      exact h.ext.fh a o q
  · rw [upd_ne (ne_of_none q h0p)]
    exact h.ext.nw a o q
  · rcases get_set q with ⟨rfl, q2⟩ | ⟨ne, q2⟩
    · injection q2 with q2
      injection q2 with q2
      subst q2
      exact ⟨_, hs, .lst upd_same (dpa_mono sm da)⟩
    · obtain ⟨w, w1, w2⟩ := h.val j d q2
      exact ⟨w, w1, dp_mono sm w2⟩
  · obtain ⟨ne, q2⟩ := oldJ q
    obtain ⟨w, w1, w2⟩ := h.own j b o q2
    exact ⟨w, w1, w2.mono sm fun _ _ => rfl⟩
  · obtain ⟨ne, q2⟩ := oldJ q
    refine ⟨?_, (h.fre j b o a q2 ha).2⟩
    rw [upd_ne (show a ≠ p from fun z => nep ne q2 (z ▸ ha))]
    exact (h.fre j b o a q2 ha).1
end
end Fg
set_option maxRecDepth 100000
set_option maxHeartbeats 4000000
/-! Fg9: owned lists made, grown, frozen; calls that take them. -/
namespace Fg
open PySem PySem.Spec PyProof.Rows L2

def PostO (G : Gm) (W : WX) (I : List Addr) (s0 : Sl) (F0 H0 : Hp) (s : Sl) (F : Hp) (Q : VK) : R Ob → Prop
  | .ok ob r => ∀ x F' H1 H' fp, Rel G I s0 F0 H0 r s F' H1 → Same F F' → OwnOk G F' H' x ob fp → (∀ a ∈ fp, H1 a = none) → (∀ a, a ∉ fp → H' a = H1 a) → Q x H'
  | .exc e r => ∀ F' H', Rel G I s0 F0 H0 r s F' H' → Same F F' → W (G.cls e) none s H'
  | .bad => False
structure MO (X : Cx) (W : WX) (e : Expr) (c : Mn Ob) : Prop where
  ex : ∃ t, PE X e t ∧ ∀ (I : List Addr) (s0 : Sl) (F0 H0 : Hp) (r : En) (s : Sl) (F H : Hp), Rel (Cx.gm X) I s0 F0 H0 r s F H → ∀ Q : VK, PostO (Cx.gm X) W I s0 F0 H0 s F Q (c r) → t s H Q
section
variable {X : Cx} {W : WX} {e : Expr} {es : List Expr} {pos : Pos}
theorem own_fresh {G : Gm} {F H : Hp} {vs : List V} {ds : List D} {p : Addr} (h : RpA G.K F vs ds) (hp : H p = none) : OwnOk G F (upd H p (.lst vs)) (.ref p) (.lst ds) [p] ∧ (∀ a ∈ ([p] : List Addr), H a = none) ∧ ∀ a, a ∉ ([p] : List Addr) → upd H p (.lst vs) a = H a :=
  ⟨⟨p, vs, rfl, rfl, upd_same, h⟩, fun a ha => by
    have : a = p := by simpa using ha
    rw [this]
    exact hp, fun a ha => upd_ne fun z => ha (by simp [z])⟩
def olstM (ca : Mn (List D)) : Mn Ob := bnd ca fun ds => if ds.length ≤ 100000 then ret (.lst ds) else fun _ => .bad
theorem mo_lst {ca : Mn (List D)} (h : MA X W es ca) : MO X W (.List es pos) (olstM ca) := by
  obtain ⟨ta, a1, a2⟩ := h
  refine ⟨_, pe_lst a1, fun I s0 F0 H0 r s F H rel Q z => ?_⟩
  unfold tLst
  refine sg_run (P := PostO (Cx.gm X) W I s0 F0 H0 s F Q) a2 rel z (fun e r' q => q) (fun q => q) fun xs ds r1 F1 H1 rel1 s1 rx h1 => ?_
  split at h1
  · rename_i hl
    refine ⟨szl (by rw [dpa_len rx]; exact hl), fun p hp => ?_⟩
    obtain ⟨o1, o2, o3⟩ := own_fresh (G := Cx.gm X) rx hp
    exact h1 _ F1 H1 _ [p] rel1 s1 o1 o2 o3
  · exact h1.elim
/-- list(x) -/
def fList : D → Option (List D)
  | .list xs => some xs
  | .tuple xs => some xs
  | _ => none
def olistM (ca : Mn Hv) : Mn Ob := bnd ca fun h => bnd (peek h) fun d => bnd (lf (fList d)) fun ds => ret (.lst ds)
theorem mo_list {ca : Mn Hv} {p : Pos} (ha : MP X W e ca) (hg : Gl X "list") (hm : X.mg "list" = none) (hv : bootBuiltins "list" = some (.type "list") := by decide +kernel)
    (he : starEach [e] X.env = (false, eval e X.env) :: starEach [] X.env := by rfl) (hpl : (backTo pos (starEach [] X.env)).any (·.1) = false := by rfl) : MO X W (.Call (.Name "list" p) [e] [] pos) (olistM ca) := by
  obtain ⟨ta, a1, a2⟩ := ha
  refine ⟨_, pe_callTy call_list_of hg hm hv (pa_cons a1 pa_nil he) (by decide) (by decide) he hpl, fun I s0 F0 H0 r s F H rel Q z => ?_⟩
  unfold tCB tCons tNil
  refine sg_run (P := PostO (Cx.gm X) W I s0 F0 H0 s F Q) a2 rel z (fun e r' q => q) (fun q => q) fun x h r1 F1 H1 rel1 s1 rx h1 => ?_
  obtain ⟨d, pd, h2⟩ := peek_run (P := PostO (Cx.gm X) W I s0 F0 H0 s F Q) rel1 rx h1 (fun q => q)
  obtain ⟨ds, ed, h3⟩ := lf_run (P := PostO (Cx.gm X) W I s0 F0 H0 s F Q) h2 (fun q => q)
  unfold fList at ed
  split at ed
  · injection ed with ed
    subst ed
    obtain ⟨p, vs, rfl, q1, q2⟩ := pd.lst rel1.fh
    refine ⟨p, vs, rfl, .inl (SqL.of q1), fun l hl => ?_⟩
    obtain ⟨o1, o2, o3⟩ := own_fresh (G := Cx.gm X) q2 hl
    exact h3 _ F1 H1 _ [l] rel1 s1 o1 o2 o3
  · injection ed with ed
    subst ed
    obtain ⟨p, vs, rfl, q1, q2⟩ := pd.tup rel1.fh
    refine ⟨p, vs, rfl, .inr q1, fun l hl => ?_⟩
    obtain ⟨o1, o2, o3⟩ := own_fresh (G := Cx.gm X) q2 hl
    exact h3 _ F1 H1 _ [l] rel1 s1 o1 o2 o3
  · cases ed
/-- list(x) as data -/
def fListD (d : D) : Option D := (fList d).map .list
theorem os_list {G : Gm} : OS1 G (fun x => (fun xs H Q => ∃ p ys, xs = [.ref p] ∧ (SqL G.K H p ys ∨ SqT G.K H p ys) ∧ ∀ l, H l = none → Q (.ref l) (upd H l (.lst ys))) [x]) fListD := by
  intro F H x a d Q s ha e k
  unfold fListD fList at e
  split at e
  · injection e with e
    subst e
    obtain ⟨p, vs, rfl, h1, h2⟩ := ha.lst s
    exact ⟨p, vs, rfl, .inl (SqL.of h1), new_lst s h2 k⟩
  · injection e with e
    subst e
    obtain ⟨p, vs, rfl, h1, h2⟩ := ha.tup s
    exact ⟨p, vs, rfl, .inr h1, new_lst s h2 k⟩
  · cases e
/-- tuple(x) -/
def fTupD : D → Option D
  | .list xs => some (.tuple xs)
  | .tuple xs => some (.tuple xs)
  | _ => none
theorem os_tuple {G : Gm} : OS1 G (fun x => (fun xs H Q => ∃ p ys, xs = [.ref p] ∧ ((SqL G.K H p ys ∧ ∀ l, H l = none → Q (.ref l) (upd H l (.tup ys))) ∨ (SqT G.K H p ys ∧ Q (.ref p) H))) [x]) fTupD := by
  intro F H x a d Q s ha e k
  unfold fTupD at e
  split at e
  · injection e with e
    subst e
    obtain ⟨p, vs, rfl, h1, h2⟩ := ha.lst s
    exact ⟨p, vs, rfl, .inl ⟨SqL.of h1, new_tup s h2 k⟩⟩
  · injection e with e
    subst e
    cases ha with
    | fz h =>
      cases h with
      | tup h a => exact ⟨_, _, rfl, .inr ⟨same_t s h, k _ F H (ext_same s) (.tup h a)⟩⟩
  · cases e
def asgO (i : Nat) (c : Mn Ob) : Mn Fl := bnd c fun ob => stM i (.o false ob)
theorem ms_own {i : Nat} {x : Str} {c : Mn Ob} {pos' : Pos} (hN : X.N.Nodup) (hi : X.N[i]? = some x) (hx : Loc X.env.scope x) (he : MO X W e c) (hs : swapsWith e (some (.Name x pos')) pos.line X.env = pure false := by rfl)
    (hf : X.fn x = true ∨ X.env.scope.names.lookup x = some .local := by first | exact .inl rfl | exact .inr rfl | assumption) : MS X W (.Assign [.Name x pos'] e pos) (asgO i c) := by
  obtain ⟨t, a1, a2⟩ := he
  refine ⟨_, ps_set hN hi hx a1 hs hf, fun I s0 F0 H0 r s F H rel E h => ?_⟩
  unfold tAsg gName
  refine a2 I s0 F0 H0 r s F H rel _ ?_
  unfold asgO bnd at h
  cases q : c r with
  | bad =>
    rw [q] at h
    exact h
  | exc n r' =>
    rw [q] at h
    exact fun F' H' rl sm => h s F' H' rl sm
  | ok ob r' =>
    rw [q] at h
    intro x F' H1 H' fp rl sm o1 o2 o3
    obtain ⟨hp, h2⟩ := stM_run h
    exact h2 _ F' H' (own_new rl hp o1 o2 o3) sm
/-! ### freezing -/
def frzM (i : Nat) (c : Mn Fl) : Mn Fl := fun r => match r[i]? with
  | some (some (.o false (.lst ds))) => c (r.set i (some (.v (.list ds))))
  | _ => .bad
theorem mb_frz {i : Nat} {sts : List Stmt} {c : Mn Fl} (h : MB X W sts c) : MB X W sts (frzM i c) := by
  obtain ⟨t, a1, a2⟩ := h
  refine ⟨t, a1, fun I s0 F0 H0 r s F H rel E z => ?_⟩
  unfold frzM at z
  split at z
  · rename_i ds e
    obtain ⟨fp, rf⟩ := rel
    obtain ⟨F', sm, rel'⟩ := own_frz rf e
    exact a2 I s0 F0 H0 _ s F' H rel' E (postS_mono sm z)
  · exact z.elim
/-! ### methods of an owned list -/
/-- slot i owns a list: its items -/
def lstAt (i : Nat) : Mn (List D) := fun r => match r[i]? with
  | some (some (.o _ (.lst ds))) => .ok ds r
  | _ => .bad
def putL (i : Nat) (ds : List D) : Mn D := fun r => match r[i]? with
  | some (some (.o f _)) => .ok .none (r.set i (some (.o f (.lst ds))))
  | _ => .bad
theorem lstAt_ok {i : Nat} {r r' : En} {ds : List D} (h : lstAt i r = .ok ds r') : r' = r ∧ ∃ f, r[i]? = some (some (Bd.o f (.lst ds))) := by
  unfold lstAt at h
  split at h
  · rename_i f ds' e
    injection h with h1 h2
    subst h1 h2
    exact ⟨rfl, f, e⟩
  · cases h
theorem lstAt_run {γ : Type} {P : R γ → Prop} {i : Nat} {f : List D → Mn γ} {r : En} (z : P (bnd (lstAt i) f r)) (hb : ¬ P .bad) : ∃ b ds, r[i]? = some (some (Bd.o b (.lst ds))) ∧ P (f ds r) := by
  unfold bnd at z
  cases e : lstAt i r with
  | bad =>
    rw [e] at z
    exact absurd z hb
  | exc n r' =>
    unfold lstAt at e
    split at e <;> cases e
  | ok ds r' =>
    rw [e] at z
    obtain ⟨rfl, b, q⟩ := lstAt_ok e
    exact ⟨b, ds, q, z⟩
theorem own_lst {G : Gm} {I : List Addr} {s0 s : Sl} {F0 H0 F H : Hp} {r : En} {i : Nat} {b : Bool} {ds : List D} (rel : Rel G I s0 F0 H0 r s F H) (e : r[i]? = some (some (Bd.o b (.lst ds)))) :
    ∃ p vs, s[i]? = some (some (.ref p)) ∧ H p = some (.lst vs) ∧ RpA G.K F vs ds ∧ ∀ vs' ds', RpA G.K F vs' ds' → Rel G I s0 F0 H0 (r.set i (some (.o b (.lst ds')))) s F (upd H p (.lst vs')) := by
  obtain ⟨fp, rf⟩ := rel
  obtain ⟨v, h1, p, vs, rfl, efp, hp, da⟩ := rf.own i b _ e
  refine ⟨p, vs, h1, hp, da, fun vs' ds' da' => own_upd rf e h1 (fp' := [p]) ⟨p, vs', rfl, rfl, upd_same, da'⟩ (fun a o ha q => ?_) (fun a o q z => ?_) (fun a ha => .inl (by rw [efp]; exact ha))⟩
  · rw [upd_ne fun z => ha (by rw [efp]; simp [z])]
    exact q
  · by_cases y : a = p
    · subst y
      rw [upd_same] at z
      cases z
    · rw [upd_ne y, q] at z
      cases z
theorem tyv_list {K : PySem.W.Frag} {H : Hp} {p : Addr} {vs : List V} (h : H p = some (.lst vs)) : tyV K "list" (.ref p) H := Or.inl ⟨rfl, _, Or.inl (Or.inl h)⟩
/-- x.append(e) -/
def appM (i : Nat) (ce : Mn D) : Mn D := bnd (lstAt i) fun _ => bnd ce fun d => bnd (lstAt i) fun ds => if ds.length < 100000 then putL i (ds ++ [d]) else fun _ => .bad
theorem putL_at {i : Nat} {r : En} {b : Bool} {ds ds' : List D} (e : r[i]? = some (some (Bd.o b (.lst ds)))) : putL i ds' r = .ok .none (r.set i (some (.o b (.lst ds')))) := by
  unfold putL
  rw [e]
theorem me_app {i : Nat} {o : Expr} {ce : Mn D} {apos : Pos} (ho : PE X o (tVar i)) (he : ME X W e ce)
    (hp : ∀ {te : TE}, PE X e te → PE X (.Call (.Attribute o "append" apos) [e] [] pos) (tBM X.K "list" rAppend (tVar i) (tCons te tNil))) : ME X W (.Call (.Attribute o "append" apos) [e] [] pos) (appM i ce) := by
  obtain ⟨t, a1, a2⟩ := he
  refine ⟨_, hp a1, fun I s0 F0 H0 r s F H rel Q z => ?_⟩
  unfold tBM tVar tCons tNil
  obtain ⟨b, ds, e0, z1⟩ := lstAt_run z post_bad
  obtain ⟨p, vs, q1, q2, q3, q4⟩ := own_lst rel e0
  refine ⟨_, q1, tyv_list q2, ?_⟩
  refine sg_runE a2 rel (Same.refl _) z1 fun x a r1 F1 H1 rel1 s1 sb1 rx h1 => ?_
  obtain ⟨b1, ds1, e1, h2⟩ := lstAt_run h1 post_bad
  obtain ⟨p1, vs1, w1, w2, w3, w4⟩ := own_lst rel1 e1
  have ep : p1 = p := by
    rw [q1] at w1
    injection w1 with w1
    injection w1 with w1
    injection w1 with w1
    exact w1.symm
  subst ep
  split at h2
  · rename_i hl
    rw [putL_at e1] at h2
    refine ⟨p1, vs1, x, rfl, rfl, w2, szlt (by rw [dpa_len w3]; exact hl), ?_⟩
    exact h2 _ F1 _ (w4 _ _ (dpa_app w3 (.cons rx .nil))) sb1 .non
  · exact h2.elim
/-- x.extend(e), e data or owned -/
def extM (i : Nat) (ce : Mn D) : Mn D := bnd (lstAt i) fun _ => bnd ce fun d => bnd (lf (match d with | .list ys => some ys | _ => none)) fun ys => bnd (lstAt i) fun ds => if ds.length + ys.length ≤ 100000 then putL i (ds ++ ys) else fun _ => .bad
theorem me_ext {i : Nat} {o : Expr} {ce : Mn D} {apos : Pos} (ho : PE X o (tVar i)) (he : ME X W e ce)
    (hp : ∀ {te : TE}, PE X e te → PE X (.Call (.Attribute o "extend" apos) [e] [] pos) (tBM X.K "list" rExtend (tVar i) (tCons te tNil))) : ME X W (.Call (.Attribute o "extend" apos) [e] [] pos) (extM i ce) := by
  obtain ⟨t, a1, a2⟩ := he
  refine ⟨_, hp a1, fun I s0 F0 H0 r s F H rel Q z => ?_⟩
  unfold tBM tVar tCons tNil
  obtain ⟨b, ds, e0, z1⟩ := lstAt_run z post_bad
  obtain ⟨p, vs, q1, q2, q3, q4⟩ := own_lst rel e0
  refine ⟨_, q1, tyv_list q2, ?_⟩
  refine sg_runE a2 rel (Same.refl _) z1 fun x a r1 F1 H1 rel1 s1 sb1 rx h1 => ?_
  obtain ⟨ys, ey, h1'⟩ := lf_run h1 post_bad
  obtain ⟨b1, ds1, e1, h2⟩ := lstAt_run h1' post_bad
  obtain ⟨p1, vs1, w1, w2, w3, w4⟩ := own_lst rel1 e1
  have ep : p1 = p := by
    rw [q1] at w1
    injection w1 with w1
    injection w1 with w1
    injection w1 with w1
    exact w1.symm
  subst ep
  cases a with
  | list zs =>
    injection ey with ey
    subst ey
    cases rx with
    | lst hx hxs =>
      split at h2
      · rename_i hl
        rw [putL_at e1] at h2
        refine ⟨p1, _, vs1, _, rfl, rfl, w2, rel1.fh _ _ hx, szl (by rw [dpa_len w3, dpa_len hxs]; exact hl), ?_⟩
        exact h2 _ F1 _ (w4 _ _ (dpa_app w3 hxs)) sb1 .non
      · exact h2.elim
  | _ => cases ey
/-- x.pop() -/
def popM (i : Nat) : Mn D := bnd (lstAt i) fun ds => bnd (lf ds[ds.length - 1]?) fun d => bnd (putL i ds.dropLast) fun _ => ret d
theorem me_pop {i : Nat} {o : Expr} {apos : Pos} (hp : PE X (.Call (.Attribute o "pop" apos) [] [] pos) (tBM0 X.K "list" rPop (tVar i))) : ME X W (.Call (.Attribute o "pop" apos) [] [] pos) (popM i) := by
  refine ⟨_, hp, fun I s0 F0 H0 r s F H rel Q z => ?_⟩
  unfold tBM0 tVar
  obtain ⟨b, ds, e0, z1⟩ := lstAt_run z post_bad
  obtain ⟨d, ed, z2⟩ := lf_run z1 post_bad
  obtain ⟨p, vs, q1, q2, q3, q4⟩ := own_lst rel e0
  unfold bnd at z2
  rw [putL_at e0] at z2
  obtain ⟨v, hv, rv⟩ := dpa_get q3 ed
  refine ⟨_, q1, tyv_list q2, p, vs, v, rfl, rfl, q2, by rw [dpa_len q3]; exact hv, ?_⟩
  exact z2 _ F _ (q4 _ _ (dpa_dropLast q3)) (Same.refl _) rv
end
end Fg
set_option maxRecDepth 100000
set_option maxHeartbeats 4000000
/-! Fg10: calls that take owned things. -/
namespace Fg
open PySem PySem.Spec PyProof.Rows L2

inductive RpHs (G : Gm) (F : Hp) (s : Sl) : List V → List Hv → Prop
  | nil : RpHs G F s [] []
  | cons {v : V} {vs : List V} {h : Hv} {hs : List Hv} : rpH G F s v h → RpHs G F s vs hs → RpHs G F s (v :: vs) (h :: hs)
theorem RpHs.mono {G : Gm} {F F' : Hp} {s : Sl} (sm : Same F F') : ∀ {vs : List V} {hs : List Hv}, RpHs G F s vs hs → RpHs G F' s vs hs
  | _, _, .nil => .nil
  | _, _, .cons h t => .cons (rpH_mono sm h) (t.mono sm)
theorem RpHs.len {G : Gm} {F : Hp} {s : Sl} : ∀ {vs : List V} {hs : List Hv}, RpHs G F s vs hs → vs.length = hs.length
  | _, _, .nil => rfl
  | _, _, .cons _ t => congrArg (· + 1) t.len
theorem RpHs.get {G : Gm} {F : Hp} {s : Sl} : ∀ {vs : List V} {hs : List Hv} {k : Nat} {h : Hv}, RpHs G F s vs hs → hs[k]? = some h → ∃ v, vs[k]? = some v ∧ rpH G F s v h
  | _, _, _, _, .nil, e => by simp at e
  | _, _, 0, _, .cons a _, e => by
    simp at e
    subst e
    exact ⟨_, rfl, a⟩
  | _, _, k + 1, h, .cons _ t, e => by
    obtain ⟨v, h1, h2⟩ := RpHs.get (k := k) (h := h) t (by simpa using e)
    exact ⟨v, by simpa using h1, h2⟩
structure MAH (X : Cx) (W : WX) (es : List Expr) (c : Mn (List Hv)) : Prop where
  ex : ∃ t, PA X es t ∧ SG (Cx.gm X) W (fun F s vs hs => RpHs (Cx.gm X) F s vs hs) t c
def consH (ca : Mn Hv) (cr : Mn (List Hv)) : Mn (List Hv) := bnd ca fun h => bnd cr fun hs => ret (h :: hs)
section
variable {X : Cx} {W : WX} {e : Expr} {es : List Expr}
theorem mah_nil : MAH X W [] (ret []) := ⟨_, pa_nil, fun I s0 F0 H0 r s F H rel Q z => post_ok z rel .nil⟩
theorem mah_cons {ca : Mn Hv} {cr : Mn (List Hv)} (ha : MP X W e ca) (hr : MAH X W es cr) (hs : starEach (e :: es) X.env = (false, eval e X.env) :: starEach es X.env := by rfl) : MAH X W (e :: es) (consH ca cr) := by
  obtain ⟨ta, a1, a2⟩ := ha
  obtain ⟨tr, r1, r2⟩ := hr
  refine ⟨_, pa_cons a1 r1 hs, fun I s0 F0 H0 r s F H rel Q z => ?_⟩
  unfold tCons
  refine sg_runE a2 rel (Same.refl _) z fun x a r1 F1 H1 rel1 s1 sb1 rx h1 => ?_
  refine sg_runE r2 rel1 sb1 h1 fun xs ds r2 F2 H2 rel2 s2 sb2 rxs h2 => ?_
  exact h2 _ F2 H2 rel2 sb2 (.cons (rpH_mono s2 rx) rxs)
end
def isOw : Hv → Nat → Bool
  | .ow i, j => i == j
  | _, _ => false
def ownPos : List Hv → Nat → Option Nat
  | [], _ => none
  | h :: hs, j => if isOw h j then some 0 else (ownPos hs j).map (· + 1)
theorem ownPos_some : ∀ {hs : List Hv} {j k : Nat}, ownPos hs j = some k → hs[k]? = some (.ow j)
  | [], _, _, e => by cases e
  | h :: hs, j, k, e => by
    unfold ownPos at e
    split at e
    · rename_i z
      injection e with e
      subst e
      cases h with
      | d _ => cases z
      | ow i =>
        have : i = j := by simpa [isOw] using z
        subst this
        rfl
    · cases q : ownPos hs j with
      | none =>
        rw [q] at e
        cases e
      | some k' =>
        rw [q] at e
        injection e with e
        subst e
        rw [List.getElem?_cons_succ]
        exact ownPos_some q
theorem ownPos_none : ∀ {hs : List Hv} {j : Nat}, ownPos hs j = none → ∀ (k : Nat), hs[k]? ≠ some (Hv.ow j)
  | [], _, _, _ => by simp
  | h :: hs, j, e, k => by
    unfold ownPos at e
    split at e
    · cases e
    · rename_i z
      cases k with
      | zero =>
        intro q
        simp at q
        subst q
        exact z (by simp [isOw])
      | succ k =>
        rw [List.getElem?_cons_succ]
        refine ownPos_none ?_ k
        cases q : ownPos hs j with
        | none => rfl
        | some k' =>
          rw [q] at e
          cases e
def owOk (hs : List Hv) : Bool := (List.range hs.length).all fun k => match hs[k]? with
  | some (.ow j) => ownPos hs j == some k
  | _ => true
theorem owOk_at {hs : List Hv} (h : owOk hs = true) {k j : Nat} (e : hs[k]? = some (.ow j)) : ownPos hs j = some k := by
  unfold owOk at h
  rw [List.all_eq_true] at h
  have hk : k < hs.length := (List.getElem?_eq_some_iff.mp e).1
  have := h k (List.mem_range.mpr hk)
  rw [e] at this
  simpa using this
def bdOf (r : En) : Hv → Option Bd
  | .d d => some (.v d)
  | .ow i => match r[i]? with
    | some (some (.o _ ob)) => some (.o true ob)
    | _ => none
def bdsOf (r : En) : List Hv → Option (List Bd)
  | [] => some []
  | h :: hs => match bdOf r h, bdsOf r hs with
    | some b, some bs => some (b :: bs)
    | _, _ => none
theorem bdsOf_get {r : En} : ∀ {hs : List Hv} {bs : List Bd}, bdsOf r hs = some bs → bs.length = hs.length ∧ ∀ (k : Nat) (b : Bd), bs[k]? = some b → ∃ h, hs[k]? = some h ∧ bdOf r h = some b
  | [], _, e => by
    injection e with e
    subst e
    exact ⟨rfl, fun k b q => by simp at q⟩
  | h :: hs, bs, e => by
    unfold bdsOf at e
    split at e
    · rename_i b bs' e1 e2
      injection e with e
      subst e
      obtain ⟨h1, h2⟩ := bdsOf_get e2
      refine ⟨by simp [h1], fun k b' q => ?_⟩
      cases k with
      | zero =>
        simp at q
        subst q
        exact ⟨h, rfl, e1⟩
      | succ k =>
        rw [List.getElem?_cons_succ] at q ⊢
        exact h2 k b' q
    · cases e
/-- slot j behind the call -/
def slotUp (hs : List Hv) (bs : List Bd) (j : Nat) (b : Option Bd) : Option Bd := match ownPos hs j with
  | none => b
  | some k => match b, bs[k]? with
    | some (.o f _), some (.o _ ob) => some (.o f ob)
    | _, _ => none
def updAll (hs : List Hv) (bs : List Bd) : Nat → En → En
  | _, [] => []
  | j, b :: r => slotUp hs bs j b :: updAll hs bs (j + 1) r
theorem updAll_len {hs : List Hv} {bs : List Bd} : ∀ {j : Nat} {r : En}, (updAll hs bs j r).length = r.length
  | _, [] => rfl
  | j, b :: r => congrArg (· + 1) (updAll_len (j := j + 1) (r := r))
theorem updAll_get {hs : List Hv} {bs : List Bd} : ∀ {j : Nat} {r : En} {i : Nat} {x : Bd}, (updAll hs bs j r)[i]? = some (some x) → ∃ b, r[i]? = some b ∧ slotUp hs bs (j + i) b = some x
  | _, [], _, _, e => by
    unfold updAll at e
    simp at e
  | j, b :: r, 0, x, e => by
    unfold updAll at e
    simp at e
    exact ⟨b, rfl, e⟩
  | j, b :: r, i + 1, x, e => by
    unfold updAll at e
    rw [List.getElem?_cons_succ] at e
    obtain ⟨b', h1, h2⟩ := updAll_get (j := j + 1) (r := r) (i := i) e
    refine ⟨b', by rw [List.getElem?_cons_succ]; exact h1, ?_⟩
    rw [show j + (i + 1) = j + 1 + i by omega]
    exact h2
/-- all that is handed over is the def's own, or all is its callers' -/
def oneFlag (r : En) (hs : List Hv) : Bool := (hs.all fun h => match h with | .ow i => parAt r i | _ => true) || (hs.all fun h => match h with | .ow i => !parAt r i | _ => true)
theorem parAt_o {r : En} {i : Nat} {f : Bool} {ob : Ob} (e : r[i]? = some (some (Bd.o f ob))) : parAt r i = f := by
  unfold parAt
  rw [e]
  cases f <;> rfl
theorem oneFlag_at {r : En} {hs : List Hv} (h : oneFlag r hs = true) {k l i j : Nat} {f g : Bool} {o o' : Ob} (e1 : hs[k]? = some (Hv.ow i)) (e2 : hs[l]? = some (Hv.ow j)) (h1 : r[i]? = some (some (Bd.o f o))) (h2 : r[j]? = some (some (Bd.o g o'))) : f = g := by
  unfold oneFlag at h
  rw [Bool.or_eq_true, List.all_eq_true, List.all_eq_true] at h
  have m1 := List.mem_of_getElem? e1
  have m2 := List.mem_of_getElem? e2
  have p1 := parAt_o h1
  have p2 := parAt_o h2
  rcases h with h | h
  · have q1 := h _ m1
    have q2 := h _ m2
    dsimp only at q1 q2
    rw [← p1, ← p2, q1, q2]
  · have q1 := h _ m1
    have q2 := h _ m2
    dsimp only at q1 q2
    rw [← p1, ← p2]
    cases z1 : parAt r i <;> cases z2 : parAt r j <;> simp_all
section
variable {G : Gm} {I : List Addr} {s0 s : Sl} {F0 H0 F H F' H' : Hp} {r : En} {fp : Nat → List Addr} {vs : List V} {hs : List Hv} {bs bs' : List Bd}
def fpH (fp : Nat → List Addr) (hs : List Hv) (k : Nat) : List Addr := match hs[k]? with
  | some (.ow i) => fp i
  | _ => []
def allH (fp : Nat → List Addr) (hs : List Hv) : List Addr := (List.range hs.length).flatMap (fpH fp hs)
theorem mem_allH {a : Addr} : a ∈ allH fp hs ↔ ∃ (k i : Nat), hs[k]? = some (Hv.ow i) ∧ a ∈ fp i := by
  unfold allH
  rw [List.mem_flatMap]
  constructor
  · rintro ⟨k, _, h⟩
    unfold fpH at h
    split at h
    · rename_i i e
      exact ⟨k, i, e, h⟩
    · cases h
  · rintro ⟨k, i, e, h⟩
    refine ⟨k, List.mem_range.mpr (List.getElem?_eq_some_iff.mp e).1, ?_⟩
    unfold fpH
    rw [e]
    exact h
theorem bdOf_own {i : Nat} {b : Bd} (h : bdOf r (.ow i) = some b) : ∃ f ob, r[i]? = some (some (Bd.o f ob)) ∧ b = .o true ob := by
  unfold bdOf at h
  dsimp only at h
  split at h
  · rename_i f ob e
    injection h with h
    exact ⟨f, ob, e, h.symm⟩
  · cases h
theorem rel_call (rf : RelF G I s0 F0 H0 r s F H fp) (hv : RpHs G F s vs hs) (hb : bdsOf r hs = some bs) (nd : owOk hs = true) : Rel G (allH fp hs) (vs.map some) F H (bs.map some) (vs.map some) F H := by
  obtain ⟨bl, bg⟩ := bdsOf_get hb
  have own : ∀ {k : Nat} {b : Bool} {ob : Ob}, (bs.map some)[k]? = some (some (Bd.o b ob)) → ∃ i f, hs[k]? = some (.ow i) ∧ r[i]? = some (some (Bd.o f ob)) ∧ b = true := fun {k b ob} e => by
    obtain ⟨h, e1, e2⟩ := bg k _ (map_some.mp e)
    cases h with
    | d d => cases e2
    | ow i =>
      obtain ⟨f, ob', e3, e4⟩ := bdOf_own e2
      injection e4 with e5 e6
      subst e6
      exact ⟨i, f, e1, e3, e5⟩
  refine ⟨fpH fp hs, Ext.refl rf.ext.fh, fun k d e => ?_, fun k b ob e => ?_, fun k b ob a e ha => ?_, fun k l bk ok bl ol a e1 e2 h1 h2 => ?_, fun _ _ _ => rfl, by simp [hv.len, bl], fun a ha => ?_⟩
  · obtain ⟨h, e1, e2⟩ := bg k _ (map_some.mp e)
    obtain ⟨v, e3, e4⟩ := hv.get e1
    cases h with
    | d d' =>
      injection e2 with e2
      injection e2 with e2
      subst e2
      exact ⟨v, map_some.mpr e3, e4⟩
    | ow i =>
      obtain ⟨f, ob', _, e5⟩ := bdOf_own e2
      cases e5
  · obtain ⟨i, f, e1, e2, _⟩ := own e
    obtain ⟨v, e3, e4⟩ := hv.get e1
    obtain ⟨w, w1, w2⟩ := rf.own i f ob e2
    have ev : v = w := by
      have q : s[i]? = some (some v) := e4
      rw [w1] at q
      injection q with q
      injection q with q
      exact q.symm
    subst ev
    refine ⟨v, map_some.mpr e3, ?_⟩
    unfold fpH
    rw [e1]
    exact w2
  · obtain ⟨i, f, e1, e2, eb⟩ := own e
    unfold fpH at ha
    rw [e1] at ha
    exact ⟨(rf.fre i f ob a e2 ha).1, .inl ⟨eb, mem_allH.mpr ⟨k, i, e1, ha⟩⟩⟩
  · obtain ⟨i, f, q1, q2, _⟩ := own e1
    obtain ⟨j, g, q3, q4, _⟩ := own e2
    unfold fpH at h1 h2
    rw [q1] at h1
    rw [q3] at h2
    have ij := rf.dis i j f ok g ol a q2 q4 h1 h2
    subst ij
    have z1 := owOk_at nd q1
    have z2 := owOk_at nd q3
    rw [z1] at z2
    exact Option.some.inj z2
  · obtain ⟨k, i, e1, h1⟩ := mem_allH.mp ha
    have hk : k < bs.length := by
      rw [bl]
      exact (List.getElem?_eq_some_iff.mp e1).1
    obtain ⟨h, e2, e3⟩ := bg k bs[k] (by simp [hk])
    rw [e1] at e2
    injection e2 with e2
    subst e2
    obtain ⟨f, ob, e4, _⟩ := bdOf_own e3
    obtain ⟨w, w1, w2⟩ := rf.own i f ob e4
    exact w2.there a h1
theorem rel_back (rf : RelF G I s0 F0 H0 r s F H fp) (hv : RpHs G F s vs hs) (hb : bdsOf r hs = some bs) (nd : owOk hs = true) (of : oneFlag r hs = true) (h : Rel G (allH fp hs) (vs.map some) F H (bs'.map some) (vs.map some) F' H') : Rel G I s0 F0 H0 (updAll hs bs' 0 r) s F' H' := by
  obtain ⟨fc, h⟩ := h
  obtain ⟨bl, bg⟩ := bdsOf_get hb
  have real : ∀ {k i : Nat}, hs[k]? = some (.ow i) → ∃ f ob, r[i]? = some (some (Bd.o f ob)) := fun {k i} e => by
    have hk : k < bs.length := by
      rw [bl]
      exact (List.getElem?_eq_some_iff.mp e).1
    obtain ⟨q, e2, e3⟩ := bg k bs[k] (by simp [hk])
    rw [e] at e2
    injection e2 with e2
    subst e2
    obtain ⟨f, ob, e4, _⟩ := bdOf_own e3
    exact ⟨f, ob, e4⟩
  have allI : ∀ a ∈ allH fp hs, a ∈ I ∨ H0 a = none := fun a ha => by
    obtain ⟨k, i, e1, h1⟩ := mem_allH.mp ha
    obtain ⟨f, ob, e4⟩ := real e1
    exact (rf.fre i f ob a e4 h1).2.imp (fun z => z.2) id
  -- a slot that is owned behind the call: handed over, or not
  have cs : ∀ {j : Nat} {b : Bool} {ob : Ob}, (updAll hs bs' 0 r)[j]? = some (some (Bd.o b ob)) →
      (ownPos hs j = none ∧ r[j]? = some (some (Bd.o b ob))) ∨ ∃ k ob0 f', ownPos hs j = some k ∧ r[j]? = some (some (Bd.o b ob0)) ∧ (bs'.map some)[k]? = some (some (Bd.o f' ob)) := fun {j b ob} e => by
    obtain ⟨x, e1, e2⟩ := updAll_get e
    rw [Nat.zero_add] at e2
    unfold slotUp at e2
    split at e2
    · rename_i z
      subst e2
      exact .inl ⟨z, e1⟩
    · rename_i k z
      split at e2
      · rename_i f ob0 f' ob1 q1
        injection e2 with e2
        injection e2 with e3 e4
        subst e3 e4
        exact .inr ⟨k, ob0, f', z, e1, map_some.mpr q1⟩
      · cases e2
  have there : ∀ {j : Nat} {b : Bool} {o : Ob}, r[j]? = some (some (Bd.o b o)) → ∀ a ∈ fp j, ∃ u, H a = some u := fun {j b o} ej a ha => by
    obtain ⟨w, _, h2⟩ := rf.own j b o ej
    exact h2.there a ha
  have notIn : ∀ {j : Nat} {b : Bool} {o : Ob}, ownPos hs j = none → r[j]? = some (some (Bd.o b o)) → ∀ a ∈ fp j, a ∉ allH fp hs := fun {j b o} z ej a ha hm => by
    obtain ⟨k, i, e1, h1⟩ := mem_allH.mp hm
    obtain ⟨f, ob, e4⟩ := real e1
    have := rf.dis j i b o f ob a ej e4 ha h1
    subst this
    exact ownPos_none z k e1
  refine ⟨fun j => match ownPos hs j with | none => fp j | some k => fc k, rf.ext.trans h.ext allI, fun j d e => ?_, fun j b ob e => ?_, fun j b ob a e ha => ?_, fun j l bj oj bl ol a e1 e2 h1 h2 => ?_, fun j ob e => ?_, ?_, rf.ini⟩
  · obtain ⟨x, e1, e2⟩ := updAll_get e
    rw [Nat.zero_add] at e2
    unfold slotUp at e2
    split at e2
    · subst e2
      obtain ⟨v, w1, w2⟩ := rf.val j d e1
      exact ⟨v, w1, dp_mono h.ext.ff w2⟩
    · split at e2
      · cases e2
      · cases e2
  · rcases cs e with ⟨z, e1⟩ | ⟨k, ob0, f', z, e1, e2⟩
    · obtain ⟨v, w1, w2⟩ := rf.own j b ob e1
      refine ⟨v, w1, ?_⟩
      rw [z]
      refine w2.mono h.ext.ff fun a ha => ?_
      obtain ⟨u, hu⟩ := there e1 a ha
      rw [hu]
      exact h.ext.kb a u (notIn z e1 a ha) hu
    · obtain ⟨v, w1, w2⟩ := h.own k f' ob e2
      rw [z]
      refine ⟨v, ?_, w2⟩
      obtain ⟨v', q1, q2⟩ := hv.get (ownPos_some z)
      have q3 : s[j]? = some (some v') := q2
      have q4 := map_some.mp w1
      rw [q1] at q4
      injection q4 with q4
      subst q4
      exact q3
  · rcases cs e with ⟨z, e1⟩ | ⟨k, ob0, f', z, e1, e2⟩
    · rw [z] at ha
      obtain ⟨u, hu⟩ := there e1 a ha
      exact ⟨(h.ext.nw a u hu).trans (rf.fre j b ob a e1 ha).1, (rf.fre j b ob a e1 ha).2⟩
    · rw [z] at ha
      refine ⟨(h.fre k f' ob a e2 ha).1, ?_⟩
      rcases (h.fre k f' ob a e2 ha).2 with y | y
      · obtain ⟨k2, i, q1, q2⟩ := mem_allH.mp y.2
        obtain ⟨f, o2, q3⟩ := real q1
        rcases (rf.fre i f o2 a q3 q2).2 with x | x
        · exact .inl ⟨(oneFlag_at of q1 (ownPos_some z) q3 e1) ▸ x.1, x.2⟩
        · exact .inr x
      · exact .inr (rf.ext.free y).1
  · rcases cs e1 with ⟨z1, q1⟩ | ⟨k1, o1, f1, z1, q1, p1⟩
    · rw [z1] at h1
      rcases cs e2 with ⟨z2, q2⟩ | ⟨k2, o2, f2, z2, q2, p2⟩
      · rw [z2] at h2
        exact rf.dis j l bj oj bl ol a q1 q2 h1 h2
      · rw [z2] at h2
        obtain ⟨u, hu⟩ := there q1 a h1
        rcases (h.fre k2 f2 ol a p2 h2).2 with y | y
        · exact absurd y.2 (notIn z1 q1 a h1)
        · rw [hu] at y
          cases y
    · rw [z1] at h1
      rcases cs e2 with ⟨z2, q2⟩ | ⟨k2, o2, f2, z2, q2, p2⟩
      · rw [z2] at h2
        obtain ⟨u, hu⟩ := there q2 a h2
        rcases (h.fre k1 f1 oj a p1 h1).2 with y | y
        · exact absurd y.2 (notIn z2 q2 a h2)
        · rw [hu] at y
          cases y
      · rw [z2] at h2
        have kk := h.dis k1 k2 f1 oj f2 ol a p1 p2 h1 h2
        subst kk
        have y1 := ownPos_some z1
        have y2 := ownPos_some z2
        rw [y1] at y2
        injection y2 with y2
        injection y2
  · rcases cs e with ⟨z, e1⟩ | ⟨k, ob0, f', z, e1, e2⟩
    · exact rf.par j ob e1
    · exact rf.par j ob0 e1
  · rw [updAll_len]
    exact rf.len
end
/-- f(e, ..) where some arguments are owned -/
def coM (m : List Bd → RI) (ca : Mn (List Hv)) : Mn D := bnd ca fun hs r => match bdsOf r hs with
  | none => .bad
  | some bs => if owOk hs && oneFlag r hs then (match m bs with
    | .ok d bs' => .ok d (updAll hs bs' 0 r)
    | .exc e bs' => .exc e (updAll hs bs' 0 r)
    | .bad => .bad) else .bad
section
variable {X : Cx} {W : WX} {k : Nat} {f : Addr} {fd : FuncData} {ps : List Str} {n : Nat} {m : List Bd → RI} {x : Str} {p pos : Pos} {e : Expr} {es : List Expr}
theorem sg_callO {G : Gm} {ta : TA} {ca : Mn (List Hv)} (hn : ∀ r hs r', ca r = .ok hs r' → hs.length = n) (ha : SG G W (fun F s vs hs => RpHs G F s vs hs) ta ca) : SG G W (rpV G) (tCallS (spI G n m) (WE W) ta) (coM m ca) := by
  intro I s0 F0 H0 r s F H rel Q z
  unfold tCallS
  refine ha I s0 F0 H0 r s F H rel _ ?_
  unfold coM bnd at z
  cases e : ca r with
  | bad =>
    rw [e] at z
    exact z
  | exc c r' =>
    rw [e] at z
    exact z
  | ok hs r1 =>
    rw [e] at z
    intro vs F1 H1 rel1 sm rx
    dsimp only at z
    cases eb : bdsOf r1 hs with
    | none =>
      rw [eb] at z
      exact z.elim
    | some bs =>
      rw [eb] at z
      dsimp only at z
      split at z
      · rename_i hc
        rw [Bool.and_eq_true] at hc
        obtain ⟨fp, rf⟩ := rel1
        refine ⟨rx.len.trans (hn r hs r1 e), F1, bs, allH fp hs, rel_call rf rx eb hc.1, ?_⟩
        revert z
        generalize m bs = y
        intro z
        cases y with
        | bad => exact z
        | ok d bs' => exact fun v F' H' rl rv => z v F' H' (rel_back rf rx eb hc.1 hc.2 rl) (sm.trans rl.ext.ff) rv
        | exc c bs' => exact fun F' H' rl => z F' H' (rel_back rf rx eb hc.1 hc.2 rl) (sm.trans rl.ext.ff)
      · exact z.elim
theorem me_callO {ca : Mn (List Hv)} (tk : L2N.Takes X W) (Fn : FnOk X.prog X.w X.K X.mg X.base (L2N.CX X.prog X.w) k f fd ps (spI (Cx.gm X) n m)) (hr : Room k X.A) (hg : Gl X x) (hm : X.mg x = some (.ref f)) (hk : PySem.W.keepIn X.K (.ref f) = true) (hb : Binds X.K fd ps [])
    (ha : MAH X W (e :: es) ca) (hn : ∀ r hs r', ca r = .ok hs r' → hs.length = n) (hdb : (x == ("__debug__" : Str)) = false := by decide) (he : starEach (e :: es) X.env = (false, eval e X.env) :: starEach es X.env := by rfl) (hpl : (backTo pos (starEach es X.env)).any (·.1) = false := by rfl) :
    ME X W (.Call (.Name x p) (e :: es) [] pos) (coM m ca) := by
  obtain ⟨ta, a1, a2⟩ := ha
  exact ⟨_, pe_callS Fn hr hg hm hk hb (fun σ => L2N.passAt tk σ) a1 hdb he hpl, sg_callO hn a2⟩
end
theorem lenH_nil {r : En} {ds : List Hv} {r' : En} (h : ret ([] : List Hv) r = .ok ds r') : ds.length = 0 := by
  injection h with h
  subst h
  rfl
theorem lenH_cons {n : Nat} {ca : Mn Hv} {cr : Mn (List Hv)} (hn : ∀ r ds r', cr r = .ok ds r' → ds.length = n) : ∀ r ds r', consH ca cr r = .ok ds r' → ds.length = n + 1 := by
  intro r ds r' h
  unfold consH bnd at h
  cases e : ca r with
  | bad =>
    rw [e] at h
    cases h
  | exc c r1 =>
    rw [e] at h
    cases h
  | ok d r1 =>
    rw [e] at h
    dsimp only at h
    cases e2 : cr r1 with
    | bad =>
      rw [e2] at h
      cases h
    | exc c r2 =>
      rw [e2] at h
      cases h
    | ok l r2 =>
      rw [e2] at h
      injection h with h
      subst h
      rw [List.length_cons, hn r1 l r2 e2]
end Fg
set_option maxRecDepth 100000
set_option maxHeartbeats 4000000
/-! Fg11: raise; list comprehensions. -/
namespace Fg
open PySem PySem.Spec PyProof.Rows L2

/-- what the written part says of the class of e -/
structure ExT (K : PySem.W.Frag) (mg : Str → Option Value) (e : Ec) (C : Addr) : Prop where
  g : mg e.nm = some (.ref C)
  x : PySem.W.excIn K C [.type "ValueError", .type "Exception", .type "BaseException", .type "object"] "ValueError.__new__" = true
  k : PySem.W.keepIn K (.ref C) = true
  b : PySem.W.subIn K (.ref C) (.type "BaseException") = some true
  t : PySem.W.typeIn K (.ref C) = some (.type "type")
def raiseM (e : Ec) : Mn Fl := fun r => .exc e r
theorem ms_raise {X : Cx} {W : WX} {e : Ec} {C : Addr} {m : Str} {x : Str} {j : Nat} {p p2 pos pos2 : Pos} (hc : X.calm = true) (tk : L2N.Takes X W) (T : ExT X.K X.mg e C) (hx : x = e.nm) (hg : Gl X x) (hd : (x == ("__debug__" : Str)) = false := by decide) :
    MS X W (.Raise (some (.Call (.Name x p) [.Constant (.str m) j p2] [] pos)) none pos2) (raiseM e) := by
  subst hx
  refine ⟨_, L2N.ps_raise hc tk (L2N.pmk_own PySem.F.excBase_ValueError T.x T.g T.k (raises_own T.b T.t) hg hd), fun I s0 F0 H0 r s F H rel E h => ?_⟩
  have e1 : (Cx.gm X).cls e = .ref C := by
    show (X.mg e.nm).getD .none = _
    rw [T.g]
    rfl
  have := h s F H rel (Same.refl _)
  rw [e1] at this
  exact this

/-! ### canonical readings -/
def tE {α β : Type} (G : Gm) (W : WX) (rep : Hp → Sl → β → α → Prop) (c : Mn α) : Sl → Hp → (β → Hp → Prop) → Prop := fun s H Q => ∃ (I : List Addr) (s0 : Sl) (F0 H0 : Hp) (r : En) (F : Hp), Rel G I s0 F0 H0 r s F H ∧ Post G W rep I s0 F0 H0 s F Q (c r)
theorem pe_imp {X : Cx} {e : Expr} {t t' : TE} (h : PE X e t) (k : ∀ s H Q, t' s H Q → t s H Q) : PE X e t' := ⟨fun pins s σ H Q I q => h.run pins s σ H Q I (k σ H Q q)⟩
theorem pt_imp {X : Cx} {e : Expr} {t t' : TT} (h : PT X e t) (k : ∀ s H Q, t' s H Q → t s H Q) : PT X e t' := ⟨fun pins s σ H Q I q => h.run pins s σ H Q I (k σ H Q q)⟩
theorem ME.can {X : Cx} {W : WX} {e : Expr} {c : Mn D} (h : ME X W e c) : PE X e (tE (Cx.gm X) W (rpV (Cx.gm X)) c) := by
  obtain ⟨t, h1, h2⟩ := h
  exact pe_imp h1 fun s H Q ⟨I, s0, F0, H0, r, F, rel, q⟩ => h2 I s0 F0 H0 r s F H rel Q q
theorem MT.can {X : Cx} {W : WX} {e : Expr} {c : Mn Bool} (h : MT X W e c) : PT X e (tE (Cx.gm X) W rpB c) := by
  obtain ⟨t, h1, h2⟩ := h
  exact pt_imp h1 fun s H Q ⟨I, s0, F0, H0, r, F, rel, q⟩ => h2 I s0 F0 H0 r s F H rel Q q
theorem sg_can {α β : Type} {G : Gm} {W : WX} {rep : Hp → Sl → β → α → Prop} {c : Mn α} : SG G W rep (tE G W rep c) c := fun I s0 F0 H0 r s F H rel Q q => ⟨I, s0, F0, H0, r, F, rel, q⟩

/-! ### slots wiped, and restored -/
def wipeR (r : En) : List Nat → En
  | [] => r
  | v :: vs => (wipeR r vs).set v none
theorem wipeR_len (r : En) : ∀ vs : List Nat, (wipeR r vs).length = r.length
  | [] => rfl
  | v :: vs => by
    show ((wipeR r vs).set v none).length = _
    rw [List.length_set, wipeR_len r vs]
theorem wipeR_some {r : En} {i : Nat} {x : Bd} : ∀ {vs : List Nat}, (wipeR r vs)[i]? = some (some x) → r[i]? = some (some x) ∧ i ∉ vs
  | [], h => ⟨h, by simp⟩
  | v :: vs, h => by
    have h : ((wipeR r vs).set v none)[i]? = some (some x) := h
    rcases get_set h with ⟨_, e⟩ | ⟨ne, e⟩
    · cases e
    · obtain ⟨h1, h2⟩ := wipeR_some e
      exact ⟨h1, by simp [ne, h2]⟩
section
variable {G : Gm} {I : List Addr} {s0 s : Sl} {F0 H0 F H F' H' : Hp} {r r' : En} {vs : List Nat}
theorem wipe_in {s : Sl} {i : Nat} : ∀ {vs : List Nat}, i ∈ vs → (L2.wipe s vs)[i]? = (s[i]?).map fun _ => none
  | v :: vs, h => by
    show ((L2.wipe s vs).set v none)[i]? = _
    by_cases e : i = v
    · subst e
      rw [List.getElem?_set]
      simp only [if_true]
      by_cases hl : i < s.length
      · rw [if_pos (by rw [L2.wipe_length]; exact hl), List.getElem?_eq_getElem hl]
        rfl
      · rw [if_neg (by rw [L2.wipe_length]; exact hl), List.getElem?_eq_none (by omega)]
        rfl
    · rw [List.getElem?_set_ne (Ne.symm e)]
      exact wipe_in (by simpa [e] using h)
theorem wipe_only {s s' : Sl} {ix vs : List Nat} (h : Only ix s s') (hi : ∀ i ∈ ix, i ∈ vs) : L2.wipe s' vs = L2.wipe s vs := by
  have hl := h.1
  refine List.ext_getElem? fun j => ?_
  by_cases hj : j ∈ vs
  · rw [wipe_in hj, wipe_in hj]
    by_cases z : j < s.length
    · rw [List.getElem?_eq_getElem z, List.getElem?_eq_getElem (by omega)]
      rfl
    · rw [List.getElem?_eq_none (by omega), List.getElem?_eq_none (by omega)]
  · rw [L2.wipe_out hj, L2.wipe_out hj]
    exact h.2 j fun q => hj (hi j q)
theorem Rel.wipe (h : Rel G I s0 F0 H0 r s F H) (vs : List Nat) : Rel G I s0 F0 H0 (wipeR r vs) (L2.wipe s vs) F H := by
  obtain ⟨fp, h⟩ := h
  refine ⟨fp, h.ext, fun i d e => ?_, fun i b ob e => ?_, fun i b ob a e => h.fre i b ob a (wipeR_some e).1, fun i j bi oi bj oj a e1 e2 => h.dis i j bi oi bj oj a (wipeR_some e1).1 (wipeR_some e2).1, fun i ob e => ?_, by rw [L2.wipe_length, wipeR_len]; exact h.len, h.ini⟩
  · obtain ⟨h1, h2⟩ := wipeR_some e
    rw [L2.wipe_out h2]
    exact h.val i d h1
  · obtain ⟨h1, h2⟩ := wipeR_some e
    rw [L2.wipe_out h2]
    exact h.own i b ob h1
  · obtain ⟨h1, h2⟩ := wipeR_some e
    rw [L2.wipe_out h2]
    exact h.par i ob h1
/-- the block's own names as they were ahead of it -/
def restAt (vs : List Nat) (j : Nat) (b b' : Option Bd) : Option Bd := if vs.contains j then (match b with | some (.v d) => some (.v d) | _ => none) else b'
def restR (vs : List Nat) : Nat → En → En → En
  | j, b :: r, b' :: r' => restAt vs j b b' :: restR vs (j + 1) r r'
  | _, _, _ => []
theorem restR_len : ∀ {j : Nat} {r r' : En}, r'.length = r.length → (restR vs j r r').length = r.length
  | _, [], [], _ => rfl
  | j, b :: r, b' :: r', h => congrArg (· + 1) (restR_len (j := j + 1) (by simpa using h))
theorem restR_get : ∀ {j : Nat} {r r' : En} {i : Nat} {x : Bd}, (restR vs j r r')[i]? = some (some x) → ∃ b b', r[i]? = some b ∧ r'[i]? = some b' ∧ restAt vs (j + i) b b' = some x
  | j, b :: r, b' :: r', 0, x, e => by
    unfold restR at e
    simp at e
    exact ⟨b, b', rfl, rfl, e⟩
  | j, b :: r, b' :: r', i + 1, x, e => by
    unfold restR at e
    rw [List.getElem?_cons_succ] at e
    obtain ⟨c, c', h1, h2, h3⟩ := restR_get (j := j + 1) (r := r) (r' := r') (i := i) e
    refine ⟨c, c', by rw [List.getElem?_cons_succ]; exact h1, by rw [List.getElem?_cons_succ]; exact h2, ?_⟩
    rw [show j + (i + 1) = j + 1 + i by omega]
    exact h3
  | _, [], _, _, _, e => by
    unfold restR at e
    simp at e
  | _, _ :: _, [], _, _, e => by
    unfold restR at e
    simp at e
theorem Rel.rest {H1 : Hp} {F1 : Hp} (h : Rel G I s0 F0 H0 r s F1 H1) (sm : Same F1 F) (h' : Rel G I s0 F0 H0 r' (L2.wipe s vs) F H) : Rel G I s0 F0 H0 (restR vs 0 r r') s F H := by
  obtain ⟨fp0, h⟩ := h
  obtain ⟨fp, h'⟩ := h'
  have old : ∀ {j : Nat} {b : Bool} {ob : Ob}, (restR vs 0 r r')[j]? = some (some (Bd.o b ob)) → j ∉ vs ∧ r'[j]? = some (some (Bd.o b ob)) := fun {j b ob} e => by
    obtain ⟨c, c', h1, h2, h3⟩ := restR_get e
    rw [Nat.zero_add] at h3
    unfold restAt at h3
    split at h3
    · split at h3 <;> cases h3
    · rename_i z
      subst h3
      exact ⟨by simpa using z, h2⟩
  have l1 : r'.length = r.length := by
    have := h'.len
    rw [L2.wipe_length] at this
    rw [← this, h.len]
  refine ⟨fp, h'.ext, fun j d e => ?_, fun j b ob e => ?_, fun j b ob a e => h'.fre j b ob a (old e).2, fun i j bi oi bj oj a e1 e2 => h'.dis i j bi oi bj oj a (old e1).2 (old e2).2, fun j ob e => ?_, by rw [restR_len l1]; exact h.len, h'.ini⟩
  · obtain ⟨c, c', h1, h2, h3⟩ := restR_get e
    rw [Nat.zero_add] at h3
    unfold restAt at h3
    split at h3
    · split at h3
      · injection h3 with h3
        injection h3 with h3
        subst h3
        obtain ⟨v, w1, w2⟩ := h.val j _ h1
        exact ⟨v, w1, dp_mono sm w2⟩
      · cases h3
    · rename_i z
      subst h3
      obtain ⟨v, w1, w2⟩ := h'.val j d h2
      rw [L2.wipe_out (by simpa using z)] at w1
      exact ⟨v, w1, w2⟩
  · obtain ⟨z, e2⟩ := old e
    obtain ⟨v, w1, w2⟩ := h'.own j b ob e2
    rw [L2.wipe_out z] at w1
    exact ⟨v, w1, w2⟩
  · obtain ⟨z, e2⟩ := old e
    have := h'.par j ob e2
    rw [L2.wipe_out z] at this
    exact this
end
/-! ### [elt for target in source if test] -/
def lcLoop (vs : List Nat) (g : D → Mn Unit) (ct : Mn Bool) (ce : Mn D) : List D → List D → Mn (List D)
  | [], acc => ret acc
  | d :: ds, acc => bg (g d) (bnd ct fun k => if k then bnd ce fun y => if acc.length < 100000 then (fun r => lcLoop vs g ct ce ds (acc ++ [y]) (wipeR r vs)) else fun _ => .bad else fun r => lcLoop vs g ct ce ds acc (wipeR r vs))
def lcM (vs : List Nat) (ci : Mn (List D)) (g : D → Mn Unit) (ct : Mn Bool) (ce : Mn D) : Mn D := bnd ci fun ds r => match lcLoop vs g ct ce ds [] (wipeR r vs) with
  | .ok acc r' => .ok (.list acc) (restR vs 0 r r')
  | _ => .bad
abbrev W0 : WX := fun _ _ _ _ => False
/-- the end of a block: nothing else than a list -/
def OkL (f : List D → En → Prop) : R (List D) → Prop
  | .ok acc r => f acc r
  | _ => False
theorem sg_lc {G : Gm} {W : WX} {wi : TI} {ix vs : List Nat} {ci : Mn (List D)} {g : D → Mn Unit} {ct : Mn Bool} {ce : Mn D} (hi : ∀ (I : List Addr) (s0 : Sl) (F0 H0 : Hp) (r : En) (s : Sl) (F H : Hp), Rel G I s0 F0 H0 r s F H → ∀ R : It → Hp → Prop, PostI G W I s0 F0 H0 s F R (ci r) → wi s H R)
    (hv : ∀ i ∈ ix, i ∈ vs) : SG G W (rpV G) (tLc wi (tG G ix g) (tE G W0 rpB ct) (tE G W0 (rpV G) ce) vs) (lcM vs ci g ct ce) := by
  intro I s0 F0 H0 r s B H rel Q z
  unfold tLc
  refine hi I s0 F0 H0 r s B H rel _ ?_
  unfold lcM bnd at z
  cases e : ci r with
  | bad =>
    rw [e] at z
    exact z
  | exc n r' =>
    rw [e] at z
    exact z
  | ok ds r1 =>
    rw [e] at z
    rintro J F1 H1 rel1 sm ⟨Gd, Y, w, hG, hY⟩ Dn hD
    dsimp only at z
    -- the end, as wanted
    have fin : OkL (fun acc r' => ∀ x F' H', Rel G I s0 F0 H0 (restR vs 0 r1 r') s F' H' → Same B F' → Rp G.K F' x (.list acc) → Q x H') (lcLoop vs g ct ce ds [] (wipeR r1 vs)) := by
      revert z
      generalize lcLoop vs g ct ce ds [] (wipeR r1 vs) = y
      intro z
      cases y with
      | bad => exact z
      | exc n r' => exact z.elim
      | ok acc r' => exact z
    have h0D : H0 Dn = none := (rel1.ext.free hD).1
    have f0D : F0 Dn = none := (rel1.ext.free hD).2.2
    have hI : Dn ∉ I := by
      obtain ⟨fp, rf⟩ := rel1
      intro q
      obtain ⟨o, eo⟩ := rf.ini Dn q
      rw [h0D] at eo
      cases eo
    refine lc_it w (fun i H2 => ∃ r2 F2 accV acc, Rel G I s0 F0 (upd H0 Dn (.lst accV)) r2 (L2.wipe s vs) F2 H2 ∧ Same F1 F2 ∧ RpA G.K F2 accV acc ∧ acc.length ≤ 100000 ∧ OkL (fun acc r' => ∀ x F' H', Rel G I s0 F0 H0 (restR vs 0 r1 r') s F' H' → Same B F' → Rp G.K F' x (.list acc) → Q x H') (lcLoop vs g ct ce (ds.drop i) acc r2))
      ⟨wipeR r1 vs, F1, [], [], ?_, Same.refl _, .nil, Nat.zero_le _, fin⟩ (fun i H2 hi ⟨r2, F2, accV, acc, rl, s2, _⟩ => hG F2 H2 s2 rl.fh) ?_ ?_
    · obtain ⟨fp, rf⟩ := rel1.wipe vs
      refine Rel.hold (fp := fp) (rf.grow (Ext.raw (o := .lst []) rel1.fh hD)) h0D upd_same (rel1.fh.free hD) fun i b ob q hm => ?_
      obtain ⟨v, _, w2⟩ := rf.own i b ob q
      obtain ⟨o, eo⟩ := w2.there Dn hm
      rw [hD] at eo
      cases eo
    · rintro i x H2 H3 hi ⟨r2, F2, accV, acc, rel2, sm2, ra, hl, fin2⟩ y
      obtain ⟨F3, d, x3, ed, rd⟩ := hY i F2 H2 x H3 hi sm2 rel2.fh y
      rw [drop_cons ed] at fin2
      have rel3 := rel2.grow x3
      obtain ⟨u, r4, e4, fin4⟩ := bg_run fin2 (fun q => q)
      refine tG_run rel3 rd e4 fun s4 F4 H4 rel4 sm4 o4 => ?_
      have ew : L2.wipe s4 vs = L2.wipe s vs := by
        rw [wipe_only o4 hv]
        refine List.ext_getElem? fun j => ?_
        by_cases hj : j ∈ vs
        · rw [wipe_in hj, wipe_in hj]
          cases s[j]? <;> rfl
        · rw [L2.wipe_out hj]
      refine ⟨ew, I, s0, F0, _, r4, F4, rel4, ?_⟩
      unfold bnd at fin4
      cases e5 : ct r4 with
      | bad =>
        rw [e5] at fin4
        exact fin4
      | exc n r5 =>
        rw [e5] at fin4
        exact fin4.elim
      | ok k r5 =>
        rw [e5] at fin4
        intro b F5 H5 rel5 sm5 eb
        cases eb
        have big5 : Same F2 F5 := (x3.ff.trans sm4).trans sm5
        cases k with
        | false =>
          rw [if_neg Bool.false_ne_true]
          refine ⟨wipeR r5 vs, F5, accV, acc, ?_, sm2.trans big5, dpa_mono big5 ra, hl, fin4⟩
          rw [← ew]
          exact rel5.wipe vs
        | true =>
          rw [if_pos rfl]
          refine ⟨I, s0, F0, _, r5, F5, rel5, ?_⟩
          have fin5 : OkL (fun acc r' => ∀ x F' H', Rel G I s0 F0 H0 (restR vs 0 r1 r') s F' H' → Same B F' → Rp G.K F' x (.list acc) → Q x H') (bnd ce (fun y => if acc.length < 100000 then (fun r => lcLoop vs g ct ce (ds.drop (i + 1)) (acc ++ [y]) (wipeR r vs)) else fun _ => .bad) r5) := fin4
          unfold bnd at fin5
          cases e6 : ce r5 with
          | bad =>
            rw [e6] at fin5
            exact fin5
          | exc n r6 =>
            rw [e6] at fin5
            exact fin5.elim
          | ok y6 r6 =>
            rw [e6] at fin5
            intro v F6 H6 rel6 sm6 rv6
            dsimp only at fin5
            split at fin5
            · rename_i hlt
              obtain ⟨fp, rf, hD6, fD6, no6⟩ := rel6.drop h0D hI
              rw [f0D] at fD6
              have big6 : Same F2 F6 := big5.trans sm6
              refine ⟨accV, hD6, szlt (by rw [dpa_len ra]; exact hlt), wipeR r6 vs, F6, accV ++ [v], acc ++ [y6], ?_, sm2.trans big6, dpa_app (dpa_mono big6 ra) (.cons rv6 .nil), by rw [List.length_append]; exact hlt, fin5⟩
              rw [← ew]
              exact (Rel.hold (rf.poke h0D fD6 no6) h0D upd_same fD6 no6).wipe vs
            · exact fin5.elim
    · rintro H2 ⟨r2, F2, accV, acc, rel2, sm2, ra, hl, fin2⟩
      rw [List.drop_eq_nil_of_le (Nat.le_refl _)] at fin2
      obtain ⟨fp, rf, hD2, fD2, no2⟩ := rel2.drop h0D hI
      rw [f0D] at fD2
      have sm3 : Same F2 (upd F2 Dn (.lst accV)) := same_upd fD2
      exact fin2 _ (upd F2 Dn (.lst accV)) H2 (rel1.rest (sm2.trans sm3) ⟨fp, rf.ice h0D fD2 hD2 no2⟩) ((sm.trans sm2).trans sm3) (.lst upd_same (dpa_mono sm3 ra))
section
variable {X : Cx} {W : WX} {elt tg iter : Expr} {scope : Scope} {own : List (Str × Nat)} {pos : Pos} {ix : List Nat} {ci : Mn (List D)} {g : D → Mn Unit} {ct : Mn Bool} {ce : Mn D}
/-- the tests of a clause -/
def yesM : Mn Bool := ret true
theorem pts_yes {X : Cx} : PTs X [] (tE (Cx.gm X) W0 rpB yesM) := ⟨fun pins s σ H Q I h => (pts_nil (X := X)).run pins s σ H Q I (by
  obtain ⟨I', s0, F0, H0, r, F, rel, q⟩ := h
  exact q true F H rel (Same.refl _) rfl)⟩
theorem pts_can {X : Cx} {c : Expr} {ct : Mn Bool} (h : MT X W0 c ct) : PTs X [c] (tE (Cx.gm X) W0 rpB ct) := pts_one h.can
theorem me_lc {ifs : List Expr} (hc : X.calm = true) (hN : X.N.Nodup) (hi : MI X W tg iter ci) (ok : BlkOk X.N X.env.scope scope own)
    (hg : ∀ (s : Shared) (H : Hp) (C : Addr) (cl : List (Str × Addr)) (fp : List Addr), MG (X.blk s H scope (compEnvC scope cl C X.env) fp) tg ix g)
    (ht : ∀ (s : Shared) (H : Hp) (C : Addr) (cl : List (Str × Addr)) (fp : List Addr), PTs (X.blk s H scope (compEnvC scope cl C X.env) fp) ifs (tE (Cx.gm X) W0 rpB ct))
    (he : ∀ (s : Shared) (H : Hp) (C : Addr) (cl : List (Str × Addr)) (fp : List Addr), ME (X.blk s H scope (compEnvC scope cl C X.env) fp) W0 elt ce)
    (hv : ∀ i ∈ ix, i ∈ own.map (·.2)) (hs : ∀ x, foldedSetIterable iter X.env x = pure x := by intro _; rfl) : ME X W (.ListComp elt [⟨tg, iter, ifs, 0⟩] scope pos) (lcM (own.map (·.2)) ci g ct ce) := by
  obtain ⟨wi, i1, i2⟩ := hi
  exact ⟨_, pe_lc (g := tG (Cx.gm X) ix g) (tt := tE (Cx.gm X) W0 rpB ct) (te := tE (Cx.gm X) W0 (rpV (Cx.gm X)) ce) hc hN i1 ok hg ht (fun s H C cl fp => (he s H C cl fp).can) hs, sg_lc i2 hv⟩
/-- y = [..], on one line -/
theorem ms_setLc {ifs : List Expr} {i : Nat} {y : Str} {py spos : Pos} (hc : X.calm = true) (hN : X.N.Nodup) (hy : X.N[i]? = some y) (hyl : X.env.scope.names.lookup y = some .local)
    (hsw : swapsWith (.ListComp elt [⟨tg, iter, ifs, 0⟩] scope pos) (some (.Name y py)) spos.line X.env = pure true) (hi : MI X W tg iter ci) (ok : BlkOk X.N X.env.scope scope own)
    (hg : ∀ (s : Shared) (H : Hp) (C : Addr) (cl : List (Str × Addr)) (fp : List Addr), MG (X.blk s H scope (compEnvC scope cl C X.env) fp) tg ix g)
    (ht : ∀ (s : Shared) (H : Hp) (C : Addr) (cl : List (Str × Addr)) (fp : List Addr), PTs (X.blk s H scope (compEnvC scope cl C X.env) fp) ifs (tE (Cx.gm X) W0 rpB ct))
    (he : ∀ (s : Shared) (H : Hp) (C : Addr) (cl : List (Str × Addr)) (fp : List Addr), ME (X.blk s H scope (compEnvC scope cl C X.env) fp) W0 elt ce)
    (hv : ∀ i ∈ ix, i ∈ own.map (·.2)) (hs : ∀ x, foldedSetIterable iter X.env x = pure x := by intro _; rfl) : MS X W (.Assign [.Name y py] (.ListComp elt [⟨tg, iter, ifs, 0⟩] scope pos) spos) (asgM i (lcM (own.map (·.2)) ci g ct ce)) := by
  obtain ⟨wi, i1, i2⟩ := hi
  exact ⟨_, ps_setLc (g := tG (Cx.gm X) ix g) (tt := tE (Cx.gm X) W0 rpB ct) (te := tE (Cx.gm X) W0 (rpV (Cx.gm X)) ce) hc hN hy hyl hsw i1 ok hg ht (fun s H C cl fp => (he s H C cl fp).can) hs, ss_asg (sg_lc i2 hv)⟩
end
end Fg
set_option maxRecDepth 100000
set_option maxHeartbeats 4000000
/-! Fg12: defs of a text by name; the law's end. -/
namespace Fg
open PySem PySem.Spec PyProof.Rows L2

/-- a def of the text, as the top has left it -/
def Dfn (K : PySem.W.Frag) (mg : Str → Option Value) (x : Str) (st : Stmt) (ps : List Str) : Prop := ∃ (f : Addr) (fd : FuncData), Fun K x x st f fd ∧ mg x = some (.ref f) ∧ Binds K fd ps []
/-- a def that keeps its mirror -/
def Cal (P : Program) (w : World) (K : PySem.W.Frag) (mg : Str → Option Value) (base : Heap) (x : Str) (ps : List Str) (k : Nat) (m : List Bd → RI) : Prop :=
  ∃ (f : Addr) (fd : FuncData), mg x = some (.ref f) ∧ PySem.W.keepIn K (.ref f) = true ∧ Binds K fd ps [] ∧ FnOk P w K mg base (L2N.CX P w) k f fd ps (spI ⟨K, mg⟩ ps.length m)
theorem cal_mk {P : Program} {w : World} {K : PySem.W.Frag} {mg : Str → Option Value} {base : Heap} {x : Str} {st : Stmt} {N ps : List Str} {k : Nat} {c : Mn Fl} (d : Dfn K mg x st ps) (S : FnScope N ps (defScope st))
    (hb : ∀ (f : Addr) (cdv : Value) (A : Around) (outer : List Env) (s : Shared) (H : Hp) (E : XK), Room k (A.deeper (envOfC x (defScope st) s.heap.objs.size f cdv)) →
      MB (cxOf (L2N.CX P w) P w K mg base N x (defScope st) f cdv A outer s H E) (fun cls d _ H => E cls d H) (defBody st) c) : Cal P w K mg base x ps (k + 1) (runD N.length c) := by
  obtain ⟨f, fd, F, g, b⟩ := d
  exact ⟨f, fd, g, F.kp, b, fn_mir F S fun cdv A outer s H E hr => hb f cdv A outer s H E hr⟩
theorem cal_mk2 {P : Program} {w : World} {K : PySem.W.Frag} {mg : Str → Option Value} {base : Heap} {x : Str} {st : Stmt} (N : List Str) {ps : List Str} (k : Nat) {j : Nat} (c : Mn Fl) {m : List Bd → RI} (hm : m = runD N.length c) (hj : j = k + 1) (d : Dfn K mg x st ps) (S : FnScope N ps (defScope st))
    (hb : ∀ (f : Addr) (cdv : Value) (A : Around) (outer : List Env) (s : Shared) (H : Hp) (E : XK), Room k (A.deeper (envOfC x (defScope st) s.heap.objs.size f cdv)) →
      MB (cxOf (L2N.CX P w) P w K mg base N x (defScope st) f cdv A outer s H E) (fun cls d _ H => E cls d H) (defBody st) c) : Cal P w K mg base x ps j m := by
  subst hm hj
  exact cal_mk d S hb
section
variable {X : Cx} {W : WX} {k j n : Nat} {ps : List Str} {m : List Bd → RI} {x : Str} {p pos : Pos} {e : Expr} {es : List Expr}
theorem me_cp {ca : Mn (List D)} (C : Cal X.prog X.w X.K X.mg X.base x ps k m) (tk : L2N.Takes X W) (hr : Room j X.A) (hj : k ≤ j) (hg : Gl X x) (ha : MA X W (e :: es) ca) (hn : ∀ r ds r', ca r = .ok ds r' → ds.length = ps.length) (hdb : (x == ("__debug__" : Str)) = false := by decide)
    (he : starEach (e :: es) X.env = (false, eval e X.env) :: starEach es X.env := by rfl) (hpl : (backTo pos (starEach es X.env)).any (·.1) = false := by rfl) : ME X W (.Call (.Name x p) (e :: es) [] pos) (cpM m ca) := by
  obtain ⟨f, fd, g, kp, b, F⟩ := C
  exact me_callP tk F (hr.mono hj) hg g kp b ha hn hdb he hpl
theorem me_co {ca : Mn (List Hv)} (C : Cal X.prog X.w X.K X.mg X.base x ps k m) (tk : L2N.Takes X W) (hr : Room j X.A) (hj : k ≤ j) (hg : Gl X x) (ha : MAH X W (e :: es) ca) (hn : ∀ r ds r', ca r = .ok ds r' → ds.length = ps.length) (hdb : (x == ("__debug__" : Str)) = false := by decide)
    (he : starEach (e :: es) X.env = (false, eval e X.env) :: starEach es X.env := by rfl) (hpl : (backTo pos (starEach es X.env)).any (·.1) = false := by rfl) : ME X W (.Call (.Name x p) (e :: es) [] pos) (coM m ca) := by
  obtain ⟨f, fd, g, kp, b, F⟩ := C
  exact me_callO tk F (hr.mono hj) hg g kp b ha hn hdb he hpl
/-- a method of an owned list, the rules at hand -/
theorem me_append {i : Nat} {o : Expr} {ce : Mn D} {apos : Pos} (ho : PE X o (tVar i)) (he : ME X W e ce)
    (hp : ∀ {te : TE}, PE X e te → PE X (.Call (.Attribute o "append" apos) [e] [] pos) (tBM X.K "list" rAppend (tVar i) (tCons te tNil))) : ME X W (.Call (.Attribute o "append" apos) [e] [] pos) (appM i ce) := me_app ho he hp
end
/-- the law's promise -/
def spLaw (K : PySem.W.Frag) : Sp := fun vs H Q _ => ∃ (a : Addr) (ns : List Int), vs = [.ref a] ∧ SqL K H a (ns.map V.int) ∧ ns.length ≤ 63 ∧ ∀ H', Q (.bl true) H'
/-- what is left to be shown of a law: its mirror's answer -/
def Keeps (m : List Bd → RI) : Prop := ∀ ns : List Int, ns.length ≤ 63 → ∃ bs, m [.v (scrD ns)] = .ok (.bool true) bs
theorem law_ok {P : Program} {w : World} {K : PySem.W.Frag} {mg : Str → Option Value} {base : Heap} {k : Nat} {m : List Bd → RI} {f : Addr} {fd : FuncData} {x : Str} (F : FnOk P w K mg base (L2N.CX P w) k f fd [x] (spI ⟨K, mg⟩ 1 m)) (hm : Keeps m) : FnOk P w K mg base (L2N.CX P w) k f fd [x] (spLaw K) := by
  refine F.imp ?_
  rintro vs H Q E ⟨a, ns, rfl, hS, hl, q⟩
  obtain ⟨bs, e⟩ := hm ns hl
  refine ⟨rfl, H, [.v (scrD ns)], [], ?_, ?_⟩
  · exact rel_vals (G := ⟨K, mg⟩) (ds := [scrD ns]) (Same.refl _) (.cons (.scr hS) .nil)
  · rw [e]
    intro v F' H' _ rv
    cases rv
    exact q H'
theorem no_exc {P : Program} {w : World} {H : Hp} {s : Shared} {e : Value} {s' : Shared} (h : L2N.CX P w [] H s (fun _ _ _ => False) e s') : False := by
  obtain ⟨_, _, _, _, _, _, _, _, _, _, _, _, z⟩ := h
  exact z
end Fg
namespace Fg
open PySem PySem.Spec PyProof.Rows L2
/-- a constant of the module -/
def Con (K : PySem.W.Frag) (mg : Str → Option Value) (x : Str) (d : D) : Prop := ∃ (u : Value) (v : V), mg x = some u ∧ RelV v u ∧ ∀ F : Hp, Rp K F v d
theorem me_gl {X : Cx} {W : WX} {x : Str} {d : D} {pos : Pos} (h : Con X.K X.mg x d) (hg : Gl X x) (hd : (x == ("__debug__" : Str)) = false := by decide) : ME X W (.Name x pos) (ret d) := by
  obtain ⟨u, v, h1, h2, h3⟩ := h
  exact me_c (pe_glob hg h1 h2 hd) h3
end Fg
set_option maxRecDepth 100000
set_option maxHeartbeats 4000000
/-! Fg13: facts of the top, by kinds. -/
namespace Fg
open PySem PySem.Spec PyProof.Rows L2
section
variable {K : PySem.W.Frag} {h : Heap} {mg : Str → Option Value}
theorem dfn_mk {x : Str} {st : Stmt} {ps : List Str} {f : Addr} {oc : Value} {od an : Option Addr} {osl : Array (Option Value)} {kV doc pm cdv ct : Value} (X : K.In h) (G : h.Ns mainGlobals mg)
    (a : PySem.W.nsIn K mainGlobals x = some (some (.ref f))) (l : K.lookup f = some ⟨oc, od, .func (PySem.W.fnOf x x (defArgs st) (defBody st) (defScope st) .none kV doc pm an cdv ct), osl⟩)
    (c : PySem.W.codeIn K cdv x = true) (k : PySem.W.keepIn K (.ref f) = true)
    (b : ∀ (kV doc pm : Value) (an : Option Addr) (cdv ct : Value) (us : List Value), us.length = ps.length → bindArgs (PySem.W.fnOf x x (defArgs st) (defBody st) (defScope st) .none kV doc pm an cdv ct) ⟨us, []⟩ = pure (ps.zip us)) : Dfn K mg x st ps :=
  ⟨f, _, fun_mk l c k, PySem.W.mg_of X G a, (fun_mk l c k).binds b⟩
theorem non_mk {x : Str} (X : K.In h) (G : h.Ns mainGlobals mg) (a : PySem.W.nsIn K mainGlobals x = some none) : mg x = none := PySem.W.mg_none_of X G a
theorem con_int {x : Str} {i : Int} {t : Tok} (X : K.In h) (G : h.Ns mainGlobals mg) (a : PySem.W.nsIn K mainGlobals x = some (some (.int i t))) : Con K mg x (.int i) := ⟨_, .int i, PySem.W.mg_of X G a, ⟨t, rfl⟩, fun _ => .int i⟩
theorem con_str {x : Str} {i : Str} {t : Tok} (X : K.In h) (G : h.Ns mainGlobals mg) (a : PySem.W.nsIn K mainGlobals x = some (some (.str i t))) : Con K mg x (.str i) := ⟨_, .str i, PySem.W.mg_of X G a, ⟨t, rfl⟩, fun _ => .str i⟩
theorem con_pair {x : Str} {i j : Int} {t u : Tok} {p : Addr} {od : Option Addr} {n : Nat} {sl : Array (Option Value)} (X : K.In h) (G : h.Ns mainGlobals mg) (a : PySem.W.nsIn K mainGlobals x = some (some (.ref p)))
    (l : K.lookup p = some ⟨.type "tuple", od, .seq #[.int i t, .int j u] n, sl⟩) : Con K mg x (.tuple [.int i, .int j]) :=
  ⟨_, .ref p, PySem.W.mg_of X G a, rfl, fun _ => .tup (xs := [.int i, .int j]) (.inr ⟨_, _, n, l, rfl, rfl, by show 2 ≤ sizeLine; rw [sizeLine_eq]; decide, .cons ⟨t, rfl⟩ (.cons ⟨u, rfl⟩ .nil)⟩) (.cons (.int i) (.cons (.int j) .nil))⟩
theorem ext_mk {e : Ec} {x : Str} {C : Addr} (X : K.In h) (G : h.Ns mainGlobals mg) (hx : e.nm = x) (a : PySem.W.nsIn K mainGlobals x = some (some (.ref C)))
    (q : PySem.W.excIn K C [.type "ValueError", .type "Exception", .type "BaseException", .type "object"] "ValueError.__new__" = true) (k : PySem.W.keepIn K (.ref C) = true) (b : PySem.W.subIn K (.ref C) (.type "BaseException") = some true)
    (t : PySem.W.typeIn K (.ref C) = some (.type "type")) : ExT K mg e C := ⟨by rw [hx]; exact PySem.W.mg_of X G a, q, k, b, t⟩
end
/-- the law's def, from its own Cal -/
theorem law_fn {P : Program} {w : World} {K : PySem.W.Frag} {mg : Str → Option Value} {h : Heap} {k : Nat} {m : List Bd → RI} {st : Stmt} {f : Addr} {oc : Value} {od an : Option Addr} {osl : Array (Option Value)} {kV doc pm cdv ct : Value} {fa : Addr} (X : K.In h) (G : h.Ns mainGlobals mg) (hfa : mg "law" = some (.ref fa))
    (a : PySem.W.nsIn K mainGlobals "law" = some (some (.ref f))) (l : K.lookup f = some ⟨oc, od, .func (PySem.W.fnOf "law" "law" (defArgs st) (defBody st) (defScope st) .none kV doc pm an cdv ct), osl⟩)
    (c : PySem.W.codeIn K cdv "law" = true) (kp : PySem.W.keepIn K (.ref f) = true)
    (b : ∀ (kV doc pm : Value) (an : Option Addr) (cdv ct : Value) (us : List Value), us.length = 1 → bindArgs (PySem.W.fnOf "law" "law" (defArgs st) (defBody st) (defScope st) .none kV doc pm an cdv ct) ⟨us, []⟩ = pure ((["script"] : List Str).zip us))
    {N : List Str} {cb : Mn Fl} (hm : m = runD N.length cb) (S : FnScope N ["script"] (defScope st)) (hk : Keeps m)
    (hb : ∀ base : Heap, ∀ (f : Addr) (cdv : Value) (A : Around) (outer : List Env) (s : Shared) (H : Hp) (E : XK), Room k (A.deeper (envOfC "law" (defScope st) s.heap.objs.size f cdv)) →
      MB (cxOf (L2N.CX P w) P w K mg base N "law" (defScope st) f cdv A outer s H E) (fun cls d _ H => E cls d H) (defBody st) cb) :
    ∃ fd : FuncData, (∀ (s : Shared) (v : Value), BindsTo s fd ⟨[v], []⟩ [("script", v)]) ∧ ∀ base : Heap, K.In base → base.Ns mainGlobals mg → FnOk P w K mg base (L2N.CX P w) (k + 1) fa fd ["script"] (spLaw K) := by
  have e := hfa.symm.trans (PySem.W.mg_of X G a)
  cases e
  subst hm
  refine ⟨_, fun s v => .of_eq (b kV doc pm an cdv ct [v] rfl), fun base _ _ => law_ok (fn_mir (fun_mk l c kp) S fun cdv A outer s H E hr => hb base _ cdv A outer s H E hr) hk⟩
end Fg
namespace Fg
theorem cps {p g : Prop} (h : p) (k : p → g) : g := k h
end Fg
set_option maxRecDepth 100000
set_option maxHeartbeats 4000000
/-! Fg14: the caught exception: which class it has; try .. except .. as e: return _law_which(e). -/
namespace Fg
open PySem PySem.Spec PyProof.Rows L2

/-- what the written part says of the exceptions and of their base -/
structure ExW (K : PySem.W.Frag) (mg : Str → Option Value) (e : Ec) (C B : Addr) : Prop where
  t : ExT K mg e C
  m : ∃ cd : ClassData, PySem.W.clsIn K C = some cd ∧ cd.mro = [.ref C, .ref B, .type "ValueError", .type "Exception", .type "BaseException", .type "object"] ∧ cd.hasDict = true
  ga : PySem.W.findIn K (.ref C) "__getattribute__" = some (some (.builtin "BaseException.__getattribute__"))
  gt : PySem.W.findIn K (.ref C) "__getattr__" = some none
  cl : PySem.W.findIn K (.ref C) "__class__" = some (some (.builtin "object.__class__"))
structure WhT (K : PySem.W.Frag) (mg : Str → Option Value) (a : Ec → Addr) (B : Addr) : Prop where
  e : ∀ e, ExW K mg e (a e) B
  hn : PySem.W.specialIn K (.builtin "object.__class__") "__get__" = some (some (.builtin "getset_descriptor.__get__"))
  ht : PySem.W.takesIn K (.builtin "object.__class__") = some true
  inj : ∀ e k, a e = a k → e = k
  nb : ∀ e, a e ≠ B
  fg : mg "FractionError" = some (.ref B)
  fb : PySem.W.subIn K (.ref B) (.type "BaseException") = some true
  fd : PySem.W.hasDictIn K B = true
  ft : PySem.W.typeIn K (.ref B) = some (.type "type")
def pickA (a1 a2 a3 a4 a5 a6 a7 a8 a9 a10 a11 a12 a13 : Addr) : Ec → Addr
  | .fr => a1 | .wo => a2 | .ex => a3 | .nu => a4 | .ma => a5 | .ne => a6 | .pa => a7 | .ab => a8 | .to => a9 | .eq => a10 | .la => a11 | .un => a12 | .pe => a13
def allE : List Ec := [.fr, .wo, .ex, .nu, .ma, .ne, .pa, .ab, .to, .eq, .la, .un, .pe]
theorem mem_allE (e : Ec) : e ∈ allE := by cases e <;> decide
theorem wht_mk {K : PySem.W.Frag} {h : Heap} {mg : Str → Option Value} {a1 a2 a3 a4 a5 a6 a7 a8 a9 a10 a11 a12 a13 B : Addr} (X : K.In h) (G : h.Ns mainGlobals mg) (h1 : ExW K mg .fr a1 B) (h2 : ExW K mg .wo a2 B) (h3 : ExW K mg .ex a3 B) (h4 : ExW K mg .nu a4 B) (h5 : ExW K mg .ma a5 B)
    (h6 : ExW K mg .ne a6 B) (h7 : ExW K mg .pa a7 B) (h8 : ExW K mg .ab a8 B) (h9 : ExW K mg .to a9 B) (h10 : ExW K mg .eq a10 B) (h11 : ExW K mg .la a11 B) (h12 : ExW K mg .un a12 B) (h13 : ExW K mg .pe a13 B)
    (hn : PySem.W.specialIn K (.builtin "object.__class__") "__get__" = some (some (.builtin "getset_descriptor.__get__"))) (ht : PySem.W.takesIn K (.builtin "object.__class__") = some true)
    (fg : PySem.W.nsIn K mainGlobals "FractionError" = some (some (.ref B))) (fb : PySem.W.subIn K (.ref B) (.type "BaseException") = some true) (fd : PySem.W.hasDictIn K B = true) (ft : PySem.W.typeIn K (.ref B) = some (.type "type"))
    (d : (allE.all fun e => allE.all fun k => decide (pickA a1 a2 a3 a4 a5 a6 a7 a8 a9 a10 a11 a12 a13 e = pickA a1 a2 a3 a4 a5 a6 a7 a8 a9 a10 a11 a12 a13 k → e = k)) = true)
    (nb : (allE.all fun e => decide (pickA a1 a2 a3 a4 a5 a6 a7 a8 a9 a10 a11 a12 a13 e ≠ B)) = true) : WhT K mg (pickA a1 a2 a3 a4 a5 a6 a7 a8 a9 a10 a11 a12 a13) B where
  e := fun e => by cases e <;> assumption
  hn := hn
  ht := ht
  inj := fun e k => by
    exact of_decide_eq_true (List.all_eq_true.mp (List.all_eq_true.mp d e (mem_allE e)) k (mem_allE k))
  nb := fun e => by
    exact of_decide_eq_true (List.all_eq_true.mp nb e (mem_allE e))
  fg := PySem.W.mg_of X G fg
  fb := fb
  fd := fd
  ft := ft
section
variable {K : PySem.W.Frag} {mg : Str → Option Value} {a : Ec → Addr} {B : Addr}
theorem ExW.sub {e : Ec} {C : Addr} (h : ExW K mg e C B) (v : Value) : PySem.W.subIn K (.ref C) v = some (([.ref C, .ref B, .type "ValueError", .type "Exception", .type "BaseException", .type "object"] : List Value).contains v) := by
  obtain ⟨cd, h1, h2, _⟩ := h.m
  show PySem.W.mroIn K C v = _
  unfold PySem.W.mroIn
  rw [h1, Option.bind_some, h2]
  rfl
theorem ExW.excC {e : Ec} (T : WhT K mg a B) (h : ExW K mg e (a e) B) : ExcC K (a e) where
  hg := h.ga
  hk := h.gt
  hs := h.t.b
  hd := by
    obtain ⟨cd, h1, _, h3⟩ := h.m
    unfold PySem.W.hasDictIn
    rw [h1]
    exact h3
  ha := h.cl
  hn := T.hn
  ht := T.ht
  hm := by
    have := h.sub (.type "object")
    exact this
theorem WhT.cls (T : WhT K mg a B) (e : Ec) : Gm.cls ⟨K, mg⟩ e = .ref (a e) := by
  show (mg e.nm).getD .none = _
  rw [(T.e e).t.g]
  rfl
theorem ref_beq (x y : Addr) : (Value.ref x == Value.ref y) = decide (x = y) := by
  by_cases h : x = y
  · subst h
    simp
  · rw [decide_eq_false h]
    exact beq_eq_false_iff_ne.mpr fun z => h (Value.ref.inj z)
theorem WhT.kit (T : WhT K mg a B) (e k : Ec) : PySem.W.kitOne K (.ref (a e)) (.ref (a k)) = some (decide (e = k)) := by
  unfold PySem.W.kitOne
  rw [ref_beq]
  by_cases h : e = k
  · subst h
    simp
  · have h2 : a e ≠ a k := fun z => h (T.inj _ _ z)
    rw [if_neg (by simp [h2])]
    obtain ⟨cd, c1, c2, c3⟩ := (T.e k).m
    show (if ((PySem.W.clsIn K (a k)).isSome && PySem.W.typeIn K (.ref (a k)) == some (.type "type")) = true then PySem.W.subIn K (.ref (a e)) (.ref (a k)) else none) = _
    rw [if_pos (by rw [c1, (T.e k).t.t]; rfl), (T.e e).sub, decide_eq_false h]
    have n1 : (Value.ref (a k) == Value.ref (a e)) = false := by rw [ref_beq, decide_eq_false (Ne.symm h2)]
    have n2 : (Value.ref (a k) == Value.ref B) = false := by rw [ref_beq, decide_eq_false (T.nb k)]
    have n3 : ∀ x : String, (Value.ref (a k) == Value.type x) = false := fun x => beq_eq_false_iff_ne.mpr fun z => by cases z
    simp only [List.contains_cons, List.contains_nil, n1, n2, n3, Bool.or_false]
theorem WhT.kitV (T : WhT K mg a B) (e : Ec) : PySem.W.kitOne K (.ref (a e)) (.type "ValueError") = some true := by
  unfold PySem.W.kitOne
  rw [if_neg (by intro z; have := beq_iff_eq.mp z; cases this)]
  show (if PySem.W.kitMeta "ValueError" = true then PySem.W.subIn K (.ref (a e)) (.type "ValueError") else none) = _
  rw [if_pos (by decide +kernel), (T.e e).sub]
  rfl
theorem WhT.exm (T : WhT K mg a B) (e : Ec) : PySem.W.exmOne K (.ref (a e)) (.ref B) = some true := by
  refine PySem.W.exm_ref T.fb T.fd T.ft ?_
  rw [(T.e e).sub]
  have n2 : (Value.ref B == Value.ref B) = true := by rw [ref_beq]; simp
  simp only [List.contains_cons, n2, Bool.true_or, Bool.or_true]
end
/-! ### isinstance(e, C), e the pinned exception -/
theorem call_isH {X : Cx} {D : Addr} {p : Addr × Obj} (C : ExcC X.K D) (hp : p ∈ X.pn) (hz : p.2.cls = .ref D ∧ p.2.dict = none) (hf : ∃ vs, p.2.data = .fields vs) : CallR X (.builtin "isinstance") (rIsE X.K D p.1) := by
  rintro pins s σ H xs us Q I r ⟨c, cv, b, rfl, hcv, e, q⟩
  obtain ⟨a, oe⟩ := p
  cases r with
  | cons rx rr =>
    cases rr with
    | cons rt rr =>
      cases rr
      cases rx
      have ec := hcv _ rt
      subst ec
      have hget := (I.pin (a, oe) (List.mem_append_left _ hp)).1
      obtain ⟨vs, hv⟩ := hf
      have J : PySem.W.InstAt s.heap a oe D none := by
        obtain ⟨oc, od, oda, osl⟩ := oe
        obtain ⟨h1, h2⟩ := hz
        dsimp only at h1 h2 hv
        subst h1 h2 hv
        exact ⟨hget, rfl, rfl, trivial⟩
      refine PySem.W.kia_one (PySem.W.handS_kitx_exc C.hg C.hk C.hs C.hd C.ha C.hn C.ht C.hm) I.kIn J e ?_ fun tk => ⟨.bl b, H, I.kept (t' := tk) fun _ _ z => z, rfl, q⟩
      intro z
      cases z
def isE (a : Addr) (b : Bool) (i : Nat) : Mn D := fun r => match r[i]? with
  | some (some (.o _ (.ex a'))) => if a' = a then .ok (.bool b) r else .bad
  | _ => .bad
section
variable {X : Cx} {W : WX} {i : Nat} {D : Addr} {p : Addr × Obj} {o : Expr} {x : Str} {q1 q2 pos : Pos} {b : Bool}
theorem sg_isE {te : TE} {K : PySem.W.Frag} {v : V} {cv : Value} (hcv : ∀ u, RelV v u → u = cv) (hk : PySem.W.kitOne (Cx.gm X).K (.ref D) cv = some b) : SG (Cx.gm X) W (rpV (Cx.gm X)) (tCB (rIsE X.K D p.1) (tCons (tVar i) (tCons (tC v) tNil))) (isE p.1 b i) := by
  intro I s0 F0 H0 r s F H rel Q z
  unfold tCB tCons tNil tC tVar
  unfold isE at z
  split at z
  · rename_i f a' e
    split at z
    · rename_i ea
      subst ea
      obtain ⟨fp, rf⟩ := id rel
      obtain ⟨w, h1, rfl, _⟩ := rf.own i f _ e
      refine ⟨_, h1, v, cv, b, rfl, hcv, hk, ?_⟩
      exact z _ F H rel (Same.refl _) (.bl b)
    · exact z.elim
  · exact z.elim
theorem me_isE {a : Ec → Addr} {B : Addr} {e k : Ec} (T : WhT X.K X.mg a B) (hp : p ∈ X.pn) (hz : p.2.cls = .ref (a e) ∧ p.2.dict = none) (hf : ∃ vs, p.2.data = .fields vs) (ho : PE X o (tVar i)) (hx : x = k.nm) (hg : Gl X "isinstance") (hm : X.mg "isinstance" = none) (hg2 : Gl X x)
    (hb : bootBuiltins "isinstance" = some (.builtin "isinstance") := by decide +kernel) (hd : (x == ("__debug__" : Str)) = false := by decide)
    (h1 : starEach [o, .Name x q2] X.env = (false, eval o X.env) :: starEach [.Name x q2] X.env := by rfl) (h2 : starEach [.Name x q2] X.env = (false, eval (.Name x q2) X.env) :: starEach [] X.env := by rfl) (hpl : (backTo pos (starEach [.Name x q2] X.env)).any (·.1) = false := by rfl) :
    ME X W (.Call (.Name "isinstance" q1) [o, .Name x q2] [] pos) (isE p.1 (decide (e = k)) i) := by
  subst hx
  exact ⟨_, pe_callB (call_isH ((T.e e).excC T) hp hz hf) hg hm hb (pa_cons ho (pa_cons (pe_glob (v := .ref (a k)) hg2 (T.e k).t.g rfl hd) pa_nil h2) h1) (by decide) (by decide) h1 hpl, sg_isE (te := tVar i) (K := X.K) (cv := .ref (a k)) (fun u h => h) (T.kit e k)⟩
theorem me_isV {a : Ec → Addr} {B : Addr} {e : Ec} (T : WhT X.K X.mg a B) (hp : p ∈ X.pn) (hz : p.2.cls = .ref (a e) ∧ p.2.dict = none) (hf : ∃ vs, p.2.data = .fields vs) (ho : PE X o (tVar i)) (hg : Gl X "isinstance") (hm : X.mg "isinstance" = none) (hg2 : Gl X "ValueError") (hm2 : X.mg "ValueError" = none)
    (hv : bootBuiltins "ValueError" = some (.type "ValueError") := by decide +kernel) (hb : bootBuiltins "isinstance" = some (.builtin "isinstance") := by decide +kernel)
    (h1 : starEach [o, .Name "ValueError" q2] X.env = (false, eval o X.env) :: starEach [.Name "ValueError" q2] X.env := by rfl) (h2 : starEach [.Name "ValueError" q2] X.env = (false, eval (.Name "ValueError" q2) X.env) :: starEach [] X.env := by rfl) (hpl : (backTo pos (starEach [.Name "ValueError" q2] X.env)).any (·.1) = false := by rfl) :
    ME X W (.Call (.Name "isinstance" q1) [o, .Name "ValueError" q2] [] pos) (isE p.1 true i) :=
  ⟨_, pe_callB (call_isH ((T.e e).excC T) hp hz hf) hg hm hb (pa_cons ho (pa_cons (pe_bltn (v := .ty "ValueError") hg2 hm2 hv rfl (by decide) (by decide)) pa_nil h2) h1) (by decide) (by decide) h1 hpl, sg_isE (te := tVar i) (K := X.K) (cv := .type "ValueError") (fun u h => h) (T.kitV e)⟩
end
/-! ### count and index in a list of truths -/
def truths : List D → Option (List Bool)
  | [] => some []
  | .bool b :: ds => (truths ds).map (b :: ·)
  | _ => none
theorem truths_rp {K : PySem.W.Frag} {F : Hp} : ∀ {ds : List D} {bs : List Bool} {vs : List V}, truths ds = some bs → RpA K F vs ds → vs = bs.map V.bl
  | [], bs, vs, h, r => by
    injection h with h
    subst h
    cases r
    rfl
  | .bool b :: ds, bs, vs, h, r => by
    cases e : truths ds with
    | none =>
      have h : (truths ds).map (b :: ·) = some bs := h
      rw [e] at h
      cases h
    | some l =>
      have h : (truths ds).map (b :: ·) = some bs := h
      rw [e] at h
      injection h with h
      subst h
      cases r with
      | cons r1 r2 =>
        cases r1
        rw [truths_rp e r2]
        rfl
  | .none :: _, _, _, h, _ => by cases h
  | .int _ :: _, _, _, h, _ => by cases h
  | .str _ :: _, _, _, h, _ => by cases h
  | .list _ :: _, _, _, h, _ => by cases h
  | .tuple _ :: _, _, _, h, _ => by cases h
  | .dict _ :: _, _, _, h, _ => by cases h
theorem bl_flat : ∀ bs : List Bool, (bs.map V.bl).all flatV = true
  | [] => rfl
  | b :: bs => by
    show (flatV (.bl b) && (bs.map V.bl).all flatV) = true
    rw [bl_flat bs]
    rfl
def rCntB (K : PySem.W.Frag) : V → List V → Hp → VK → Prop := fun x xs H Q => ∃ (p : Addr) (bs : List Bool), x = .ref p ∧ xs = [.bl true] ∧ SqL K H p (bs.map V.bl) ∧ Q (.int (bs.count true : Nat)) H
theorem cnt_vals : ∀ {bs : List Bool} {us : List Value}, Vals (bs.map V.bl) us → us.countP (eqU (.bl true)) = bs.count true
  | [], us, h => by
    cases h
    rfl
  | b :: bs, us, h => by
    cases h with
    | cons r t =>
      rw [List.countP_cons, cnt_vals t, eqU_of r rfl]
      cases b with
      | true =>
        rw [List.count_cons]
        rfl
      | false =>
        rw [List.count_cons]
        rfl
theorem mt_cntB {X : Cx} : MtR X "list.count" (rCntB X.K) := by
  rintro pins s σ H x xs v us Q I rx rxs ⟨p, bs, rfl, rfl, hs, q⟩
  cases rx
  cases rxs with
  | cons ry rt =>
    cases rt
    obtain ⟨its, rv, ⟨⟨cls, dd, data, sl⟩, n, ho, hc, hdn, hd⟩, hlen⟩ := I.list hs
    simp only at hc hd
    subst hc hd
    refine call_meets PySem.F.slot_list_count ⟨_, ho, rfl⟩ PySem.F.entry_list_count (PySem.F.args_list_count_2 _ _) (SeqAt.list_countAt p its.toArray n dd sl _ (eqU (.bl true))) ⟨ho, fun y hy => mem_eqAt ry rfl rv (bl_flat bs) y (by simpa using hy), ?_⟩
    refine ⟨.int (bs.count true : Nat), H, I.tok _, ⟨s.toks, ?_⟩, q⟩
    have e : its.toArray.toList.countP (eqU (.bl true)) = bs.count true := cnt_vals rv
    show Value.int ((its.toArray.toList.countP (eqU (.bl true)) : Nat) : Int) s.toks = _
    rw [e]
def cntM (i : Nat) : Mn D := bnd (lstAt i) fun ds => bnd (lf (truths ds)) fun bs => ret (.int (bs.count true : Nat))
def idxM (i : Nat) : Mn D := bnd (lstAt i) fun ds => bnd (lf (truths ds)) fun bs => bnd (lf (bs.findIdx? id)) fun k => ret (.int (k : Nat))
section
variable {X : Cx} {W : WX} {i : Nat} {o e : Expr} {pos apos : Pos}
theorem me_cnt (hp : PE X (.Call (.Attribute o "count" apos) [e] [] pos) (tBM X.K "list" (rCntB X.K) (tVar i) (tCons (tC (.bl true)) tNil))) : ME X W (.Call (.Attribute o "count" apos) [e] [] pos) (cntM i) := by
  refine ⟨_, hp, fun I s0 F0 H0 r s F H rel Q z => ?_⟩
  unfold tBM tVar tCons tNil tC
  obtain ⟨b, ds, e0, z1⟩ := lstAt_run z post_bad
  obtain ⟨bs, eb, z2⟩ := lf_run z1 post_bad
  obtain ⟨p, vs, w1, w2, w3, w4⟩ := own_lst rel e0
  have ev := truths_rp eb w3
  subst ev
  exact ⟨_, w1, tyv_list w2, p, bs, rfl, rfl, SqL.of w2, z2 _ F H rel (Same.refl _) (.int _)⟩
theorem me_idx (hp : PE X (.Call (.Attribute o "index" apos) [e] [] pos) (tBM X.K "list" (rIndex X.K) (tVar i) (tCons (tC (.bl true)) tNil))) : ME X W (.Call (.Attribute o "index" apos) [e] [] pos) (idxM i) := by
  refine ⟨_, hp, fun I s0 F0 H0 r s F H rel Q z => ?_⟩
  unfold tBM tVar tCons tNil tC
  obtain ⟨b, ds, e0, z1⟩ := lstAt_run z post_bad
  obtain ⟨bs, eb, z2⟩ := lf_run z1 post_bad
  obtain ⟨k, ek, z3⟩ := lf_run z2 post_bad
  obtain ⟨p, vs, w1, w2, w3, w4⟩ := own_lst rel e0
  have ev := truths_rp eb w3
  subst ev
  obtain ⟨hk, h1, h2⟩ := List.findIdx?_eq_some_iff_getElem.mp ek
  refine ⟨_, w1, tyv_list w2, p, bs.map V.bl, .bl true, k, .bl true, rfl, rfl, SqL.of w2, rfl, bl_flat bs, ?_, rfl, fun m z' hm hz => ?_, z3 _ F H rel (Same.refl _) (.int _)⟩
  · rw [List.getElem?_map, List.getElem?_eq_getElem hk]
    have : bs[k] = true := h1
    rw [this]
    rfl
  · rw [List.getElem?_map, List.getElem?_eq_getElem (by omega : m < bs.length)] at hz
    injection hz with hz
    subst hz
    have := h2 m hm
    have : bs[m] = false := by simpa using this
    rw [this]
    rfl
end
end Fg
set_option maxRecDepth 100000
set_option maxHeartbeats 4000000
/-! Fg15: _law_which as a def; the try statement. -/
namespace Fg
open PySem PySem.Spec PyProof.Rows L2
open L2H (RoomH Hot1 PinOk HotC cxH)

def whD (e : Ec) : D := .tuple [.str "raised", .int e.ix]
def WhP (G : Gm) (e : Ec) (H : Hp) (Q : VK) : Prop := ∃ F, Same F H ∧ ∀ v F' H', Ext [] F H F' H' → Rp G.K F' v (whD e) → Q v H'
/-- what _law_which promises, called with the exception that is handled -/
def WhOk (P : Program) (w : World) (K : PySem.W.Frag) (mg : Str → Option Value) (base : Heap) (k : Nat) (f : Addr) (fd : FuncData) (ps : List Str) : Prop :=
  ∀ (A : Around) (outer : List Env) (s : Shared) (H : Hp) (args : Args) (us : List Value) (Q : VK) (E : XK) (p : Addr × Obj) (e : Ec),
    RoomH k A → Hot1 A p → PinOk outer H s p → L2N.Zn (Gm.cls ⟨K, mg⟩ e) none p.2 → Env0 P w K mg base A outer s H → BindsTo s fd args (ps.zip us) → Vals [.ref p.1] us → WhP ⟨K, mg⟩ e H Q →
      codeAny (model P w) A (.call (.ref f) args) (CR (L2N.CX P w) outer P w H s Q E) s
def CalW (P : Program) (w : World) (K : PySem.W.Frag) (mg : Str → Option Value) (base : Heap) (x : Str) (ps : List Str) (k : Nat) : Prop :=
  ∃ (f : Addr) (fd : FuncData), mg x = some (.ref f) ∧ PySem.W.keepIn K (.ref f) = true ∧ Binds K fd ps [] ∧ ps.length = 1 ∧ WhOk P w K mg base k f fd ps
theorem rel_ex {G : Gm} {F H : Hp} {a : Addr} {n : Nat} (s : Same F H) : Rel G [] (some (.ref a) :: List.replicate n none) F H (some (.o true (.ex a)) :: List.replicate n none) (some (.ref a) :: List.replicate n none) F H := by
  have key : ∀ {i : Nat} {x : Bd}, ((some (Bd.o true (.ex a)) :: List.replicate n none : En))[i]? = some (some x) → i = 0 ∧ x = .o true (.ex a) := fun {i x} e => by
    cases i with
    | zero =>
      simp at e
      exact ⟨rfl, e.symm⟩
    | succ i =>
      rw [List.getElem?_cons_succ, List.getElem?_replicate] at e
      split at e <;> cases e
  refine ⟨fun _ => [], Ext.refl s, fun i d e => ?_, fun i b ob e => ?_, fun i b ob x e h => (nomatch h), fun i j _ _ _ _ x _ _ h => (nomatch h), fun _ _ _ => rfl, by simp, fun _ z => (nomatch z)⟩
  · cases (key e).2
  · obtain ⟨rfl, h⟩ := key e
    injection h with h1 h2
    subst h1 h2
    exact ⟨.ref a, rfl, rfl, rfl⟩
theorem wh_mk {P : Program} {w : World} {K : PySem.W.Frag} {mg : Str → Option Value} {base : Heap} {x : Str} {st : Stmt} {N ps : List Str} {k : Nat} {c : Addr → Ec → Mn Fl} (d : Dfn K mg x st ps) (S : FnScope N ps (defScope st)) (hl : ps.length = 1)
    (hc : ∀ (a : Addr) (e : Ec), ∃ r, c a e (some (.o true (.ex a)) :: List.replicate (N.length - 1) none) = .ok (.rt (whD e)) r)
    (hb : ∀ (f : Addr) (cdv : Value) (A : Around) (outer : List Env) (s : Shared) (H : Hp) (E : XK) (p : Addr × Obj) (e : Ec), L2N.Zn (Gm.cls ⟨K, mg⟩ e) none p.2 → (∃ vs, p.2.data = .fields vs) → RoomH k (A.deeper (envOfC x (defScope st) s.heap.objs.size f cdv)) →
      MB (cxH (L2N.CX P w) P w K mg base N x (defScope st) f cdv A outer s H E p) (fun cls d _ H => E cls d H) (defBody st) (c p.1 e)) : CalW P w K mg base x ps (k + 1) := by
  obtain ⟨f, fd, Fn, g, b⟩ := d
  refine ⟨f, fd, g, Fn.kp, b, hl, ?_⟩
  obtain ⟨oc, od, kV, doc, pm, an, cdv, ct, osl, rfl, lk, hcd⟩ := Fn.ex
  intro A outer s H args us Q E p e hr hot hpin hz e0 hbt r hw
  have KX : K.In s.heap := e0.mod.kin.keeps fun b o q => (e0.bs b o q).1
  have lim : s.heap.NoLimit := e0.mod.nolimit.keeps fun b o q => (e0.bs b o q).1
  have ul : us.length = 1 := by rw [← r.length]; rfl
  refine codeAny_call_function hr.depth (KX _ _ lk) rfl S.co S.gen rfl (PySem.W.codeRec_of KX hcd) (hbt _ _ _ _ ?_)
  refine wpAny_newFunctionEnv_cells S.kind (fun y hy => ?_) fun env he s1 z => ?_
  · rcases S.par y.1 (List.of_mem_zip hy).1 with q | q
    · exact .inl q
    · exact .inr ⟨q, PySem.W.cellsFrom_some _ _ _ (.inl q)⟩
  subst he
  refine ⟨lim.keeps z.toInCall.keep, codeAny_func ?_⟩
  obtain ⟨t, ht, hs⟩ := hb f cdv A outer s H E p e hz (hot.2.imp fun _ q => q.1) (hr.deeper _)
  have J := L2H.inv_startH (CX := L2N.CX P w) (E := E) (qual := x) (f := f) (cd := cdv) (vs := [.ref p.1]) (us := us) S hpin e0 hl.symm r z
  obtain ⟨F, sm, hq⟩ := hw
  obtain ⟨r', er⟩ := hc p.1 e
  have st0 : L2.start N [.ref p.1] = some (.ref p.1) :: List.replicate (N.length - 1) none := rfl
  have go : t { nx := fun _ H' => Q .non H', rt := Q } (L2.start N [.ref p.1]) H := by
    rw [st0]
    refine hs [] _ F H _ _ F H (rel_ex sm) _ ?_
    rw [er]
    exact fun v s' F' H' rl _ rv => hq v F' H' rl.ext rv
  refine wpAny_mono (ht.run [] s1 _ H _ J go) (fun fl s' hs => ?_) fun _ _ q => q
  have fin : ∀ {σ' : L2.St} {H' : Hp} {v : V} {u : Value}, Inv (cxH (L2N.CX P w) P w K mg base N x (defScope st) f cdv A outer s H E p) [] σ' H' s' → RelV v u → Q v H' → CE outer P w H s Q u s' :=
    fun {σ' H' v u} J rv q => ⟨v, H', J.os, J.bare, J.base, J.hok, rv, q⟩
  cases fl with
  | next =>
    obtain ⟨σ', H', J', q⟩ := hs
    exact fin (v := V.non) (u := Value.none) J' rfl q
  | ret u =>
    obtain ⟨v, σ', H', J', rv, q⟩ := hs
    exact fin J' rv q
  | brk => exact hs.elim fun _ h => h.elim fun _ h => h.2.elim
  | cont => exact hs.elim fun _ h => h.elim fun _ h => h.2.elim
/-! ### the try statement -/
def tSc (G : Gm) (W : WX) (c : Mn Fl) : TS := fun E s H => ∃ (I : List Addr) (s0 : Sl) (F0 H0 : Hp) (r : En) (F : Hp), Rel G I s0 F0 H0 r s F H ∧ PostS G W I s0 F0 H0 F E (c r)
theorem MB.can {X : Cx} {W : WX} {sts : List Stmt} {c : Mn Fl} (h : MB X W sts c) : PSs X sts (tSc (Cx.gm X) W c) := by
  obtain ⟨t, h1, h2⟩ := h
  exact ⟨fun pins s σ H D I ⟨J, s0, F0, H0, r, F, rel, q⟩ => h1.run pins s σ H D I (h2 J s0 F0 H0 r σ F H rel D q)⟩
def tryM (i : Nat) (c : Mn Fl) : Mn Fl := fun r => match c r with
  | .exc e r' => if i < r'.length then .ok (.rt (whD e)) (r'.set i none) else .bad
  | z => z
theorem Rel.setN {G : Gm} {I : List Addr} {s0 s : Sl} {F0 H0 F H : Hp} {r : En} {i : Nat} {v : Option V} (h : Rel G I s0 F0 H0 r s F H) : Rel G I s0 F0 H0 (r.set i none) (s.set i v) F H := by
  obtain ⟨fp, h⟩ := h
  have old : ∀ {j : Nat} {x : Bd}, (r.set i none)[j]? = some (some x) → j ≠ i ∧ r[j]? = some (some x) := fun {j x} e => by
    rcases get_set e with ⟨_, e2⟩ | e2
    · cases e2
    · exact e2
  refine ⟨fp, h.ext, fun j d e => ?_, fun j b ob e => ?_, fun j b ob a e ha => h.fre j b ob a (old e).2 ha, fun j k bj oj bk ok a e1 e2 => h.dis j k bj oj bk ok a (old e1).2 (old e2).2, fun j ob e => ?_, by simpa using h.len, h.ini⟩
  · obtain ⟨ne, e2⟩ := old e
    rw [List.getElem?_set_ne (Ne.symm ne)]
    exact h.val j d e2
  · obtain ⟨ne, e2⟩ := old e
    rw [List.getElem?_set_ne (Ne.symm ne)]
    exact h.own j b ob e2
  · obtain ⟨ne, e2⟩ := old e
    rw [List.getElem?_set_ne (Ne.symm ne)]
    exact h.par j ob e2
section
variable {X : Cx} {W : WX} {a : Ec → Addr} {B : Addr} {i k j : Nat} {body : List Stmt} {c : Mn Fl} {n x : Str} {ps : List Str} {np q1 q2 pos pos1 pos2 pos3 : Pos}
def tWh (G : Gm) (i : Nat) (p : Addr) (cls : Value) (d : Option Addr) : TE := fun σ H Q => ∃ e, cls = G.cls e ∧ d = none ∧ σ[i]? = some (some (.ref p)) ∧ WhP G e H Q
theorem pe_wh {p : Addr} {oe : Obj} {cls : Value} {d : Option Addr} {pn : List (Addr × Obj)} (C : CalW X.prog X.w X.K X.mg X.base x ps k) (hr : RoomH k X.A) (hg : Gl X x) (hz : L2N.Zn cls d oe) (hf : ∃ vs, oe.data = .fields vs)
    (hv : PE (X.suite p ((p, oe) :: pn)) (.Name n q2) (tVar i)) (hdb : (x == ("__debug__" : Str)) = false := by decide)
    (he : starEach [.Name n q2] X.env = (false, eval (.Name n q2) X.env) :: starEach [] X.env := by rfl) (hpl : (backTo pos (starEach [] X.env)).any (·.1) = false := by rfl) :
    PE (X.suite p ((p, oe) :: pn)) (.Call (.Name x q1) [.Name n q2] [] pos) (tWh (Cx.gm X) i p cls d) := by
  obtain ⟨f, fd, gm, kp, hb, pl, run⟩ := C
  refine ⟨fun pins s σ H Q I h => ?_⟩
  obtain ⟨e, rfl, rfl, hs, hw⟩ := h
  refine wpAny_Call_Name_kw (ld_glob (X := X.suite p ((p, oe) :: pn)) I hg gm ?_ hdb)
  have ha : PA (X.suite p ((p, oe) :: pn)) [.Name n q2] (tCons (tVar i) tNil) := pa_cons hv pa_nil he
  refine PySem.W.callWith_K (h₀ := X.base) I.ok.mod.kin kp (thn (ha.run pos pins s σ H (fun vs H1 => vs = [.ref p] ∧ H1 = H) I ⟨_, hs, rfl, rfl⟩) fun us s1 hh => ?_) he hpl
  obtain ⟨vs, H1, I1, r, rfl, rfl⟩ := hh
  refine ⟨I1.kIn, ?_⟩
  have ul : us.length = ps.length := by rw [pl, ← r.length]; rfl
  have bb := hb s1 us I1.kIn (by rw [List.append_nil]; exact ul)
  rw [List.append_nil] at bb
  have P1 := I1.pin (p, oe) (List.mem_append_left _ List.mem_cons_self)
  have hpin : PinOk (X.suite p ((p, oe) :: pn)).stack H1 s1 (p, oe) := ⟨P1.1, P1.2.1, fun hm => (List.mem_cons.mp (I1.stkSub p hm)).elim P1.2.2.1 P1.2.2.2.1, P1.2.2.2.2⟩
  have hot : Hot1 (X.suite p ((p, oe) :: pn)).A (p, oe) := ⟨rfl, by
    obtain ⟨vs, hv⟩ := hf
    exact ⟨vs, hv, hz.2.2 vs hv⟩⟩
  have hr' : RoomH k (X.suite p ((p, oe) :: pn)).A := ⟨hr.dp, hr.un⟩
  refine wpAny_call (codeAny_mono (run _ _ s1 H1 ⟨us, []⟩ us Q (fun _ _ _ => False) (p, oe) e hr' hot hpin hz I1.env0 bb r hw) fun z s' hq => ?_)
  cases z with
  | error u => exact L2N.passAt (X := X.suite p ((p, oe) :: pn)) tk0 σ pins H1 s1 u s' I1 hq
  | ok fl =>
    cases fl with
    | ret u => exact I1.after hq
    | next => exact False.elim hq
    | brk => exact False.elim hq
    | cont => exact False.elim hq
theorem ms_try (T : WhT X.K X.mg a B) (C : CalW X.prog X.w X.K X.mg X.base x ps k) (hr : Room j X.A) (hj : k ≤ j) (hg : Gl X x) (hs : X.stack = X.env :: X.outer) (hf : X.env.frame = some X.env.locals) (hN : X.N.Nodup) (hi : X.N[i]? = some n) (hln : X.env.kindOf n = some .local) (hgF : Gl X "FractionError")
    (tk : L2N.Takes X W) (hv : ∀ (p : Addr) (oe : Obj) (pn : List (Addr × Obj)), PE (X.suite p ((p, oe) :: pn)) (.Name n q2) (tVar i))
    (hb : ∀ (W' : WX) (pn : List (Addr × Obj)) (xe : Value → Shared → Prop), L2N.Takes (X.tr pn xe) W' → MB (X.tr pn xe) W' body c) (hdb : (x == ("__debug__" : Str)) = false := by decide)
    (he : starEach [.Name n q2] X.env = (false, eval (.Name n q2) X.env) :: starEach [] X.env := by rfl) (hpl : (backTo pos (starEach [] X.env)).any (·.1) = false := by rfl) :
    MS X W (.Try body [.ExceptHandler (some (.Name "FractionError" np)) (some n) [.Return (some (.Call (.Name x q1) [.Name n q2] [] pos)) pos1] pos2] [] [] pos3) (tryM i c) := by
  refine ⟨_, L2N.ps_try_as (i := i) (ts := fun p cls d => tRet (tWh (Cx.gm X) i p cls d)) (tb := fun W' => tSc (Cx.gm X) W' c) hs hf hN hi hln ⟨hgF, by decide, .inl T.fg⟩ tk (fun W' pn xe tk' _ => (hb W' pn xe tk').can)
    (fun p oe cls d pn hz hf' => pss_one (ps_ret (pe_wh C (L2H.roomH_of (hr.mono hj)) hg hz hf' (hv p oe pn) hdb he hpl))), fun I s0 F0 H0 r s F H rel E h => ?_⟩
  refine ⟨I, s0, F0, H0, r, F, rel, ?_⟩
  unfold tryM at h
  cases e : c r with
  | bad =>
    rw [e] at h
    exact h
  | ok fl r' =>
    rw [e] at h
    cases fl <;> exact h
  | exc ec r' =>
    rw [e] at h
    have h : PostS (Cx.gm X) W I s0 F0 H0 F E (if i < r'.length then .ok (.rt (whD ec)) (r'.set i none) else .bad) := h
    by_cases hl : i < r'.length
    case neg =>
      rw [if_neg hl] at h
      exact h.elim
    rw [if_pos hl] at h
    intro s' F' H' rl sm
    refine ⟨true, ?_, fun _ p hp => ?_, fun z => Bool.noConfusion z⟩
    · have e1 : (Cx.gm X).cls ec = .ref (a ec) := T.cls ec
      rw [e1]
      exact T.exm ec
    · refine ⟨ec, rfl, rfl, ?_, F', rl.fh, fun v F2 H2 x2 rv => ?_⟩
      · exact List.getElem?_set_self (by rw [rl.len]; exact hl)
      · exact h v _ F2 H2 ((rl.setN (v := some (.ref p))).grow x2) (sm.trans x2.ff) rv
end
end Fg
namespace Fg
open PySem PySem.Spec PyProof.Rows L2
theorem _root_.L2H.RoomH.units {k : Nat} {A : Around} (r : L2H.RoomH k A) : A.units + 64 < cLine := by
  have := r.un
  omega
theorem exw_mk {K : PySem.W.Frag} {h : Heap} {mg : Str → Option Value} {e : Ec} {x : Str} {C B : Addr} {cd : ClassData} (X : K.In h) (G : h.Ns mainGlobals mg) (hx : e.nm = x) (a : PySem.W.nsIn K mainGlobals x = some (some (.ref C)))
    (q : PySem.W.excIn K C [.type "ValueError", .type "Exception", .type "BaseException", .type "object"] "ValueError.__new__" = true) (k : PySem.W.keepIn K (.ref C) = true) (b : PySem.W.subIn K (.ref C) (.type "BaseException") = some true)
    (t : PySem.W.typeIn K (.ref C) = some (.type "type")) (c : PySem.W.clsIn K C = some cd) (m : cd.mro = [.ref C, .ref B, .type "ValueError", .type "Exception", .type "BaseException", .type "object"]) (hd : cd.hasDict = true)
    (ga : PySem.W.findIn K (.ref C) "__getattribute__" = some (some (.builtin "BaseException.__getattribute__"))) (gt : PySem.W.findIn K (.ref C) "__getattr__" = some none) (cl : PySem.W.findIn K (.ref C) "__class__" = some (some (.builtin "object.__class__"))) : ExW K mg e C B :=
  ⟨ext_mk X G hx a q k b t, ⟨cd, c, m, hd⟩, ga, gt, cl⟩
end Fg
set_option maxRecDepth 100000
set_option maxHeartbeats 4000000
/-! Fg16: the mirror of _law_which. -/
namespace Fg
open PySem PySem.Spec PyProof.Rows L2
def c_law_which (a : Addr) (e : Ec) : Mn Fl := (seqM (asgO 1 (olstM (consM (isE a (decide (e = .fr)) 0) (consM (isE a (decide (e = .wo)) 0) (consM (isE a (decide (e = .ex)) 0) (ret []))))))
  (seqM (dropM (extM 1 (lstM (consM (isE a (decide (e = .nu)) 0) (consM (isE a (decide (e = .ma)) 0) (consM (isE a (decide (e = .ne)) 0) (ret [])))))))
  (seqM (dropM (extM 1 (lstM (consM (isE a (decide (e = .pa)) 0) (consM (isE a (decide (e = .ab)) 0) (consM (isE a (decide (e = .to)) 0) (consM (isE a (decide (e = .eq)) 0) (ret []))))))))
  (seqM (dropM (extM 1 (lstM (consM (isE a (decide (e = .la)) 0) (consM (isE a (decide (e = .un)) 0) (consM (isE a (decide (e = .pe)) 0) (ret [])))))))
  (seqM (iteM (orM (bnd (bin fNe (cntM 1) (ret (.int 1))) asB) (notM (bnd (isE a true 0) asB))) (rtM (tupM (consM (ret (.str "raised")) (consM (un1 fNeg (ret (.int 1))) (ret []))))) (ret .nx))
  (rtM (tupM (consM (ret (.str "raised")) (consM (idxM 1) (ret []))))))))))

theorem isE_at {a : Addr} {b f : Bool} {r : En} : isE a b 0 (some (.o f (.ex a)) :: r) = .ok (.bool b) (some (.o f (.ex a)) :: r) := by simp [isE]
theorem eqB11 : eqB (.int 1) (.int 1) = some true := by first | rfl | kernel_rfl | decide
theorem which_ev (a : Addr) (e : Ec) : ∃ r, c_law_which a e (some (.o true (.ex a)) :: List.replicate 1 none) = .ok (.rt (whD e)) r := by
  refine ⟨[some (.o true (.ex a)), some (.o false (.lst (allE.map fun k => .bool (decide (e = k)))))], ?_⟩
  cases e <;> simp [c_law_which, isE_at, seqM, asgO, olstM, consM, bnd, ret, stM, parAt, dropM, extM, lstAt, lstM, lf, putL, iteM, orM, notM, asB, cntM, idxM, truths, rtM, tupM, bin, fNe, whD, allE, Ec.ix, List.findIdx?_cons, un1, fNeg, eqB11]
end Fg
set_option maxRecDepth 100000
set_option maxHeartbeats 4000000
/-! Fg17: in, not in. -/
namespace Fg
open PySem PySem.Spec PyProof.Rows L2
def intsD : List D → Option (List Int)
  | [] => some []
  | .int b :: ds => (intsD ds).map (b :: ·)
  | _ => none
theorem intsD_rp {K : PySem.W.Frag} {F : Hp} : ∀ {ds : List D} {bs : List Int} {vs : List V}, intsD ds = some bs → RpA K F vs ds → vs = bs.map V.int
  | [], bs, vs, h, r => by
    injection h with h
    subst h
    cases r
    rfl
  | .int b :: ds, bs, vs, h, r => by
    have h : (intsD ds).map (b :: ·) = some bs := h
    cases e : intsD ds with
    | none =>
      rw [e] at h
      cases h
    | some l =>
      rw [e] at h
      injection h with h
      subst h
      cases r with
      | cons r1 r2 =>
        cases r1
        rw [intsD_rp e r2]
        rfl
  | .none :: _, _, _, h, _ => by cases h
  | .bool _ :: _, _, _, h, _ => by cases h
  | .str _ :: _, _, _, h, _ => by cases h
  | .list _ :: _, _, _, h, _ => by cases h
  | .tuple _ :: _, _, _, h, _ => by cases h
  | .dict _ :: _, _, _, h, _ => by cases h
theorem int_flat : ∀ bs : List Int, (bs.map V.int).all flatV = true
  | [] => rfl
  | b :: bs => by
    show (flatV (.int b) && (bs.map V.int).all flatV) = true
    rw [int_flat bs]
    rfl
theorem inV_int (i : Int) : ∀ bs : List Int, inV (.int i) (bs.map V.int) = bs.any (· == i)
  | [] => rfl
  | b :: bs => by
    show (eqV (.int b) (.int i) || (bs.map V.int).any fun y => eqV y (.int i)) = _
    rw [show ((bs.map V.int).any fun y => eqV y (.int i)) = _ from inV_int i bs, List.any_cons]
    congr 1
def rInA (K : PySem.W.Frag) : R2 := fun x y H Q => rIn K false x y H Q ∨ (∃ (c : Nat) (z : Str), x = .str ⟨#[c]⟩ ∧ y = .str z ∧ Q (.bl (decide (c ∈ z.cps.toList))) H)
theorem op_inA {X : Cx} : OpR X (compareOp .In) (rInA X.K) := op_in_seq.or op_in_sign
def fIn : D → D → Option D
  | .int i, .tuple ds => (intsD ds).map fun ns => .bool (ns.any (· == i))
  | .str ⟨⟨[c]⟩⟩, .str z => some (.bool (decide (c ∈ z.cps.toList)))
  | _, _ => none
theorem os_in {G : Gm} : OS2 G (rInA G.K) fIn := by
  intro F H x y a b d Q s ha hb e k
  unfold fIn at e
  split at e
  · rename_i i ds
    cases z : intsD ds with
    | none =>
      rw [z] at e
      cases e
    | some ns =>
      rw [z] at e
      injection e with e
      subst e
      obtain ⟨p, vs, rfl, h1, h2⟩ := hb.tup s
      have ev := intsD_rp z h2
      subst ev
      have hx := ha.int
      subst hx
      refine .inl ⟨p, _, rfl, .inr h1, rfl, int_flat ns, ?_⟩
      rw [if_neg Bool.false_ne_true, inV_int]
      exact k _ F H (ext_same s) (.bl _)
  · rename_i c z
    injection e with e
    subst e
    have hx := ha.str
    have hy := hb.str
    subst hx hy
    exact .inr ⟨c, z, rfl, rfl, k _ F H (ext_same s) (.bl _)⟩
  · cases e
/-- not in a list, deep -/
def fNotIn : D → D → Option D
  | d, .list ds => if SeqAt.shaped d && SeqAt.shaped (.list ds) then some (.bool (!ds.any fun z => PyData.eqv z d)) else none
  | _, _ => none
theorem norm_shaped {d : D} (h : SeqAt.shaped d = true) : norm d = d := by
  cases d with
  | dict kvs =>
    have := SeqAt.canLay_of_shaped h
    rw [PyData.canLay0] at this
    cases this
  | _ => rfl
theorem os_notIn {G : Gm} : OS2 G (rNotInD G.K) fNotIn := by
  intro F H x y a b d Q s ha hb e k
  unfold fNotIn at e
  split at e
  · rename_i ds
    split at e
    · rename_i c
      rw [Bool.and_eq_true] at c
      injection e with e
      subst e
      have h1 : norm a = a := norm_shaped c.1
      have h2 : norm (.list ds) = .list ds := rfl
      have q1 := dp_norm s ha (by rw [h1]; exact c.1)
      have q2 := dp_norm s hb (by rw [h2]; exact c.2)
      rw [h1] at q1
      exact ⟨a, ds, q1, q2, c.1, c.2, k _ F H (ext_same s) (.bl _)⟩
    · cases e
  · cases e
end Fg
set_option maxRecDepth 100000
set_option maxHeartbeats 4000000
namespace Fg
open PySem PySem.Spec PyProof.Rows L2
def c_is_integer : Mn Fl := (rtM (andV (un1 (isiD "int") (gv 0)) (andV (notV (un1 (isiD "bool") (gv 0))) (chainM fLe fLe (gv 1) (gv 0) (gv 2)))))
def m_is_integer : List Bd → RI := runD 3 c_is_integer
def q_common_divisor_1 : Mn Bool := (bnd (bin fGt (gv 1) (ret (.int 0))) asB)
def b_common_divisor_1 : Mn Fl := (par2 0 1 (consM (gv 1) (consM (bin fMod (gv 0) (gv 1)) (ret []))))
def c_common_divisor : Mn Fl := (seqM (par2 0 1 (consM (cbM fMax (consM (gv 0) (consM (bin fSub (ret (.int 0)) (gv 0)) (ret [])))) (consM (cbM fMax (consM (gv 1) (consM (bin fSub (ret (.int 0)) (gv 1)) (ret [])))) (ret []))))
  (seqM (whileM q_common_divisor_1 b_common_divisor_1 100000)
  (rtM (gv 0))))
def m_common_divisor : List Bd → RI := runD 2 c_common_divisor
def c_is_reduced : Mn Fl := (seqM (iteM (orM (notM (bnd (un1 (isiD "tuple") (gv 0)) asB)) (bnd (bin fNe (un1P fLen (mh (gv 0))) (ret (.int 2))) asB)) (rtM (ret (.bool false))) (ret .nx))
  (seqM (iteM (orM (notM (bnd (cpM m_is_integer (consM (bin fIx (gv 0) (ret (.int 0))) (consM (bin fSub (ret (.int 0)) (gv 1)) (consM (gv 1) (ret []))))) asB)) (notM (bnd (cpM m_is_integer (consM (bin fIx (gv 0) (ret (.int 1))) (consM (ret (.int 0)) (consM (gv 1) (ret []))))) asB))) (rtM (ret (.bool false))) (ret .nx))
  (rtM (andV (bin fEq (cpM m_common_divisor (consM (bin fIx (gv 0) (ret (.int 0))) (consM (bin fIx (gv 0) (ret (.int 1))) (ret [])))) (ret (.int 1))) (orV (bin fGt (bin fIx (gv 0) (ret (.int 1))) (ret (.int 0))) (bin fEq (bin fIx (gv 0) (ret (.int 0))) (ret (.int 1))))))))
def m_is_reduced : List Bd → RI := runD 2 c_is_reduced
def c_is_fraction : Mn Fl := (rtM (cpM m_is_reduced (consM (gv 0) (consM (ret (.int 9999)) (ret [])))))
def m_is_fraction : List Bd → RI := runD 1 c_is_fraction
def c_cross : Mn Fl := (rtM (bin fSub (bin fMul (bin fIx (gv 0) (ret (.int 0))) (bin fIx (gv 1) (ret (.int 1)))) (bin fMul (bin fIx (gv 0) (ret (.int 1))) (bin fIx (gv 1) (ret (.int 0))))))
def m_cross : List Bd → RI := runD 2 c_cross
def c_less : Mn Fl := (rtM (bin fLt (cpM m_cross (consM (gv 0) (consM (gv 1) (ret [])))) (ret (.int 0))))
def m_less : List Bd → RI := runD 2 c_less
def q_terms_of_1 : Mn Bool := (bnd (bin fGt (gv 2) (ret (.int 0))) asB)
def b_terms_of_1 : Mn Fl := (seqM (dropM (appM 3 (bin fDiv (gv 1) (gv 2))))
  (par2 1 2 (consM (gv 2) (consM (bin fMod (gv 1) (gv 2)) (ret [])))))
def c_terms_of : Mn Fl := (seqM (asgG (gv 0) (gT 2 (gC (gN 1) (gC (gN 2) gE))))
  (seqM (asgO 3 (olstM (ret [])))
  (seqM (whileM q_terms_of_1 b_terms_of_1 100000)
  (frzM 3 (rtM (gv 3))))))
def m_terms_of : List Bd → RI := runD 4 c_terms_of
def b_value_of_1 : Mn Fl := (par2 1 2 (consM (bin fAdd (bin fMul (gv 3) (gv 1)) (gv 2)) (consM (gv 1) (ret []))))
def c_value_of : Mn Fl := (seqM (asgG (tupM (consM (ret (.int 1)) (consM (ret (.int 0)) (ret [])))) (gT 2 (gC (gN 1) (gC (gN 2) gE))))
  (seqM (forS (bnd (revM (mh (gv 0))) asL) (gN 3) b_value_of_1)
  (rtM (tupM (consM (gv 1) (consM (gv 2) (ret [])))))))
def m_value_of : List Bd → RI := runD 4 c_value_of
def c_parents_of : Mn Fl := (seqM (asgM 1 (cpM m_terms_of (consM (gv 0) (ret []))))
  (seqM (asgM 2 (cpM m_value_of (consM (cutM (mh (gv 1)) (ret none) (bnd (un1 fNeg (ret (.int 1))) asO)) (ret []))))
  (seqM (asgM 3 (tupM (consM (bin fSub (bin fIx (gv 0) (ret (.int 0))) (bin fIx (gv 2) (ret (.int 0)))) (consM (bin fSub (bin fIx (gv 0) (ret (.int 1))) (bin fIx (gv 2) (ret (.int 1)))) (ret [])))))
  (rtM (iteM (bnd (cpM m_less (consM (gv 2) (consM (gv 3) (ret [])))) asB) (tupM (consM (gv 2) (consM (gv 3) (ret [])))) (tupM (consM (gv 3) (consM (gv 2) (ret [])))))))))
def m_parents_of : List Bd → RI := runD 4 c_parents_of
def c_raised : Mn Fl := (seqM (asgM 3 (bin fDiv (bin fSub (gv 2) (bin fIx (gv 0) (ret (.int 1)))) (bin fIx (gv 1) (ret (.int 1)))))
  (rtM (tupM (consM (bin fAdd (bin fIx (gv 0) (ret (.int 0))) (bin fMul (gv 3) (bin fIx (gv 1) (ret (.int 0))))) (consM (bin fAdd (bin fIx (gv 0) (ret (.int 1))) (bin fMul (gv 3) (bin fIx (gv 1) (ret (.int 1))))) (ret []))))))
def m_raised : List Bd → RI := runD 4 c_raised
def c_beside_in_row : Mn Fl := (seqM (iteM (notM (bnd (cpM m_is_integer (consM (gv 0) (consM (ret (.int 1)) (consM (ret (.int 9999)) (ret []))))) asB)) (raiseM .nu) (ret .nx))
  (seqM (iteM (orM (notM (bnd (cpM m_is_fraction (consM (gv 1) (ret []))) asB)) (orM (notM (bnd (chainM fLe fLe (ret (.int 1)) (bin fIx (gv 1) (ret (.int 1))) (gv 0)) asB)) (notM (bnd (chainM fLe fLe (ret (.int 0)) (bin fIx (gv 1) (ret (.int 0))) (bin fIx (gv 1) (ret (.int 1)))) asB)))) (raiseM .fr) (ret .nx))
  (seqM (iteM (bnd (bin fEq (gv 1) (tupM (consM (ret (.int 0)) (consM (ret (.int 1)) (ret []))))) asB) (rtM (tupM (consM (ret .none) (consM (tupM (consM (ret (.int 1)) (consM (gv 0) (ret [])))) (ret []))))) (ret .nx))
  (seqM (iteM (bnd (bin fEq (gv 1) (tupM (consM (ret (.int 1)) (consM (ret (.int 1)) (ret []))))) asB) (rtM (tupM (consM (tupM (consM (bin fSub (gv 0) (ret (.int 1))) (consM (gv 0) (ret [])))) (consM (ret .none) (ret []))))) (ret .nx))
  (seqM (asgG (cpM m_parents_of (consM (gv 1) (ret []))) (gT 2 (gC (gN 2) (gC (gN 3) gE))))
  (rtM (tupM (consM (cpM m_raised (consM (gv 2) (consM (gv 1) (consM (gv 0) (ret []))))) (consM (cpM m_raised (consM (gv 3) (consM (gv 1) (consM (gv 0) (ret []))))) (ret []))))))))))
def m_beside_in_row : List Bd → RI := runD 4 c_beside_in_row
def b_law_cell_at_1 : Mn Fl := (asgM 2 (bin fDiv (gv 2) (ret (.int 1000003))))
def c_law_cell_at : Mn Fl := (seqM (iteM (bnd (bin fLt (gv 1) (un1P fLen (mh (gv 0)))) asB) (rtM (bin fIx (gv 0) (gv 1))) (ret .nx))
  (seqM (iteM (bnd (bin fEq (gv 0) (lstM (ret []))) asB) (rtM (ret (.int 0))) (ret .nx))
  (seqM (asgM 2 (bin fIx (gv 0) (bin fMod (gv 1) (un1P fLen (mh (gv 0))))))
  (seqM (forS (bnd (consM (cbM fMin (consM (bin fDiv (gv 1) (un1P fLen (mh (gv 0)))) (consM (ret (.int 60)) (ret [])))) (ret [])) fun ds => lf (rng1 ds)) (gN 3) b_law_cell_at_1)
  (rtM (bin fAdd (bin fAdd (bin fMul (bin fIx (gv 0) (bin fMod (gv 1) (un1P fLen (mh (gv 0))))) (ret (.int 31))) (gv 1)) (bin fMul (gv 2) (ret (.int 101)))))))))
def m_law_cell_at : List Bd → RI := runD 4 c_law_cell_at
def c_law_mixed : Mn Fl := (seqM (asgM 3 (bin fMod (bin fAdd (bin fAdd (bin fMul (cpM m_law_cell_at (consM (gv 0) (consM (gv 1) (ret [])))) (ret (.int 1103515245))) (bin fMul (ret (.int 7919)) (gv 1))) (ret (.int 12345))) (ret (.int 2147483647))))
  (rtM (bin fMod (bin fMod (bin fMod (bin fPow (gv 3) (ret (.int 5))) (ret (.int 2147483647))) (ret (.int 999983))) (gv 2))))
def m_law_mixed : List Bd → RI := runD 4 c_law_mixed
def c_law_draw : Mn Fl := (seqM (dropM (appM 1 (ret (.int 0))))
  (rtM (cpM m_law_mixed (consM (gv 0) (consM (un1P fLen (go 1)) (consM (gv 2) (ret [])))))))
def m_law_draw : List Bd → RI := runD 3 c_law_draw
def q_law_common_1 : Mn Bool := (bnd (bin fGt (gv 1) (ret (.int 0))) asB)
def b_law_common_1 : Mn Fl := (par2 0 1 (consM (gv 1) (consM (bin fMod (gv 0) (gv 1)) (ret []))))
def c_law_common : Mn Fl := (seqM (par2 0 1 (consM (cbM fMax (consM (gv 0) (consM (bin fSub (ret (.int 0)) (gv 0)) (ret [])))) (consM (cbM fMax (consM (gv 1) (consM (bin fSub (ret (.int 0)) (gv 1)) (ret [])))) (ret []))))
  (seqM (whileM q_law_common_1 b_law_common_1 100000)
  (rtM (gv 0))))
def m_law_common : List Bd → RI := runD 2 c_law_common
def c_law_lowest_terms : Mn Fl := (seqM (asgM 2 (cpM m_law_common (consM (gv 0) (consM (gv 1) (ret [])))))
  (rtM (tupM (consM (bin fDiv (gv 0) (gv 2)) (consM (bin fDiv (gv 1) (gv 2)) (ret []))))))
def m_law_lowest_terms : List Bd → RI := runD 3 c_law_lowest_terms
def c_law_some_fraction : Mn Fl := (seqM (iteM (bnd (bin fEq (coM m_law_draw (consH (mh (gv 0)) (consH (go 1) (consH (mh (ret (.int 12))) (ret []))))) (ret (.int 0))) asB) (rtM (tupM (consM (ret (.int 1)) (consM (ret (.int 0)) (ret []))))) (ret .nx))
  (seqM (asgM 3 (bin fAdd (ret (.int 1)) (coM m_law_draw (consH (mh (gv 0)) (consH (go 1) (consH (mh (gv 2)) (ret [])))))))
  (rtM (cpM m_law_lowest_terms (consM (bin fSub (coM m_law_draw (consH (mh (gv 0)) (consH (go 1) (consH (mh (bin fAdd (bin fMul (ret (.int 6)) (gv 3)) (ret (.int 1)))) (ret []))))) (bin fMul (ret (.int 3)) (gv 3))) (consM (gv 3) (ret [])))))))
def m_law_some_fraction : List Bd → RI := runD 4 c_law_some_fraction
def c_law_turn : Mn Fl := (rtM (bin fSub (bin fMul (bin fIx (gv 0) (ret (.int 0))) (bin fIx (gv 1) (ret (.int 1)))) (bin fMul (bin fIx (gv 0) (ret (.int 1))) (bin fIx (gv 1) (ret (.int 0))))))
def m_law_turn : List Bd → RI := runD 2 c_law_turn
def c_law_fall : Mn Fl := (rtM (bin fLt (cpM m_law_turn (consM (gv 0) (consM (gv 1) (ret [])))) (ret (.int 0))))
def m_law_fall : List Bd → RI := runD 2 c_law_fall
def c_law_ask : Mn Fl := (tryM 2 (rtM (cpM m_beside_in_row (consM (gv 0) (consM (gv 1) (ret []))))))
def m_law_ask : List Bd → RI := runD 3 c_law_ask
def b_law_1 : Mn Fl := (seqM (asgM 8 (bin fDiv (bin fSub (bin fMul (bin fIx (gv 3) (ret (.int 0))) (gv 7)) (ret (.int 1))) (bin fIx (gv 3) (ret (.int 1)))))
  (seqM (iteM (andM (bnd (bin fGe (gv 8) (ret (.int 0))) asB) (orM (bnd (bin fIsN (gv 5) (ret .none)) asB) (bnd (cpM m_law_fall (consM (gv 5) (consM (tupM (consM (gv 8) (consM (gv 7) (ret [])))) (ret [])))) asB))) (asgM 5 (cpM m_law_lowest_terms (consM (gv 8) (consM (gv 7) (ret []))))) (ret .nx))
  (seqM (asgM 8 (bin fAdd (bin fDiv (bin fMul (bin fIx (gv 3) (ret (.int 0))) (gv 7)) (bin fIx (gv 3) (ret (.int 1)))) (ret (.int 1))))
  (iteM (andM (bnd (bin fLe (gv 8) (gv 7)) asB) (orM (bnd (bin fIsN (gv 6) (ret .none)) asB) (bnd (cpM m_law_fall (consM (tupM (consM (gv 8) (consM (gv 7) (ret [])))) (consM (gv 6) (ret [])))) asB))) (asgM 6 (cpM m_law_lowest_terms (consM (gv 8) (consM (gv 7) (ret []))))) (ret .nx)))))
def t_law_8 : Mn Fl := (rtM (bin fEq (gv 4) (tupM (consM (gv 5) (consM (gv 6) (ret []))))))
def t_law_7 : Mn Fl := (seqM (forS (bnd (consM (ret (.int 1)) (consM (bin fAdd (gv 2) (ret (.int 1))) (ret []))) fun ds => lf (rng2 ds)) (gN 7) b_law_1)
  t_law_8)
def t_law_6 : Mn Fl := (seqM (asgG (tupM (consM (ret .none) (consM (ret .none) (ret [])))) (gT 2 (gC (gN 5) (gC (gN 6) gE))))
  t_law_7)
def t_law_5 : Mn Fl := (seqM (iteM (orM (bnd (bin fEq (bin fIx (gv 3) (ret (.int 1))) (ret (.int 0))) asB) (orM (bnd (bin fGt (bin fIx (gv 3) (ret (.int 1))) (gv 2)) asB) (notM (bnd (chainM fLe fLe (ret (.int 0)) (bin fIx (gv 3) (ret (.int 0))) (bin fIx (gv 3) (ret (.int 1)))) asB)))) (rtM (bin fEq (gv 4) (tupM (consM (ret (.str "raised")) (consM (ret (.int 0)) (ret [])))))) (ret .nx))
  t_law_6)
def t_law_4 : Mn Fl := (seqM (asgM 4 (cpM m_law_ask (consM (gv 2) (consM (gv 3) (ret [])))))
  t_law_5)
def t_law_3 : Mn Fl := (seqM (iteM (bnd (bin fGt (coM m_law_draw (consH (mh (gv 0)) (consH (go 1) (consH (mh (ret (.int 4))) (ret []))))) (ret (.int 0))) asB) (seqM (asgM 7 (bin fAdd (ret (.int 1)) (coM m_law_draw (consH (mh (gv 0)) (consH (go 1) (consH (mh (gv 2)) (ret [])))))))
  (asgM 3 (cpM m_law_lowest_terms (consM (coM m_law_draw (consH (mh (gv 0)) (consH (go 1) (consH (mh (bin fAdd (gv 7) (ret (.int 1)))) (ret []))))) (consM (gv 7) (ret [])))))) (ret .nx))
  t_law_4)
def t_law_2 : Mn Fl := (seqM (asgM 3 (coM m_law_some_fraction (consH (mh (gv 0)) (consH (go 1) (consH (mh (ret (.int 45))) (ret []))))))
  t_law_3)
def t_law_1 : Mn Fl := (seqM (asgM 2 (bin fAdd (ret (.int 1)) (coM m_law_draw (consH (mh (gv 0)) (consH (go 1) (consH (mh (ret (.int 40))) (ret [])))))))
  t_law_2)
def c_law : Mn Fl := (seqM (asgO 1 (olstM (ret [])))
  t_law_1)
def m_law : List Bd → RI := runD 9 c_law
end Fg
set_option maxRecDepth 100000
set_option maxHeartbeats 1000000
namespace Fg
open PySem L2
/-! ### evaluating mirrors -/
abbrev fr (p q : Int) : D := .tuple [.int p, .int q]
@[simp] theorem outB_nil (r : En) : outB [] r = some [] := rfl
@[simp] theorem outB_v (d : D) (bs : List Bd) (x : Option Bd) (r : En) : outB (.v d :: bs) (x :: r) = (outB bs r).map fun l => .v d :: l := rfl
@[simp] theorem outB_o (f : Bool) (o ob : Ob) (bs : List Bd) (r : En) : outB (.o f o :: bs) (some (.o true ob) :: r) = (outB bs r).map fun l => .o true ob :: l := rfl
@[simp] theorem sh_int (i : Int) : SeqAt.shaped (.int i) = true := by simp [SeqAt.shaped, PyData.canLay0, PyData.depth]
@[simp] theorem sh_bool (i : Bool) : SeqAt.shaped (.bool i) = true := by simp [SeqAt.shaped, PyData.canLay0, PyData.depth]
@[simp] theorem sh_none : SeqAt.shaped .none = true := by simp [SeqAt.shaped, PyData.canLay0, PyData.depth]
@[simp] theorem sh_fr (p q : Int) : SeqAt.shaped (.tuple [.int p, .int q]) = true := by simp [SeqAt.shaped, PyData.canLay0, PyData.canLayAll0, PyData.depth, PyData.depthAll]
@[simp] theorem eqB_int (i j : Int) : eqB (.int i) (.int j) = some (decide (i = j)) := by
  have e : (i == j) = decide (i = j) := by by_cases h : i = j <;> simp [h]
  simp [eqB, norm, PyData.eqv, e]
@[simp] theorem eqB_bool (i j : Bool) : eqB (.bool i) (.bool j) = some (decide (i = j)) := by
  have e : (i == j) = decide (i = j) := by by_cases h : i = j <;> simp [h]
  simp [eqB, norm, PyData.eqv, e]
@[simp] theorem eqB_fr (p q r s : Int) : eqB (.tuple [.int p, .int q]) (.tuple [.int r, .int s]) = some (decide (p = r) && decide (q = s)) := by
  have e1 : (p == r) = decide (p = r) := by by_cases h : p = r <;> simp [h]
  have e2 : (q == s) = decide (q = s) := by by_cases h : q = s <;> simp [h]
  simp [eqB, norm, PyData.eqv, PyData.eqvAll, e1, e2]
@[simp] theorem eqB_scr (ns : List Int) : eqB (scrD ns) (.list []) = some ns.isEmpty := by
  have h : ∀ l : List Int, PyData.canLayAll0 (l.map PyData.int) = true ∧ PyData.depthAll (l.map PyData.int) ≤ 1 := by
    intro l
    induction l with
    | nil => simp [PyData.canLayAll0, PyData.depthAll]
    | cons a l ih => simp [PyData.canLayAll0, PyData.depthAll, PyData.canLay0, PyData.depth, ih]
  have h1 : norm (scrD ns) = .list (ns.map PyData.int) := by
    show PyData.list ((ns.map fun n => ((.int n, .none) : D × D)).map Prod.fst) = _
    rw [scr_fst]
  unfold eqB
  rw [h1]
  have s1 : SeqAt.shaped (.list (ns.map PyData.int)) = true := by
    have h2 := (h ns).2
    simp [SeqAt.shaped, PyData.canLay0, PyData.depth, (h ns).1]
    omega
  have s2 : SeqAt.shaped (norm (.list [])) = true := by simp [norm, SeqAt.shaped, PyData.canLay0, PyData.canLayAll0, PyData.depth, PyData.depthAll]
  rw [s1, s2]
  cases ns with
  | nil => simp [norm, PyData.eqv, PyData.eqvAll]
  | cons a l => simp [norm, PyData.eqv, PyData.eqvAll]
/-! each combinator at a state; what follows stays folded until its state is known -/
def bR {α β : Type} (z : R α) (f : α → Mn β) : R β := match z with
  | .ok a r' => f a r'
  | .exc e r' => .exc e r'
  | .bad => .bad
@[simp] theorem bR_ok {α β : Type} (a : α) (r : En) (f : α → Mn β) : bR (.ok a r) f = f a r := rfl
@[simp] theorem bR_exc {α β : Type} (e : Ec) (r : En) (f : α → Mn β) : bR (.exc e r) f = .exc e r := rfl
def sR (z : R Fl) (b : Mn Fl) : R Fl := match z with
  | .ok .nx r' => b r'
  | z => z
@[simp] theorem sR_nx (r : En) (b : Mn Fl) : sR (.ok .nx r) b = b r := rfl
@[simp] theorem sR_rt (d : D) (r : En) (b : Mn Fl) : sR (.ok (.rt d) r) b = .ok (.rt d) r := rfl
@[simp] theorem sR_exc (e : Ec) (r : En) (b : Mn Fl) : sR (.exc e r) b = .exc e r := rfl
def tR (z : R Fl) (b : Mn Fl) : R Fl := match z with
  | .ok .nx r' => b r'
  | .ok .ct r' => b r'
  | .ok .bk r' => .ok .nx r'
  | z => z
@[simp] theorem tR_nx (r : En) (b : Mn Fl) : tR (.ok .nx r) b = b r := rfl
@[simp] theorem tR_ct (r : En) (b : Mn Fl) : tR (.ok .ct r) b = b r := rfl
@[simp] theorem tR_bk (r : En) (b : Mn Fl) : tR (.ok .bk r) b = .ok .nx r := rfl
@[simp] theorem tR_rt (d : D) (r : En) (b : Mn Fl) : tR (.ok (.rt d) r) b = .ok (.rt d) r := rfl
@[simp] theorem tR_exc (e : Ec) (r : En) (b : Mn Fl) : tR (.exc e r) b = .exc e r := rfl
def cR (z : RI) (r : En) : R D := match z with
  | .ok d _ => .ok d r
  | .exc e _ => .exc e r
  | .bad => .bad
@[simp] theorem cR_ok (d : D) (bs : List Bd) (r : En) : cR (.ok d bs) r = .ok d r := rfl
@[simp] theorem cR_exc (e : Ec) (bs : List Bd) (r : En) : cR (.exc e bs) r = .exc e r := rfl
def gR (z : R Unit) (f : Mn α) : R α := match z with
  | .ok _ r' => f r'
  | _ => .bad
@[simp] theorem gR_ok {α : Type} (u : Unit) (r : En) (f : Mn α) : gR (.ok u r) f = f r := rfl
section
variable {α β : Type} {r : En}
@[simp] theorem ret_r (a : α) : ret a r = .ok a r := rfl
@[simp] theorem bnd_r (c : Mn α) (f : α → Mn β) : bnd c f r = bR (c r) f := rfl
@[simp] theorem lf_r (o : Option α) : lf o r = (match o with | some a => .ok a r | none => .bad) := rfl
@[simp] theorem gv_r (i : Nat) : gv i r = (match r[i]? with | some (some (.v d)) => .ok d r | _ => .bad) := rfl
@[simp] theorem go_r (i : Nat) : go i r = (match r[i]? with | some (some (.o _ _)) => .ok (.ow i) r | _ => .bad) := rfl
@[simp] theorem peek_d (d : D) : peek (.d d) r = .ok d r := rfl
@[simp] theorem peek_ow (i : Nat) : peek (.ow i) r = (match r[i]? with | some (some (.o _ (.lst ds))) => .ok (.list ds) r | _ => .bad) := rfl
@[simp] theorem bin_r (f : D → D → Option D) (a b : Mn D) : bin f a b r = bnd a (fun x => bnd b fun y => lf (f x y)) r := rfl
@[simp] theorem binP_r (f : D → D → Option D) (a b : Mn Hv) : binP f a b r = bnd a (fun h => bnd b fun k => bnd (peek h) fun x => bnd (peek k) fun y => lf (f x y)) r := rfl
@[simp] theorem un1_r (f : D → Option D) (a : Mn D) : un1 f a r = bnd a (fun x => lf (f x)) r := rfl
@[simp] theorem un1P_r (f : D → Option D) (a : Mn Hv) : un1P f a r = bnd a (fun h => bnd (peek h) fun x => lf (f x)) r := rfl
@[simp] theorem mh_r (a : Mn D) : mh a r = bnd a (fun d => ret (.d d)) r := rfl
@[simp] theorem cbM_r (f : List D → Option D) (a : Mn (List D)) : cbM f a r = bnd a (fun ds => lf (f ds)) r := rfl
@[simp] theorem consM_r (a : Mn D) (b : Mn (List D)) : consM a b r = bnd a (fun d => bnd b fun ds => ret (d :: ds)) r := rfl
@[simp] theorem consH_r (a : Mn Hv) (b : Mn (List Hv)) : consH a b r = bnd a (fun d => bnd b fun ds => ret (d :: ds)) r := rfl
@[simp] theorem tupM_r (a : Mn (List D)) : tupM a r = bnd a (fun ds => if ds.length ≤ 100000 then ret (.tuple ds) else fun _ => .bad) r := rfl
@[simp] theorem lstM_r (a : Mn (List D)) : lstM a r = bnd a (fun ds => if ds.length ≤ 100000 then ret (.list ds) else fun _ => .bad) r := rfl
@[simp] theorem olstM_r (a : Mn (List D)) : olstM a r = bnd a (fun ds => if ds.length ≤ 100000 then ret (.lst ds) else fun _ => .bad) r := rfl
@[simp] theorem ite_r (p : Prop) [Decidable p] (f g : Mn α) : (if p then f else g) r = if p then f r else g r := by split <;> rfl
@[simp] theorem asB_r (b : Bool) : asB (.bool b) r = .ok b r := rfl
@[simp] theorem notM_r (c : Mn Bool) : notM c r = bnd c (fun b => ret (!b)) r := rfl
@[simp] theorem andM_r (c d : Mn Bool) : andM c d r = bnd c (fun b => if b then d else ret false) r := rfl
@[simp] theorem orM_r (c d : Mn Bool) : orM c d r = bnd c (fun b => if b then ret true else d) r := rfl
@[simp] theorem andV_r (c d : Mn D) : andV c d r = bnd c (fun x => bnd (asB x) fun k => if k then d else ret (.bool false)) r := rfl
@[simp] theorem orV_r (c d : Mn D) : orV c d r = bnd c (fun x => bnd (asB x) fun k => if k then ret (.bool true) else d) r := rfl
@[simp] theorem notV_r (c : Mn D) : notV c r = bnd c (fun x => bnd (asB x) fun k => ret (.bool (!k))) r := rfl
@[simp] theorem chainM_r (f g : D → D → Option D) (a b c : Mn D) : chainM f g a b c r = bnd a (fun x => bnd b fun y => bnd (lf (f x y)) fun z => bnd (asB z) fun k => if k then bnd c fun w => lf (g y w) else ret (.bool false)) r := rfl
@[simp] theorem iteM_r (t : Mn Bool) (a b : Mn α) : iteM t a b r = bnd t (fun k => if k then a else b) r := rfl
@[simp] theorem seqM_r (a b : Mn Fl) : seqM a b r = sR (a r) b := rfl
@[simp] theorem rtM_r (c : Mn D) : rtM c r = bnd c (fun d => ret (.rt d)) r := rfl
@[simp] theorem dropM_r (c : Mn D) : dropM c r = bnd c (fun _ => ret .nx) r := rfl
@[simp] theorem asgM_r (i : Nat) (c : Mn D) : asgM i c r = bnd c (fun d => stM i (.v d)) r := rfl
@[simp] theorem asgO_r (i : Nat) (c : Mn Ob) : asgO i c r = bnd c (fun d => stM i (.o false d)) r := rfl
@[simp] theorem stM_r (i : Nat) (b : Bd) : stM i b r = if parAt r i then .bad else .ok .nx (r.set i (some b)) := rfl
@[simp] theorem parAt_r (i : Nat) : parAt r i = (match r[i]? with | some (some (.o true _)) => true | _ => false) := rfl
@[simp] theorem par2_r (i j : Nat) (c : Mn (List D)) : par2 i j c r = bnd c (fun ds => match ds with | [x, y] => seqM (stM i (.v x)) (stM j (.v y)) | _ => fun _ => .bad) r := rfl
@[simp] theorem par3_r (i j l : Nat) (c : Mn (List D)) : par3 i j l c r = bnd c (fun ds => match ds with | [x, y, z] => seqM (stM i (.v x)) (seqM (stM j (.v y)) (stM l (.v z))) | _ => fun _ => .bad) r := rfl
@[simp] theorem raiseM_r (e : Ec) : raiseM e r = .exc e r := rfl
@[simp] theorem cpM_r (m : List Bd → RI) (a : Mn (List D)) : cpM m a r = bnd a (fun ds r => cR (m (ds.map .v)) r) r := rfl
@[simp] theorem turnM_r (a b : Mn Fl) : turnM a b r = tR (a r) b := rfl
@[simp] theorem while_s (t : Mn Bool) (a : Mn Fl) (n : Nat) : whileM t a (n + 1) r = bnd t (fun k => if k then turnM a (whileM t a n) else ret .nx) r := rfl
@[simp] theorem bg_r (z : Mn Unit) (f : Mn α) : bg z f r = gR (z r) f := rfl
@[simp] theorem gN_r (i : Nat) (d : D) : gN i d r = if parAt r i then .bad else .ok () (r.set i (some (.v d))) := rfl
@[simp] theorem forM_nil (g : D → Mn Unit) (b : Mn Fl) : forM g b [] r = .ok .nx r := rfl
@[simp] theorem forM_cons (g : D → Mn Unit) (b : Mn Fl) (d : D) (ds : List D) : forM g b (d :: ds) r = bg (g d) (turnM b (forM g b ds)) r := rfl
@[simp] theorem forS_r (c : Mn (List D)) (g : D → Mn Unit) (b : Mn Fl) : forS c g b r = bnd c (fun ds => forM g b ds) r := rfl
@[simp] theorem runD_r (n : Nat) (c : Mn Fl) (bs : List Bd) : runD n c bs = endD bs (c (startR n bs)) := rfl
@[simp] theorem startR_r (n : Nat) (bs : List Bd) : startR n bs = bs.map (fun b => some (flag b)) ++ List.replicate (n - bs.length) none := rfl
@[simp] theorem flag_v (d : D) : flag (.v d) = .v d := rfl
@[simp] theorem flag_o (b : Bool) (o : Ob) : flag (.o b o) = .o true o := rfl
@[simp] theorem endD_nx (bs : List Bd) (r : En) : endD bs (.ok .nx r) = finD .none (outB bs r) := rfl
@[simp] theorem endD_rt (bs : List Bd) (d : D) (r : En) : endD bs (.ok (.rt d) r) = finD d (outB bs r) := rfl
@[simp] theorem endD_exc (bs : List Bd) (e : Ec) (r : En) : endD bs (.exc e r) = finX e (outB bs r) := rfl
@[simp] theorem finD_s (d : D) (bs : List Bd) : finD d (some bs) = .ok d bs := rfl
@[simp] theorem finX_s (e : Ec) (bs : List Bd) : finX e (some bs) = .exc e bs := rfl
end
/-! the operations -/
@[simp] theorem fSub_ii (i j : Int) : fSub (.int i) (.int j) = some (.int (i - j)) := rfl
@[simp] theorem fAdd_ii (i j : Int) : fAdd (.int i) (.int j) = some (.int (i + j)) := rfl
@[simp] theorem fLt_ii (i j : Int) : fLt (.int i) (.int j) = some (.bool (decide (i < j))) := rfl
@[simp] theorem fLe_ii (i j : Int) : fLe (.int i) (.int j) = some (.bool (decide (i ≤ j))) := rfl
@[simp] theorem fGt_ii (i j : Int) : fGt (.int i) (.int j) = some (.bool (decide (j < i))) := rfl
@[simp] theorem fGe_ii (i j : Int) : fGe (.int i) (.int j) = some (.bool (decide (j ≤ i))) := rfl
@[simp] theorem fNeg_i (i : Int) : fNeg (.int i) = some (.int (-i)) := rfl
@[simp] theorem fEq_r (a b : D) : fEq a b = (eqB a b).map fun k => .bool k := rfl
@[simp] theorem fNe_r (a b : D) : fNe a b = (eqB a b).map fun k => .bool (!k) := rfl
@[simp] theorem fMax_ii (i j : Int) : fMax [.int i, .int j] = some (.int (if j > i then j else i)) := rfl
@[simp] theorem fMin_ii (i j : Int) : fMin [.int i, .int j] = some (.int (if j < i then j else i)) := rfl
@[simp] theorem fIsB_bb (i j : Bool) : fIsB (.bool i) (.bool j) = some (.bool (decide (i = j))) := rfl
@[simp] theorem fNotB_bb (i j : Bool) : fNotB (.bool i) (.bool j) = some (.bool (!decide (i = j))) := rfl
@[simp] theorem fLen_l (xs : List D) : fLen (.list xs) = some (.int xs.length) := rfl
@[simp] theorem fLen_t (xs : List D) : fLen (.tuple xs) = some (.int xs.length) := rfl
@[simp] theorem fLen_s (ns : List Int) : fLen (scrD ns) = some (.int ns.length) := by
  show some (PyData.int ((ns.map fun n => ((.int n, .none) : D × D)).length : Nat)) = _
  rw [List.length_map]
@[simp] theorem fIx_l (xs : List D) (i : Int) : fIx (.list xs) (.int i) = atI xs i := rfl
@[simp] theorem fIx_t (xs : List D) (i : Int) : fIx (.tuple xs) (.int i) = atI xs i := rfl
@[simp] theorem at_0 {α : Type} (a : α) (l : List α) : atI (a :: l) 0 = some a := by
  have := atI_nat (xs := a :: l) (j := 0) (v := a) rfl
  simpa using this
@[simp] theorem at_1 {α : Type} (a b : α) (l : List α) : atI (a :: b :: l) 1 = some b := by
  have := atI_nat (xs := a :: b :: l) (j := 1) (v := b) rfl
  simpa using this
theorem fMul_ii {i j : Int} (h : i.natAbs < 2 ^ 62 ∨ j.natAbs < 2 ^ 62) : fMul (.int i) (.int j) = some (.int (i * j)) := by
  show (if decide (i.natAbs < 2 ^ 62) || decide (j.natAbs < 2 ^ 62) then some (PyData.int (i * j)) else none) = _
  rw [if_pos (by simpa using h)]
theorem fDiv_ii {i j : Int} (h : 0 < j) (h2 : j < 1073741824) : fDiv (.int i) (.int j) = some (.int (i / j)) := by
  show (if decide (0 < j) && decide (j < 1073741824) then some (PyData.int (i / j)) else none) = _
  rw [if_pos (by simp [h, h2])]
theorem fMod_ii {i j : Int} (h : 0 < j) : fMod (.int i) (.int j) = some (.int (i % j)) := by
  show (if decide (0 < j) then some (PyData.int (i % j)) else none) = _
  rw [if_pos (by simp [h])]
theorem fPow_ii {i j : Int} (h : 0 ≤ j) (h2 : j ≤ 1000000) (h3 : i.natAbs < 2 ^ 64) : fPow (.int i) (.int j) = some (.int (i ^ j.toNat)) := by
  show (if decide (0 ≤ j) && decide (j ≤ 1000000) && decide (i.natAbs < 2 ^ 64) then some (PyData.int (i ^ j.toNat)) else none) = _
  rw [if_pos (by simp [h, h2]; omega)]
theorem rng1_i {j : Int} (h : -4000000000000000000 ≤ j) (h2 : j < 4000000000000000000) : rng1 [.int j] = some (upto 0 j.toNat) := by
  show (if -4000000000000000000 ≤ j ∧ j < 4000000000000000000 then some (upto 0 j.toNat) else none) = _
  rw [if_pos ⟨h, h2⟩]
theorem rng2_i {i j : Int} (h : -4000000000000000000 ≤ i) (h2 : i < 4000000000000000000) (h3 : -4000000000000000000 ≤ j) (h4 : j < 4000000000000000000) : rng2 [.int i, .int j] = some (upto i (j - i).toNat) := by
  show (if (-4000000000000000000 ≤ i ∧ i < 4000000000000000000) ∧ -4000000000000000000 ≤ j ∧ j < 4000000000000000000 then some (upto i (j - i).toNat) else none) = _
  rw [if_pos ⟨⟨h, h2⟩, h3, h4⟩]
@[simp] theorem isi_int_int (i : Int) : isiD "int" (.int i) = some (.bool true) := rfl
@[simp] theorem isi_bool_int (i : Int) : isiD "bool" (.int i) = some (.bool false) := rfl
@[simp] theorem isi_int_bool (i : Bool) : isiD "int" (.bool i) = some (.bool true) := rfl
@[simp] theorem isi_bool_bool (i : Bool) : isiD "bool" (.bool i) = some (.bool true) := rfl
@[simp] theorem isi_int_str (i : Str) : isiD "int" (.str i) = some (.bool false) := rfl
@[simp] theorem isi_int_none : isiD "int" .none = some (.bool false) := rfl
@[simp] theorem isi_tuple_tuple (i : List D) : isiD "tuple" (.tuple i) = some (.bool true) := rfl
@[simp] theorem isi_tuple_list (i : List D) : isiD "tuple" (.list i) = some (.bool false) := rfl
@[simp] theorem isi_tuple_int (i : Int) : isiD "tuple" (.int i) = some (.bool false) := rfl
@[simp] theorem isi_tuple_none : isiD "tuple" .none = some (.bool false) := rfl
@[simp] theorem isi_tuple_str (i : Str) : isiD "tuple" (.str i) = some (.bool false) := rfl
@[simp] theorem isi_list_list (i : List D) : isiD "list" (.list i) = some (.bool true) := rfl
@[simp] theorem isi_list_none : isiD "list" .none = some (.bool false) := rfl
@[simp] theorem isi_str_str (i : Str) : isiD "str" (.str i) = some (.bool true) := rfl
@[simp] theorem fIn_pm (i : Int) : fIn (.int i) (.tuple [.int 1, .int (-1)]) = some (.bool (decide (i = 1) || decide (i = -1))) := by
  have e1 : ((1 : Int) == i) = decide (i = 1) := by
    by_cases h : i = 1
    · subst h
      rfl
    · rw [decide_eq_false h]
      exact beq_eq_false_iff_ne.mpr (Ne.symm h)
  have e2 : ((-1 : Int) == i) = decide (i = -1) := by
    by_cases h : i = -1
    · subst h
      rfl
    · rw [decide_eq_false h]
      exact beq_eq_false_iff_ne.mpr (Ne.symm h)
  show some (PyData.bool ([1, -1].any (· == i))) = _
  simp only [List.any_cons, List.any_nil, Bool.or_false, e1, e2]
def yR (i : Nat) (z : R Fl) : R Fl := match z with
  | .exc e r' => if i < r'.length then .ok (.rt (whD e)) (r'.set i none) else .bad
  | z => z
@[simp] theorem yR_ok (i : Nat) (f : Fl) (r : En) : yR i (.ok f r) = .ok f r := rfl
@[simp] theorem yR_exc (i : Nat) (e : Ec) (r : En) : yR i (.exc e r) = if i < r.length then .ok (.rt (whD e)) (r.set i none) else .bad := rfl
@[simp] theorem tryM_r (i : Nat) (c : Mn Fl) (r : En) : tryM i c r = yR i (c r) := by
  unfold tryM yR
  cases c r <;> rfl
end Fg
set_option maxRecDepth 100000
set_option maxHeartbeats 1000000
namespace Fg
open PySem L2
/-! ### the program's own -/
theorem cross_ev (p q r s : Int) (hp : p.natAbs < 100000) (hq : q.natAbs < 100000) : m_cross [.v (fr p q), .v (fr r s)] = .ok (.int (p * s - q * r)) [.v (fr p q), .v (fr r s)] := by
  have h1 : fMul (.int p) (.int s) = some (.int (p * s)) := fMul_ii (by omega)
  have h2 : fMul (.int q) (.int r) = some (.int (q * r)) := fMul_ii (by omega)
  unfold m_cross c_cross
  simp [h1, h2]
theorem loop_gcd : ∀ (n a b : Nat), b < n → whileM q_common_divisor_1 b_common_divisor_1 n [some (.v (.int (a : Nat))), some (.v (.int (b : Nat)))] = .ok .nx [some (.v (.int ((Nat.gcd a b : Nat)))), some (.v (.int 0))]
  | 0, _, _, h => by omega
  | n + 1, a, b, h => by
    by_cases hb : b = 0
    · subst hb
      simp [q_common_divisor_1]
    · have hp : 0 < b := by omega
      have ih := loop_gcd n b (a % b) (by have := Nat.mod_lt a (show 0 < b by omega); omega)
      have e : fMod (.int (a : Int)) (.int (b : Int)) = some (.int ((a % b : Nat) : Int)) := by
        rw [fMod_ii (by omega)]
        simp
      have e2 : Nat.gcd a b = Nat.gcd b (a % b) := by rw [Nat.gcd_comm a b, Nat.gcd_rec b a, Nat.gcd_comm]
      simp [q_common_divisor_1, b_common_divisor_1] at ih
      simp [q_common_divisor_1, b_common_divisor_1, hp, e, ih, e2]


theorem if_abs (a : Int) : (if 0 - a > a then 0 - a else a) = (a.natAbs : Int) := by
  split <;> omega
theorem common_ev (a b : Int) (hb : b.natAbs < 99999) : m_common_divisor [.v (.int a), .v (.int b)] = .ok (.int (Int.gcd a b : Nat)) [.v (.int a), .v (.int b)] := by
  have h := loop_gcd 100000 a.natAbs b.natAbs (by omega)
  have e1 := if_abs a
  have e2 := if_abs b
  unfold m_common_divisor c_common_divisor
  rw [runD_r, startR_r]
  generalize whileM q_common_divisor_1 b_common_divisor_1 100000 = w at h ⊢
  simp only [Int.zero_sub] at e1 e2
  simp [e1, e2, h, Int.gcd]
theorem law_common_is : m_law_common = m_common_divisor := rfl
theorem is_integer_ev (v lo hi : Int) : m_is_integer [.v (.int v), .v (.int lo), .v (.int hi)] = .ok (.bool (decide (lo ≤ v) && decide (v ≤ hi))) [.v (.int v), .v (.int lo), .v (.int hi)] := by
  unfold m_is_integer c_is_integer
  by_cases h : lo ≤ v <;> simp [h]
/-- p/q is a fraction within the limit 9999 -/
def isFr (p q : Int) : Bool := decide (((Int.gcd p q : Nat) : Int) = 1) && (decide (0 < q) || decide (p = 1))
theorem is_fraction_ev (p q : Int) (h1 : -9999 ≤ p) (h2 : p ≤ 9999) (h3 : 0 ≤ q) (h4 : q ≤ 9999) : m_is_fraction [.v (fr p q)] = .ok (.bool (isFr p q)) [.v (fr p q)] := by
  have e := common_ev p q (by omega)
  have i1 := is_integer_ev p (-9999) 9999
  have i2 := is_integer_ev q 0 9999
  simp only [h1, h2, h3, h4, decide_true, Bool.and_self] at i1 i2
  unfold m_is_fraction c_is_fraction m_is_reduced c_is_reduced
  simp [i1, i2, e]
  unfold isFr
  by_cases g : ((Int.gcd p q : Nat) : Int) = 1
  · by_cases hq : 0 < q <;> simp [g, hq]
  · simp [g]
theorem less_ev (p q r s : Int) (hp : p.natAbs < 100000) (hq : q.natAbs < 100000) : m_less [.v (fr p q), .v (fr r s)] = .ok (.bool (decide (p * s - q * r < 0))) [.v (fr p q), .v (fr r s)] := by
  have e := cross_ev p q r s hp hq
  unfold m_less c_less
  simp [e]
/-- p/q is a fraction -/
structure Fr (p q : Int) : Prop where
  lo : -9999 ≤ p
  hi : p ≤ 9999
  q0 : 0 ≤ q
  q1 : q ≤ 9999
  co : ((Int.gcd p q : Nat) : Int) = 1
  tp : 0 < q ∨ p = 1
theorem Fr.isFr {p q : Int} (h : Fr p q) : Fg.isFr p q = true := by
  unfold Fg.isFr
  have := h.tp
  simp [h.co]
  exact this
theorem Fr.ev {p q : Int} (h : Fr p q) : m_is_fraction [.v (fr p q)] = .ok (.bool true) [.v (fr p q)] := by
  rw [is_fraction_ev p q h.lo h.hi h.q0 h.q1, h.isFr]
/-! ### drawing -/
theorem div_loop : ∀ (l : List D) (a b : Option Bd) (x : Option D) (n : Int), ∃ (n' : Int) (x' : Option D), forM (gN 3) b_law_cell_at_1 l [a, b, some (.v (.int n)), x.map Bd.v] = .ok .nx [a, b, some (.v (.int n')), x'.map Bd.v] := by
  intro l
  induction l with
  | nil => intro a b x n; exact ⟨n, x, rfl⟩
  | cons d l ih =>
    intro a b x n
    have e : fDiv (.int n) (.int 1000003) = some (.int (n / 1000003)) := fDiv_ii (by omega) (by omega)
    obtain ⟨n', x', h⟩ := ih a b (some d) (n / 1000003)
    refine ⟨n', x', ?_⟩
    simp only [Option.map_some] at h
    cases x <;> simp [b_law_cell_at_1, e] <;> exact h
theorem fIx_scr {ns : List Int} {i : Int} (h : 0 ≤ i) (h2 : i < ns.length) : ∃ n, fIx (scrD ns) (.int i) = some (.int n) := by
  have hk : i.toNat < ns.length := by omega
  refine ⟨ns[i.toNat], ?_⟩
  show (atI (ns.map fun n => ((.int n, .none) : D × D)) i).map Prod.fst = _
  rw [atI_map]
  have : atI ns i = some ns[i.toNat] := by
    have e : ((i.toNat : Nat) : Int) = i := by omega
    have := atI_nat (xs := ns) (j := i.toNat) (v := ns[i.toNat]) (by simp [hk])
    rw [e] at this
    exact this
  rw [this]
  rfl
theorem cell_ev (ns : List Int) (k : Int) (hk : 0 ≤ k) (hn : ns.length ≤ 63) : ∃ c : Int, m_law_cell_at [.v (scrD ns), .v (.int k)] = .ok (.int c) [.v (scrD ns), .v (.int k)] := by
  unfold m_law_cell_at c_law_cell_at
  by_cases h : k < ns.length
  · obtain ⟨c, e⟩ := fIx_scr hk h
    exact ⟨c, by simp [h, e]⟩
  · by_cases hz : ns = []
    · subst hz
      have h0 : ¬ k < 0 := by omega
      exact ⟨0, by simp [h0]⟩
    · have hl0 : 0 < ns.length := List.length_pos_iff.mpr hz
      have nn : ns.isEmpty = false := by
        cases ns with
        | nil => exact absurd rfl hz
        | cons _ _ => rfl
      have eL := fLen_s ns
      have hLk : ¬ k < (ns.length : Int) := h
      have hp : (0 : Int) < (ns.length : Int) := by omega
      have hb : (ns.length : Int) ≤ 63 := by omega
      have hix : ∀ i : Int, 0 ≤ i → i < (ns.length : Int) → ∃ n, fIx (scrD ns) (.int i) = some (.int n) := fun i h1 h2 => fIx_scr h1 h2
      generalize (ns.length : Int) = L at *
      obtain ⟨c, e⟩ := hix (k % L) (Int.emod_nonneg k (by omega)) (Int.emod_lt_of_pos k hp)
      have e1 : fMod (.int k) (.int L) = some (.int (k % L)) := fMod_ii hp
      have e2 : fDiv (.int k) (.int L) = some (.int (k / L)) := fDiv_ii hp (by omega)
      have hd : 0 ≤ k / L := Int.ediv_nonneg hk (by omega)
      have e3 : rng1 [.int (if 60 < k / L then 60 else k / L)] = some (upto 0 (if 60 < k / L then 60 else k / L).toNat) := rng1_i (by split <;> omega) (by split <;> omega)
      obtain ⟨n', x', hl⟩ := div_loop (upto 0 (if 60 < k / L then 60 else k / L).toNat) (some (.v (scrD ns))) (some (.v (.int k))) none c
      have f1 : fMul (.int c) (.int 31) = some (.int (c * 31)) := fMul_ii (by omega)
      have f2 : fMul (.int n') (.int 101) = some (.int (n' * 101)) := fMul_ii (by omega)
      simp only [Option.map_none] at hl
      refine ⟨c * 31 + k + n' * 101, ?_⟩
      simp [eL, hLk, nn, e1, e, e2, e3, hl, f1, f2, -fLen_s]
theorem mixed_ev (ns : List Int) (k many : Int) (hk : 0 ≤ k) (hn : ns.length ≤ 63) (hm : 0 < many) : ∃ d : Int, 0 ≤ d ∧ d < many ∧ m_law_mixed [.v (scrD ns), .v (.int k), .v (.int many)] = .ok (.int d) [.v (scrD ns), .v (.int k), .v (.int many)] := by
  obtain ⟨c, e⟩ := cell_ev ns k hk hn
  have f1 : fMul (.int c) (.int 1103515245) = some (.int (c * 1103515245)) := fMul_ii (by omega)
  have f2 : fMul (.int 7919) (.int k) = some (.int (7919 * k)) := fMul_ii (by omega)
  have f3 : ∀ i : Int, fMod (.int i) (.int 2147483647) = some (.int (i % 2147483647)) := fun i => fMod_ii (by omega)
  have f4 : ∀ i : Int, fMod (.int i) (.int 999983) = some (.int (i % 999983)) := fun i => fMod_ii (by omega)
  have f5 : ∀ i : Int, fMod (.int i) (.int many) = some (.int (i % many)) := fun i => fMod_ii hm
  have b1 := Int.emod_nonneg (c * 1103515245 + 7919 * k + 12345) (b := 2147483647) (by omega)
  have b2 := Int.emod_lt_of_pos (c * 1103515245 + 7919 * k + 12345) (b := 2147483647) (by omega)
  have f6 : fPow (.int ((c * 1103515245 + 7919 * k + 12345) % 2147483647)) (.int 5) = some (.int (((c * 1103515245 + 7919 * k + 12345) % 2147483647) ^ (5 : Int).toNat)) := fPow_ii (by omega) (by omega) (by omega)
  refine ⟨((c * 1103515245 + 7919 * k + 12345) % 2147483647) ^ (5 : Int).toNat % 2147483647 % 999983 % many, Int.emod_nonneg _ (by omega), Int.emod_lt_of_pos _ hm, ?_⟩
  unfold m_law_mixed c_law_mixed
  simp [e, f1, f2, f3, f4, f5, f6]
/-- the answer of a draw -/
theorem draw_ev (ns : List Int) (zs : List D) (many : Int) (hn : ns.length ≤ 63) (hz : zs.length < 99999) (hm : 0 < many) :
    ∃ d : Int, 0 ≤ d ∧ d < many ∧ m_law_draw [.v (scrD ns), .o true (.lst zs), .v (.int many)] = .ok (.int d) [.v (scrD ns), .o true (.lst (zs ++ [.int 0])), .v (.int many)] := by
  obtain ⟨d, h1, h2, e⟩ := mixed_ev ns ((zs.length : Int) + 1) many (by omega) hn hm
  refine ⟨d, h1, h2, ?_⟩
  have hl : zs.length < 100000 := by omega
  unfold m_law_draw c_law_draw
  simp [appM, lstAt, putL, hl, e]
theorem updAll_map {hs : List Hv} {bs : List Bd} : ∀ (k : Nat) (r : En) (i : Nat), (updAll hs bs k r)[i]? = (r[i]?).map fun b => slotUp hs bs (k + i) b
  | k, [], i => by
    unfold updAll
    simp
  | k, b :: r, 0 => by
    unfold updAll
    simp
  | k, b :: r, i + 1 => by
    unfold updAll
    rw [List.getElem?_cons_succ, List.getElem?_cons_succ, updAll_map (k + 1) r i, show k + 1 + i = k + (i + 1) by omega]
/-- f(x, town, y) in a state: town is slot j's -/
theorem co3 {m : List Bd → RI} {ca : Mn (List Hv)} {r r' : En} {a b d : D} {j : Nat} {f g : Bool} {ob ob' : Ob} {x y : Bd} (ha : ca r = .ok [.d a, .ow j, .d b] r') (hj : r'[j]? = some (some (.o f ob))) (hm : m [.v a, .o true ob, .v b] = .ok d [x, .o g ob', y]) :
    coM m ca r = .ok d (r'.set j (some (.o f ob'))) := by
  have e1 : bdsOf r' [.d a, .ow j, .d b] = some [.v a, .o true ob, .v b] := by simp [bdsOf, bdOf, hj]
  have pj : parAt r' j = f := parAt_o hj
  have e2 : (owOk [.d a, .ow j, .d b] && oneFlag r' [.d a, .ow j, .d b]) = true := by
    have q1 : owOk [.d a, .ow j, .d b] = true := by simp [owOk, ownPos, isOw, List.range_succ]
    have q2 : oneFlag r' [.d a, .ow j, .d b] = true := by
      simp only [oneFlag, List.all_cons, List.all_nil, pj]
      cases f <;> rfl
    rw [q1, q2]
    rfl
  have e3 : updAll [.d a, .ow j, .d b] [x, .o g ob', y] 0 r' = r'.set j (some (.o f ob')) := by
    refine List.ext_getElem? fun i => ?_
    rw [updAll_map, Nat.zero_add]
    by_cases hij : i = j
    · subst hij
      rw [hj, List.getElem?_set]
      have hl : i < r'.length := (List.getElem?_eq_some_iff.mp hj).1
      simp [slotUp, ownPos, isOw, hl]
    · rw [List.getElem?_set_ne (Ne.symm hij)]
      have : ownPos [.d a, .ow j, .d b] i = none := by simp [ownPos, isOw, Ne.symm hij]
      unfold slotUp
      rw [this]
      simp
  unfold coM
  rw [bnd_r, ha]
  show (match bdsOf r' [.d a, .ow j, .d b] with | none => R.bad | some bs => if owOk [.d a, .ow j, .d b] && oneFlag r' [.d a, .ow j, .d b] then (match m bs with | .ok d bs' => .ok d (updAll [.d a, .ow j, .d b] bs' 0 r') | .exc e bs' => .exc e (updAll [.d a, .ow j, .d b] bs' 0 r') | .bad => .bad) else .bad) = _
  rw [e1]
  dsimp only
  rw [e2, if_pos rfl, hm]
  dsimp only
  rw [e3]
/-- a draw in a state: town in slot j, the script in slot i -/
theorem draw_at {r : En} {i j : Nat} {ns : List Int} {zs : List D} {f : Bool} {many : Int} {cm : Mn D} (hn : ns.length ≤ 63) (hz : zs.length < 99999) (hm : 0 < many) (h1 : r[i]? = some (some (.v (scrD ns)))) (h2 : r[j]? = some (some (.o f (.lst zs)))) (h3 : cm r = .ok (.int many) r) :
    ∃ (d : Int) (zs' : List D), 0 ≤ d ∧ d < many ∧ zs'.length = zs.length + 1 ∧ coM m_law_draw (consH (mh (gv i)) (consH (go j) (consH (mh cm) (ret [])))) r = .ok (.int d) (r.set j (some (.o f (.lst zs')))) := by
  obtain ⟨d, a1, a2, e⟩ := draw_ev ns zs many hn hz hm
  refine ⟨d, zs ++ [.int 0], a1, a2, by simp, co3 (r' := r) (a := scrD ns) (b := .int many) (ob := .lst zs) ?_ h2 e⟩
  simp [h1, h2, h3]
/-! ### lowest terms -/
theorem gcd_pos_of {p q : Int} (hq : 0 < q) : 0 < ((Int.gcd p q : Nat) : Int) := by
  have : 0 < Int.gcd p q := Int.gcd_pos_of_ne_zero_right p (by omega)
  omega
theorem lowest_ev (p q : Int) (hq : 0 < q) (hb : q < 99999) : m_law_lowest_terms [.v (.int p), .v (.int q)] = .ok (fr (p / (Int.gcd p q : Nat)) (q / (Int.gcd p q : Nat))) [.v (.int p), .v (.int q)] := by
  have e := common_ev p q (by omega)
  have g0 := gcd_pos_of (p := p) hq
  have g1 : ((Int.gcd p q : Nat) : Int) ≤ q := by
    have := Int.gcd_le_natAbs_right p (show q ≠ 0 by omega)
    omega
  have f1 : ∀ i : Int, fDiv (.int i) (.int (Int.gcd p q : Nat)) = some (.int (i / (Int.gcd p q : Nat))) := fun i => fDiv_ii g0 (by omega)
  unfold m_law_lowest_terms c_law_lowest_terms
  rw [law_common_is]
  simp [e, f1]

/-- a fraction of a law's own: the top, or reduced with |p| at most 3 q and q at most most -/
structure Sf (most p q : Int) : Prop where
  ex : (p = 1 ∧ q = 0) ∨ (0 < q ∧ q ≤ most ∧ -(3 * q) ≤ p ∧ p ≤ 3 * q ∧ ((Int.gcd p q : Nat) : Int) = 1)
theorem lowest_sf {p q most : Int} (hq : 0 < q) (hm : q ≤ most) (h1 : -(3 * q) ≤ p) (h2 : p ≤ 3 * q) : 0 < q / (Int.gcd p q : Nat) ∧ q / (Int.gcd p q : Nat) ≤ most ∧ -(3 * (q / (Int.gcd p q : Nat))) ≤ p / (Int.gcd p q : Nat) ∧ p / (Int.gcd p q : Nat) ≤ 3 * (q / (Int.gcd p q : Nat)) ∧ ((Int.gcd (p / (Int.gcd p q : Nat)) (q / (Int.gcd p q : Nat)) : Nat) : Int) = 1 := by
  have g0 := gcd_pos_of (p := p) hq
  have d1 : ((Int.gcd p q : Nat) : Int) ∣ p := Int.gcd_dvd_left ..
  have d2 : ((Int.gcd p q : Nat) : Int) ∣ q := Int.gcd_dvd_right ..
  have hg : Int.gcd (p / (Int.gcd p q : Nat)) (q / (Int.gcd p q : Nat)) = 1 := Int.gcd_ediv_gcd_ediv_gcd (by omega)
  obtain ⟨a, ha⟩ := d1
  obtain ⟨b, hb⟩ := d2
  generalize ((Int.gcd p q : Nat) : Int) = g at *
  subst ha hb
  rw [Int.mul_ediv_cancel_left _ (by omega), Int.mul_ediv_cancel_left _ (by omega)] at *
  have hb0 : 0 < b := by
    by_cases z : 0 < b
    · exact z
    · have : g * b ≤ 0 := Int.mul_nonpos_of_nonneg_of_nonpos (by omega) (by omega)
      omega
  refine ⟨hb0, ?_, ?_, ?_, by omega⟩
  · have : 1 * b ≤ g * b := Int.mul_le_mul_of_nonneg_right (by omega) (by omega)
    omega
  · have h3 : g * -(3 * b) ≤ g * a := by
      have : g * -(3 * b) = -(3 * (g * b)) := by rw [Int.mul_neg, Int.mul_left_comm]
      omega
    exact Int.le_of_mul_le_mul_left h3 g0
  · have h3 : g * a ≤ g * (3 * b) := by
      have : g * (3 * b) = 3 * (g * b) := by rw [Int.mul_left_comm]
      omega
    exact Int.le_of_mul_le_mul_left h3 g0
theorem some_ev (ns : List Int) (zs : List D) (most : Int) (hn : ns.length ≤ 63) (hz : zs.length < 99000) (hm : 0 < most) (hm2 : most ≤ 3000) :
    ∃ (p q : Int) (zs' : List D), Sf most p q ∧ zs'.length ≤ zs.length + 3 ∧ m_law_some_fraction [.v (scrD ns), .o true (.lst zs), .v (.int most)] = .ok (fr p q) [.v (scrD ns), .o true (.lst zs'), .v (.int most)] := by
  obtain ⟨d1, z1, a1, b1, l1, e1⟩ := draw_at (r := [some (.v (scrD ns)), some (.o true (.lst zs)), some (.v (.int most)), none]) (i := 0) (j := 1) (many := 12) (cm := ret (.int 12)) hn (by omega) (by omega) rfl rfl rfl
  by_cases h0 : d1 = 0
  · refine ⟨1, 0, z1, ⟨.inl ⟨rfl, rfl⟩⟩, by omega, ?_⟩
    unfold m_law_some_fraction c_law_some_fraction
    simp only [List.set] at e1
    simp [e1, h0]
  · obtain ⟨d2, z2, a2, b2, l2, e2⟩ := draw_at (r := [some (.v (scrD ns)), some (.o true (.lst z1)), some (.v (.int most)), none]) (i := 0) (j := 1) (many := most) (cm := gv 2) hn (by omega) hm rfl rfl rfl
    obtain ⟨q, hq⟩ : ∃ q, q = 1 + d2 := ⟨_, rfl⟩
    have f1 : fMul (.int 6) (.int q) = some (.int (6 * q)) := fMul_ii (by omega)
    have f2 : fMul (.int 3) (.int q) = some (.int (3 * q)) := fMul_ii (by omega)
    obtain ⟨d3, z3, a3, b3, l3, e3⟩ := draw_at (r := [some (.v (scrD ns)), some (.o true (.lst z2)), some (.v (.int most)), some (.v (.int q))]) (i := 0) (j := 1) (many := 6 * q + 1) (cm := bin fAdd (bin fMul (ret (.int 6)) (gv 3)) (ret (.int 1))) hn (by omega) (by omega) rfl rfl (by simp [f1])
    obtain ⟨p, hp⟩ : ∃ p, p = d3 - 3 * q := ⟨_, rfl⟩
    have hs := lowest_sf (p := p) (q := q) (most := most) (by omega) (by omega) (by omega) (by omega)
    have el := lowest_ev p q (by omega) (by omega)
    refine ⟨_, _, z3, ⟨.inr hs⟩, by omega, ?_⟩
    unfold m_law_some_fraction c_law_some_fraction
    simp only [List.set] at e1 e2 e3
    simp [e1, e2, h0, ← hq, e3, f2, ← hp, el]
theorem some_at {r : En} {i j : Nat} {ns : List Int} {zs : List D} {f : Bool} {most : Int} {cm : Mn D} (hn : ns.length ≤ 63) (hz : zs.length < 99000) (hm : 0 < most) (hm2 : most ≤ 3000) (h1 : r[i]? = some (some (.v (scrD ns)))) (h2 : r[j]? = some (some (.o f (.lst zs)))) (h3 : cm r = .ok (.int most) r) :
    ∃ (p q : Int) (zs' : List D), Sf most p q ∧ zs'.length ≤ zs.length + 3 ∧ coM m_law_some_fraction (consH (mh (gv i)) (consH (go j) (consH (mh cm) (ret [])))) r = .ok (fr p q) (r.set j (some (.o f (.lst zs')))) := by
  obtain ⟨p, q, zs', s, l, e⟩ := some_ev ns zs most hn hz hm hm2
  refine ⟨p, q, zs', s, l, co3 (r' := r) (a := scrD ns) (b := .int most) (ob := .lst zs) ?_ h2 e⟩
  simp [h1, h2, h3]
theorem Sf.fr {most p q : Int} (h : Sf most p q) (hm : most ≤ 3000) : Fr p q := by
  rcases h.ex with ⟨rfl, rfl⟩ | ⟨h1, h2, h3, h4, h5⟩
  · exact ⟨by omega, by omega, by omega, by omega, rfl, .inr rfl⟩
  · exact ⟨by omega, by omega, by omega, by omega, h5, .inl h1⟩
/-! equal cross products -/
theorem dvd_of_gcd {k m n : Int} (h : k ∣ m * n) (c : Int.gcd k m = 1) : k ∣ n := by
  have h1 : k.natAbs ∣ m.natAbs * n.natAbs := by
    rw [← Int.natAbs_mul]
    exact Int.natAbs_dvd_natAbs.mpr h
  have h2 : Nat.Coprime k.natAbs m.natAbs := c
  exact Int.natAbs_dvd_natAbs.mp (h2.dvd_of_dvd_mul_left h1)
theorem fr_eq {p q r s : Int} (h : Fr p q) (h' : Fr r s) (e : p * s - q * r = 0) : p = r ∧ q = s := by
  have e : p * s = q * r := by omega
  have c1 : Int.gcd p q = 1 := by have := h.co; omega
  have c2 : Int.gcd r s = 1 := by have := h'.co; omega
  have d1 : q ∣ s := by
    have : q ∣ p * s := ⟨r, e⟩
    exact dvd_of_gcd this (by rw [Int.gcd_comm]; exact c1)
  have d2 : s ∣ q := by
    have : s ∣ r * q := ⟨p, by rw [Int.mul_comm r q, ← e, Int.mul_comm]⟩
    exact dvd_of_gcd this (by rw [Int.gcd_comm]; exact c2)
  have qs : q = s := by
    have := h.q0
    have := h'.q0
    exact Int.dvd_antisymm (by omega) (by omega) d1 d2
  subst qs
  refine ⟨?_, rfl⟩
  by_cases hq : q = 0
  · subst hq
    have t1 := h.tp
    have t2 := h'.tp
    omega
  · rw [Int.mul_comm q r] at e
    exact Int.eq_of_mul_eq_mul_right hq e
/-! ### neighbours -/
theorem law_turn_is : m_law_turn = m_cross := rfl
theorem law_fall_is : m_law_fall = m_less := rfl
def nb (t : Int) : Bool := decide (t = 1) || decide (t = -1)
theorem nb_neg (t : Int) : nb (-t) = nb t := by
  unfold nb
  by_cases h : t = 1
  · subst h
    rfl
  · by_cases h2 : t = -1
    · subst h2
      rfl
    · rw [decide_eq_false h, decide_eq_false h2, decide_eq_false (show ¬ -t = 1 by omega), decide_eq_false (show ¬ -t = -1 by omega)]
theorem turn_swap (p q r s : Int) : r * q - s * p = -(p * s - q * r) := by
  rw [Int.mul_comm r q, Int.mul_comm s p]
  omega
theorem Fr.ps {p q : Int} (h : Fr p q) : p.natAbs < 100000 := by
  have := h.lo
  have := h.hi
  omega
theorem Fr.qs {p q : Int} (h : Fr p q) : q.natAbs < 100000 := by
  have := h.q0
  have := h.q1
  omega
theorem nb_or {t : Int} (h : nb t = true) : t = 1 ∨ t = -1 := by
  unfold nb at h
  simpa using h
theorem turn_sum_left (p q r s : Int) : p * (q + s) - q * (p + r) = p * s - q * r := by
  rw [Int.mul_add, Int.mul_add, Int.mul_comm p q]
  omega
theorem turn_sum_right (p q r s : Int) : (p + r) * s - (q + s) * r = p * s - q * r := by
  rw [Int.add_mul, Int.add_mul, Int.mul_comm r s]
  omega
theorem gcd_of_turn {p q r s : Int} (h : nb (p * s - q * r) = true) : ((Int.gcd p q : Nat) : Int) = 1 := by
  have d1 : ((Int.gcd p q : Nat) : Int) ∣ p := Int.gcd_dvd_left ..
  have d2 : ((Int.gcd p q : Nat) : Int) ∣ q := Int.gcd_dvd_right ..
  have d : ((Int.gcd p q : Nat) : Int) ∣ p * s - q * r := Int.dvd_sub (Int.dvd_mul_of_dvd_left d1) (Int.dvd_mul_of_dvd_left d2)
  have h3 : Int.gcd p q ∣ 1 := by
    rcases nb_or h with e | e
    · rw [e] at d
      exact Int.natCast_dvd_natCast.mp d
    · rw [e] at d
      exact Int.natCast_dvd_natCast.mp (Int.dvd_neg.mp d)
  have := Nat.dvd_one.mp h3
  omega
/-- the middle of two neighbours is a fraction -/
theorem Fr.mid {p q r s : Int} (h : Fr p q) (h' : Fr r s) (n : nb (p * s - q * r) = true) (b1 : p.natAbs ≤ 4999) (b2 : r.natAbs ≤ 4999) (b3 : q ≤ 4999) (b4 : s ≤ 4999) : Fr (p + r) (q + s) := by
  have q0 := h.q0
  have s0 := h'.q0
  refine ⟨by omega, by omega, by omega, by omega, gcd_of_turn (r := r) (s := s) (by rw [turn_sum_right]; exact n), .inl ?_⟩
  by_cases z : q = 0 ∧ s = 0
  · obtain ⟨rfl, rfl⟩ := z
    have : nb (p * 0 - 0 * r) = false := by simp [nb]
    rw [this] at n
    cases n
  · omega
/-! ### between neighbours -/
theorem far_gap {a b c d x y : Int} (h : c * b - a * d = 1) (h1 : 0 < b * x - a * y) (h2 : 0 < c * y - d * x) (hb : 0 < b) (hd : 0 < d) : b + d ≤ y := by
  have e : y = d * (b * x - a * y) + b * (c * y - d * x) := by grind
  have := Int.mul_le_mul_of_nonneg_left (show 1 ≤ b * x - a * y by omega) (show 0 ≤ d by omega)
  have := Int.mul_le_mul_of_nonneg_left (show 1 ≤ c * y - d * x by omega) (show 0 ≤ b by omega)
  omega
theorem cop_eq {p q r s : Int} (c1 : Int.gcd p q = 1) (c2 : Int.gcd r s = 1) (hq : 0 < q) (hs : 0 < s) (e : p * s - q * r = 0) : p = r ∧ q = s := by
  have e : p * s = q * r := by omega
  have d1 : q ∣ s := by
    have : q ∣ p * s := ⟨r, e⟩
    exact dvd_of_gcd this (by rw [Int.gcd_comm]; exact c1)
  have d2 : s ∣ q := by
    have : s ∣ r * q := ⟨p, by rw [Int.mul_comm r q, ← e, Int.mul_comm]⟩
    exact dvd_of_gcd this (by rw [Int.gcd_comm]; exact c2)
  have qs : q = s := Int.dvd_antisymm (by omega) (by omega) d1 d2
  subst qs
  refine ⟨?_, rfl⟩
  rw [Int.mul_comm q r] at e
  exact Int.eq_of_mul_eq_mul_right (by omega) e
theorem gcd_of_det {a b c d : Int} (h : c * b - a * d = 1) : Int.gcd a b = 1 := by
  have := gcd_of_turn (p := a) (q := b) (r := c) (s := d) (by
    have : a * d - b * c = -1 := by grind
    rw [this]
    rfl)
  omega
/-- p/q lies between a/b and c/d, neighbours with denominators up to n -/
structure Ar (p q n a b c d : Int) : Prop where
  det : c * b - a * d = 1
  l : 0 < b * p - a * q
  r : 0 < c * q - d * p
  b0 : 0 < b
  d0 : 0 < d
  bn : b ≤ n
  dn : d ≤ n
theorem mod_pos_of_gcd {p q : Int} (g : Int.gcd p q = 1) (h : 1 < q) : 0 < p % q := by
  have h0 := Int.emod_nonneg p (show q ≠ 0 by omega)
  by_cases z : p % q = 0
  · have d : q ∣ p := Int.dvd_of_emod_eq_zero z
    have d2 : q ∣ ((Int.gcd p q : Nat) : Int) := Int.dvd_coe_gcd d (Int.dvd_refl q)
    rw [g] at d2
    have := Int.le_of_dvd (by omega) d2
    omega
  · omega
/-! ### nearest -/
/-- how far o/s is from p/q, times q * s -/
def ds (p q o s : Int) : Int := ((p * s - o * q).natAbs : Nat)
/-- A/B is nearer to p/q than o/s, or as near and less -/
def Kb (p q A B o s : Int) : Prop := ds p q A B * s < ds p q o s * B ∨ (ds p q A B * s = ds p q o s * B ∧ A * s < B * o)
theorem not_between {p q n a b c d o s : Int} (A : Ar p q n a b c d) (hn : n < b + d) (hs : s ≤ n) : 0 ≤ a * s - b * o ∨ 0 ≤ d * o - c * s := by
  by_cases h1 : 0 < b * o - a * s
  · by_cases h2 : 0 < c * s - d * o
    · have := far_gap A.det h1 h2 A.b0 A.d0
      omega
    · exact .inr (by omega)
  · exact .inl (by omega)
theorem ds_left {p q a b o s : Int} (hb : 0 < b) (hq : 0 < q) (hs : 0 < s) (hl : 0 < b * p - a * q) (t : 0 ≤ a * s - b * o) : 0 < ds p q o s ∧ b * ds p q o s = s * (b * p - a * q) + q * (a * s - b * o) := by
  have e : b * (p * s - o * q) = s * (b * p - a * q) + q * (a * s - b * o) := by grind
  have p1 : 0 < s * (b * p - a * q) := Int.mul_pos hs hl
  have p2 : 0 ≤ q * (a * s - b * o) := Int.mul_nonneg (by omega) t
  have p3 : 0 < p * s - o * q := by
    by_cases z : 0 < p * s - o * q
    · exact z
    · have := Int.mul_nonpos_of_nonneg_of_nonpos (show 0 ≤ b by omega) (show p * s - o * q ≤ 0 by omega)
      omega
  have e2 : ds p q o s = p * s - o * q := by unfold ds; omega
  rw [e2]
  exact ⟨p3, e⟩
theorem ds_right {p q c d o s : Int} (hd : 0 < d) (hq : 0 < q) (hs : 0 < s) (hr : 0 < c * q - d * p) (t : 0 ≤ d * o - c * s) : 0 < ds p q o s ∧ d * ds p q o s = s * (c * q - d * p) + q * (d * o - c * s) := by
  have e : d * (o * q - p * s) = s * (c * q - d * p) + q * (d * o - c * s) := by grind
  have p1 : 0 < s * (c * q - d * p) := Int.mul_pos hs hr
  have p2 : 0 ≤ q * (d * o - c * s) := Int.mul_nonneg (by omega) t
  have p3 : 0 < o * q - p * s := by
    by_cases z : 0 < o * q - p * s
    · exact z
    · have := Int.mul_nonpos_of_nonneg_of_nonpos (show 0 ≤ d by omega) (show o * q - p * s ≤ 0 by omega)
      omega
  have e2 : ds p q o s = o * q - p * s := by unfold ds; omega
  rw [e2]
  exact ⟨p3, e⟩
theorem ds_l {p q a b : Int} (hl : 0 < b * p - a * q) : ds p q a b = b * p - a * q := by
  unfold ds
  rw [Int.mul_comm p b]
  omega
theorem ds_r {p q c d : Int} (hr : 0 < c * q - d * p) : ds p q c d = c * q - d * p := by
  unfold ds
  rw [Int.mul_comm p d]
  omega
theorem best_left {p q n a b c d : Int} (hq : 0 < q) (A : Ar p q n a b c d) (hn : n < b + d) (h : ¬ (c * q - d * p) * b < (b * p - a * q) * d) {o s : Int} (hs : 0 < s) (hsn : s ≤ n) : o * b = a * s ∨ Kb p q a b o s := by
  have b0 := A.b0
  have d0 := A.d0
  have l := A.l
  have r := A.r
  have det := A.det
  unfold Kb
  rw [ds_l l]
  rcases not_between (o := o) A hn hsn with t | t
  · obtain ⟨p1, e⟩ := ds_left b0 hq hs l t
    by_cases z : a * s - b * o = 0
    · refine .inl ?_
      rw [Int.mul_comm o b]
      omega
    · refine .inr (.inl ?_)
      have := Int.mul_pos hq (show 0 < a * s - b * o by omega)
      rw [Int.mul_comm _ s, Int.mul_comm _ b]
      omega
  · obtain ⟨p1, e⟩ := ds_right d0 hq hs r t
    have k0 : 0 ≤ q * (d * o - c * s) := Int.mul_nonneg (by omega) t
    generalize ds p q o s = X at *
    generalize b * p - a * q = dL at *
    generalize c * q - d * p = dR at *
    -- dL * s * d <= dR * b * s <= d * X * b
    have k1 : s * (dL * d) ≤ s * (dR * b) := Int.mul_le_mul_of_nonneg_left (by omega) (by omega)
    have k2 : b * (s * dR) ≤ b * (d * X) := Int.mul_le_mul_of_nonneg_left (by omega) (by omega)
    have k3 : d * (dL * s) ≤ d * (X * b) := by
      have e1 : d * (dL * s) = s * (dL * d) := by grind
      have e2 : d * (X * b) = b * (d * X) := by grind
      have e3 : s * (dR * b) = b * (s * dR) := by grind
      omega
    have k4 : dL * s ≤ X * b := Int.le_of_mul_le_mul_left k3 d0
    have k5 : a * s < b * o := by
      have e1 : d * (b * o - a * s) = b * (d * o - c * s) + s * (c * b - a * d) := by grind
      have p2 : 0 ≤ b * (d * o - c * s) := Int.mul_nonneg (by omega) t
      rw [det] at e1
      by_cases z : 0 < b * o - a * s
      · omega
      · have := Int.mul_nonpos_of_nonneg_of_nonpos (show 0 ≤ d by omega) (show b * o - a * s ≤ 0 by omega)
        omega
    by_cases z : dL * s = X * b
    · exact .inr (.inr ⟨z, k5⟩)
    · exact .inr (.inl (by omega))
theorem best_right {p q n a b c d : Int} (hq : 0 < q) (A : Ar p q n a b c d) (hn : n < b + d) (h : (c * q - d * p) * b < (b * p - a * q) * d) {o s : Int} (hs : 0 < s) (hsn : s ≤ n) : o * d = c * s ∨ Kb p q c d o s := by
  have b0 := A.b0
  have d0 := A.d0
  have l := A.l
  have r := A.r
  unfold Kb
  rw [ds_r r]
  rcases not_between (o := o) A hn hsn with t | t
  · obtain ⟨p1, e⟩ := ds_left b0 hq hs l t
    have k0 : 0 ≤ q * (a * s - b * o) := Int.mul_nonneg (by omega) t
    generalize ds p q o s = X at *
    generalize b * p - a * q = dL at *
    generalize c * q - d * p = dR at *
    refine .inr (.inl ?_)
    have k1 : s * (dR * b) < s * (dL * d) := Int.mul_lt_mul_of_pos_left h hs
    have k2 : d * (s * dL) ≤ d * (b * X) := Int.mul_le_mul_of_nonneg_left (by omega) (by omega)
    have k3 : b * (dR * s) < b * (X * d) := by
      have e1 : b * (dR * s) = s * (dR * b) := by grind
      have e2 : b * (X * d) = d * (b * X) := by grind
      have e3 : s * (dL * d) = d * (s * dL) := by grind
      omega
    exact Int.lt_of_mul_lt_mul_left k3 (by omega)
  · obtain ⟨p1, e⟩ := ds_right d0 hq hs r t
    by_cases z : d * o - c * s = 0
    · refine .inl ?_
      rw [Int.mul_comm o d]
      omega
    · refine .inr (.inl ?_)
      have := Int.mul_pos hq (show 0 < d * o - c * s by omega)
      rw [Int.mul_comm _ s, Int.mul_comm _ d]
      omega
theorem Ar.small {p q n a b c d : Int} (A : Ar p q n a b c d) : b * p - a * q < q ∧ c * q - d * p < q := by
  have e : q = d * (b * p - a * q) + b * (c * q - d * p) := by
    have := A.det
    grind
  have l := A.l
  have r := A.r
  have b0 := A.b0
  have d0 := A.d0
  have := Int.mul_le_mul_of_nonneg_right (show 1 ≤ d by omega) (show 0 ≤ b * p - a * q by omega)
  have := Int.mul_le_mul_of_nonneg_right (show 1 ≤ b by omega) (show 0 ≤ c * q - d * p by omega)
  have := Int.mul_pos d0 l
  have := Int.mul_pos b0 r
  omega
theorem div_is {x q a : Int} (hq : 0 < q) (h1 : a * q ≤ x) (h2 : x < a * q + q) : x / q = a := by
  have h3 := Int.emod_nonneg x (show q ≠ 0 by omega)
  have h4 := Int.emod_lt_of_pos x hq
  have h5 : x % q + q * (x / q) = x := Int.emod_add_mul_ediv x q
  rw [Int.mul_comm q] at h5
  by_cases z : x / q = a
  · exact z
  · by_cases w : x / q < a
    · have := Int.mul_le_mul_of_nonneg_right (show x / q + 1 ≤ a by omega) (show 0 ≤ q by omega)
      rw [Int.add_mul] at this
      omega
    · have := Int.mul_le_mul_of_nonneg_right (show a + 1 ≤ x / q by omega) (show 0 ≤ q by omega)
      rw [Int.add_mul] at this
      omega
/-! ### terms, values, parents -/
def tms (p q : Int) : List Int := if h : 0 < q then p / q :: tms q (p % q) else []
termination_by q.toNat
decreasing_by
  have := Int.emod_lt_of_pos p h
  have := Int.emod_nonneg p (show q ≠ 0 by omega)
  omega
theorem tms_pos {p q : Int} (h : 0 < q) : tms p q = p / q :: tms q (p % q) := by
  rw [tms, dif_pos h]
theorem tms_zero {p q : Int} (h : ¬ 0 < q) : tms p q = [] := by
  rw [tms, dif_neg h]
def valL : List Int → Int × Int
  | [] => (1, 0)
  | t :: ts => (t * (valL ts).1 + (valL ts).2, (valL ts).1)
def intL (l : List Int) : List D := l.map fun i => .int i
theorem intL_len (l : List Int) : (intL l).length = l.length := by simp [intL]
theorem gcd_step {p q : Int} (hq : 0 < q) (g : Int.gcd p q = 1) : Int.gcd q (p % q) = 1 := by
  have m2 : p % q + q * (p / q) = p := Int.emod_add_mul_ediv p q
  have d1 : ((Int.gcd q (p % q) : Nat) : Int) ∣ q := Int.gcd_dvd_left ..
  have d2 : ((Int.gcd q (p % q) : Nat) : Int) ∣ p % q := Int.gcd_dvd_right ..
  have d3 : ((Int.gcd q (p % q) : Nat) : Int) ∣ p := by
    have := Int.dvd_add d2 (Int.dvd_mul_of_dvd_left (c := p / q) d1)
    rw [m2] at this
    exact this
  have d4 : ((Int.gcd q (p % q) : Nat) : Int) ∣ ((Int.gcd p q : Nat) : Int) := Int.dvd_coe_gcd d3 d1
  rw [g] at d4
  exact Nat.dvd_one.mp (Int.natCast_dvd_natCast.mp d4)
theorem val_tms : ∀ (k : Nat) (p q : Int), q.toNat ≤ k → 0 < q → Int.gcd p q = 1 → valL (tms p q) = (p, q)
  | 0, p, q, h, h0, _ => by omega
  | k + 1, p, q, h, h0, g => by
    have m0 := Int.emod_nonneg p (show q ≠ 0 by omega)
    have m1 := Int.emod_lt_of_pos p h0
    have m2 : p % q + q * (p / q) = p := Int.emod_add_mul_ediv p q
    have g2 := gcd_step h0 g
    rw [tms_pos h0]
    have e : valL (tms q (p % q)) = (q, p % q) := by
      by_cases z : 0 < p % q
      · exact val_tms k q (p % q) (by omega) z g2
      · have z' : p % q = 0 := by omega
        rw [z', tms_zero (by omega)]
        rw [z'] at g2
        have : q = 1 := by
          rw [Int.gcd_zero_right] at g2
          omega
        rw [this]
        rfl
    show ((p / q) * (valL (tms q (p % q))).1 + (valL (tms q (p % q))).2, (valL (tms q (p % q))).1) = _
    rw [e]
    show ((p / q) * q + p % q, q) = _
    rw [Int.mul_comm (p / q) q, show q * (p / q) + p % q = p by omega]
theorem tms_ne {p q : Int} (h : 0 < q) : tms p q ≠ [] := by
  rw [tms_pos h]
  simp
/-- the value before the last term: y < x -/
theorem pv_lt : ∀ (k : Nat) (x y : Int), y.toNat ≤ k → 0 < y → y < x → Int.gcd x y = 1 → 0 < (valL (tms x y).dropLast).1 ∧ (valL (tms x y).dropLast).1 < x ∧ 0 ≤ (valL (tms x y).dropLast).2 ∧ (valL (tms x y).dropLast).2 < y
  | 0, x, y, h, h0, _, _ => by omega
  | k + 1, x, y, h, h0, hx, g => by
    have m0 := Int.emod_nonneg x (show y ≠ 0 by omega)
    have m1 := Int.emod_lt_of_pos x h0
    have m2 : x % y + y * (x / y) = x := Int.emod_add_mul_ediv x y
    rw [tms_pos h0]
    by_cases z : 0 < x % y
    · have ih := pv_lt k y (x % y) (by omega) z m1 (gcd_step h0 g)
      rw [List.dropLast_cons_of_ne_nil (tms_ne z)]
      show 0 < (x / y) * _ + _ ∧ (x / y) * _ + _ < x ∧ 0 ≤ (valL (tms y (x % y)).dropLast).1 ∧ (valL (tms y (x % y)).dropLast).1 < y
      generalize (valL (tms y (x % y)).dropLast).1 = u at *
      generalize (valL (tms y (x % y)).dropLast).2 = v at *
      obtain ⟨u1, u2, v1, v2⟩ := ih
      have a1 : 1 ≤ x / y := by
        by_cases w : 1 ≤ x / y
        · exact w
        · have := Int.mul_nonpos_of_nonneg_of_nonpos (show 0 ≤ y by omega) (show x / y ≤ 0 by omega)
          omega
      have p1 : 0 < x / y * u := Int.mul_pos (by omega) u1
      have p2 : x / y * u ≤ x / y * y := Int.mul_le_mul_of_nonneg_left (by omega) (by omega)
      rw [Int.mul_comm (x / y) y] at p2
      exact ⟨by omega, by omega, by omega, u2⟩
    · have z' : x % y = 0 := by omega
      rw [z', tms_zero (by omega)]
      show (0 : Int) < 1 ∧ (1 : Int) < x ∧ (0 : Int) ≤ 0 ∧ (0 : Int) < y
      omega
theorem pv_det : ∀ (k : Nat) (p q : Int), q.toNat ≤ k → 0 < q → Int.gcd p q = 1 → nb (p * (valL (tms p q).dropLast).2 - q * (valL (tms p q).dropLast).1) = true
  | 0, p, q, h, h0, _ => by omega
  | k + 1, p, q, h, h0, g => by
    have m0 := Int.emod_nonneg p (show q ≠ 0 by omega)
    have m1 := Int.emod_lt_of_pos p h0
    have m2 : p % q + q * (p / q) = p := Int.emod_add_mul_ediv p q
    have g2 := gcd_step h0 g
    rw [tms_pos h0]
    by_cases z : 0 < p % q
    · have ih := pv_det k q (p % q) (by omega) z g2
      rw [List.dropLast_cons_of_ne_nil (tms_ne z)]
      show nb (p * (valL (tms q (p % q)).dropLast).1 - q * ((p / q) * (valL (tms q (p % q)).dropLast).1 + (valL (tms q (p % q)).dropLast).2)) = true
      generalize (valL (tms q (p % q)).dropLast).1 = u at *
      generalize (valL (tms q (p % q)).dropLast).2 = v at *
      have e : p * u - q * (p / q * u + v) = -(q * v - p % q * u) := by
        generalize p % q = r at *
        generalize p / q = a at *
        subst m2
        grind
      rw [e, nb_neg]
      exact ih
    · have z' : p % q = 0 := by omega
      rw [z'] at g2
      have : q = 1 := by
        rw [Int.gcd_zero_right] at g2
        omega
      subst this
      rw [z', tms_zero (by omega)]
      show nb (p * 0 - 1 * 1) = true
      rw [Int.mul_zero]
      rfl
theorem terms_loop (x0 : Option Bd) : ∀ (k : Nat) (p q : Int) (acc : List Int), 0 ≤ q → q.toNat < k → q < 100000 → acc.length + q.toNat < 100000 →
    ∃ p' q' : Int, whileM q_terms_of_1 b_terms_of_1 k [x0, some (.v (.int p)), some (.v (.int q)), some (.o false (.lst (intL acc)))] = .ok .nx [x0, some (.v (.int p')), some (.v (.int q')), some (.o false (.lst (intL (acc ++ tms p q))))]
  | 0, _, _, _, _, h, _, _ => by omega
  | k + 1, p, q, acc, h0, hk, hb, hl => by
    by_cases hq : 0 < q
    · have m0 := Int.emod_nonneg p (show q ≠ 0 by omega)
      have m1 := Int.emod_lt_of_pos p hq
      have e1 : fDiv (.int p) (.int q) = some (.int (p / q)) := fDiv_ii hq (by omega)
      have e2 : fMod (.int p) (.int q) = some (.int (p % q)) := fMod_ii hq
      obtain ⟨p', q', ih⟩ := terms_loop x0 k q (p % q) (acc ++ [p / q]) m0 (by omega) (by omega) (by simp; omega)
      refine ⟨p', q', ?_⟩
      have hl2 : acc.length < 100000 := by omega
      have ea : intL (acc ++ [p / q]) = intL acc ++ [.int (p / q)] := by simp [intL]
      rw [ea] at ih
      rw [tms_pos hq, show acc ++ p / q :: tms q (p % q) = acc ++ [p / q] ++ tms q (p % q) by simp]
      generalize hw : whileM q_terms_of_1 b_terms_of_1 k = w at ih
      rw [while_s, hw]
      simp [q_terms_of_1, b_terms_of_1, hq, appM, lstAt, putL, e1, e2, intL_len, hl2, ih]
    · refine ⟨p, q, ?_⟩
      rw [tms_zero hq]
      simp [q_terms_of_1, hq]
theorem terms_ev {p q : Int} (h0 : 0 ≤ q) (hb : q < 99999) : m_terms_of [.v (fr p q)] = .ok (.list (intL (tms p q))) [.v (fr p q)] := by
  obtain ⟨p', q', e⟩ := terms_loop (some (.v (fr p q))) 100000 p q [] h0 (by omega) (by omega) (by simp; omega)
  have en : intL [] = [] := rfl
  rw [en, List.nil_append] at e
  unfold m_terms_of c_terms_of
  generalize whileM q_terms_of_1 b_terms_of_1 100000 = w at e ⊢
  simp [asgG, gT, gC, gE, e, frzM]
theorem value_loop (x0 : Option Bd) (ts : List Int) : ∀ (l : List Int) (acc : List Int) (y : Option D), (∀ t ∈ l, t.natAbs < 2 ^ 62) →
    ∃ y' : Option D, forM (gN 3) b_value_of_1 (intL l) [x0, some (.v (.int (valL acc).1)), some (.v (.int (valL acc).2)), y.map Bd.v] = .ok .nx [x0, some (.v (.int (valL (l.reverse ++ acc)).1)), some (.v (.int (valL (l.reverse ++ acc)).2)), y'.map Bd.v]
  | [], acc, y, _ => ⟨y, rfl⟩
  | t :: l, acc, y, h => by
    obtain ⟨y', ih⟩ := value_loop x0 ts l (t :: acc) (some (.int t)) fun u hu => h u (by simp [hu])
    refine ⟨y', ?_⟩
    have e1 : fMul (.int t) (.int (valL acc).1) = some (.int (t * (valL acc).1)) := fMul_ii (.inl (h t (by simp)))
    rw [show (t :: l).reverse ++ acc = l.reverse ++ (t :: acc) by simp]
    have v1 : (valL (t :: acc)).1 = t * (valL acc).1 + (valL acc).2 := rfl
    have v2 : (valL (t :: acc)).2 = (valL acc).1 := rfl
    rw [v1, v2] at ih
    show forM (gN 3) b_value_of_1 (.int t :: intL l) _ = _
    rw [forM_cons]
    generalize forM (gN 3) b_value_of_1 (intL l) = w at ih ⊢
    simp only [Option.map_some] at ih
    cases y <;> simp [b_value_of_1, e1, ih]
theorem value_ev {ts : List Int} (h : ∀ t ∈ ts, t.natAbs < 2 ^ 62) : m_value_of [.v (.list (intL ts))] = .ok (fr (valL ts).1 (valL ts).2) [.v (.list (intL ts))] := by
  obtain ⟨y', e⟩ := value_loop (some (.v (.list (intL ts)))) ts ts.reverse [] none fun u hu => h u (by simpa using hu)
  have v1 : (valL []).1 = 1 := rfl
  have v2 : (valL []).2 = 0 := rfl
  rw [v1, v2, List.reverse_reverse, List.append_nil] at e
  have er : (intL ts).reverse = intL ts.reverse := by simp [intL]
  unfold m_value_of c_value_of
  simp only [Option.map_none] at e
  simp [asgG, gT, gC, gE, revM, revD, er, asL, e]
theorem tms_bd : ∀ (k : Nat) (p q : Int), q.toNat ≤ k → p.natAbs < 100000 → 0 ≤ q → q < 100000 → ∀ t ∈ tms p q, t.natAbs < 2 ^ 62
  | k, p, q, h, hp, h0, hq, t, ht => by
    by_cases z : 0 < q
    · have m0 := Int.emod_nonneg p (show q ≠ 0 by omega)
      have m1 := Int.emod_lt_of_pos p z
      have m2 : p % q + q * (p / q) = p := Int.emod_add_mul_ediv p q
      rw [tms_pos z] at ht
      rcases List.mem_cons.mp ht with rfl | ht
      · have : (p / q).natAbs ≤ 200001 := by
          have e : (q * (p / q)).natAbs ≤ 200000 := by omega
          rw [Int.natAbs_mul] at e
          have : 1 * (p / q).natAbs ≤ q.natAbs * (p / q).natAbs := Nat.mul_le_mul_right _ (by omega)
          have e2 : (q * (p / q)).natAbs ≤ p.natAbs + q.natAbs := by omega
          omega
        omega
      · cases k with
        | zero => omega
        | succ k => exact tms_bd k q (p % q) (by omega) (by omega) m0 (by omega) t ht
    · rw [tms_zero z] at ht
      cases ht
theorem cut_last (ts : List Int) : cutD (intL ts) none (some (-1)) = intL ts.dropLast := by
  unfold cutD
  rw [intL_len]
  show ((intL ts).drop 0).take ((if (-1 : Int) < 0 then ((-1 : Int) + (ts.length : Int)).toNat else min (-1 : Int).toNat ts.length) - 0) = _
  rw [if_pos (by omega), List.drop_zero, List.dropLast_eq_take]
  unfold intL
  rw [List.map_take]
  congr 1
  omega
/-- the parents of a fraction that is no integer -/
theorem parents_ev {p q : Int} (h : Fr p q) (hq : 1 < q) : ∃ a b c d : Int, m_parents_of [.v (fr p q)] = .ok (.tuple [fr a b, fr c d]) [.v (fr p q)] ∧ a + c = p ∧ b + d = q ∧ 0 < b ∧ 0 < d ∧ c * b - a * d = 1 := by
  have g : Int.gcd p q = 1 := by have := h.co; omega
  have q1 := h.q1
  have t1 := terms_ev (p := p) (q := q) (by omega) (by omega)
  have bd := tms_bd q.toNat p q (by omega) h.ps (by omega) (by omega)
  have v1 := value_ev (ts := (tms p q).dropLast) fun t ht => bd t (List.dropLast_subset _ ht)
  have cl := cut_last (tms p q)
  have det := pv_det q.toNat p q (by omega) (by omega) g
  have m := mod_pos_of_gcd g hq
  have m1 := Int.emod_lt_of_pos p (show 0 < q by omega)
  have lt := pv_lt (p % q).toNat q (p % q) (by omega) m m1 (gcd_step (by omega) g)
  have e2 : (valL (tms p q).dropLast).2 = (valL (tms q (p % q)).dropLast).1 := by
    rw [tms_pos (by omega), List.dropLast_cons_of_ne_nil (tms_ne m)]
    rfl
  rw [← e2] at lt
  obtain ⟨l1, l2, _, _⟩ := lt
  have pu : ((valL (tms p q).dropLast).1).natAbs ≤ p.natAbs + 1 := by
    have dt := nb_or det
    generalize (valL (tms p q).dropLast).1 = u at *
    generalize (valL (tms p q).dropLast).2 = v at *
    have k1 : p * v ≤ (p.natAbs : Int) * v := Int.mul_le_mul_of_nonneg_right (by omega) (by omega)
    have k2 : -(p.natAbs : Int) * v ≤ p * v := Int.mul_le_mul_of_nonneg_right (by omega) (by omega)
    have k3 : (p.natAbs : Int) * v ≤ (p.natAbs : Int) * q := Int.mul_le_mul_of_nonneg_left (by omega) (by omega)
    rw [Int.neg_mul] at k2
    rw [Int.mul_comm (p.natAbs : Int) q] at k3
    have up : u ≤ (p.natAbs : Int) + 1 := by
      by_cases z : u ≤ (p.natAbs : Int) + 1
      · exact z
      · have := Int.mul_le_mul_of_nonneg_left (show (p.natAbs : Int) + 2 ≤ u by omega) (show 0 ≤ q by omega)
        rw [Int.mul_add] at this
        omega
    have dn : -((p.natAbs : Int) + 1) ≤ u := by
      by_cases z : -((p.natAbs : Int) + 1) ≤ u
      · exact z
      · have := Int.mul_le_mul_of_nonneg_left (show u ≤ -(p.natAbs : Int) + -2 by omega) (show 0 ≤ q by omega)
        rw [Int.mul_add, Int.mul_neg] at this
        omega
    omega
  have pb := h.ps
  have lo := h.lo
  have hi := h.hi
  generalize (valL (tms p q).dropLast).1 = u at *
  generalize (valL (tms p q).dropLast).2 = v at *
  have ls := less_ev u v (p - u) (q - v) (by omega) (by omega)
  have eqn : u * (q - v) - v * (p - u) = -(p * v - q * u) := by grind
  rw [eqn] at ls
  rcases nb_or det with e | e
  · rw [e] at ls
    refine ⟨u, v, p - u, q - v, ?_, by omega, by omega, l1, by omega, ?_⟩
    · unfold m_parents_of c_parents_of
      simp at ls
      simp [t1, cutM, fCut, cl, asO, v1, ls]
    · have : (p - u) * v - u * (q - v) = p * v - q * u := by grind
      omega
  · rw [e] at ls
    refine ⟨p - u, q - v, u, v, ?_, by omega, by omega, by omega, l1, ?_⟩
    · unfold m_parents_of c_parents_of
      simp at ls
      simp [t1, cutM, fCut, cl, asO, v1, ls]
    · have : u * (q - v) - (p - u) * v = -(p * v - q * u) := by grind
      omega
theorem upto_s (lo : Int) (k : Nat) : upto lo (k + 1) = .int lo :: upto (lo + 1) k := by
  unfold upto
  rw [List.range_succ_eq_map, List.map_cons, List.map_map]
  congr 1
  · simp
  · refine List.map_congr_left fun i _ => ?_
    show PyData.int (lo + ((i + 1 : Nat) : Int)) = _
    congr 1
    omega
theorem lowest_is {o s A B : Int} (hs : 0 < s) (hB : 0 < B) (g : Int.gcd A B = 1) (h : o * B = A * s) : o / (Int.gcd o s : Nat) = A ∧ s / (Int.gcd o s : Nat) = B := by
  have g0 := gcd_pos_of (p := o) hs
  have d1 : ((Int.gcd o s : Nat) : Int) ∣ o := Int.gcd_dvd_left ..
  have d2 : ((Int.gcd o s : Nat) : Int) ∣ s := Int.gcd_dvd_right ..
  have hg : Int.gcd (o / (Int.gcd o s : Nat)) (s / (Int.gcd o s : Nat)) = 1 := Int.gcd_ediv_gcd_ediv_gcd (by omega)
  generalize ((Int.gcd o s : Nat) : Int) = w at *
  obtain ⟨a, rfl⟩ := d1
  obtain ⟨b, rfl⟩ := d2
  rw [Int.mul_ediv_cancel_left _ (by omega), Int.mul_ediv_cancel_left _ (by omega)] at *
  have b0 : 0 < b := by
    by_cases z : 0 < b
    · exact z
    · have : w * b ≤ 0 := Int.mul_nonpos_of_nonneg_of_nonpos (by omega) (by omega)
      omega
  refine cop_eq hg g b0 hB ?_
  have e : w * (a * B - b * A) = w * 0 := by
    have : w * (a * B - b * A) = w * a * B - A * (w * b) := by grind
    rw [this, h]
    omega
  exact Int.eq_of_mul_eq_mul_left (by omega) e
theorem div_bd {p q s : Int} (hp : p.natAbs ≤ 3 * q.natAbs) (hq0 : 0 < q) (hs : 0 < s) : (p * s / q).natAbs ≤ 3 * s.natAbs + 1 := by
  have m0 := Int.emod_nonneg (p * s) (show q ≠ 0 by omega)
  have m1 := Int.emod_lt_of_pos (p * s) hq0
  have m2 : p * s % q + q * (p * s / q) = p * s := Int.emod_add_mul_ediv (p * s) q
  have u1 : p * s ≤ 3 * q * s := Int.mul_le_mul_of_nonneg_right (by omega) (by omega)
  have u2 : -(3 * q) * s ≤ p * s := Int.mul_le_mul_of_nonneg_right (by omega) (by omega)
  have v1 : q * (p * s / q) ≤ q * (3 * s) := by
    have : 3 * q * s = q * (3 * s) := by grind
    omega
  have v2 : q * (-(3 * s) - 1) ≤ q * (p * s / q) := by
    have : q * (-(3 * s) - 1) = -(3 * q) * s - q := by grind
    omega
  have w1 := Int.le_of_mul_le_mul_left v1 hq0
  have w2 := Int.le_of_mul_le_mul_left v2 hq0
  omega

end Fg
set_option maxRecDepth 100000
set_option maxHeartbeats 4000000
namespace Fg
open PySem L2
theorem raised_ev {a b p q n : Int} (hq0 : 0 < q) (hq : q ≤ 9999) (hn : 0 ≤ n) (hn2 : n ≤ 9999) (hb : 0 < b) (hbn : b ≤ n) :
    ∃ t : Int, n < b + t * q + q ∧ b + t * q ≤ n ∧ 0 ≤ t ∧ m_raised [.v (fr a b), .v (fr p q), .v (.int n)] = .ok (fr (a + t * p) (b + t * q)) [.v (fr a b), .v (fr p q), .v (.int n)] := by
  have e1 : fDiv (.int (n - b)) (.int q) = some (.int ((n - b) / q)) := fDiv_ii hq0 (by omega)
  have m0 := Int.emod_nonneg (n - b) (show q ≠ 0 by omega)
  have m1 := Int.emod_lt_of_pos (n - b) hq0
  have m2 : (n - b) % q + q * ((n - b) / q) = n - b := Int.emod_add_mul_ediv (n - b) q
  have t0 : 0 ≤ (n - b) / q := Int.ediv_nonneg (by omega) (by omega)
  have t1 : (n - b) / q ≤ 9999 := by
    have := Int.mul_le_mul_of_nonneg_right (show 1 ≤ q by omega) t0
    omega
  have h1 : fMul (.int ((n - b) / q)) (.int p) = some (.int ((n - b) / q * p)) := fMul_ii (by omega)
  have h2 : fMul (.int ((n - b) / q)) (.int q) = some (.int ((n - b) / q * q)) := fMul_ii (by omega)
  rw [Int.mul_comm q] at m2
  refine ⟨(n - b) / q, by omega, by omega, t0, ?_⟩
  unfold m_raised c_raised
  simp [e1, h1, h2]
/-- the greatest (less) or least candidate so far; done: A/B was met -/
def Trk (le : Int → Int → Prop) (A B : Int) (done : Prop) (b : D) : Prop := (b = .none ∧ ¬ done) ∨ ∃ x y : Int, 0 < y ∧ y ≤ 1000 ∧ x.natAbs ≤ 1000 ∧ b = fr x y ∧ Int.gcd x y = 1 ∧ le (x * B) (A * y) ∧ (done → x = A ∧ y = B)
theorem Trk.imp {le : Int → Int → Prop} {A B : Int} {X Y : Prop} {b : D} (f : Y → X) (h : Trk le A B X b) : Trk le A B Y b := by
  rcases h with ⟨h1, h2⟩ | ⟨x, y, h1, h2, h3, h4, h7, h5, h6⟩
  · exact .inl ⟨h1, fun z => h2 (f z)⟩
  · exact .inr ⟨x, y, h1, h2, h3, h4, h7, h5, fun z => h6 (f z)⟩
theorem red {o s : Int} (hs : 0 < s) : ∃ g x y : Int, 0 < g ∧ 0 < y ∧ o = g * x ∧ s = g * y ∧ Int.gcd x y = 1 ∧ o / (Int.gcd o s : Nat) = x ∧ s / (Int.gcd o s : Nat) = y ∧ y ≤ s ∧ x.natAbs ≤ o.natAbs := by
  have g0 := gcd_pos_of (p := o) hs
  have d1 : ((Int.gcd o s : Nat) : Int) ∣ o := Int.gcd_dvd_left ..
  have d2 : ((Int.gcd o s : Nat) : Int) ∣ s := Int.gcd_dvd_right ..
  have hg : Int.gcd (o / (Int.gcd o s : Nat)) (s / (Int.gcd o s : Nat)) = 1 := Int.gcd_ediv_gcd_ediv_gcd (by omega)
  generalize ((Int.gcd o s : Nat) : Int) = w at *
  obtain ⟨a, rfl⟩ := d1
  obtain ⟨b, rfl⟩ := d2
  rw [Int.mul_ediv_cancel_left _ (by omega), Int.mul_ediv_cancel_left _ (by omega)] at *
  have b0 : 0 < b := by
    by_cases z : 0 < b
    · exact z
    · have : w * b ≤ 0 := Int.mul_nonpos_of_nonneg_of_nonpos (by omega) (by omega)
      omega
  refine ⟨w, a, b, g0, b0, rfl, rfl, hg, rfl, rfl, ?_, ?_⟩
  · have := Int.mul_le_mul_of_nonneg_right (show 1 ≤ w by omega) (show 0 ≤ b by omega)
    omega
  · rw [Int.natAbs_mul]
    have := Nat.mul_le_mul_right a.natAbs (show 1 ≤ w.natAbs by omega)
    omega
abbrev Row7 (a0 a1 : Bd) (n p q : Int) (got bf af : D) (s : Int) (x8 : Option D) : En :=
  [some a0, some a1, some (.v (.int n)), some (.v (fr p q)), some (.v got), some (.v bf), some (.v af), some (.v (.int s)), x8.map Bd.v]
section
variable {a0 a1 : Bd} {n p q A B o s : Int} {got bf af : D} {done : Prop}
theorem test_b (hs : 0 < s) (hs2 : s ≤ 1000) (ho : o.natAbs ≤ 1000) (hB : 0 < B) (gA : Int.gcd A B = 1) (cand : 0 ≤ o → o * B ≤ A * s) (hb : Trk (· ≤ ·) A B done bf) :
    ∃ cb : Bool, andM (bnd (bin fGe (gv 8) (ret (.int 0))) asB) (orM (bnd (bin fIsN (gv 5) (ret .none)) asB) (bnd (cpM m_law_fall (consM (gv 5) (consM (tupM (consM (gv 8) (consM (gv 7) (ret [])))) (ret [])))) asB)) (Row7 a0 a1 n p q got bf af s (some (.int o))) = .ok cb (Row7 a0 a1 n p q got bf af s (some (.int o))) ∧
      Trk (· ≤ ·) A B (done ∨ (0 ≤ o ∧ o * B = A * s)) (if cb then fr (o / (Int.gcd o s : Nat)) (s / (Int.gcd o s : Nat)) else bf) := by
  obtain ⟨g, x, y, g0, y0, e1, e2, gx, e3, e4, ys, xo⟩ := red (o := o) hs
  rw [e3, e4, law_fall_is]
  have same : o * B = A * s → x = A ∧ y = B := fun h => by
    have := lowest_is hs hB gA h
    rw [e3, e4] at this
    exact this
  by_cases h0 : 0 ≤ o
  · have c := cand h0
    have c' : x * B ≤ A * y := by
      rw [e1, e2] at c
      refine Int.le_of_mul_le_mul_left (a := g) ?_ g0
      have k1 : g * (x * B) = g * x * B := by grind
      have k2 : g * (A * y) = A * (g * y) := by grind
      omega
    rcases hb with ⟨rfl, nd⟩ | ⟨u, v, v0, v1, u1, rfl, guv, le, dn⟩
    · refine ⟨true, by simp [h0, fIsN, isNone], .inr ⟨x, y, y0, by omega, by omega, rfl, gx, c', fun z => ?_⟩⟩
      exact same (z.resolve_left nd).2
    · have fl := less_ev u v o s (by omega) (by omega)
      by_cases z : u * s - v * o < 0
      · rw [decide_eq_true z] at fl
        refine ⟨true, by simp [h0, fIsN, isNone, fl], .inr ⟨x, y, y0, by omega, by omega, rfl, gx, c', fun w => ?_⟩⟩
        rcases w with w | w
        · obtain ⟨rfl, rfl⟩ := dn w
          rw [Int.mul_comm v o] at z
          omega
        · exact same w.2
      · rw [decide_eq_false z] at fl
        refine ⟨false, by simp [h0, fIsN, isNone, fl], .inr ⟨u, v, v0, v1, u1, rfl, guv, le, fun w => ?_⟩⟩
        rcases w with w | ⟨_, w⟩
        · exact dn w
        · have k1 : s * (A * v) ≤ s * (u * B) := by
            have k2 : B * (v * o) ≤ B * (u * s) := Int.mul_le_mul_of_nonneg_left (by omega) (by omega)
            have k3 : B * (v * o) = v * (o * B) := by grind
            rw [k3, w] at k2
            have k4 : v * (A * s) = s * (A * v) := by grind
            have k5 : B * (u * s) = s * (u * B) := by grind
            omega
          have k6 := Int.le_of_mul_le_mul_left k1 hs
          exact cop_eq guv gA v0 hB (by rw [Int.mul_comm v A]; have : u * B = A * v := Int.le_antisymm le k6; omega)
  · refine ⟨false, by simp [h0], ?_⟩
    exact hb.imp fun z => z.resolve_right fun z => h0 z.1
theorem test_a (hs : 0 < s) (hs2 : s ≤ 1000) (ho : o.natAbs ≤ 1000) (hB : 0 < B) (gA : Int.gcd A B = 1) (cand : o ≤ s → A * s ≤ o * B) (hb : Trk (fun x y => y ≤ x) A B done af) :
    ∃ cb : Bool, andM (bnd (bin fLe (gv 8) (gv 7)) asB) (orM (bnd (bin fIsN (gv 6) (ret .none)) asB) (bnd (cpM m_law_fall (consM (tupM (consM (gv 8) (consM (gv 7) (ret [])))) (consM (gv 6) (ret [])))) asB)) (Row7 a0 a1 n p q got bf af s (some (.int o))) = .ok cb (Row7 a0 a1 n p q got bf af s (some (.int o))) ∧
      Trk (fun x y => y ≤ x) A B (done ∨ (o ≤ s ∧ o * B = A * s)) (if cb then fr (o / (Int.gcd o s : Nat)) (s / (Int.gcd o s : Nat)) else af) := by
  obtain ⟨g, x, y, g0, y0, e1, e2, gx, e3, e4, ys, xo⟩ := red (o := o) hs
  rw [e3, e4, law_fall_is]
  have same : o * B = A * s → x = A ∧ y = B := fun h => by
    have := lowest_is hs hB gA h
    rw [e3, e4] at this
    exact this
  by_cases h0 : o ≤ s
  · have c := cand h0
    have c' : A * y ≤ x * B := by
      rw [e1, e2] at c
      refine Int.le_of_mul_le_mul_left (a := g) ?_ g0
      have k1 : g * (x * B) = g * x * B := by grind
      have k2 : g * (A * y) = A * (g * y) := by grind
      omega
    rcases hb with ⟨rfl, nd⟩ | ⟨u, v, v0, v1, u1, rfl, guv, le, dn⟩
    · refine ⟨true, by simp [h0, fIsN, isNone], .inr ⟨x, y, y0, by omega, by omega, rfl, gx, c', fun z => ?_⟩⟩
      exact same (z.resolve_left nd).2
    · have fl := less_ev o s u v (by omega) (by omega)
      by_cases z : o * v - s * u < 0
      · rw [decide_eq_true z] at fl
        refine ⟨true, by simp [h0, fIsN, isNone, fl], .inr ⟨x, y, y0, by omega, by omega, rfl, gx, c', fun w => ?_⟩⟩
        rcases w with w | w
        · obtain ⟨rfl, rfl⟩ := dn w
          rw [Int.mul_comm s u] at z
          omega
        · exact same w.2
      · rw [decide_eq_false z] at fl
        refine ⟨false, by simp [h0, fIsN, isNone, fl], .inr ⟨u, v, v0, v1, u1, rfl, guv, le, fun w => ?_⟩⟩
        rcases w with w | ⟨_, w⟩
        · exact dn w
        · have k1 : s * (u * B) ≤ s * (A * v) := by
            have k2 : B * (s * u) ≤ B * (o * v) := Int.mul_le_mul_of_nonneg_left (by omega) (by omega)
            have k3 : B * (o * v) = v * (o * B) := by grind
            rw [k3, w] at k2
            have k4 : v * (A * s) = s * (A * v) := by grind
            have k5 : B * (s * u) = s * (u * B) := by grind
            omega
          have k6 := Int.le_of_mul_le_mul_left k1 hs
          have le : A * v ≤ u * B := le
          exact cop_eq guv gA v0 hB (by rw [Int.mul_comm v A]; have : u * B = A * v := Int.le_antisymm k6 le; omega)
  · refine ⟨false, by simp [h0], ?_⟩
    exact hb.imp fun z => z.resolve_right fun z => h0 z.1
/-- one turn's test of the one before; TB: what is held ahead of the turn s -/
def TestB (a0 a1 : Bd) (n p q : Int) (got : D) (TB : Int → D → Prop) : Prop := ∀ (s : Int) (bf af : D), 0 < s → s ≤ n → TB s bf →
  ∃ cb : Bool, andM (bnd (bin fGe (gv 8) (ret (.int 0))) asB) (orM (bnd (bin fIsN (gv 5) (ret .none)) asB) (bnd (cpM m_law_fall (consM (gv 5) (consM (tupM (consM (gv 8) (consM (gv 7) (ret [])))) (ret [])))) asB)) (Row7 a0 a1 n p q got bf af s (some (.int ((p * s - 1) / q)))) = .ok cb (Row7 a0 a1 n p q got bf af s (some (.int ((p * s - 1) / q)))) ∧
    TB (s + 1) (if cb then fr ((p * s - 1) / q / (Int.gcd ((p * s - 1) / q) s : Nat)) (s / (Int.gcd ((p * s - 1) / q) s : Nat)) else bf)
def TestA (a0 a1 : Bd) (n p q : Int) (got : D) (TA : Int → D → Prop) : Prop := ∀ (s : Int) (bf af : D), 0 < s → s ≤ n → TA s af →
  ∃ cb : Bool, andM (bnd (bin fLe (gv 8) (gv 7)) asB) (orM (bnd (bin fIsN (gv 6) (ret .none)) asB) (bnd (cpM m_law_fall (consM (tupM (consM (gv 8) (consM (gv 7) (ret [])))) (consM (gv 6) (ret [])))) asB)) (Row7 a0 a1 n p q got bf af s (some (.int (p * s / q + 1)))) = .ok cb (Row7 a0 a1 n p q got bf af s (some (.int (p * s / q + 1)))) ∧
    TA (s + 1) (if cb then fr ((p * s / q + 1) / (Int.gcd (p * s / q + 1) s : Nat)) (s / (Int.gcd (p * s / q + 1) s : Nat)) else af)
theorem turn7 {TB TA : Int → D → Prop} (hB : TestB a0 a1 n p q got TB) (hA : TestA a0 a1 n p q got TA) (hq0 : 0 < q) (hq : q ≤ 1000) (hp : p.natAbs ≤ 1000) (hn : n ≤ 1000) (hs : 0 < s) (hsn : s ≤ n) (tb : TB s bf) (ta : TA s af) (x8 : Option D) :
    ∃ bf' af' : D, ∃ y8 : Option D, TB (s + 1) bf' ∧ TA (s + 1) af' ∧ b_law_1 (Row7 a0 a1 n p q got bf af s x8) = .ok .nx (Row7 a0 a1 n p q got bf' af' s y8) := by
  have h1 : fMul (.int p) (.int s) = some (.int (p * s)) := fMul_ii (by omega)
  have h2 : fDiv (.int (p * s - 1)) (.int q) = some (.int ((p * s - 1) / q)) := fDiv_ii hq0 (by omega)
  have h3 : fDiv (.int (p * s)) (.int q) = some (.int (p * s / q)) := fDiv_ii hq0 (by omega)
  obtain ⟨cb, e1, tb'⟩ := hB s bf af hs hsn tb
  have l1 := lowest_ev ((p * s - 1) / q) s hs (by omega)
  have l2 := lowest_ev (p * s / q + 1) s hs (by omega)
  obtain ⟨ca, e2, ta'⟩ := hA s (if cb then fr ((p * s - 1) / q / (Int.gcd ((p * s - 1) / q) s : Nat)) (s / (Int.gcd ((p * s - 1) / q) s : Nat)) else bf) af hs hsn ta
  refine ⟨_, _, some (.int (p * s / q + 1)), tb', ta', ?_⟩
  unfold b_law_1
  simp only [Row7, Option.map_some] at e1 e2 ⊢
  generalize (andM (bnd (bin fGe (gv 8) (ret (.int 0))) asB) (orM (bnd (bin fIsN (gv 5) (ret .none)) asB) (bnd (cpM m_law_fall (consM (gv 5) (consM (tupM (consM (gv 8) (consM (gv 7) (ret [])))) (ret [])))) asB))) = tst1 at e1 ⊢
  generalize (andM (bnd (bin fLe (gv 8) (gv 7)) asB) (orM (bnd (bin fIsN (gv 6) (ret .none)) asB) (bnd (cpM m_law_fall (consM (tupM (consM (gv 8) (consM (gv 7) (ret [])))) (consM (gv 6) (ret [])))) asB))) = tst2 at e2 ⊢
  cases x8 <;> cases cb <;> cases ca <;> simp at e1 e2 <;> simp [h1, h2, h3, e1, e2, l1, l2]
theorem loop7 {TB TA : Int → D → Prop} (hB : TestB a0 a1 n p q got TB) (hA : TestA a0 a1 n p q got TA) (hq0 : 0 < q) (hq : q ≤ 1000) (hp : p.natAbs ≤ 1000) (hn : n ≤ 1000) : ∀ (k : Nat) (s : Int) (bf af : D) (x7 x8 : Option D), 0 < s → s + k = n + 1 → TB s bf → TA s af →
    ∃ bf' af' : D, ∃ y7 y8 : Option D, TB (n + 1) bf' ∧ TA (n + 1) af' ∧ forM (gN 7) b_law_1 (upto s k) [some a0, some a1, some (.v (.int n)), some (.v (fr p q)), some (.v got), some (.v bf), some (.v af), x7.map Bd.v, x8.map Bd.v] = .ok .nx [some a0, some a1, some (.v (.int n)), some (.v (fr p q)), some (.v got), some (.v bf'), some (.v af'), y7.map Bd.v, y8.map Bd.v] := by
  intro k
  induction k with
  | zero =>
    intro s bf af x7 x8 hs hk tb ta
    obtain rfl : s = n + 1 := by omega
    exact ⟨bf, af, x7, x8, tb, ta, rfl⟩
  | succ k ih =>
    intro s bf af x7 x8 hs hk tb ta
    obtain ⟨b1, a1', y8, tb1, ta1, e1⟩ := turn7 hB hA hq0 hq hp hn hs (by omega) tb ta x8
    obtain ⟨b2, a2, z7, z8, tb2, ta2, e2⟩ := ih (s + 1) b1 a1' (some (.int s)) y8 (by omega) (by omega) tb1 ta1
    refine ⟨b2, a2, z7, z8, tb2, ta2, ?_⟩
    rw [upto_s]
    simp only [Row7, Option.map_some] at e1 e2 ⊢
    generalize b_law_1 = w at e1 e2 ⊢
    cases x7 <;> simp [e1, e2]
end
theorem testB_some {a0 a1 : Bd} {n p q A B : Int} {got : D} (hq0 : 0 < q) (hp0 : 0 < p) (hpq : p ≤ q) (hn : n ≤ 300) (hB : 0 < B) (hBn : B ≤ n) (det : p * B - q * A = 1) (hi : n < B + q) (gA : Int.gcd A B = 1) : TestB a0 a1 n p q got fun s bf => Trk (· ≤ ·) A B (B < s) bf := by
  intro s bf af hs hsn tb
  have m0 := Int.emod_nonneg (p * s - 1) (show q ≠ 0 by omega)
  have m1 := Int.emod_lt_of_pos (p * s - 1) hq0
  have m2 : (p * s - 1) % q + q * ((p * s - 1) / q) = p * s - 1 := Int.emod_add_mul_ediv (p * s - 1) q
  have k1 : p * s ≤ q * s := Int.mul_le_mul_of_nonneg_right hpq (by omega)
  have k0 : 0 ≤ p * s := Int.mul_nonneg (by omega) (by omega)
  have ob : ((p * s - 1) / q).natAbs ≤ 1000 := by
    have u1 : (p * s - 1) / q ≤ s := by
      refine Int.le_of_mul_le_mul_left (a := q) ?_ hq0
      omega
    have u2 : -1 ≤ (p * s - 1) / q := by
      refine Int.le_of_mul_le_mul_left (a := q) ?_ hq0
      omega
    omega
  have cand : 0 ≤ (p * s - 1) / q → (p * s - 1) / q * B ≤ A * s := fun _ => by
    generalize (p * s - 1) / q = o at *
    have e : q * (A * s - o * B) = B * (p * s - q * o) - s := by grind
    have b1 : B * 1 ≤ B * (p * s - q * o) := Int.mul_le_mul_of_nonneg_left (by omega) (by omega)
    have : q * (-1) < q * (A * s - o * B) := by omega
    have := Int.lt_of_mul_lt_mul_left this (by omega)
    omega
  obtain ⟨cb, e, t⟩ := test_b (a0 := a0) (a1 := a1) (n := n) (p := p) (q := q) (got := got) (af := af) hs (by omega) ob hB gA cand tb
  refine ⟨cb, e, t.imp fun z => ?_⟩
  by_cases y : B < s
  · exact .inl y
  · obtain rfl : B = s := by omega
    have ea : (p * B - 1) / q = A := by
      rw [show p * B - 1 = q * A by omega, Int.mul_ediv_cancel_left _ (by omega)]
    refine .inr ⟨?_, by rw [ea]⟩
    rw [ea]
    have : q * (-1) < q * A := by
      have := Int.mul_le_mul_of_nonneg_right (show 1 ≤ p by omega) (show 0 ≤ B by omega)
      omega
    have := Int.lt_of_mul_lt_mul_left this (by omega)
    omega
theorem testA_some {a0 a1 : Bd} {n p q A B : Int} {got : D} (hq0 : 0 < q) (hp0 : 0 ≤ p) (hpq : p < q) (hn : n ≤ 300) (hB : 0 < B) (hBn : B ≤ n) (det : q * A - p * B = 1) (hi : n < B + q) (gA : Int.gcd A B = 1) : TestA a0 a1 n p q got fun s af => Trk (fun x y => y ≤ x) A B (B < s) af := by
  intro s bf af hs hsn tb
  have m0 := Int.emod_nonneg (p * s) (show q ≠ 0 by omega)
  have m1 := Int.emod_lt_of_pos (p * s) hq0
  have m2 : (p * s) % q + q * (p * s / q) = p * s := Int.emod_add_mul_ediv (p * s) q
  have k1 : p * s ≤ q * s := Int.mul_le_mul_of_nonneg_right (by omega) (by omega)
  have k0 : 0 ≤ p * s := Int.mul_nonneg hp0 (by omega)
  have ob : (p * s / q + 1).natAbs ≤ 1000 := by
    have u1 : p * s / q ≤ s := by
      refine Int.le_of_mul_le_mul_left (a := q) ?_ hq0
      omega
    have u2 : -1 ≤ p * s / q := by
      refine Int.le_of_mul_le_mul_left (a := q) ?_ hq0
      omega
    omega
  have cand : p * s / q + 1 ≤ s → A * s ≤ (p * s / q + 1) * B := fun _ => by
    have up : q * (p * s / q + 1) = q * (p * s / q) + q := by rw [Int.mul_add, Int.mul_one]
    generalize p * s / q + 1 = o at *
    generalize p * s / q = o' at *
    have e : q * (o * B - A * s) = B * (q * o - p * s) - s := by grind
    have b1 : B * 1 ≤ B * (q * o - p * s) := Int.mul_le_mul_of_nonneg_left (by omega) (by omega)
    have : q * (-1) < q * (o * B - A * s) := by omega
    have := Int.lt_of_mul_lt_mul_left this (by omega)
    omega
  obtain ⟨cb, e, t⟩ := test_a (a0 := a0) (a1 := a1) (n := n) (p := p) (q := q) (got := got) (bf := bf) hs (by omega) ob hB gA cand tb
  refine ⟨cb, e, t.imp fun z => ?_⟩
  by_cases y : B < s
  · exact .inl y
  · obtain rfl : B = s := by omega
    have ea : p * B / q + 1 = A := by
      have v1 : q * (A - 1) ≤ q * (p * B / q) := by
        rw [Int.mul_sub, Int.mul_one]
        by_cases z1 : q = 1
        · subst z1
          omega
        · by_cases zz : q * A - q ≤ q * (p * B / q)
          · exact zz
          · have h5 : q * (p * B / q) < q * (A - 1) := by
              rw [Int.mul_sub, Int.mul_one]
              omega
            have h6 := Int.lt_of_mul_lt_mul_left h5 (by omega)
            have h7 := Int.mul_le_mul_of_nonneg_left (show p * B / q + 1 ≤ A - 1 by omega) (show 0 ≤ q by omega)
            rw [Int.mul_add, Int.mul_one, Int.mul_sub, Int.mul_one] at h7
            omega
      have v2 : q * (p * B / q) < q * A := by omega
      have w1 := Int.le_of_mul_le_mul_left v1 hq0
      have w2 := Int.lt_of_mul_lt_mul_left v2 (by omega)
      omega
    refine .inr ⟨?_, by rw [ea]⟩
    rw [ea]
    have k5 : p * B ≤ (q - 1) * B := Int.mul_le_mul_of_nonneg_right (by omega) (by omega)
    rw [Int.sub_mul, Int.one_mul] at k5
    exact Int.le_of_mul_le_mul_left (a := q) (by omega) hq0
theorem testB_none {a0 a1 : Bd} {n : Int} {got : D} : TestB a0 a1 n 0 1 got fun s bf => bf = .none := by
  intro s bf af hs hsn tb
  refine ⟨false, ?_, by simpa using tb⟩
  simp
theorem testA_none {a0 a1 : Bd} {n : Int} {got : D} : TestA a0 a1 n 1 1 got fun s bf => bf = .none := by
  intro s bf af hs hsn tb
  refine ⟨false, ?_, by simpa using tb⟩
  have h : decide (s + 1 ≤ s) = false := decide_eq_false (by omega)
  simp only [Int.one_mul, Int.ediv_one]
  simp [h]
theorem sh2 {a b : D} (ha : a = .none ∨ ∃ p q, a = fr p q) (hb : b = .none ∨ ∃ p q, b = fr p q) : SeqAt.shaped (.tuple [a, b]) = true := by
  rcases ha with rfl | ⟨p, q, rfl⟩ <;> rcases hb with rfl | ⟨r, s, rfl⟩ <;> simp [SeqAt.shaped, PyData.canLay0, PyData.canLayAll0, PyData.depth, PyData.depthAll]
theorem eqB_self {d : D} (h : SeqAt.shaped d = true) : eqB d d = some true := by
  unfold eqB
  rw [norm_shaped h, h, SeqAt.eqv_refl d (SeqAt.canLay_of_shaped h)]
  rfl
theorem ask_bad {n p q : Int} (hn : 1 ≤ n) (hn2 : n ≤ 9999) (F : Fr p q) (h : q = 0 ∨ n < q ∨ p < 0 ∨ q < p) : m_law_ask [.v (.int n), .v (fr p q)] = .ok (whD .fr) [.v (.int n), .v (fr p q)] := by
  have i1 := is_integer_ev n 1 9999
  have e := F.ev
  simp only [hn, hn2, decide_true, Bool.and_self] at i1
  unfold m_law_ask c_law_ask m_beside_in_row c_beside_in_row
  by_cases h1 : 1 ≤ q <;> by_cases h2 : q ≤ n <;> by_cases h3 : 0 ≤ p <;> by_cases h4 : p ≤ q <;> first | omega | simp [i1, e, h1, h2, h3, h4]
theorem ask_0 {n : Int} (hn : 1 ≤ n) (hn2 : n ≤ 9999) : m_law_ask [.v (.int n), .v (fr 0 1)] = .ok (.tuple [.none, fr 1 n]) [.v (.int n), .v (fr 0 1)] := by
  have i1 := is_integer_ev n 1 9999
  have e := Fr.ev (p := 0) (q := 1) ⟨by omega, by omega, by omega, by omega, by simp, .inl (by omega)⟩
  simp only [hn, hn2, decide_true, Bool.and_self] at i1
  unfold m_law_ask c_law_ask m_beside_in_row c_beside_in_row
  simp [i1, e, hn]
theorem ask_1 {n : Int} (hn : 1 ≤ n) (hn2 : n ≤ 9999) : m_law_ask [.v (.int n), .v (fr 1 1)] = .ok (.tuple [fr (n - 1) n, .none]) [.v (.int n), .v (fr 1 1)] := by
  have i1 := is_integer_ev n 1 9999
  have e := Fr.ev (p := 1) (q := 1) ⟨by omega, by omega, by omega, by omega, by simp, .inl (by omega)⟩
  simp only [hn, hn2, decide_true, Bool.and_self] at i1
  unfold m_law_ask c_law_ask m_beside_in_row c_beside_in_row
  simp [i1, e, hn]
theorem ask_in {n p q : Int} (hn : 1 ≤ n) (hn2 : n ≤ 9999) (F : Fr p q) (h1 : 1 < q) (h2 : q ≤ n) (h3 : 0 ≤ p) (h4 : p ≤ q) :
    ∃ A B C E : Int, m_law_ask [.v (.int n), .v (fr p q)] = .ok (.tuple [fr A B, fr C E]) [.v (.int n), .v (fr p q)] ∧ 0 < B ∧ B ≤ n ∧ n < B + q ∧ p * B - q * A = 1 ∧ 0 < E ∧ E ≤ n ∧ n < E + q ∧ q * C - p * E = 1 := by
  have i1 := is_integer_ev n 1 9999
  have e := F.ev
  simp only [hn, hn2, decide_true, Bool.and_self] at i1
  obtain ⟨a, b, c, d, pe, s1, s2, b0, d0, det⟩ := parents_ev F h1
  obtain ⟨t, t1, t2, t3, r1⟩ := raised_ev (a := a) (b := b) (p := p) (q := q) (n := n) (by omega) F.q1 (by omega) hn2 b0 (by omega)
  obtain ⟨u, u1, u2, u3, r2⟩ := raised_ev (a := c) (b := d) (p := p) (q := q) (n := n) (by omega) F.q1 (by omega) hn2 d0 (by omega)
  have tq := Int.mul_nonneg t3 (show 0 ≤ q by omega)
  have uq := Int.mul_nonneg u3 (show 0 ≤ q by omega)
  refine ⟨a + t * p, b + t * q, c + u * p, d + u * q, ?_, by omega, by omega, by omega, ?_, by omega, by omega, by omega, ?_⟩
  · have k1 : 1 ≤ q := by omega
    have k2 : ¬ q = 1 := by omega
    unfold m_law_ask c_law_ask m_beside_in_row c_beside_in_row
    simp [i1, e, k1, h2, h3, h4, k2, pe, asgG, gT, gC, gE, r1, r2]
  · have : p * (b + t * q) - q * (a + t * p) = c * b - a * d := by
      subst s1 s2
      grind
    omega
  · have : q * (c + u * p) - p * (d + u * q) = c * b - a * d := by
      subst s1 s2
      grind
    omega
theorem end7 {a0 a1 : Bd} {n p q : Int} {got : D} {TB TA : Int → D → Prop} (hB : TestB a0 a1 n p q got TB) (hA : TestA a0 a1 n p q got TA) (hq0 : 0 < q) (hq : q ≤ n) (hp0 : 0 ≤ p) (hpq : p ≤ q) (hn0 : 1 ≤ n) (hn : n ≤ 300) (tb : TB 1 .none) (ta : TA 1 .none) (x7 : Option D)
    (fin : ∀ bf af, TB (n + 1) bf → TA (n + 1) af → got = .tuple [bf, af] ∧ SeqAt.shaped got = true) : ∃ r, t_law_5 [some a0, some a1, some (.v (.int n)), some (.v (fr p q)), some (.v got), none, none, x7.map Bd.v, none] = .ok (.rt (.bool true)) (some a0 :: r) := by
  obtain ⟨bf, af, y7, y8, tb', ta', el⟩ := loop7 hB hA hq0 (by omega) (by omega) (by omega) n.toNat 1 .none .none x7 none (by omega) (by omega) tb ta
  obtain ⟨eg, sg⟩ := fin bf af tb' ta'
  have rg : rng2 [.int 1, .int (n + 1)] = some (upto 1 n.toNat) := by
    rw [rng2_i (by omega) (by omega) (by omega) (by omega)]
    congr 2
    omega
  have es := eqB_self sg
  have h1 : ¬ q = 0 := by omega
  have h2 : ¬ n < q := by omega
  refine ⟨[some a1, some (.v (.int n)), some (.v (fr p q)), some (.v got), some (.v bf), some (.v af), y7.map Bd.v, y8.map Bd.v], ?_⟩
  unfold t_law_5 t_law_6 t_law_7 t_law_8
  simp only [Option.map_none] at el
  generalize b_law_1 = w at el ⊢
  rw [← eg.symm] at es
  simp [h1, h2, hp0, hpq, asgG, gT, gC, gE, rg, el, ← eg, es]
  rw [eg, es]
  rfl
theorem keeps_law : Keeps m_law := by
  intro ns hn
  obtain ⟨d0, z0, a0, b0, l0, e0⟩ := draw_at (r := [some (.v (scrD ns)), some (.o false (.lst [])), none, none, none, none, none, none, none]) (i := 0) (j := 1) (many := 40) (cm := ret (.int 40)) hn (by simp) (by omega) rfl rfl rfl
  obtain ⟨n, hnn⟩ : ∃ n, n = 1 + d0 := ⟨_, rfl⟩
  obtain ⟨p0, q0, z1, s1, l1, e1⟩ := some_at (r := [some (.v (scrD ns)), some (.o false (.lst z0)), some (.v (.int n)), none, none, none, none, none, none]) (i := 0) (j := 1) (most := 45) (cm := ret (.int 45)) hn (by simp at l0; omega) (by omega) (by omega) rfl rfl rfl
  obtain ⟨d2, z2, a2, b2, l2, e2⟩ := draw_at (r := [some (.v (scrD ns)), some (.o false (.lst z1)), some (.v (.int n)), some (.v (fr p0 q0)), none, none, none, none, none]) (i := 0) (j := 1) (many := 4) (cm := ret (.int 4)) hn (by simp at l0 l1; omega) (by omega) rfl rfl rfl
  have e0 : coM m_law_draw (consH (mh (gv 0)) (consH (go 1) (consH (mh (ret (PyData.int 40))) (ret [])))) [some (.v (scrD ns)), some (.o false (.lst [])), none, none, none, none, none, none, none] = .ok (.int d0) [some (.v (scrD ns)), some (.o false (.lst z0)), none, none, none, none, none, none, none] := e0
  simp only [List.set] at e1 e2
  simp at l0
  -- from the fraction on
  have main : ∀ (zs : List D) (p q : Int) (x7 : Option D), Fr p q → ∃ r, t_law_4 [some (.v (scrD ns)), some (.o false (.lst zs)), some (.v (.int n)), some (.v (fr p q)), none, none, none, x7.map Bd.v, none] = .ok (.rt (.bool true)) (some (.v (scrD ns)) :: r) := by
    intro zs p q x7 F
    by_cases bad : q = 0 ∨ n < q ∨ p < 0 ∨ q < p
    · have a := ask_bad (by omega) (by omega) F bad
      have eqw : eqB (whD .fr) (.tuple [.str "raised", .int 0]) = some true := by kernel_rfl
      refine ⟨[some (.o false (.lst zs)), some (.v (.int n)), some (.v (fr p q)), some (.v (whD .fr)), none, none, x7.map Bd.v, none], ?_⟩
      unfold t_law_4 t_law_5
      by_cases h1 : q = 0
      · simp [a, h1, eqw]
        subst h1
        simp [a, eqw]
      · by_cases h2 : n < q <;> by_cases h3 : 0 ≤ p <;> by_cases h4 : p ≤ q <;> first | omega | simp [a, h1, h2, h3, h4, eqw]
    · have g : Int.gcd p q = 1 := by have := F.co; omega
      by_cases c0 : p = 0
      · subst c0
        have : q = 1 := by
          rw [Int.gcd_zero_left] at g
          omega
        subst this
        have a := ask_0 (n := n) (by omega) (by omega)
        obtain ⟨r, er⟩ := end7 (a0 := .v (scrD ns)) (a1 := .o false (.lst zs)) (n := n) (p := 0) (q := 1) (got := .tuple [.none, fr 1 n]) testB_none (testA_some (A := 1) (B := n) (by omega) (by omega) (by omega) (by omega) (by omega) (by omega) (by omega) (by omega) (by simp)) (by omega) (by omega) (by omega) (by omega) (by omega) (by omega) rfl (.inl ⟨rfl, by omega⟩) x7 (fun bf af h1 h2 => by
          rcases h2 with ⟨_, h⟩ | ⟨x, y, _, _, _, h3, _, _, h4⟩
          · exact (h (by omega)).elim
          · obtain ⟨rfl, rfl⟩ := h4 (by omega)
            exact ⟨by rw [h1, h3], sh2 (.inl rfl) (.inr ⟨_, _, rfl⟩)⟩)
        refine ⟨r, ?_⟩
        unfold t_law_4
        generalize t_law_5 = w at er ⊢
        simp [a, er]
      · by_cases c1 : q = 1
        · subst c1
          obtain rfl : p = 1 := by omega
          have a := ask_1 (n := n) (by omega) (by omega)
          obtain ⟨r, er⟩ := end7 (a0 := .v (scrD ns)) (a1 := .o false (.lst zs)) (n := n) (p := 1) (q := 1) (got := .tuple [fr (n - 1) n, .none]) (testB_some (A := n - 1) (B := n) (by omega) (by omega) (by omega) (by omega) (by omega) (by omega) (by omega) (by omega) (gcd_of_det (c := 1) (d := 1) (by omega))) testA_none (by omega) (by omega) (by omega) (by omega) (by omega) (by omega) (.inl ⟨rfl, by omega⟩) rfl x7 (fun bf af h2 h1 => by
            rcases h2 with ⟨_, h⟩ | ⟨x, y, _, _, _, h3, _, _, h4⟩
            · exact (h (by omega)).elim
            · obtain ⟨rfl, rfl⟩ := h4 (by omega)
              exact ⟨by rw [h1, h3], sh2 (.inr ⟨_, _, rfl⟩) (.inl rfl)⟩)
          refine ⟨r, ?_⟩
          unfold t_law_4
          generalize t_law_5 = w at er ⊢
          simp [a, er]
        · obtain ⟨A, B, C, E, a, B0, B1, B2, dB, E0, E1, E2, dE⟩ := ask_in (n := n) (by omega) (by omega) F (by omega) (by omega) (by omega) (by omega)
          have pq : p < q := by
            by_cases z : p = q
            · subst z
              rw [Int.gcd_self] at g
              omega
            · omega
          have gA : Int.gcd A B = 1 := gcd_of_det (c := p) (d := q) (by rw [Int.mul_comm A q]; exact dB)
          have gC : Int.gcd C E = 1 := by
            refine gcd_of_det (c := -p) (d := -q) ?_
            have : -p * E - C * -q = q * C - p * E := by grind
            omega
          obtain ⟨r, er⟩ := end7 (a0 := .v (scrD ns)) (a1 := .o false (.lst zs)) (n := n) (p := p) (q := q) (got := .tuple [fr A B, fr C E]) (testB_some (A := A) (B := B) (by omega) (by omega) (by omega) (by omega) B0 B1 dB B2 gA) (testA_some (A := C) (B := E) (by omega) (by omega) (by omega) (by omega) E0 E1 dE E2 gC) (by omega) (by omega) (by omega) (by omega) (by omega) (by omega) (.inl ⟨rfl, by omega⟩) (.inl ⟨rfl, by omega⟩) x7 (fun bf af h1 h2 => by
            rcases h1 with ⟨_, h⟩ | ⟨x, y, _, _, _, h3, _, _, h4⟩
            · exact (h (by omega)).elim
            · obtain ⟨rfl, rfl⟩ := h4 (by omega)
              rcases h2 with ⟨_, h⟩ | ⟨x', y', _, _, _, h3', _, _, h4'⟩
              · exact (h (by omega)).elim
              · obtain ⟨rfl, rfl⟩ := h4' (by omega)
                exact ⟨by rw [h3', h3], sh2 (.inr ⟨_, _, rfl⟩) (.inr ⟨_, _, rfl⟩)⟩)
          refine ⟨r, ?_⟩
          unfold t_law_4
          generalize t_law_5 = w at er ⊢
          simp [a, er]
  have three : ∃ r, t_law_3 [some (.v (scrD ns)), some (.o false (.lst z1)), some (.v (.int n)), some (.v (fr p0 q0)), none, none, none, none, none] = .ok (.rt (.bool true)) (some (.v (scrD ns)) :: r) := by
    by_cases h : 0 < d2
    · obtain ⟨d3, z3, a3, b3, l3, e3⟩ := draw_at (r := [some (.v (scrD ns)), some (.o false (.lst z2)), some (.v (.int n)), some (.v (fr p0 q0)), none, none, none, none, none]) (i := 0) (j := 1) (many := n) (cm := gv 2) hn (by omega) (by omega) rfl rfl rfl
      obtain ⟨q, hq⟩ : ∃ q, q = 1 + d3 := ⟨_, rfl⟩
      have hh : fAdd (.int q) (.int 1) = some (.int (q + 1)) := rfl
      obtain ⟨d4, z4, a4, b4, l4, e4⟩ := draw_at (r := [some (.v (scrD ns)), some (.o false (.lst z3)), some (.v (.int n)), some (.v (fr p0 q0)), none, none, none, some (.v (.int q)), none]) (i := 0) (j := 1) (many := q + 1) (cm := bin fAdd (gv 7) (ret (.int 1))) hn (by omega) (by omega) rfl rfl (by simp)
      have lw := lowest_ev d4 q (by omega) (by omega)
      have sf := lowest_sf (p := d4) (q := q) (most := 45) (by omega) (by omega) (by omega) (by omega)
      have F : Fr (d4 / (Int.gcd d4 q : Nat)) (q / (Int.gcd d4 q : Nat)) := (Sf.mk (.inr sf)).fr (by omega)
      obtain ⟨r, er⟩ := main z4 _ _ (some (.int q)) F
      refine ⟨r, ?_⟩
      unfold t_law_3
      simp only [List.set] at e3 e4
      simp only [Option.map_some] at er
      generalize t_law_4 = w at er ⊢
      simp [e2, h, e3, ← hq, e4, lw, er]
    · obtain ⟨r, er⟩ := main z2 p0 q0 none (s1.fr (by omega))
      refine ⟨r, ?_⟩
      unfold t_law_3
      simp only [Option.map_none] at er
      generalize t_law_4 = w at er ⊢
      simp [e2, h, er]
  obtain ⟨r, er⟩ := three
  refine ⟨[.v (scrD ns)], ?_⟩
  show endD [.v (scrD ns)] (c_law [some (.v (scrD ns)), none, none, none, none, none, none, none, none]) = _
  unfold c_law t_law_1 t_law_2
  generalize t_law_3 = t3 at er ⊢
  simp [e0, ← hnn, e1, er]
end Fg
set_option maxRecDepth 100000
set_option maxHeartbeats 4000000
namespace Fg
open PySem PySem.Spec PyProof.Rows L2
def topS (i : Nat) : Stmt := PySem.Challenge.pw_fracgraph_k07_whole_beside.main.body.getD i (.Pass ⟨0, 0, 0, 0⟩)
section
variable {P : Program} {w : World} {K : PySem.W.Frag} {mg : Str → Option Value} {base : Heap}
theorem sc_is_integer : FnScope ["value", "low", "high"] ["value", "low", "high"] (defScope (topS 17)) := ⟨rfl, rfl, rfl, by decide +kernel, rfl, by decide +kernel, by decide +kernel⟩
theorem ok_is_integer (d : Dfn K mg "is_integer" (topS 17) ["value", "low", "high"]) (z_bool : mg "bool" = none) (z_int : mg "int" = none) (z_isinstance : mg "isinstance" = none) : Cal P w K mg base "is_integer" ["value", "low", "high"] 1 m_is_integer := by
  refine cal_mk2 ["value", "low", "high"] 0 c_is_integer rfl rfl d sc_is_integer fun f cdv A outer s H E hr => ?_
  unfold c_is_integer
  exact (mb_one (ms_ret (me_and (me_isi (me_var (pv 0)) (by decide) rfl z_isinstance rfl z_int (by decide +kernel)) (me_and (me_not (me_isi (me_var (pv 0)) (by decide) rfl z_isinstance rfl z_bool (by decide +kernel))) (me_one (me_chain op_le op_le os_le os_le (me_var (pv 1)) (me_var (pv 0)) (me_var (pv 2))))))))
theorem sc_common_divisor : FnScope ["one", "other"] ["one", "other"] (defScope (topS 18)) := ⟨rfl, rfl, rfl, by decide +kernel, rfl, by decide +kernel, by decide +kernel⟩
theorem ok_common_divisor (d : Dfn K mg "common_divisor" (topS 18) ["one", "other"]) (z_max : mg "max" = none) : Cal P w K mg base "common_divisor" ["one", "other"] 1 m_common_divisor := by
  refine cal_mk2 ["one", "other"] 0 c_common_divisor rfl rfl d sc_common_divisor fun f cdv A outer s H E hr => ?_
  unfold c_common_divisor
  exact (mb_cons (ms_par (fun _ h => ps_par (i := 0) (j := 1) rfl sc_common_divisor.nd rfl rfl (by decide) rfl rfl h rfl) (ma_cons (me_callB (call_max2 rfl) os_max rfl z_max (by decide +kernel) (ma_cons (me_var (pv 0)) (ma_cons (me_bin op_sub os_sub me_int (me_var (pv 0))) ma_nil))) (ma_cons (me_callB (call_max2 rfl) os_max rfl z_max (by decide +kernel) (ma_cons (me_var (pv 1)) (ma_cons (me_bin op_sub os_sub me_int (me_var (pv 1))) ma_nil))) ma_nil)))
  (mb_cons (ms_while 100000 (passes_of rfl) (mt_cmp op_gt os_gt (me_var (pv 1)) me_int (nomark _)) (mb_one (ms_par (fun _ h => ps_par (i := 0) (j := 1) rfl sc_common_divisor.nd rfl rfl (by decide) rfl rfl h rfl) (ma_cons (me_var (pv 1)) (ma_cons (me_bin op_mod os_mod (me_var (pv 0)) (me_var (pv 1))) ma_nil)))))
  (mb_one (ms_ret (me_var (pv 0))))))
theorem sc_is_reduced : FnScope ["value", "limit"] ["value", "limit"] (defScope (topS 19)) := ⟨rfl, rfl, rfl, by decide +kernel, rfl, by decide +kernel, by decide +kernel⟩
theorem ok_is_reduced (d : Dfn K mg "is_reduced" (topS 19) ["value", "limit"]) (z_isinstance : mg "isinstance" = none) (z_len : mg "len" = none) (z_tuple : mg "tuple" = none) (C_is_integer : Cal P w K mg base "is_integer" ["value", "low", "high"] 1 m_is_integer) (C_common_divisor : Cal P w K mg base "common_divisor" ["one", "other"] 1 m_common_divisor) : Cal P w K mg base "is_reduced" ["value", "limit"] 2 m_is_reduced := by
  refine cal_mk2 ["value", "limit"] 1 c_is_reduced rfl rfl d sc_is_reduced fun f cdv A outer s H E hr => ?_
  unfold c_is_reduced
  exact (mb_cons (ms_if (mw_pt (mw_or (mt_not (mt_val (me_isi (me_var (pv 0)) (by decide) rfl z_isinstance rfl z_tuple (by decide +kernel)))) (mw_or1 (mt_cmp (op_neD hr.units) os_ne (me_call1B call_lenA os_len rfl z_len PySem.boot_len (mp_val (me_var (pv 0)))) me_int (nomark _))))) (mb_one (ms_ret me_bl)) mb_nil)
  (mb_cons (ms_if (mw_pt (mw_or (mt_not (mt_val (me_cp C_is_integer (L2N.takes_of rfl rfl rfl rfl) hr (by decide) rfl (ma_cons (me_ixE (me_var (pv 0)) me_int (fun _ _ => rfl)) (ma_cons (me_bin op_sub os_sub me_int (me_var (pv 1))) (ma_cons (me_var (pv 1)) ma_nil))) (len_cons (len_cons (len_cons (fun _ _ _ h => len_nil h))))))) (mw_or1 (mt_not (mt_val (me_cp C_is_integer (L2N.takes_of rfl rfl rfl rfl) hr (by decide) rfl (ma_cons (me_ixE (me_var (pv 0)) me_int (fun _ _ => rfl)) (ma_cons me_int (ma_cons (me_var (pv 1)) ma_nil))) (len_cons (len_cons (len_cons (fun _ _ _ h => len_nil h)))))))))) (mb_one (ms_ret me_bl)) mb_nil)
  (mb_one (ms_ret (me_and (me_cmp (op_eqD hr.units) os_eq (me_cp C_common_divisor (L2N.takes_of rfl rfl rfl rfl) hr (by decide) rfl (ma_cons (me_ixE (me_var (pv 0)) me_int (fun _ _ => rfl)) (ma_cons (me_ixE (me_var (pv 0)) me_int (fun _ _ => rfl)) ma_nil)) (len_cons (len_cons (fun _ _ _ h => len_nil h)))) me_int (nomark _)) (me_one (me_or (me_cmp op_gt os_gt (me_ixE (me_var (pv 0)) me_int (fun _ _ => rfl)) me_int (nomark _)) (me_one (me_cmp (op_eqD hr.units) os_eq (me_ixE (me_var (pv 0)) me_int (fun _ _ => rfl)) me_int (nomark _))))))))))
theorem sc_is_fraction : FnScope ["value"] ["value"] (defScope (topS 20)) := ⟨rfl, rfl, rfl, by decide +kernel, rfl, by decide +kernel, by decide +kernel⟩
theorem ok_is_fraction (d : Dfn K mg "is_fraction" (topS 20) ["value"]) (k_LARGEST : Con K mg "LARGEST" (.int 9999)) (C_is_reduced : Cal P w K mg base "is_reduced" ["value", "limit"] 2 m_is_reduced) : Cal P w K mg base "is_fraction" ["value"] 3 m_is_fraction := by
  refine cal_mk2 ["value"] 2 c_is_fraction rfl rfl d sc_is_fraction fun f cdv A outer s H E hr => ?_
  unfold c_is_fraction
  exact (mb_one (ms_ret (me_cp C_is_reduced (L2N.takes_of rfl rfl rfl rfl) hr (by decide) rfl (ma_cons (me_var (pv 0)) (ma_cons (me_gl k_LARGEST rfl) ma_nil)) (len_cons (len_cons (fun _ _ _ h => len_nil h))))))
theorem sc_cross : FnScope ["one", "other"] ["one", "other"] (defScope (topS 21)) := ⟨rfl, rfl, rfl, by decide +kernel, rfl, by decide +kernel, by decide +kernel⟩
theorem ok_cross (d : Dfn K mg "cross" (topS 21) ["one", "other"]) : Cal P w K mg base "cross" ["one", "other"] 1 m_cross := by
  refine cal_mk2 ["one", "other"] 0 c_cross rfl rfl d sc_cross fun f cdv A outer s H E hr => ?_
  unfold c_cross
  exact (mb_one (ms_ret (me_bin op_sub os_sub (me_bin op_times os_mul (me_ixE (me_var (pv 0)) me_int (fun _ _ => rfl)) (me_ixE (me_var (pv 1)) me_int (fun _ _ => rfl))) (me_bin op_times os_mul (me_ixE (me_var (pv 0)) me_int (fun _ _ => rfl)) (me_ixE (me_var (pv 1)) me_int (fun _ _ => rfl))))))
theorem sc_less : FnScope ["one", "other"] ["one", "other"] (defScope (topS 22)) := ⟨rfl, rfl, rfl, by decide +kernel, rfl, by decide +kernel, by decide +kernel⟩
theorem ok_less (d : Dfn K mg "less" (topS 22) ["one", "other"]) (C_cross : Cal P w K mg base "cross" ["one", "other"] 1 m_cross) : Cal P w K mg base "less" ["one", "other"] 2 m_less := by
  refine cal_mk2 ["one", "other"] 1 c_less rfl rfl d sc_less fun f cdv A outer s H E hr => ?_
  unfold c_less
  exact (mb_one (ms_ret (me_cmp op_lt os_lt (me_cp C_cross (L2N.takes_of rfl rfl rfl rfl) hr (by decide) rfl (ma_cons (me_var (pv 0)) (ma_cons (me_var (pv 1)) ma_nil)) (len_cons (len_cons (fun _ _ _ h => len_nil h)))) me_int (nomark _))))
theorem sc_terms_of : FnScope ["fraction", "p", "q", "result"] ["fraction"] (defScope (topS 23)) := ⟨rfl, rfl, rfl, by decide +kernel, rfl, by decide +kernel, by decide +kernel⟩
theorem ok_terms_of (d : Dfn K mg "terms_of" (topS 23) ["fraction"]) : Cal P w K mg base "terms_of" ["fraction"] 1 m_terms_of := by
  refine cal_mk2 ["fraction", "p", "q", "result"] 0 c_terms_of rfl rfl d sc_terms_of fun f cdv A outer s H E hr => ?_
  unfold c_terms_of
  exact (mb_cons (ms_asg (me_var (pv 0)) (mg_tup rfl (mgs_cons (mg_name (i := 1) sc_terms_of.nd rfl (by first | exact .inl rfl | exact .inr rfl)) (mgs_cons (mg_name (i := 2) sc_terms_of.nd rfl (by first | exact .inl rfl | exact .inr rfl)) mgs_nil))))
  (mb_cons (ms_own (i := 3) sc_terms_of.nd rfl (by first | exact .inl rfl | exact .inr rfl) (mo_lst ma_nil))
  (mb_cons (ms_while 100000 (passes_of rfl) (mt_cmp op_gt os_gt (me_var (pv 2)) me_int (nomark _)) (mb_cons (ms_expr (me_app (pv 3) (me_bin op_fdiv os_div (me_var (pv 1)) (me_var (pv 2))) (fun h => pe_bm PySem.F.plainAttrs_list PySem.F.slot_list_append PySem.F.type_list_append mt_append (pv 3) (pa_cons h pa_nil))))
  (mb_one (ms_par (fun _ h => ps_par (i := 1) (j := 2) rfl sc_terms_of.nd rfl rfl (by decide) rfl rfl h rfl) (ma_cons (me_var (pv 2)) (ma_cons (me_bin op_mod os_mod (me_var (pv 1)) (me_var (pv 2))) ma_nil))))))
  (mb_frz (i := 3) (mb_one (ms_ret (me_var (pv 3))))))))
theorem sc_value_of : FnScope ["terms", "p", "q", "term"] ["terms"] (defScope (topS 24)) := ⟨rfl, rfl, rfl, by decide +kernel, rfl, by decide +kernel, by decide +kernel⟩
theorem ok_value_of (d : Dfn K mg "value_of" (topS 24) ["terms"]) : Cal P w K mg base "value_of" ["terms"] 1 m_value_of := by
  refine cal_mk2 ["terms", "p", "q", "term"] 0 c_value_of rfl rfl d sc_value_of fun f cdv A outer s H E hr => ?_
  unfold c_value_of
  exact (mb_cons (ms_asg (me_tup (ma_cons me_int (ma_cons me_int ma_nil))) (mg_tup rfl (mgs_cons (mg_name (i := 1) sc_value_of.nd rfl (by first | exact .inl rfl | exact .inr rfl)) (mgs_cons (mg_name (i := 2) sc_value_of.nd rfl (by first | exact .inl rfl | exact .inr rfl)) mgs_nil))))
  (mb_cons (ms_for (passes_of rfl) rfl (mi_list (me_rev (mp_val (me_var (pv 0))))) (mg_name (i := 3) sc_value_of.nd rfl (by first | exact .inl rfl | exact .inr rfl)) (mb_one (ms_par (fun _ h => ps_par (i := 1) (j := 2) rfl sc_value_of.nd rfl rfl (by decide) rfl rfl h rfl) (ma_cons (me_bin op_plus os_add (me_bin op_times os_mul (me_var (pv 3)) (me_var (pv 1))) (me_var (pv 2))) (ma_cons (me_var (pv 1)) ma_nil)))))
  (mb_one (ms_ret (me_tup (ma_cons (me_var (pv 1)) (ma_cons (me_var (pv 2)) ma_nil)))))))
theorem sc_parents_of : FnScope ["fraction", "terms", "one", "other"] ["fraction"] (defScope (topS 25)) := ⟨rfl, rfl, rfl, by decide +kernel, rfl, by decide +kernel, by decide +kernel⟩
theorem ok_parents_of (d : Dfn K mg "parents_of" (topS 25) ["fraction"]) (C_less : Cal P w K mg base "less" ["one", "other"] 2 m_less) (C_terms_of : Cal P w K mg base "terms_of" ["fraction"] 1 m_terms_of) (C_value_of : Cal P w K mg base "value_of" ["terms"] 1 m_value_of) : Cal P w K mg base "parents_of" ["fraction"] 3 m_parents_of := by
  refine cal_mk2 ["fraction", "terms", "one", "other"] 2 c_parents_of rfl rfl d sc_parents_of fun f cdv A outer s H E hr => ?_
  unfold c_parents_of
  exact (mb_cons (ms_set (i := 1) sc_parents_of.nd rfl (by first | exact .inl rfl | exact .inr rfl) (me_cp C_terms_of (L2N.takes_of rfl rfl rfl rfl) hr (by decide) rfl (ma_cons (me_var (pv 0)) ma_nil) (len_cons (fun _ _ _ h => len_nil h))))
  (mb_cons (ms_set (i := 2) sc_parents_of.nd rfl (by first | exact .inl rfl | exact .inr rfl) (me_cp C_value_of (L2N.takes_of rfl rfl rfl rfl) hr (by decide) rfl (ma_cons (me_cut (mp_val (me_var (pv 1))) mo_none (mo_some (me_neg me_int))) ma_nil) (len_cons (fun _ _ _ h => len_nil h))))
  (mb_cons (ms_set (i := 3) sc_parents_of.nd rfl (by first | exact .inl rfl | exact .inr rfl) (me_tup (ma_cons (me_bin op_sub os_sub (me_ixE (me_var (pv 0)) me_int (fun _ _ => rfl)) (me_ixE (me_var (pv 2)) me_int (fun _ _ => rfl))) (ma_cons (me_bin op_sub os_sub (me_ixE (me_var (pv 0)) me_int (fun _ _ => rfl)) (me_ixE (me_var (pv 2)) me_int (fun _ _ => rfl))) ma_nil))))
  (mb_one (ms_ret (me_ifE (mt_val (me_cp C_less (L2N.takes_of rfl rfl rfl rfl) hr (by decide) rfl (ma_cons (me_var (pv 2)) (ma_cons (me_var (pv 3)) ma_nil)) (len_cons (len_cons (fun _ _ _ h => len_nil h))))) (me_tup (ma_cons (me_var (pv 2)) (ma_cons (me_var (pv 3)) ma_nil))) (me_tup (ma_cons (me_var (pv 3)) (ma_cons (me_var (pv 2)) ma_nil)))))))))
theorem sc_raised : FnScope ["parent", "fraction", "order", "times"] ["parent", "fraction", "order"] (defScope (topS 27)) := ⟨rfl, rfl, rfl, by decide +kernel, rfl, by decide +kernel, by decide +kernel⟩
theorem ok_raised (d : Dfn K mg "raised" (topS 27) ["parent", "fraction", "order"]) : Cal P w K mg base "raised" ["parent", "fraction", "order"] 1 m_raised := by
  refine cal_mk2 ["parent", "fraction", "order", "times"] 0 c_raised rfl rfl d sc_raised fun f cdv A outer s H E hr => ?_
  unfold c_raised
  exact (mb_cons (ms_set (i := 3) sc_raised.nd rfl (by first | exact .inl rfl | exact .inr rfl) (me_bin op_fdiv os_div (me_bin op_sub os_sub (me_var (pv 2)) (me_ixE (me_var (pv 0)) me_int (fun _ _ => rfl))) (me_ixE (me_var (pv 1)) me_int (fun _ _ => rfl))))
  (mb_one (ms_ret (me_tup (ma_cons (me_bin op_plus os_add (me_ixE (me_var (pv 0)) me_int (fun _ _ => rfl)) (me_bin op_times os_mul (me_var (pv 3)) (me_ixE (me_var (pv 1)) me_int (fun _ _ => rfl)))) (ma_cons (me_bin op_plus os_add (me_ixE (me_var (pv 0)) me_int (fun _ _ => rfl)) (me_bin op_times os_mul (me_var (pv 3)) (me_ixE (me_var (pv 1)) me_int (fun _ _ => rfl)))) ma_nil))))))
theorem sc_beside_in_row : FnScope ["order", "fraction", "before", "after"] ["order", "fraction"] (defScope (topS 28)) := ⟨rfl, rfl, rfl, by decide +kernel, rfl, by decide +kernel, by decide +kernel⟩
theorem ok_beside_in_row (d : Dfn K mg "beside_in_row" (topS 28) ["order", "fraction"]) {a_InvalidFraction : Addr} (e_InvalidFraction : ExT K mg .fr a_InvalidFraction) {a_InvalidNumber : Addr} (e_InvalidNumber : ExT K mg .nu a_InvalidNumber) (C_is_integer : Cal P w K mg base "is_integer" ["value", "low", "high"] 1 m_is_integer) (C_is_fraction : Cal P w K mg base "is_fraction" ["value"] 3 m_is_fraction) (C_parents_of : Cal P w K mg base "parents_of" ["fraction"] 3 m_parents_of) (C_raised : Cal P w K mg base "raised" ["parent", "fraction", "order"] 1 m_raised) : Cal P w K mg base "beside_in_row" ["order", "fraction"] 4 m_beside_in_row := by
  refine cal_mk2 ["order", "fraction", "before", "after"] 3 c_beside_in_row rfl rfl d sc_beside_in_row fun f cdv A outer s H E hr => ?_
  unfold c_beside_in_row
  exact (mb_cons (ms_if (mt_not (mt_val (me_cp C_is_integer (L2N.takes_of rfl rfl rfl rfl) hr (by decide) rfl (ma_cons (me_var (pv 0)) (ma_cons me_int (ma_cons me_int ma_nil))) (len_cons (len_cons (len_cons (fun _ _ _ h => len_nil h))))))) (mb_one (ms_raise rfl (L2N.takes_of rfl rfl rfl rfl) e_InvalidNumber rfl rfl)) mb_nil)
  (mb_cons (ms_if (mw_pt (mw_or (mt_not (mt_val (me_cp C_is_fraction (L2N.takes_of rfl rfl rfl rfl) hr (by decide) rfl (ma_cons (me_var (pv 1)) ma_nil) (len_cons (fun _ _ _ h => len_nil h))))) (mw_or (mt_not (mt_chain op_le op_le os_le os_le me_int (me_ixE (me_var (pv 1)) me_int (fun _ _ => rfl)) (me_var (pv 0)))) (mw_or1 (mt_not (mt_chain op_le op_le os_le os_le me_int (me_ixE (me_var (pv 1)) me_int (fun _ _ => rfl)) (me_ixE (me_var (pv 1)) me_int (fun _ _ => rfl)))))))) (mb_one (ms_raise rfl (L2N.takes_of rfl rfl rfl rfl) e_InvalidFraction rfl rfl)) mb_nil)
  (mb_cons (ms_if (mt_cmp (op_eqD hr.units) os_eq (me_var (pv 1)) (me_tup (ma_cons me_int (ma_cons me_int ma_nil))) (nomark _)) (mb_one (ms_ret (me_tup (ma_cons me_non (ma_cons (me_tup (ma_cons me_int (ma_cons (me_var (pv 0)) ma_nil))) ma_nil))))) mb_nil)
  (mb_cons (ms_if (mt_cmp (op_eqD hr.units) os_eq (me_var (pv 1)) (me_tup (ma_cons me_int (ma_cons me_int ma_nil))) (nomark _)) (mb_one (ms_ret (me_tup (ma_cons (me_tup (ma_cons (me_bin op_sub os_sub (me_var (pv 0)) me_int) (ma_cons (me_var (pv 0)) ma_nil))) (ma_cons me_non ma_nil))))) mb_nil)
  (mb_cons (ms_asg (me_cp C_parents_of (L2N.takes_of rfl rfl rfl rfl) hr (by decide) rfl (ma_cons (me_var (pv 1)) ma_nil) (len_cons (fun _ _ _ h => len_nil h))) (mg_tup rfl (mgs_cons (mg_name (i := 2) sc_beside_in_row.nd rfl (by first | exact .inl rfl | exact .inr rfl)) (mgs_cons (mg_name (i := 3) sc_beside_in_row.nd rfl (by first | exact .inl rfl | exact .inr rfl)) mgs_nil))))
  (mb_one (ms_ret (me_tup (ma_cons (me_cp C_raised (L2N.takes_of rfl rfl rfl rfl) hr (by decide) rfl (ma_cons (me_var (pv 2)) (ma_cons (me_var (pv 1)) (ma_cons (me_var (pv 0)) ma_nil))) (len_cons (len_cons (len_cons (fun _ _ _ h => len_nil h))))) (ma_cons (me_cp C_raised (L2N.takes_of rfl rfl rfl rfl) hr (by decide) rfl (ma_cons (me_var (pv 3)) (ma_cons (me_var (pv 1)) (ma_cons (me_var (pv 0)) ma_nil))) (len_cons (len_cons (len_cons (fun _ _ _ h => len_nil h))))) ma_nil))))))))))
theorem sc_law_cell_at : FnScope ["script", "k", "spare", "again"] ["script", "k"] (defScope (topS 30)) := ⟨rfl, rfl, rfl, by decide +kernel, rfl, by decide +kernel, by decide +kernel⟩
theorem ok_law_cell_at (d : Dfn K mg "_law_cell_at" (topS 30) ["script", "k"]) (z_len : mg "len" = none) (z_min : mg "min" = none) (z_range : mg "range" = none) : Cal P w K mg base "_law_cell_at" ["script", "k"] 1 m_law_cell_at := by
  refine cal_mk2 ["script", "k", "spare", "again"] 0 c_law_cell_at rfl rfl d sc_law_cell_at fun f cdv A outer s H E hr => ?_
  unfold c_law_cell_at
  exact (mb_cons (ms_if (mt_cmp op_lt os_lt (me_var (pv 1)) (me_call1B call_lenA os_len rfl z_len PySem.boot_len (mp_val (me_var (pv 0)))) (nomark _)) (mb_one (ms_ret (me_ixE (me_var (pv 0)) (me_var (pv 1)) (fun _ _ => rfl)))) mb_nil)
  (mb_cons (ms_if (mt_cmp (op_eqD hr.units) os_eq (me_var (pv 0)) (me_lst ma_nil) (nomark _)) (mb_one (ms_ret me_int)) mb_nil)
  (mb_cons (ms_set (i := 2) sc_law_cell_at.nd rfl (by first | exact .inl rfl | exact .inr rfl) (me_ixE (me_var (pv 0)) (me_bin op_mod os_mod (me_var (pv 1)) (me_call1B call_lenA os_len rfl z_len PySem.boot_len (mp_val (me_var (pv 0))))) (fun _ _ => rfl)))
  (mb_cons (ms_for (passes_of rfl) rfl (mi_range1 rfl z_range (ma_cons (me_callB (call_min2 rfl) os_min rfl z_min (by decide +kernel) (ma_cons (me_bin op_fdiv os_div (me_var (pv 1)) (me_call1B call_lenA os_len rfl z_len PySem.boot_len (mp_val (me_var (pv 0))))) (ma_cons me_int ma_nil))) ma_nil)) (mg_name (i := 3) sc_law_cell_at.nd rfl (by first | exact .inl rfl | exact .inr rfl)) (mb_one (ms_set (i := 2) sc_law_cell_at.nd rfl (by first | exact .inl rfl | exact .inr rfl) (me_bin op_fdiv os_div (me_var (pv 2)) me_int))))
  (mb_one (ms_ret (me_bin op_plus os_add (me_bin op_plus os_add (me_bin op_times os_mul (me_ixE (me_var (pv 0)) (me_bin op_mod os_mod (me_var (pv 1)) (me_call1B call_lenA os_len rfl z_len PySem.boot_len (mp_val (me_var (pv 0))))) (fun _ _ => rfl)) me_int) (me_var (pv 1))) (me_bin op_times os_mul (me_var (pv 2)) me_int))))))))
theorem sc_law_mixed : FnScope ["script", "k", "many", "spun"] ["script", "k", "many"] (defScope (topS 31)) := ⟨rfl, rfl, rfl, by decide +kernel, rfl, by decide +kernel, by decide +kernel⟩
theorem ok_law_mixed (d : Dfn K mg "_law_mixed" (topS 31) ["script", "k", "many"]) (C_law_cell_at : Cal P w K mg base "_law_cell_at" ["script", "k"] 1 m_law_cell_at) : Cal P w K mg base "_law_mixed" ["script", "k", "many"] 2 m_law_mixed := by
  refine cal_mk2 ["script", "k", "many", "spun"] 1 c_law_mixed rfl rfl d sc_law_mixed fun f cdv A outer s H E hr => ?_
  unfold c_law_mixed
  exact (mb_cons (ms_set (i := 3) sc_law_mixed.nd rfl (by first | exact .inl rfl | exact .inr rfl) (me_bin op_mod os_mod (me_bin op_plus os_add (me_bin op_plus os_add (me_bin op_times os_mul (me_cp C_law_cell_at (L2N.takes_of rfl rfl rfl rfl) hr (by decide) rfl (ma_cons (me_var (pv 0)) (ma_cons (me_var (pv 1)) ma_nil)) (len_cons (len_cons (fun _ _ _ h => len_nil h)))) me_int) (me_bin op_times os_mul me_int (me_var (pv 1)))) me_int) me_int))
  (mb_one (ms_ret (me_bin op_mod os_mod (me_bin op_mod os_mod (me_bin op_mod os_mod (me_bin op_pow os_pow (me_var (pv 3)) me_int) me_int) me_int) (me_var (pv 2))))))
theorem sc_law_draw : FnScope ["script", "town", "many"] ["script", "town", "many"] (defScope (topS 32)) := ⟨rfl, rfl, rfl, by decide +kernel, rfl, by decide +kernel, by decide +kernel⟩
theorem ok_law_draw (d : Dfn K mg "_law_draw" (topS 32) ["script", "town", "many"]) (z_len : mg "len" = none) (C_law_mixed : Cal P w K mg base "_law_mixed" ["script", "k", "many"] 2 m_law_mixed) : Cal P w K mg base "_law_draw" ["script", "town", "many"] 3 m_law_draw := by
  refine cal_mk2 ["script", "town", "many"] 2 c_law_draw rfl rfl d sc_law_draw fun f cdv A outer s H E hr => ?_
  unfold c_law_draw
  exact (mb_cons (ms_expr (me_app (pv 1) me_int (fun h => pe_bm PySem.F.plainAttrs_list PySem.F.slot_list_append PySem.F.type_list_append mt_append (pv 1) (pa_cons h pa_nil))))
  (mb_one (ms_ret (me_cp C_law_mixed (L2N.takes_of rfl rfl rfl rfl) hr (by decide) rfl (ma_cons (me_var (pv 0)) (ma_cons (me_call1B call_lenA os_len rfl z_len PySem.boot_len (mp_own (pv 1))) (ma_cons (me_var (pv 2)) ma_nil))) (len_cons (len_cons (len_cons (fun _ _ _ h => len_nil h))))))))
theorem sc_law_common : FnScope ["one", "other"] ["one", "other"] (defScope (topS 33)) := ⟨rfl, rfl, rfl, by decide +kernel, rfl, by decide +kernel, by decide +kernel⟩
theorem ok_law_common (d : Dfn K mg "_law_common" (topS 33) ["one", "other"]) (z_max : mg "max" = none) : Cal P w K mg base "_law_common" ["one", "other"] 1 m_law_common := by
  refine cal_mk2 ["one", "other"] 0 c_law_common rfl rfl d sc_law_common fun f cdv A outer s H E hr => ?_
  unfold c_law_common
  exact (mb_cons (ms_par (fun _ h => ps_par (i := 0) (j := 1) rfl sc_law_common.nd rfl rfl (by decide) rfl rfl h rfl) (ma_cons (me_callB (call_max2 rfl) os_max rfl z_max (by decide +kernel) (ma_cons (me_var (pv 0)) (ma_cons (me_bin op_sub os_sub me_int (me_var (pv 0))) ma_nil))) (ma_cons (me_callB (call_max2 rfl) os_max rfl z_max (by decide +kernel) (ma_cons (me_var (pv 1)) (ma_cons (me_bin op_sub os_sub me_int (me_var (pv 1))) ma_nil))) ma_nil)))
  (mb_cons (ms_while 100000 (passes_of rfl) (mt_cmp op_gt os_gt (me_var (pv 1)) me_int (nomark _)) (mb_one (ms_par (fun _ h => ps_par (i := 0) (j := 1) rfl sc_law_common.nd rfl rfl (by decide) rfl rfl h rfl) (ma_cons (me_var (pv 1)) (ma_cons (me_bin op_mod os_mod (me_var (pv 0)) (me_var (pv 1))) ma_nil)))))
  (mb_one (ms_ret (me_var (pv 0))))))
theorem sc_law_lowest_terms : FnScope ["p", "q", "many"] ["p", "q"] (defScope (topS 34)) := ⟨rfl, rfl, rfl, by decide +kernel, rfl, by decide +kernel, by decide +kernel⟩
theorem ok_law_lowest_terms (d : Dfn K mg "_law_lowest_terms" (topS 34) ["p", "q"]) (C_law_common : Cal P w K mg base "_law_common" ["one", "other"] 1 m_law_common) : Cal P w K mg base "_law_lowest_terms" ["p", "q"] 2 m_law_lowest_terms := by
  refine cal_mk2 ["p", "q", "many"] 1 c_law_lowest_terms rfl rfl d sc_law_lowest_terms fun f cdv A outer s H E hr => ?_
  unfold c_law_lowest_terms
  exact (mb_cons (ms_set (i := 2) sc_law_lowest_terms.nd rfl (by first | exact .inl rfl | exact .inr rfl) (me_cp C_law_common (L2N.takes_of rfl rfl rfl rfl) hr (by decide) rfl (ma_cons (me_var (pv 0)) (ma_cons (me_var (pv 1)) ma_nil)) (len_cons (len_cons (fun _ _ _ h => len_nil h)))))
  (mb_one (ms_ret (me_tup (ma_cons (me_bin op_fdiv os_div (me_var (pv 0)) (me_var (pv 2))) (ma_cons (me_bin op_fdiv os_div (me_var (pv 1)) (me_var (pv 2))) ma_nil))))))
theorem sc_law_some_fraction : FnScope ["script", "town", "most", "q"] ["script", "town", "most"] (defScope (topS 35)) := ⟨rfl, rfl, rfl, by decide +kernel, rfl, by decide +kernel, by decide +kernel⟩
theorem ok_law_some_fraction (d : Dfn K mg "_law_some_fraction" (topS 35) ["script", "town", "most"]) (C_law_draw : Cal P w K mg base "_law_draw" ["script", "town", "many"] 3 m_law_draw) (C_law_lowest_terms : Cal P w K mg base "_law_lowest_terms" ["p", "q"] 2 m_law_lowest_terms) : Cal P w K mg base "_law_some_fraction" ["script", "town", "most"] 4 m_law_some_fraction := by
  refine cal_mk2 ["script", "town", "most", "q"] 3 c_law_some_fraction rfl rfl d sc_law_some_fraction fun f cdv A outer s H E hr => ?_
  unfold c_law_some_fraction
  exact (mb_cons (ms_if (mt_cmp (op_eqD hr.units) os_eq (me_co C_law_draw (L2N.takes_of rfl rfl rfl rfl) hr (by decide) rfl (mah_cons (mp_val (me_var (pv 0))) (mah_cons (mp_own (pv 1)) (mah_cons (mp_val me_int) mah_nil))) (lenH_cons (lenH_cons (lenH_cons (fun _ _ _ h => lenH_nil h))))) me_int (nomark _)) (mb_one (ms_ret (me_tup (ma_cons me_int (ma_cons me_int ma_nil))))) mb_nil)
  (mb_cons (ms_set (i := 3) sc_law_some_fraction.nd rfl (by first | exact .inl rfl | exact .inr rfl) (me_bin op_plus os_add me_int (me_co C_law_draw (L2N.takes_of rfl rfl rfl rfl) hr (by decide) rfl (mah_cons (mp_val (me_var (pv 0))) (mah_cons (mp_own (pv 1)) (mah_cons (mp_val (me_var (pv 2))) mah_nil))) (lenH_cons (lenH_cons (lenH_cons (fun _ _ _ h => lenH_nil h)))))))
  (mb_one (ms_ret (me_cp C_law_lowest_terms (L2N.takes_of rfl rfl rfl rfl) hr (by decide) rfl (ma_cons (me_bin op_sub os_sub (me_co C_law_draw (L2N.takes_of rfl rfl rfl rfl) hr (by decide) rfl (mah_cons (mp_val (me_var (pv 0))) (mah_cons (mp_own (pv 1)) (mah_cons (mp_val (me_bin op_plus os_add (me_bin op_times os_mul me_int (me_var (pv 3))) me_int)) mah_nil))) (lenH_cons (lenH_cons (lenH_cons (fun _ _ _ h => lenH_nil h))))) (me_bin op_times os_mul me_int (me_var (pv 3)))) (ma_cons (me_var (pv 3)) ma_nil)) (len_cons (len_cons (fun _ _ _ h => len_nil h))))))))
theorem sc_law_turn : FnScope ["one", "other"] ["one", "other"] (defScope (topS 36)) := ⟨rfl, rfl, rfl, by decide +kernel, rfl, by decide +kernel, by decide +kernel⟩
theorem ok_law_turn (d : Dfn K mg "_law_turn" (topS 36) ["one", "other"]) : Cal P w K mg base "_law_turn" ["one", "other"] 1 m_law_turn := by
  refine cal_mk2 ["one", "other"] 0 c_law_turn rfl rfl d sc_law_turn fun f cdv A outer s H E hr => ?_
  unfold c_law_turn
  exact (mb_one (ms_ret (me_bin op_sub os_sub (me_bin op_times os_mul (me_ixE (me_var (pv 0)) me_int (fun _ _ => rfl)) (me_ixE (me_var (pv 1)) me_int (fun _ _ => rfl))) (me_bin op_times os_mul (me_ixE (me_var (pv 0)) me_int (fun _ _ => rfl)) (me_ixE (me_var (pv 1)) me_int (fun _ _ => rfl))))))
theorem sc_law_fall : FnScope ["low", "high"] ["low", "high"] (defScope (topS 37)) := ⟨rfl, rfl, rfl, by decide +kernel, rfl, by decide +kernel, by decide +kernel⟩
theorem ok_law_fall (d : Dfn K mg "_law_fall" (topS 37) ["low", "high"]) (C_law_turn : Cal P w K mg base "_law_turn" ["one", "other"] 1 m_law_turn) : Cal P w K mg base "_law_fall" ["low", "high"] 2 m_law_fall := by
  refine cal_mk2 ["low", "high"] 1 c_law_fall rfl rfl d sc_law_fall fun f cdv A outer s H E hr => ?_
  unfold c_law_fall
  exact (mb_one (ms_ret (me_cmp op_lt os_lt (me_cp C_law_turn (L2N.takes_of rfl rfl rfl rfl) hr (by decide) rfl (ma_cons (me_var (pv 0)) (ma_cons (me_var (pv 1)) ma_nil)) (len_cons (len_cons (fun _ _ _ h => len_nil h)))) me_int (nomark _))))
theorem sc_law_which : FnScope ["e", "own"] ["e"] (defScope (topS 38)) := ⟨rfl, rfl, rfl, by decide +kernel, rfl, by decide +kernel, by decide +kernel⟩
theorem ok_law_which (d : Dfn K mg "_law_which" (topS 38) ["e"]) (z_ValueError : mg "ValueError" = none) (z_isinstance : mg "isinstance" = none) {aw : Ec → Addr} {bw : Addr} (T : WhT K mg aw bw) : CalW P w K mg base "_law_which" ["e"] 1 := by
  refine wh_mk (N := ["e", "own"]) (k := 0) (c := c_law_which) d sc_law_which rfl which_ev fun f cdv A outer s H E p e hz hf hr => ?_
  have hz2 : p.2.cls = .ref (aw e) ∧ p.2.dict = none := ⟨hz.1.trans (T.cls e), hz.2.1⟩
  unfold c_law_which
  exact (mb_cons (ms_own (i := 1) sc_law_which.nd rfl (by first | exact .inl rfl | exact .inr rfl) (mo_lst (ma_cons (me_isE (k := .fr) T List.mem_cons_self hz2 hf (pv 0) rfl rfl z_isinstance rfl) (ma_cons (me_isE (k := .wo) T List.mem_cons_self hz2 hf (pv 0) rfl rfl z_isinstance rfl) (ma_cons (me_isE (k := .ex) T List.mem_cons_self hz2 hf (pv 0) rfl rfl z_isinstance rfl) ma_nil)))))
  (mb_cons (ms_expr (me_ext (pv 1) (me_lst (ma_cons (me_isE (k := .nu) T List.mem_cons_self hz2 hf (pv 0) rfl rfl z_isinstance rfl) (ma_cons (me_isE (k := .ma) T List.mem_cons_self hz2 hf (pv 0) rfl rfl z_isinstance rfl) (ma_cons (me_isE (k := .ne) T List.mem_cons_self hz2 hf (pv 0) rfl rfl z_isinstance rfl) ma_nil)))) (fun h => pe_bm PySem.F.plainAttrs_list PySem.F.slot_list_extend PySem.F.type_list_extend mt_extend (pv 1) (pa_cons h pa_nil))))
  (mb_cons (ms_expr (me_ext (pv 1) (me_lst (ma_cons (me_isE (k := .pa) T List.mem_cons_self hz2 hf (pv 0) rfl rfl z_isinstance rfl) (ma_cons (me_isE (k := .ab) T List.mem_cons_self hz2 hf (pv 0) rfl rfl z_isinstance rfl) (ma_cons (me_isE (k := .to) T List.mem_cons_self hz2 hf (pv 0) rfl rfl z_isinstance rfl) (ma_cons (me_isE (k := .eq) T List.mem_cons_self hz2 hf (pv 0) rfl rfl z_isinstance rfl) ma_nil))))) (fun h => pe_bm PySem.F.plainAttrs_list PySem.F.slot_list_extend PySem.F.type_list_extend mt_extend (pv 1) (pa_cons h pa_nil))))
  (mb_cons (ms_expr (me_ext (pv 1) (me_lst (ma_cons (me_isE (k := .la) T List.mem_cons_self hz2 hf (pv 0) rfl rfl z_isinstance rfl) (ma_cons (me_isE (k := .un) T List.mem_cons_self hz2 hf (pv 0) rfl rfl z_isinstance rfl) (ma_cons (me_isE (k := .pe) T List.mem_cons_self hz2 hf (pv 0) rfl rfl z_isinstance rfl) ma_nil)))) (fun h => pe_bm PySem.F.plainAttrs_list PySem.F.slot_list_extend PySem.F.type_list_extend mt_extend (pv 1) (pa_cons h pa_nil))))
  (mb_cons (ms_if (mw_pt (mw_or (mt_cmp (op_neD hr.units) os_ne (me_cnt (pe_bm PySem.F.plainAttrs_list PySem.F.slot_list_count PySem.F.type_list_count mt_cntB (pv 1) (pa_cons pe_bl pa_nil))) me_int (nomark _)) (mw_or1 (mt_not (mt_val (me_isV T List.mem_cons_self hz2 hf (pv 0) rfl z_isinstance rfl z_ValueError)))))) (mb_one (ms_ret (me_tup (ma_cons me_str (ma_cons (me_neg me_int) ma_nil))))) mb_nil)
  (mb_one (ms_ret (me_tup (ma_cons me_str (ma_cons (me_idx (pe_bm PySem.F.plainAttrs_list PySem.F.slot_list_index PySem.F.type_list_index mt_index (pv 1) (pa_cons pe_bl pa_nil))) ma_nil))))))))))
theorem sc_law_ask : FnScope ["n", "point", "e"] ["n", "point"] (defScope (topS 39)) := ⟨rfl, rfl, rfl, by decide +kernel, rfl, by decide +kernel, by decide +kernel⟩
theorem ok_law_ask (d : Dfn K mg "_law_ask" (topS 39) ["n", "point"]) (C_beside_in_row : Cal P w K mg base "beside_in_row" ["order", "fraction"] 4 m_beside_in_row) {aw : Ec → Addr} {bw : Addr} (T : WhT K mg aw bw) (C_law_which : CalW P w K mg base "_law_which" ["e"] 1) : Cal P w K mg base "_law_ask" ["n", "point"] 5 m_law_ask := by
  refine cal_mk2 ["n", "point", "e"] 4 c_law_ask rfl rfl d sc_law_ask fun f cdv A outer s H E hr => ?_
  unfold c_law_ask
  exact (mb_one (ms_try (i := 2) T C_law_which hr (by decide) rfl rfl rfl sc_law_ask.nd rfl rfl rfl (L2N.takes_of rfl rfl rfl rfl) (fun _ _ _ => pv 2) (fun W' pn xe tk => (mb_one (ms_ret (me_cp C_beside_in_row tk hr (by decide) rfl (ma_cons (me_var (pv 0)) (ma_cons (me_var (pv 1)) ma_nil)) (len_cons (len_cons (fun _ _ _ h => len_nil h)))))))))
theorem sc_law : FnScope ["script", "town", "n", "own", "got", "before", "after", "q", "p"] ["script"] (defScope (topS 40)) := ⟨rfl, rfl, rfl, by decide +kernel, rfl, by decide +kernel, by decide +kernel⟩
theorem b_law (z_range : mg "range" = none) (C_law_draw : Cal P w K mg base "_law_draw" ["script", "town", "many"] 3 m_law_draw) (C_law_lowest_terms : Cal P w K mg base "_law_lowest_terms" ["p", "q"] 2 m_law_lowest_terms) (C_law_some_fraction : Cal P w K mg base "_law_some_fraction" ["script", "town", "most"] 4 m_law_some_fraction) (C_law_fall : Cal P w K mg base "_law_fall" ["low", "high"] 2 m_law_fall) (C_law_ask : Cal P w K mg base "_law_ask" ["n", "point"] 5 m_law_ask) (f : Addr) (cdv : Value) (A : Around) (outer : List Env) (s : Shared) (H : Hp) (E : XK) (hr : Room 5 (A.deeper (envOfC "law" (defScope (topS 40)) s.heap.objs.size f cdv))) :
    MB (cxOf (L2N.CX P w) P w K mg base ["script", "town", "n", "own", "got", "before", "after", "q", "p"] "law" (defScope (topS 40)) f cdv A outer s H E) (fun cls d _ H => E cls d H) (defBody (topS 40)) c_law := by
  unfold c_law
  exact (mb_cons (ms_own (i := 1) sc_law.nd rfl (by first | exact .inl rfl | exact .inr rfl) (mo_lst ma_nil))
  (mb_cons (ms_set (i := 2) sc_law.nd rfl (by first | exact .inl rfl | exact .inr rfl) (me_bin op_plus os_add me_int (me_co C_law_draw (L2N.takes_of rfl rfl rfl rfl) hr (by decide) rfl (mah_cons (mp_val (me_var (pv 0))) (mah_cons (mp_own (pv 1)) (mah_cons (mp_val me_int) mah_nil))) (lenH_cons (lenH_cons (lenH_cons (fun _ _ _ h => lenH_nil h)))))))
  (mb_cons (ms_set (i := 3) sc_law.nd rfl (by first | exact .inl rfl | exact .inr rfl) (me_co C_law_some_fraction (L2N.takes_of rfl rfl rfl rfl) hr (by decide) rfl (mah_cons (mp_val (me_var (pv 0))) (mah_cons (mp_own (pv 1)) (mah_cons (mp_val me_int) mah_nil))) (lenH_cons (lenH_cons (lenH_cons (fun _ _ _ h => lenH_nil h))))))
  (mb_cons (ms_if (mt_cmp op_gt os_gt (me_co C_law_draw (L2N.takes_of rfl rfl rfl rfl) hr (by decide) rfl (mah_cons (mp_val (me_var (pv 0))) (mah_cons (mp_own (pv 1)) (mah_cons (mp_val me_int) mah_nil))) (lenH_cons (lenH_cons (lenH_cons (fun _ _ _ h => lenH_nil h))))) me_int (nomark _)) (mb_cons (ms_set (i := 7) sc_law.nd rfl (by first | exact .inl rfl | exact .inr rfl) (me_bin op_plus os_add me_int (me_co C_law_draw (L2N.takes_of rfl rfl rfl rfl) hr (by decide) rfl (mah_cons (mp_val (me_var (pv 0))) (mah_cons (mp_own (pv 1)) (mah_cons (mp_val (me_var (pv 2))) mah_nil))) (lenH_cons (lenH_cons (lenH_cons (fun _ _ _ h => lenH_nil h)))))))
  (mb_one (ms_set (i := 3) sc_law.nd rfl (by first | exact .inl rfl | exact .inr rfl) (me_cp C_law_lowest_terms (L2N.takes_of rfl rfl rfl rfl) hr (by decide) rfl (ma_cons (me_co C_law_draw (L2N.takes_of rfl rfl rfl rfl) hr (by decide) rfl (mah_cons (mp_val (me_var (pv 0))) (mah_cons (mp_own (pv 1)) (mah_cons (mp_val (me_bin op_plus os_add (me_var (pv 7)) me_int)) mah_nil))) (lenH_cons (lenH_cons (lenH_cons (fun _ _ _ h => lenH_nil h))))) (ma_cons (me_var (pv 7)) ma_nil)) (len_cons (len_cons (fun _ _ _ h => len_nil h))))))) mb_nil)
  (mb_cons (ms_set (i := 4) sc_law.nd rfl (by first | exact .inl rfl | exact .inr rfl) (me_cp C_law_ask (L2N.takes_of rfl rfl rfl rfl) hr (by decide) rfl (ma_cons (me_var (pv 2)) (ma_cons (me_var (pv 3)) ma_nil)) (len_cons (len_cons (fun _ _ _ h => len_nil h)))))
  (mb_cons (ms_if (mw_pt (mw_or (mt_cmp (op_eqD hr.units) os_eq (me_ixE (me_var (pv 3)) me_int (fun _ _ => rfl)) me_int (nomark _)) (mw_or (mt_cmp op_gt os_gt (me_ixE (me_var (pv 3)) me_int (fun _ _ => rfl)) (me_var (pv 2)) (nomark _)) (mw_or1 (mt_not (mt_chain op_le op_le os_le os_le me_int (me_ixE (me_var (pv 3)) me_int (fun _ _ => rfl)) (me_ixE (me_var (pv 3)) me_int (fun _ _ => rfl)))))))) (mb_one (ms_ret (me_cmp (op_eqD hr.units) os_eq (me_var (pv 4)) (me_tup (ma_cons me_str (ma_cons me_int ma_nil))) (nomark _)))) mb_nil)
  (mb_cons (ms_asg (me_tup (ma_cons me_non (ma_cons me_non ma_nil))) (mg_tup rfl (mgs_cons (mg_name (i := 5) sc_law.nd rfl (by first | exact .inl rfl | exact .inr rfl)) (mgs_cons (mg_name (i := 6) sc_law.nd rfl (by first | exact .inl rfl | exact .inr rfl)) mgs_nil))))
  (mb_cons (ms_for (passes_of rfl) rfl (mi_range2 rfl z_range (ma_cons me_int (ma_cons (me_bin op_plus os_add (me_var (pv 2)) me_int) ma_nil))) (mg_name (i := 7) sc_law.nd rfl (by first | exact .inl rfl | exact .inr rfl)) (mb_cons (ms_set (i := 8) sc_law.nd rfl (by first | exact .inl rfl | exact .inr rfl) (me_bin op_fdiv os_div (me_bin op_sub os_sub (me_bin op_times os_mul (me_ixE (me_var (pv 3)) me_int (fun _ _ => rfl)) (me_var (pv 7))) me_int) (me_ixE (me_var (pv 3)) me_int (fun _ _ => rfl))))
  (mb_cons (ms_if (mw_pt (mw_and (mt_cmp op_ge os_ge (me_var (pv 8)) me_int (nomark _)) (mw_and1 (mw_pt (mw_or (mt_cmp op_isN os_isN (me_var (pv 5)) me_non (nomark _)) (mw_or1 (mt_val (me_cp C_law_fall (L2N.takes_of rfl rfl rfl rfl) hr (by decide) rfl (ma_cons (me_var (pv 5)) (ma_cons (me_tup (ma_cons (me_var (pv 8)) (ma_cons (me_var (pv 7)) ma_nil))) ma_nil)) (len_cons (len_cons (fun _ _ _ h => len_nil h))))))))))) (mb_one (ms_set (i := 5) sc_law.nd rfl (by first | exact .inl rfl | exact .inr rfl) (me_cp C_law_lowest_terms (L2N.takes_of rfl rfl rfl rfl) hr (by decide) rfl (ma_cons (me_var (pv 8)) (ma_cons (me_var (pv 7)) ma_nil)) (len_cons (len_cons (fun _ _ _ h => len_nil h)))))) mb_nil)
  (mb_cons (ms_set (i := 8) sc_law.nd rfl (by first | exact .inl rfl | exact .inr rfl) (me_bin op_plus os_add (me_bin op_fdiv os_div (me_bin op_times os_mul (me_ixE (me_var (pv 3)) me_int (fun _ _ => rfl)) (me_var (pv 7))) (me_ixE (me_var (pv 3)) me_int (fun _ _ => rfl))) me_int))
  (mb_one (ms_if (mw_pt (mw_and (mt_cmp op_le os_le (me_var (pv 8)) (me_var (pv 7)) (nomark _)) (mw_and1 (mw_pt (mw_or (mt_cmp op_isN os_isN (me_var (pv 6)) me_non (nomark _)) (mw_or1 (mt_val (me_cp C_law_fall (L2N.takes_of rfl rfl rfl rfl) hr (by decide) rfl (ma_cons (me_tup (ma_cons (me_var (pv 8)) (ma_cons (me_var (pv 7)) ma_nil))) (ma_cons (me_var (pv 6)) ma_nil)) (len_cons (len_cons (fun _ _ _ h => len_nil h))))))))))) (mb_one (ms_set (i := 6) sc_law.nd rfl (by first | exact .inl rfl | exact .inr rfl) (me_cp C_law_lowest_terms (L2N.takes_of rfl rfl rfl rfl) hr (by decide) rfl (ma_cons (me_var (pv 8)) (ma_cons (me_var (pv 7)) ma_nil)) (len_cons (len_cons (fun _ _ _ h => len_nil h)))))) mb_nil))))))
  (mb_one (ms_ret (me_cmp (op_eqD hr.units) os_eq (me_var (pv 4)) (me_tup (ma_cons (me_var (pv 5)) (ma_cons (me_var (pv 6)) ma_nil))) (nomark _))))))))))))
end
end Fg
open PySem PySem.W PyProof.Rows
set_option maxRecDepth 100000 in
set_option maxHeartbeats 0 in
theorem PySem.Challenge.cw_fracgraph_k07_whole_beside_holds : PySem.Challenge.rw_fracgraph_k07_whole_beside.Holds := by
  w_on; o_law; k_head; (case hw => w_witness2)
  k_fill
  refine L2.walk_of (l := PySem.Challenge.rw_fracgraph_k07_whole_beside) (n := 63) (k := 6) (x := "script") (CX := fun w => L2N.CX (PySem.Challenge.rw_fracgraph_k07_whole_beside).prog w) (sp := fun w => Fg.spLaw _) rfl (by decide) rfl ⟨rfl, by decide, by decide⟩ (fun w h Y => PySem.W.kIn_of Y) ?F (fun _ _ a ns hl _ hS => ⟨a, ns, rfl, hS, hl, fun _ => rfl⟩) (fun _ _ _ _ _ h => Fg.no_exc h)
  case F =>
    intro w mg fa h KX G hmg
    have z_ValueError := Fg.non_mk (x := "ValueError") KX G (by k_is)
    have z_bool := Fg.non_mk (x := "bool") KX G (by k_is)
    have z_int := Fg.non_mk (x := "int") KX G (by k_is)
    have z_isinstance := Fg.non_mk (x := "isinstance") KX G (by k_is)
    have z_len := Fg.non_mk (x := "len") KX G (by k_is)
    have z_max := Fg.non_mk (x := "max") KX G (by k_is)
    have z_min := Fg.non_mk (x := "min") KX G (by k_is)
    have z_range := Fg.non_mk (x := "range") KX G (by k_is)
    have z_tuple := Fg.non_mk (x := "tuple") KX G (by k_is)
    refine' Fg.cps (Fg.con_int (x := "LARGEST") (i := 9999) KX G ?xa18) (fun k_LARGEST => ?_)
    (case xa18 => k_is)
    refine' Fg.cps (Fg.exw_mk (e := .fr) (x := "InvalidFraction") KX G rfl ?xa19 ?xq19 ?xk19 ?xb19 ?xt19 ?xc19 ?xm19 ?xhd19 ?xga19 ?xgt19 ?xcl19) (fun w_InvalidFraction => ?_)
    (case xa19 => k_is); (case xq19 => k_exc); (case xk19 => k_is); (case xb19 => k_is); (case xt19 => k_is); (case xc19 => k_is); (case xm19 => rfl); (case xhd19 => rfl); (case xga19 => k_is); (case xgt19 => k_is); (case xcl19 => k_is)
    refine' Fg.cps (Fg.exw_mk (e := .wo) (x := "InvalidWord") KX G rfl ?xa20 ?xq20 ?xk20 ?xb20 ?xt20 ?xc20 ?xm20 ?xhd20 ?xga20 ?xgt20 ?xcl20) (fun w_InvalidWord => ?_)
    (case xa20 => k_is); (case xq20 => k_exc); (case xk20 => k_is); (case xb20 => k_is); (case xt20 => k_is); (case xc20 => k_is); (case xm20 => rfl); (case xhd20 => rfl); (case xga20 => k_is); (case xgt20 => k_is); (case xcl20 => k_is)
    refine' Fg.cps (Fg.exw_mk (e := .ex) (x := "InvalidExpansion") KX G rfl ?xa21 ?xq21 ?xk21 ?xb21 ?xt21 ?xc21 ?xm21 ?xhd21 ?xga21 ?xgt21 ?xcl21) (fun w_InvalidExpansion => ?_)
    (case xa21 => k_is); (case xq21 => k_exc); (case xk21 => k_is); (case xb21 => k_is); (case xt21 => k_is); (case xc21 => k_is); (case xm21 => rfl); (case xhd21 => rfl); (case xga21 => k_is); (case xgt21 => k_is); (case xcl21 => k_is)
    refine' Fg.cps (Fg.exw_mk (e := .nu) (x := "InvalidNumber") KX G rfl ?xa22 ?xq22 ?xk22 ?xb22 ?xt22 ?xc22 ?xm22 ?xhd22 ?xga22 ?xgt22 ?xcl22) (fun w_InvalidNumber => ?_)
    (case xa22 => k_is); (case xq22 => k_exc); (case xk22 => k_is); (case xb22 => k_is); (case xt22 => k_is); (case xc22 => k_is); (case xm22 => rfl); (case xhd22 => rfl); (case xga22 => k_is); (case xgt22 => k_is); (case xcl22 => k_is)
    refine' Fg.cps (Fg.exw_mk (e := .ma) (x := "InvalidMatrix") KX G rfl ?xa23 ?xq23 ?xk23 ?xb23 ?xt23 ?xc23 ?xm23 ?xhd23 ?xga23 ?xgt23 ?xcl23) (fun w_InvalidMatrix => ?_)
    (case xa23 => k_is); (case xq23 => k_exc); (case xk23 => k_is); (case xb23 => k_is); (case xt23 => k_is); (case xc23 => k_is); (case xm23 => rfl); (case xhd23 => rfl); (case xga23 => k_is); (case xgt23 => k_is); (case xcl23 => k_is)
    refine' Fg.cps (Fg.exw_mk (e := .ne) (x := "NotNeighbours") KX G rfl ?xa24 ?xq24 ?xk24 ?xb24 ?xt24 ?xc24 ?xm24 ?xhd24 ?xga24 ?xgt24 ?xcl24) (fun w_NotNeighbours => ?_)
    (case xa24 => k_is); (case xq24 => k_exc); (case xk24 => k_is); (case xb24 => k_is); (case xt24 => k_is); (case xc24 => k_is); (case xm24 => rfl); (case xhd24 => rfl); (case xga24 => k_is); (case xgt24 => k_is); (case xcl24 => k_is)
    refine' Fg.cps (Fg.exw_mk (e := .pa) (x := "NoParents") KX G rfl ?xa25 ?xq25 ?xk25 ?xb25 ?xt25 ?xc25 ?xm25 ?xhd25 ?xga25 ?xgt25 ?xcl25) (fun w_NoParents => ?_)
    (case xa25 => k_is); (case xq25 => k_exc); (case xk25 => k_is); (case xb25 => k_is); (case xt25 => k_is); (case xc25 => k_is); (case xm25 => rfl); (case xhd25 => rfl); (case xga25 => k_is); (case xgt25 => k_is); (case xcl25 => k_is)
    refine' Fg.cps (Fg.exw_mk (e := .ab) (x := "NotAbove") KX G rfl ?xa26 ?xq26 ?xk26 ?xb26 ?xt26 ?xc26 ?xm26 ?xhd26 ?xga26 ?xgt26 ?xcl26) (fun w_NotAbove => ?_)
    (case xa26 => k_is); (case xq26 => k_exc); (case xk26 => k_is); (case xb26 => k_is); (case xt26 => k_is); (case xc26 => k_is); (case xm26 => rfl); (case xhd26 => rfl); (case xga26 => k_is); (case xgt26 => k_is); (case xcl26 => k_is)
    refine' Fg.cps (Fg.exw_mk (e := .to) (x := "IsTop") KX G rfl ?xa27 ?xq27 ?xk27 ?xb27 ?xt27 ?xc27 ?xm27 ?xhd27 ?xga27 ?xgt27 ?xcl27) (fun w_IsTop => ?_)
    (case xa27 => k_is); (case xq27 => k_exc); (case xk27 => k_is); (case xb27 => k_is); (case xt27 => k_is); (case xc27 => k_is); (case xm27 => rfl); (case xhd27 => rfl); (case xga27 => k_is); (case xgt27 => k_is); (case xcl27 => k_is)
    refine' Fg.cps (Fg.exw_mk (e := .eq) (x := "Equal") KX G rfl ?xa28 ?xq28 ?xk28 ?xb28 ?xt28 ?xc28 ?xm28 ?xhd28 ?xga28 ?xgt28 ?xcl28) (fun w_Equal => ?_)
    (case xa28 => k_is); (case xq28 => k_exc); (case xk28 => k_is); (case xb28 => k_is); (case xt28 => k_is); (case xc28 => k_is); (case xm28 => rfl); (case xhd28 => rfl); (case xga28 => k_is); (case xgt28 => k_is); (case xcl28 => k_is)
    refine' Fg.cps (Fg.exw_mk (e := .la) (x := "TooLarge") KX G rfl ?xa29 ?xq29 ?xk29 ?xb29 ?xt29 ?xc29 ?xm29 ?xhd29 ?xga29 ?xgt29 ?xcl29) (fun w_TooLarge => ?_)
    (case xa29 => k_is); (case xq29 => k_exc); (case xk29 => k_is); (case xb29 => k_is); (case xt29 => k_is); (case xc29 => k_is); (case xm29 => rfl); (case xhd29 => rfl); (case xga29 => k_is); (case xgt29 => k_is); (case xcl29 => k_is)
    refine' Fg.cps (Fg.exw_mk (e := .un) (x := "NothingToUndo") KX G rfl ?xa30 ?xq30 ?xk30 ?xb30 ?xt30 ?xc30 ?xm30 ?xhd30 ?xga30 ?xgt30 ?xcl30) (fun w_NothingToUndo => ?_)
    (case xa30 => k_is); (case xq30 => k_exc); (case xk30 => k_is); (case xb30 => k_is); (case xt30 => k_is); (case xc30 => k_is); (case xm30 => rfl); (case xhd30 => rfl); (case xga30 => k_is); (case xgt30 => k_is); (case xcl30 => k_is)
    refine' Fg.cps (Fg.exw_mk (e := .pe) (x := "ParseError") KX G rfl ?xa31 ?xq31 ?xk31 ?xb31 ?xt31 ?xc31 ?xm31 ?xhd31 ?xga31 ?xgt31 ?xcl31) (fun w_ParseError => ?_)
    (case xa31 => k_is); (case xq31 => k_exc); (case xk31 => k_is); (case xb31 => k_is); (case xt31 => k_is); (case xc31 => k_is); (case xm31 => rfl); (case xhd31 => rfl); (case xga31 => k_is); (case xgt31 => k_is); (case xcl31 => k_is)
    refine' Fg.cps (Fg.wht_mk KX G w_InvalidFraction w_InvalidWord w_InvalidExpansion w_InvalidNumber w_InvalidMatrix w_NotNeighbours w_NoParents w_NotAbove w_IsTop w_Equal w_TooLarge w_NothingToUndo w_ParseError ?xhn32 ?xht32 ?xfg32 ?xfb32 ?xfd32 ?xft32 (by decide +kernel) (by decide +kernel)) (fun T => ?_)
    (case xhn32 => k_is); (case xht32 => k_is); (case xfg32 => k_is); (case xfb32 => k_is); (case xfd32 => k_is); (case xft32 => k_is)
    have e_InvalidFraction := w_InvalidFraction.t
    have e_InvalidNumber := w_InvalidNumber.t
    refine' Fg.cps (Fg.dfn_mk (x := "is_integer") (st := Fg.topS 17) (ps := ["value", "low", "high"]) KX G ?xa35 ?xl35 ?xc35 ?xk35 ?xb35) (fun d_is_integer => ?_)
    (case xa35 => k_is); (case xl35 => k_is); (case xc35 => k_is); (case xk35 => k_is); (case xb35 => exact fun _ _ _ _ _ _ us hl => match us, hl with | [_, _, _], _ => rfl)
    refine' Fg.cps (Fg.dfn_mk (x := "common_divisor") (st := Fg.topS 18) (ps := ["one", "other"]) KX G ?xa36 ?xl36 ?xc36 ?xk36 ?xb36) (fun d_common_divisor => ?_)
    (case xa36 => k_is); (case xl36 => k_is); (case xc36 => k_is); (case xk36 => k_is); (case xb36 => exact fun _ _ _ _ _ _ us hl => match us, hl with | [_, _], _ => rfl)
    refine' Fg.cps (Fg.dfn_mk (x := "is_reduced") (st := Fg.topS 19) (ps := ["value", "limit"]) KX G ?xa37 ?xl37 ?xc37 ?xk37 ?xb37) (fun d_is_reduced => ?_)
    (case xa37 => k_is); (case xl37 => k_is); (case xc37 => k_is); (case xk37 => k_is); (case xb37 => exact fun _ _ _ _ _ _ us hl => match us, hl with | [_, _], _ => rfl)
    refine' Fg.cps (Fg.dfn_mk (x := "is_fraction") (st := Fg.topS 20) (ps := ["value"]) KX G ?xa38 ?xl38 ?xc38 ?xk38 ?xb38) (fun d_is_fraction => ?_)
    (case xa38 => k_is); (case xl38 => k_is); (case xc38 => k_is); (case xk38 => k_is); (case xb38 => exact fun _ _ _ _ _ _ us hl => match us, hl with | [_], _ => rfl)
    refine' Fg.cps (Fg.dfn_mk (x := "cross") (st := Fg.topS 21) (ps := ["one", "other"]) KX G ?xa39 ?xl39 ?xc39 ?xk39 ?xb39) (fun d_cross => ?_)
    (case xa39 => k_is); (case xl39 => k_is); (case xc39 => k_is); (case xk39 => k_is); (case xb39 => exact fun _ _ _ _ _ _ us hl => match us, hl with | [_, _], _ => rfl)
    refine' Fg.cps (Fg.dfn_mk (x := "less") (st := Fg.topS 22) (ps := ["one", "other"]) KX G ?xa40 ?xl40 ?xc40 ?xk40 ?xb40) (fun d_less => ?_)
    (case xa40 => k_is); (case xl40 => k_is); (case xc40 => k_is); (case xk40 => k_is); (case xb40 => exact fun _ _ _ _ _ _ us hl => match us, hl with | [_, _], _ => rfl)
    refine' Fg.cps (Fg.dfn_mk (x := "terms_of") (st := Fg.topS 23) (ps := ["fraction"]) KX G ?xa41 ?xl41 ?xc41 ?xk41 ?xb41) (fun d_terms_of => ?_)
    (case xa41 => k_is); (case xl41 => k_is); (case xc41 => k_is); (case xk41 => k_is); (case xb41 => exact fun _ _ _ _ _ _ us hl => match us, hl with | [_], _ => rfl)
    refine' Fg.cps (Fg.dfn_mk (x := "value_of") (st := Fg.topS 24) (ps := ["terms"]) KX G ?xa42 ?xl42 ?xc42 ?xk42 ?xb42) (fun d_value_of => ?_)
    (case xa42 => k_is); (case xl42 => k_is); (case xc42 => k_is); (case xk42 => k_is); (case xb42 => exact fun _ _ _ _ _ _ us hl => match us, hl with | [_], _ => rfl)
    refine' Fg.cps (Fg.dfn_mk (x := "parents_of") (st := Fg.topS 25) (ps := ["fraction"]) KX G ?xa43 ?xl43 ?xc43 ?xk43 ?xb43) (fun d_parents_of => ?_)
    (case xa43 => k_is); (case xl43 => k_is); (case xc43 => k_is); (case xk43 => k_is); (case xb43 => exact fun _ _ _ _ _ _ us hl => match us, hl with | [_], _ => rfl)
    refine' Fg.cps (Fg.dfn_mk (x := "raised") (st := Fg.topS 27) (ps := ["parent", "fraction", "order"]) KX G ?xa44 ?xl44 ?xc44 ?xk44 ?xb44) (fun d_raised => ?_)
    (case xa44 => k_is); (case xl44 => k_is); (case xc44 => k_is); (case xk44 => k_is); (case xb44 => exact fun _ _ _ _ _ _ us hl => match us, hl with | [_, _, _], _ => rfl)
    refine' Fg.cps (Fg.dfn_mk (x := "beside_in_row") (st := Fg.topS 28) (ps := ["order", "fraction"]) KX G ?xa45 ?xl45 ?xc45 ?xk45 ?xb45) (fun d_beside_in_row => ?_)
    (case xa45 => k_is); (case xl45 => k_is); (case xc45 => k_is); (case xk45 => k_is); (case xb45 => exact fun _ _ _ _ _ _ us hl => match us, hl with | [_, _], _ => rfl)
    refine' Fg.cps (Fg.dfn_mk (x := "_law_cell_at") (st := Fg.topS 30) (ps := ["script", "k"]) KX G ?xa46 ?xl46 ?xc46 ?xk46 ?xb46) (fun d_law_cell_at => ?_)
    (case xa46 => k_is); (case xl46 => k_is); (case xc46 => k_is); (case xk46 => k_is); (case xb46 => exact fun _ _ _ _ _ _ us hl => match us, hl with | [_, _], _ => rfl)
    refine' Fg.cps (Fg.dfn_mk (x := "_law_mixed") (st := Fg.topS 31) (ps := ["script", "k", "many"]) KX G ?xa47 ?xl47 ?xc47 ?xk47 ?xb47) (fun d_law_mixed => ?_)
    (case xa47 => k_is); (case xl47 => k_is); (case xc47 => k_is); (case xk47 => k_is); (case xb47 => exact fun _ _ _ _ _ _ us hl => match us, hl with | [_, _, _], _ => rfl)
    refine' Fg.cps (Fg.dfn_mk (x := "_law_draw") (st := Fg.topS 32) (ps := ["script", "town", "many"]) KX G ?xa48 ?xl48 ?xc48 ?xk48 ?xb48) (fun d_law_draw => ?_)
    (case xa48 => k_is); (case xl48 => k_is); (case xc48 => k_is); (case xk48 => k_is); (case xb48 => exact fun _ _ _ _ _ _ us hl => match us, hl with | [_, _, _], _ => rfl)
    refine' Fg.cps (Fg.dfn_mk (x := "_law_common") (st := Fg.topS 33) (ps := ["one", "other"]) KX G ?xa49 ?xl49 ?xc49 ?xk49 ?xb49) (fun d_law_common => ?_)
    (case xa49 => k_is); (case xl49 => k_is); (case xc49 => k_is); (case xk49 => k_is); (case xb49 => exact fun _ _ _ _ _ _ us hl => match us, hl with | [_, _], _ => rfl)
    refine' Fg.cps (Fg.dfn_mk (x := "_law_lowest_terms") (st := Fg.topS 34) (ps := ["p", "q"]) KX G ?xa50 ?xl50 ?xc50 ?xk50 ?xb50) (fun d_law_lowest_terms => ?_)
    (case xa50 => k_is); (case xl50 => k_is); (case xc50 => k_is); (case xk50 => k_is); (case xb50 => exact fun _ _ _ _ _ _ us hl => match us, hl with | [_, _], _ => rfl)
    refine' Fg.cps (Fg.dfn_mk (x := "_law_some_fraction") (st := Fg.topS 35) (ps := ["script", "town", "most"]) KX G ?xa51 ?xl51 ?xc51 ?xk51 ?xb51) (fun d_law_some_fraction => ?_)
    (case xa51 => k_is); (case xl51 => k_is); (case xc51 => k_is); (case xk51 => k_is); (case xb51 => exact fun _ _ _ _ _ _ us hl => match us, hl with | [_, _, _], _ => rfl)
    refine' Fg.cps (Fg.dfn_mk (x := "_law_turn") (st := Fg.topS 36) (ps := ["one", "other"]) KX G ?xa52 ?xl52 ?xc52 ?xk52 ?xb52) (fun d_law_turn => ?_)
    (case xa52 => k_is); (case xl52 => k_is); (case xc52 => k_is); (case xk52 => k_is); (case xb52 => exact fun _ _ _ _ _ _ us hl => match us, hl with | [_, _], _ => rfl)
    refine' Fg.cps (Fg.dfn_mk (x := "_law_fall") (st := Fg.topS 37) (ps := ["low", "high"]) KX G ?xa53 ?xl53 ?xc53 ?xk53 ?xb53) (fun d_law_fall => ?_)
    (case xa53 => k_is); (case xl53 => k_is); (case xc53 => k_is); (case xk53 => k_is); (case xb53 => exact fun _ _ _ _ _ _ us hl => match us, hl with | [_, _], _ => rfl)
    refine' Fg.cps (Fg.dfn_mk (x := "_law_which") (st := Fg.topS 38) (ps := ["e"]) KX G ?xa54 ?xl54 ?xc54 ?xk54 ?xb54) (fun d_law_which => ?_)
    (case xa54 => k_is); (case xl54 => k_is); (case xc54 => k_is); (case xk54 => k_is); (case xb54 => exact fun _ _ _ _ _ _ us hl => match us, hl with | [_], _ => rfl)
    refine' Fg.cps (Fg.dfn_mk (x := "_law_ask") (st := Fg.topS 39) (ps := ["n", "point"]) KX G ?xa55 ?xl55 ?xc55 ?xk55 ?xb55) (fun d_law_ask => ?_)
    (case xa55 => k_is); (case xl55 => k_is); (case xc55 => k_is); (case xk55 => k_is); (case xb55 => exact fun _ _ _ _ _ _ us hl => match us, hl with | [_, _], _ => rfl)
    refine' Fg.law_fn (k := 5) KX G hmg ?xa56 ?xl56 ?xc56 ?xkp56 ?xb56 (N := ["script", "town", "n", "own", "got", "before", "after", "q", "p"]) (cb := Fg.c_law) rfl Fg.sc_law Fg.keeps_law ?xhb56
    (case xa56 => k_is); (case xl56 => k_is); (case xc56 => k_is); (case xkp56 => k_is); (case xb56 => exact fun _ _ _ _ _ _ us hl => match us, hl with | [_], _ => rfl)
    intro base
    have C_is_integer := Fg.ok_is_integer (P := (PySem.Challenge.rw_fracgraph_k07_whole_beside).prog) (w := w) (base := base) d_is_integer z_bool z_int z_isinstance
    have C_common_divisor := Fg.ok_common_divisor (P := (PySem.Challenge.rw_fracgraph_k07_whole_beside).prog) (w := w) (base := base) d_common_divisor z_max
    have C_is_reduced := Fg.ok_is_reduced (P := (PySem.Challenge.rw_fracgraph_k07_whole_beside).prog) (w := w) (base := base) d_is_reduced z_isinstance z_len z_tuple C_is_integer C_common_divisor
    have C_is_fraction := Fg.ok_is_fraction (P := (PySem.Challenge.rw_fracgraph_k07_whole_beside).prog) (w := w) (base := base) d_is_fraction k_LARGEST C_is_reduced
    have C_cross := Fg.ok_cross (P := (PySem.Challenge.rw_fracgraph_k07_whole_beside).prog) (w := w) (base := base) d_cross 
    have C_less := Fg.ok_less (P := (PySem.Challenge.rw_fracgraph_k07_whole_beside).prog) (w := w) (base := base) d_less C_cross
    have C_terms_of := Fg.ok_terms_of (P := (PySem.Challenge.rw_fracgraph_k07_whole_beside).prog) (w := w) (base := base) d_terms_of 
    have C_value_of := Fg.ok_value_of (P := (PySem.Challenge.rw_fracgraph_k07_whole_beside).prog) (w := w) (base := base) d_value_of 
    have C_parents_of := Fg.ok_parents_of (P := (PySem.Challenge.rw_fracgraph_k07_whole_beside).prog) (w := w) (base := base) d_parents_of C_less C_terms_of C_value_of
    have C_raised := Fg.ok_raised (P := (PySem.Challenge.rw_fracgraph_k07_whole_beside).prog) (w := w) (base := base) d_raised 
    have C_beside_in_row := Fg.ok_beside_in_row (P := (PySem.Challenge.rw_fracgraph_k07_whole_beside).prog) (w := w) (base := base) d_beside_in_row e_InvalidFraction e_InvalidNumber C_is_integer C_is_fraction C_parents_of C_raised
    have C_law_cell_at := Fg.ok_law_cell_at (P := (PySem.Challenge.rw_fracgraph_k07_whole_beside).prog) (w := w) (base := base) d_law_cell_at z_len z_min z_range
    have C_law_mixed := Fg.ok_law_mixed (P := (PySem.Challenge.rw_fracgraph_k07_whole_beside).prog) (w := w) (base := base) d_law_mixed C_law_cell_at
    have C_law_draw := Fg.ok_law_draw (P := (PySem.Challenge.rw_fracgraph_k07_whole_beside).prog) (w := w) (base := base) d_law_draw z_len C_law_mixed
    have C_law_common := Fg.ok_law_common (P := (PySem.Challenge.rw_fracgraph_k07_whole_beside).prog) (w := w) (base := base) d_law_common z_max
    have C_law_lowest_terms := Fg.ok_law_lowest_terms (P := (PySem.Challenge.rw_fracgraph_k07_whole_beside).prog) (w := w) (base := base) d_law_lowest_terms C_law_common
    have C_law_some_fraction := Fg.ok_law_some_fraction (P := (PySem.Challenge.rw_fracgraph_k07_whole_beside).prog) (w := w) (base := base) d_law_some_fraction C_law_draw C_law_lowest_terms
    have C_law_turn := Fg.ok_law_turn (P := (PySem.Challenge.rw_fracgraph_k07_whole_beside).prog) (w := w) (base := base) d_law_turn 
    have C_law_fall := Fg.ok_law_fall (P := (PySem.Challenge.rw_fracgraph_k07_whole_beside).prog) (w := w) (base := base) d_law_fall C_law_turn
    have C_law_which := Fg.ok_law_which (P := (PySem.Challenge.rw_fracgraph_k07_whole_beside).prog) (w := w) (base := base) d_law_which z_ValueError z_isinstance T
    have C_law_ask := Fg.ok_law_ask (P := (PySem.Challenge.rw_fracgraph_k07_whole_beside).prog) (w := w) (base := base) d_law_ask C_beside_in_row T C_law_which
    exact Fg.b_law z_range C_law_draw C_law_lowest_terms C_law_some_fraction C_law_fall C_law_ask
