import PyProof.Rows.All
import Wide.All
import OpenK.AllK
import Wide.FinOn
import HandS.ForMost
import HandS.Codes
import HandS.TupAny
import HandS.Conv
import HandS.Deep
import HandS.Walk
import HandS.Zip
import HandS.SortInts
import HandS.Style
import KE.GoesMore
import KE.GoesEnum
import KE.GoesZip
import KE.GoesEnumKw
import KE.BitLaws
import HandS.Star
import HandS.TupLen
import HandS.TryOnly
import KE.KDictSum
import HandS.IsInst
import HandS.More
import PySem.Challenge.RW_bitloom_k41_whole_sources
set_option Elab.async false
set_option linter.all false
set_option maxRecDepth 100000
set_option maxHeartbeats 4000000
namespace DL
open PySem L2

abbrev D := PyData
abbrev AP := Addr → Prop

open Classical in
noncomputable def Fz (H : Hp) (M : AP) : Hp := fun a => if M a then none else H a
theorem fz_of {H : Hp} {M : AP} {a : Addr} {o : HO} (h : H a = some o) (n : ¬ M a) : Fz H M a = some o := by
  unfold Fz; rw [if_neg n]; exact h
theorem of_fz {H : Hp} {M : AP} {a : Addr} {o : HO} (h : Fz H M a = some o) : H a = some o ∧ ¬ M a := by
  unfold Fz at h
  split at h
  · cases h
  · rename_i n; exact ⟨h, n⟩
theorem fz_sub {H : Hp} {M : AP} : Same (Fz H M) H := fun _ _ h => (of_fz h).1
theorem fz_mono {H H' : Hp} {M M' : AP} (h : ∀ a o, H a = some o → ¬ M a → H' a = some o ∧ ¬ M' a) : Same (Fz H M) (Fz H' M') := fun a o e => by
  obtain ⟨e1, n⟩ := of_fz e
  obtain ⟨e2, n2⟩ := h a o e1 n
  exact fz_of e2 n2

def keyD : Key → D
  | .inl i => .int i
  | .inr x => .str x

/-- what a dict with tuples as keys begins with, as data -/
abbrev tmark : D × D := (.none, .none)
/-! ### values as data in a heap that stands -/
mutual
inductive Rp (K : PySem.W.Frag) (F : Hp) : V → D → Prop
  | non : Rp K F .non .none
  | bl (b : Bool) : Rp K F (.bl b) (.bool b)
  | int (i : Int) : Rp K F (.int i) (.int i)
  | str (x : Str) : Rp K F (.str x) (.str x)
  | lst {a : Addr} {xs : List V} {ds : List D} : F a = some (.lst xs) → RpA K F xs ds → Rp K F (.ref a) (.list ds)
  | tup {a : Addr} {xs : List V} {ds : List D} : F a = some (.tup xs) → RpA K F xs ds → Rp K F (.ref a) (.tuple ds)
  | dic {a : Addr} {kvs : List (Key × V)} {es : List (D × D)} : F a = some (.dK kvs) → RpK K F kvs es → Rp K F (.ref a) (.dict es)
  | dct {a : Addr} {kvs : List (List Key × V)} {es : List (D × D)} : F a = some (.dT kvs) → RpT K F kvs es → Rp K F (.ref a) (.dict (tmark :: es))
inductive RpA (K : PySem.W.Frag) (F : Hp) : List V → List D → Prop
  | nil : RpA K F [] []
  | cons {v : V} {d : D} {vs : List V} {ds : List D} : Rp K F v d → RpA K F vs ds → RpA K F (v :: vs) (d :: ds)
inductive RpK (K : PySem.W.Frag) (F : Hp) : List (Key × V) → List (D × D) → Prop
  | nil : RpK K F [] []
  | cons {k : Key} {v : V} {d : D} {vs : List (Key × V)} {ds : List (D × D)} : Rp K F v d → RpK K F vs ds → RpK K F ((k, v) :: vs) ((keyD k, d) :: ds)
inductive RpT (K : PySem.W.Frag) (F : Hp) : List (List Key × V) → List (D × D) → Prop
  | nil : RpT K F [] []
  | cons {k : List Key} {v : V} {d : D} {vs : List (List Key × V)} {ds : List (D × D)} : Rp K F v d → RpT K F vs ds → RpT K F ((k, v) :: vs) ((.tuple (k.map keyD), d) :: ds)
end
theorem sqT_mono {K : PySem.W.Frag} {F F' : Hp} {a : Addr} {xs : List V} (e : Same F F') (h : SqT K F a xs) : SqT K F' a xs := by
  rcases h with (h | ⟨o, h⟩) | h
  · exact .inl (.inl (e _ _ h))
  · exact .inl (.inr ⟨o, e _ _ h⟩)
  · exact .inr h
section
variable {K : PySem.W.Frag} {F F' : Hp}
mutual
theorem Rp.mono (e : Same F F') : ∀ {v : V} {d : D}, Rp K F v d → Rp K F' v d
  | _, _, .non => .non
  | _, _, .bl b => .bl b
  | _, _, .int b => .int b
  | _, _, .str b => .str b
  | _, _, .lst h r => .lst (e _ _ h) (RpA.mono e r)
  | _, _, .tup h r => .tup (e _ _ h) (RpA.mono e r)
  | _, _, .dic h r => .dic (e _ _ h) (RpK.mono e r)
  | _, _, .dct h r => .dct (e _ _ h) (RpT.mono e r)
theorem RpA.mono (e : Same F F') : ∀ {v : List V} {d : List D}, RpA K F v d → RpA K F' v d
  | _, _, .nil => .nil
  | _, _, .cons h r => .cons (Rp.mono e h) (RpA.mono e r)
theorem RpK.mono (e : Same F F') : ∀ {v : List (Key × V)} {d : List (D × D)}, RpK K F v d → RpK K F' v d
  | _, _, .nil => .nil
  | _, _, .cons h r => .cons (Rp.mono e h) (RpK.mono e r)
theorem RpT.mono (e : Same F F') : ∀ {v : List (List Key × V)} {d : List (D × D)}, RpT K F v d → RpT K F' v d
  | _, _, .nil => .nil
  | _, _, .cons h r => .cons (Rp.mono e h) (RpT.mono e r)
end
theorem RpA.length {vs : List V} {ds : List D} (h : RpA K F vs ds) : vs.length = ds.length := by
  induction ds generalizing vs with
  | nil => cases h; rfl
  | cons d ds ih => cases h with | cons h r => simp [ih r]
theorem RpA.get {vs : List V} {ds : List D} (h : RpA K F vs ds) : ∀ {i : Nat} {d : D}, ds[i]? = some d → ∃ v, vs[i]? = some v ∧ Rp K F v d := by
  induction ds generalizing vs with
  | nil => intro i d e; simp at e
  | cons x ds ih =>
    cases h with
    | cons h r =>
      intro i d e
      cases i with
      | zero => simp at e; subst e; exact ⟨_, rfl, h⟩
      | succ i =>
        obtain ⟨v, e1, e2⟩ := ih r (i := i) (d := d) (by simpa using e)
        exact ⟨v, by simpa using e1, e2⟩
theorem RpA.getV {vs : List V} {ds : List D} (h : RpA K F vs ds) : ∀ {i : Nat} {v : V}, vs[i]? = some v → ∃ d, ds[i]? = some d ∧ Rp K F v d := by
  induction ds generalizing vs with
  | nil => intro i d e; cases h; simp at e
  | cons x ds ih =>
    cases h with
    | cons h r =>
      intro i d e
      cases i with
      | zero => simp at e; subst e; exact ⟨_, rfl, h⟩
      | succ i =>
        obtain ⟨v, e1, e2⟩ := ih r (i := i) (v := d) (by simpa using e)
        exact ⟨v, by simpa using e1, e2⟩
theorem RpA.append {vs ws : List V} {ds es : List D} (h : RpA K F vs ds) (g : RpA K F ws es) : RpA K F (vs ++ ws) (ds ++ es) := by
  induction ds generalizing vs with
  | nil => cases h; exact g
  | cons x ds ih => cases h with | cons h r => exact .cons h (ih r)
theorem RpA.drop {vs : List V} {ds : List D} (h : RpA K F vs ds) : ∀ n, RpA K F (vs.drop n) (ds.drop n) := by
  induction ds generalizing vs with
  | nil => cases h; intro n; simp; exact .nil
  | cons x ds ih =>
    cases h with
    | cons h r =>
      intro n
      cases n with
      | zero => exact .cons h r
      | succ n => simpa using ih r n
theorem RpA.take {vs : List V} {ds : List D} (h : RpA K F vs ds) : ∀ n, RpA K F (vs.take n) (ds.take n) := by
  induction ds generalizing vs with
  | nil => cases h; intro n; simp; exact .nil
  | cons x ds ih =>
    cases h with
    | cons h r =>
      intro n
      cases n with
      | zero => exact .nil
      | succ n => exact .cons h (ih r n)
theorem RpA.set {vs : List V} {ds : List D} (h : RpA K F vs ds) {v : V} {d : D} (hv : Rp K F v d) : ∀ n, RpA K F (vs.set n v) (ds.set n d) := by
  induction ds generalizing vs with
  | nil => cases h; intro n; exact .nil
  | cons x ds ih =>
    cases h with
    | cons h r =>
      intro n
      cases n with
      | zero => exact .cons hv r
      | succ n => exact .cons h (ih r n)
theorem RpA.reverse {vs : List V} {ds : List D} (h : RpA K F vs ds) : RpA K F vs.reverse ds.reverse := by
  induction ds generalizing vs with
  | nil => cases h; exact .nil
  | cons x ds ih =>
    cases h with
    | cons h r =>
      rw [List.reverse_cons, List.reverse_cons]
      exact (ih r).append (.cons h .nil)
theorem RpA.ints {vs : List V} {ns : List Int} (h : RpA K F vs (ns.map PyData.int)) : vs = ns.map V.int := by
  induction ns generalizing vs with
  | nil => cases h; rfl
  | cons n ns ih => cases h with | cons h r => cases h; rw [ih r]; rfl
theorem RpA.of_ints (ns : List Int) : RpA K F (ns.map V.int) (ns.map PyData.int) := by
  induction ns with
  | nil => exact .nil
  | cons n ns ih => exact .cons (.int n) ih
theorem RpA.bools {vs : List V} {ns : List Bool} (h : RpA K F vs (ns.map PyData.bool)) : vs = ns.map V.bl := by
  induction ns generalizing vs with
  | nil => cases h; rfl
  | cons n ns ih => cases h with | cons h r => cases h; rw [ih r]; rfl
theorem RpA.strs {vs : List V} {ns : List Str} (h : RpA K F vs (ns.map PyData.str)) : vs = ns.map V.str := by
  induction ns generalizing vs with
  | nil => cases h; rfl
  | cons n ns ih => cases h with | cons h r => cases h; rw [ih r]; rfl
theorem RpA.of_strs (ns : List Str) : RpA K F (ns.map V.str) (ns.map PyData.str) := by
  induction ns with
  | nil => exact .nil
  | cons n ns ih => exact .cons (.str n) ih
end

/-- the root stands in G, its items in F -/
inductive Rt (K : PySem.W.Frag) (F G : Hp) : Addr → D → Prop
  | lst {a : Addr} {xs : List V} {ds : List D} : G a = some (.lst xs) → RpA K F xs ds → Rt K F G a (.list ds)
  | dic {a : Addr} {kvs : List (Key × V)} {es : List (D × D)} : G a = some (.dK kvs) → RpK K F kvs es → Rt K F G a (.dict es)
  | dct {a : Addr} {kvs : List (List Key × V)} {es : List (D × D)} : G a = some (.dT kvs) → RpT K F kvs es → Rt K F G a (.dict (tmark :: es))
section
variable {K : PySem.W.Frag} {F F' G G' : Hp}
theorem Rt.mono {a : Addr} {d : D} (e : Same F F') (e' : ∀ o, G a = some o → G' a = some o) (h : Rt K F G a d) : Rt K F' G' a d := by
  cases h with
  | lst h r => exact .lst (e' _ h) (r.mono e)
  | dic h r => exact .dic (e' _ h) (r.mono e)
  | dct h r => exact .dct (e' _ h) (r.mono e)
theorem Rt.there {a : Addr} {d : D} (h : Rt K F G a d) : ∃ o, G a = some o := by
  cases h with
  | lst h r => exact ⟨_, h⟩
  | dic h r => exact ⟨_, h⟩
  | dct h r => exact ⟨_, h⟩
theorem Rt.rp {a : Addr} {d : D} (e : Same F F') (e' : ∀ o, G a = some o → F' a = some o) (h : Rt K F G a d) : Rp K F' (.ref a) d := by
  cases h with
  | lst h r => exact .lst (e' _ h) (r.mono e)
  | dic h r => exact .dic (e' _ h) (r.mono e)
  | dct h r => exact .dct (e' _ h) (r.mono e)
end
/-- what may be read now -/
def RN (K : PySem.W.Frag) (F H : Hp) (v : V) (d : D) : Prop := Rp K F v d ∨ ∃ a, v = .ref a ∧ Rt K F H a d
section
variable {K : PySem.W.Frag} {F H : Hp} {v : V}
theorem RN.int {i : Int} (h : RN K F H v (.int i)) : v = .int i := by
  rcases h with h | ⟨a, _, h⟩ <;> cases h; rfl
theorem RN.bool {i : Bool} (h : RN K F H v (.bool i)) : v = .bl i := by
  rcases h with h | ⟨a, _, h⟩ <;> cases h; rfl
theorem RN.str {i : Str} (h : RN K F H v (.str i)) : v = .str i := by
  rcases h with h | ⟨a, _, h⟩ <;> cases h; rfl
theorem RN.non (h : RN K F H v .none) : v = .non := by
  rcases h with h | ⟨a, _, h⟩ <;> cases h; rfl
theorem RN.list {ds : List D} (e : Same F H) (h : RN K F H v (.list ds)) : ∃ a xs, v = .ref a ∧ H a = some (.lst xs) ∧ RpA K F xs ds := by
  rcases h with h | ⟨a, rfl, h⟩
  · cases h with | lst h r => exact ⟨_, _, rfl, e _ _ h, r⟩
  · cases h with | lst h r => exact ⟨_, _, rfl, h, r⟩
theorem RN.tuple {ds : List D} (e : Same F H) (h : RN K F H v (.tuple ds)) : ∃ a xs, v = .ref a ∧ SqT K H a xs ∧ RpA K F xs ds ∧ F a = some (.tup xs) := by
  rcases h with h | ⟨a, rfl, h⟩
  · cases h with | tup h r => exact ⟨_, _, rfl, .inl (.inl (e _ _ h)), r, h⟩
  · cases h
/-- a dict with tuples as keys -/
def isT : List (D × D) → Bool
  | (.none, .none) :: _ => true
  | _ => false
theorem RN.dict {ds : List (D × D)} (e : Same F H) (h : RN K F H v (.dict ds)) (n : isT ds = false) : ∃ a kvs, v = .ref a ∧ H a = some (.dK kvs) ∧ RpK K F kvs ds := by
  rcases h with h | ⟨a, rfl, h⟩
  · cases h with
    | dic h r => exact ⟨_, _, rfl, e _ _ h, r⟩
    | dct h r => cases n
  · cases h with
    | dic h r => exact ⟨_, _, rfl, h, r⟩
    | dct h r => cases n
theorem RpK.noT {kvs : List (Key × V)} {ds es : List (D × D)} (h : RpK K F kvs es) (e : es = tmark :: ds) : False := by
  cases h with
  | nil => cases e
  | @cons k v d vs ds h r =>
    have e1 : keyD k = PyData.none := by injection e with e1 _; injection e1
    cases k <;> cases e1
theorem RN.dictT {ds : List (D × D)} (e : Same F H) (h : RN K F H v (.dict (tmark :: ds))) : ∃ a kvs, v = .ref a ∧ H a = some (.dT kvs) ∧ RpT K F kvs ds := by
  rcases h with h | ⟨a, rfl, h⟩
  · cases h with
    | dic h r => exact (r.noT rfl).elim
    | dct h r => exact ⟨_, _, rfl, e _ _ h, r⟩
  · cases h with
    | dic h r => exact (r.noT rfl).elim
    | dct h r => exact ⟨_, _, rfl, h, r⟩
end
end DL

set_option Elab.async false
set_option linter.all false
set_option maxRecDepth 100000
set_option maxHeartbeats 4000000
namespace DL
open PySem L2

/-! ### the source of draws: a dict at p with its list at c -/
def srcKvs (c : Addr) (l m t : Int) (more : List (Key × V)) : List (Key × V) := (Sum.inr "cells", V.ref c) :: (Sum.inr "left", V.int l) :: (Sum.inr "mixed", V.int m) :: (Sum.inr "turn", V.int t) :: more
def SrcOk (H : Hp) (p c : Addr) : Prop := ∃ (ns : List Int) (l m t : Int) (more : List (Key × V)), H p = some (.dK (srcKvs c l m t more)) ∧
  H c = some (.lst (ns.map V.int)) ∧ (∀ n ∈ ns, 0 ≤ n) ∧ 0 ≤ l ∧ 0 ≤ m ∧ m < 2147483647 ∧ (more = [] ∨ ∃ r : Int, more = [((Sum.inr "room" : Key), V.int r)])

/-! ### a frame's state, as data -/
inductive Sl where
  | sh (d : D) | bo (d : D) | ow (d : D) | src | scr
abbrev Rho := List (Option Sl)
inductive Rv where
  | fz (d : D) | nw (d : D) | vr (i : Nat) | src | scr
structure Fr where
  K : PySem.W.Frag
  H0 : Hp
  M0 : AP
  mt : AP
structure Gs where
  M : AP
  src : Option (Addr × Addr)
  T : List Addr
def Wr (f : Fr) (a : Addr) : Prop := f.mt a ∨ f.H0 a = none
def NoSrc (g : Gs) (a : Addr) : Prop := ∀ p c, g.src = some (p, c) → a ≠ p ∧ a ≠ c
def BoV (f : Fr) (F : Hp) (v : V) (d : D) : Prop := Rp f.K F v d ∨ ∃ a, v = .ref a ∧ Rt f.K F (Fz f.H0 f.mt) a d
/-- the script: read alone -/
def Scr (f : Fr) (v : V) : Prop := ∃ (a : Addr) (ns : List Int), v = .ref a ∧ SqL f.K (Fz f.H0 f.mt) a (ns.map V.int) ∧ ns.length ≤ 63
def SlR (f : Fr) (g : Gs) (H : Hp) (v : V) : Sl → Prop
  | .sh d => Rp f.K (Fz H g.M) v d
  | .bo d => BoV f (Fz H g.M) v d
  | .ow d => ∃ a, v = .ref a ∧ g.M a ∧ f.H0 a = none ∧ NoSrc g a ∧ Rt f.K (Fz H g.M) H a d
  | .src => ∃ p c, g.src = some (p, c) ∧ v = .ref p
  | .scr => Scr f v
/-- what may be changed: a list or a dict -/
def MuO : Option HO → Prop
  | some (.lst _) => True
  | some (.dK _) => True
  | some (.dT _) => True
  | _ => False
theorem Rt.mu {K : PySem.W.Frag} {F G : Hp} {a : Addr} {d : D} (h : Rt K F G a d) : MuO (G a) := by
  cases h with
  | lst h _ => rw [h]; trivial
  | dic h _ => rw [h]; trivial
  | dct h _ => rw [h]; trivial
theorem SrcOk.mu {H : Hp} {p c : Addr} (h : SrcOk H p c) : MuO (H p) ∧ MuO (H c) := by
  obtain ⟨ns, l, m, t, more, h1, h2, _⟩ := h
  exact ⟨by rw [h1]; trivial, by rw [h2]; trivial⟩
structure Rel (f : Fr) (g : Gs) (σ : L2.St) (H : Hp) (ρ : Rho) : Prop where
  keep : ∀ a o, f.H0 a = some o → ¬ f.mt a → H a = some o
  dom : ∀ a, H a = none → f.H0 a = none
  m0 : ∀ a, f.M0 a → g.M a
  m00 : ∀ a, f.M0 a → f.H0 a ≠ none
  mU : ∀ a, g.M a → MuO (H a)
  src : ∀ p c, g.src = some (p, c) → p ≠ c ∧ g.M p ∧ g.M c ∧ Wr f p ∧ Wr f c ∧ SrcOk H p c
  len : ρ.length = σ.length
  slot : ∀ (i : Nat) (s : Sl), ρ[i]? = some (some s) → ∃ v, σ[i]? = some (some v) ∧ SlR f g H v s
  uq : ∀ (i j : Nat) (l : Addr) (d e : D), ρ[i]? = some (some (.ow d)) → ρ[j]? = some (some (.ow e)) → σ[i]? = some (some (.ref l)) → σ[j]? = some (some (.ref l)) → i = j
  tmp : ∀ a ∈ g.T, g.M a ∧ NoSrc g a ∧ ∀ (i : Nat) (e : D), ρ[i]? = some (some (.ow e)) → σ[i]? ≠ some (some (.ref a))
def isRoot : Sl → Prop
  | .sh _ => True
  | .bo _ => True
  | .ow _ => True
  | .src => False
  | .scr => False
def VR (f : Fr) (g : Gs) (σ : L2.St) (H : Hp) (ρ : Rho) (v : V) : Rv → Prop
  | .fz d => Rp f.K (Fz H g.M) v d
  | .nw d => ∃ a, v = .ref a ∧ g.M a ∧ f.H0 a = none ∧ NoSrc g a ∧ Rt f.K (Fz H g.M) H a d ∧ a ∉ g.T ∧ ∀ (i : Nat) (e : D), ρ[i]? = some (some (.ow e)) → σ[i]? ≠ some (some (.ref a))
  | .vr i => ∃ s, ρ[i]? = some (some s) ∧ isRoot s ∧ σ[i]? = some (some v)
  | .src => ∃ p c, g.src = some (p, c) ∧ v = .ref p
  | .scr => Scr f v
/-- what a step leaves: frozen things stay, the source stays -/
structure Gro (g : Gs) (H : Hp) (g' : Gs) (H' : Hp) : Prop where
  fz : Same (Fz H g.M) (Fz H' g'.M)
  src : ∀ pc, g.src = some pc → g'.src = some pc
  tm : g'.T = g.T
  th : ∀ a ∈ g.T, H' a = H a
theorem Gro.refl {g : Gs} {H : Hp} : Gro g H g H := ⟨Same.refl _, fun _ h => h, rfl, fun _ _ => rfl⟩
theorem Gro.trans {g g1 g2 : Gs} {H H1 H2 : Hp} (a : Gro g H g1 H1) (b : Gro g1 H1 g2 H2) : Gro g H g2 H2 := ⟨a.fz.trans b.fz, fun pc h => b.src pc (a.src pc h), b.tm.trans a.tm, fun x h => (b.th x (a.tm ▸ h)).trans (a.th x h)⟩

section
variable {f : Fr} {g : Gs} {σ : L2.St} {H H' : Hp} {ρ : Rho} {v : V} {d : D} {p : Addr} {o : HO}
theorem Rel.mH (R : Rel f g σ H ρ) (a : Addr) (e : H a = none) : ¬ g.M a := fun m => by
  have := R.mU a m
  rw [e] at this
  exact this
/-- .. is kept by a step that keeps all but the source -/
theorem Rel.mu_step (R : Rel f g σ H ρ) (hk : ∀ a o, H a = some o → (∀ p c, g.src = some (p, c) → a ≠ p ∧ a ≠ c) → H' a = some o) (hsrc : ∀ p c, g.src = some (p, c) → SrcOk H' p c) : ∀ a, g.M a → MuO (H' a) := by
  intro a m
  by_cases q : ∃ p c, g.src = some (p, c) ∧ (a = p ∨ a = c)
  · obtain ⟨p, c, e, q⟩ := q
    rcases q with rfl | rfl
    · exact (hsrc _ _ e).mu.1
    · exact (hsrc _ _ e).mu.2
  · have h := R.mU a m
    cases e : H a with
    | none => rw [e] at h; exact h.elim
    | some o =>
      rw [hk a o e fun p c hp => ⟨fun z => q ⟨p, c, hp, .inl z⟩, fun z => q ⟨p, c, hp, .inr z⟩⟩, ← e]
      exact h
theorem SlR.boV (R : Rel f g σ H ρ) (h : BoV f (Fz H g.M) v d) : RN f.K (Fz H g.M) H v d := by
  rcases h with h | ⟨a, e, h⟩
  · exact .inl h
  · exact .inr ⟨a, e, h.mono (Same.refl _) fun o e => R.keep a o (of_fz e).1 (of_fz e).2⟩
theorem SlR.rn (R : Rel f g σ H ρ) {s : Sl} (h : SlR f g H v s) : (∀ d, s = .sh d ∨ s = .bo d ∨ s = .ow d → RN f.K (Fz H g.M) H v d) := by
  rintro d (rfl | rfl | rfl)
  · exact .inl h
  · exact SlR.boV R h
  · obtain ⟨a, e, _, _, _, r⟩ := h
    exact .inr ⟨a, e, r⟩
theorem BoV.mono {F F' : Hp} (e : Same F F') (h : BoV f F v d) : BoV f F' v d := by
  rcases h with h | ⟨a, e1, h⟩
  · exact .inl (h.mono e)
  · exact .inr ⟨a, e1, h.mono e fun _ h => h⟩

/-- a heap that keeps all but the source's cells, the mutable things the same -/
theorem Rel.step {g' : Gs} (R : Rel f g σ H ρ) (hM : ∀ a, g.M a ↔ g'.M a) (hs : g'.src = g.src) (hT : g'.T = g.T)
    (hk : ∀ a o, H a = some o → (∀ p c, g.src = some (p, c) → a ≠ p ∧ a ≠ c) → H' a = some o) (hd : ∀ a, H' a = none → H a = none)
    (hsrc : ∀ p c, g.src = some (p, c) → SrcOk H' p c) : Rel f g' σ H' ρ ∧ Gro g H g' H' := by
  have hG : Gro g H g' H' := by
    refine ⟨fz_mono fun a o e n => ⟨hk a o e fun p c hp => ⟨fun q => n (q ▸ (R.src p c hp).2.1), fun q => n (q ▸ (R.src p c hp).2.2.1)⟩, fun z => n ((hM a).2 z)⟩, fun pc h => hs.trans h, hT, fun a h => ?_⟩
    have hn := R.tmp a h
    cases e : H a with
    | none => exact absurd hn.1 (R.mH a e)
    | some o => exact hk a o e fun p c hp => hn.2.1 p c hp
  refine ⟨⟨fun a o e n => hk a o (R.keep a o e n) fun p c hp => ⟨?_, ?_⟩, fun a e => R.dom a (hd a e), fun a m => (hM a).1 (R.m0 a m), R.m00, fun a m => R.mu_step hk hsrc a ((hM a).2 m), fun p c hp => ?_, R.len, fun i s e => ?_, R.uq, fun a h => ?_⟩, hG⟩
  · rintro rfl
    rcases (R.src a c hp).2.2.2.1 with z | z
    · exact n z
    · rw [e] at z; cases z
  · rintro rfl
    rcases (R.src p a hp).2.2.2.2.1 with z | z
    · exact n z
    · rw [e] at z; cases z
  · rw [hs] at hp
    obtain ⟨h1, h2, h3, h4, h5, h6⟩ := R.src p c hp
    exact ⟨h1, (hM _).1 h2, (hM _).1 h3, h4, h5, hsrc p c hp⟩
  · obtain ⟨v, e1, h⟩ := R.slot i s e
    refine ⟨v, e1, ?_⟩
    cases s with
    | sh d => exact Rp.mono hG.fz h
    | bo d => exact BoV.mono hG.fz h
    | ow d =>
      obtain ⟨a, e2, m, h0, ns, r⟩ := h
      exact ⟨a, e2, (hM a).1 m, h0, fun p c hp => ns p c (hs ▸ hp), r.mono hG.fz fun o e => hk a o e fun p c hp => ns p c hp⟩
    | src =>
      obtain ⟨p, c, e2, e3⟩ := h
      exact ⟨p, c, hs.trans e2, e3⟩
    | scr => exact h
  · rw [hT] at h
    obtain ⟨h1, h2, h3⟩ := R.tmp a h
    exact ⟨(hM a).1 h1, fun p c hp => h2 p c (hs ▸ hp), h3⟩
theorem VR.step {g' : Gs} {r : Rv} (hM : ∀ a, g.M a ↔ g'.M a) (hs : g'.src = g.src) (hT : g'.T = g.T)
    (hk : ∀ a o, H a = some o → (∀ p c, g.src = some (p, c) → a ≠ p ∧ a ≠ c) → H' a = some o) (G : Gro g H g' H') (h : VR f g σ H ρ v r) : VR f g' σ H' ρ v r := by
  cases r with
  | fz d => exact Rp.mono G.fz h
  | nw d =>
    obtain ⟨a, e2, m, h0, ns, r, t, u⟩ := h
    exact ⟨a, e2, (hM a).1 m, h0, fun p c hp => ns p c (hs ▸ hp), r.mono G.fz fun o e => hk a o e fun p c hp => ns p c hp, by rw [hT]; exact t, u⟩
  | vr i => exact h
  | src =>
    obtain ⟨p, c, e2, e3⟩ := h
    exact ⟨p, c, hs.trans e2, e3⟩
  | scr => exact h
theorem srcOk_upd {p c a : Addr} {o : HO} (h : SrcOk H p c) (h1 : p ≠ a) (h2 : c ≠ a) : SrcOk (upd H a o) p c := by
  obtain ⟨ns, l, m, t, more, e1, e2, r⟩ := h
  exact ⟨ns, l, m, t, more, by rw [upd_ne h1]; exact e1, by rw [upd_ne h2]; exact e2, r⟩
/-- a new frozen thing -/
theorem Rel.new (R : Rel f g σ H ρ) (hp : H p = none) : Rel f g σ (upd H p o) ρ ∧ Gro g H g (upd H p o) ∧ Fz (upd H p o) g.M p = some o := by
  have hk : ∀ a u, H a = some u → upd H p o a = some u := fun a u e => by rw [upd_ne (ne_of_none e hp)]; exact e
  obtain ⟨a, b⟩ := R.step (g' := g) (H' := upd H p o) (fun _ => Iff.rfl) rfl rfl (fun a o e _ => hk a o e) (fun a e => by
    by_cases q : a = p
    · rw [q]; exact hp
    · rw [upd_ne q] at e; exact e) (fun q c e => by
    obtain ⟨_, h2, h3, _, _, h6⟩ := R.src q c e
    exact srcOk_upd h6 (fun z => R.mH _ hp (z ▸ h2)) fun z => R.mH _ hp (z ▸ h3))
  exact ⟨a, b, fz_of upd_same (R.mH p hp)⟩
def Gs.add (g : Gs) (p : Addr) : Gs := ⟨fun a => g.M a ∨ a = p, g.src, g.T⟩
def Gs.del (g : Gs) (p : Addr) : Gs := ⟨fun a => g.M a ∧ a ≠ p, g.src, g.T⟩
/-- a new thing of one's own -/
theorem Rel.own (R : Rel f g σ H ρ) (hp : H p = none) (hr : Rt f.K (Fz H g.M) (upd H p o) p d) : Rel f (g.add p) σ (upd H p o) ρ ∧ Gro g H (g.add p) (upd H p o) ∧ VR f (g.add p) σ (upd H p o) ρ (.ref p) (.nw d) := by
  have hk : ∀ a u, H a = some u → upd H p o a = some u := fun a u e => by rw [upd_ne (ne_of_none e hp)]; exact e
  have hG : Same (Fz H g.M) (Fz (upd H p o) (g.add p).M) := fz_mono fun a u e n => ⟨hk a u e, fun z => z.elim n fun q => by rw [q, hp] at e; cases e⟩
  have hns : NoSrc g p := fun q c e => ⟨fun z => R.mH p hp (by rw [z]; exact (R.src q c e).2.1), fun z => R.mH p hp (by rw [z]; exact (R.src q c e).2.2.1)⟩
  have hd : ∀ a, upd H p o a = none → H a = none := fun a e => by
    by_cases q : a = p
    · rw [q]; exact hp
    · rw [upd_ne q] at e; exact e
  refine ⟨⟨fun a u e n => hk a u (R.keep a u e n), fun a e => R.dom a (hd a e), fun a m => .inl (R.m0 a m), R.m00, fun a m => ?_, fun q c e => ?_, R.len, fun i s e => ?_, R.uq, fun a h => ⟨.inl (R.tmp a h).1, (R.tmp a h).2⟩⟩, ⟨hG, fun _ h => h, rfl, fun a h => upd_ne fun q => R.mH p hp (q ▸ (R.tmp a h).1)⟩, p, rfl, .inr rfl, R.dom p hp, hns, hr.mono hG fun _ h => h, fun h => R.mH p hp (R.tmp p h).1, fun i e h1 h2 => ?_⟩
  · rcases m with m | m
    · rw [upd_ne (fun q => R.mH p hp (by rw [← q]; exact m))]; exact R.mU a m
    · rw [m]; exact hr.mu
  · obtain ⟨h1, h2, h3, h4, h5, h6⟩ := R.src q c e
    exact ⟨h1, .inl h2, .inl h3, h4, h5, srcOk_upd h6 (fun z => R.mH _ hp (z ▸ h2)) fun z => R.mH _ hp (z ▸ h3)⟩
  · obtain ⟨v, e1, h⟩ := R.slot i s e
    refine ⟨v, e1, ?_⟩
    cases s with
    | sh d => exact Rp.mono hG h
    | bo d => exact BoV.mono hG h
    | ow d =>
      obtain ⟨a, e2, m, h0, ns, r⟩ := h
      exact ⟨a, e2, .inl m, h0, ns, r.mono hG fun o e => hk a o e⟩
    | src => exact h
    | scr => exact h
  · obtain ⟨v, e1, a, e2, m, h0, ns, r⟩ := R.slot i _ h1
    rw [e1] at h2
    cases h2
    cases e2
    obtain ⟨o', e3⟩ := r.there
    rw [hp] at e3; cases e3
/-- what was one's own is frozen -/
theorem Rel.freeze {a : Addr} (R : Rel f g σ H ρ) (h0 : f.H0 a = none) (ns : NoSrc g a) (ht : a ∉ g.T) (u : ∀ (i : Nat) (e : D), ρ[i]? = some (some (.ow e)) → σ[i]? ≠ some (some (.ref a))) :
    Rel f (g.del a) σ H ρ ∧ Gro g H (g.del a) H := by
  have hG : Same (Fz H g.M) (Fz H (g.del a).M) := fz_mono fun b o e n => ⟨e, fun z => n z.1⟩
  refine ⟨⟨R.keep, R.dom, fun b m => ⟨R.m0 b m, fun q => R.m00 b m (q ▸ h0)⟩, R.m00, fun b m => R.mU b m.1, fun p c e => ?_, R.len, fun i s e => ?_, R.uq, fun b h => ⟨⟨(R.tmp b h).1, fun q => ht (q ▸ h)⟩, (R.tmp b h).2⟩⟩, ⟨hG, fun _ h => h, rfl, fun _ _ => rfl⟩⟩
  · obtain ⟨h1, h2, h3, h4, h5, h6⟩ := R.src p c e
    exact ⟨h1, ⟨h2, (ns p c e).1.symm⟩, ⟨h3, (ns p c e).2.symm⟩, h4, h5, h6⟩
  · obtain ⟨v, e1, h⟩ := R.slot i s e
    refine ⟨v, e1, ?_⟩
    cases s with
    | sh d => exact Rp.mono hG h
    | bo d => exact BoV.mono hG h
    | ow d =>
      obtain ⟨b, e2, m, h0, ns, r⟩ := h
      refine ⟨b, e2, ⟨m, fun q => u i d e ?_⟩, h0, ns, r.mono hG fun o e => e⟩
      rw [e1, e2, q]
    | src => exact h
    | scr => exact h
end
end DL

set_option Elab.async false
set_option linter.all false
set_option maxRecDepth 100000
set_option maxHeartbeats 4000000
namespace DL
open PySem L2

/-! ### operands -/
def slD : Option (Option Sl) → Option D
  | some (some (.sh d)) => some d
  | some (some (.bo d)) => some d
  | some (some (.ow d)) => some d
  | _ => none
def res (ρ : Rho) : Rv → Option D
  | .fz d => some d
  | .nw d => some d
  | .vr i => slD ρ[i]?
  | .src => none
  | .scr => none
def Opd (f : Fr) (g : Gs) (σ : L2.St) (H : Hp) (v : V) : Rv → Prop
  | .fz d => Rp f.K (Fz H g.M) v d
  | .nw d => Rp f.K (Fz H g.M) v d
  | .vr i => σ[i]? = some (some v)
  | .src => ∃ p c, g.src = some (p, c) ∧ v = .ref p
  | .scr => Scr f v
section
variable {f : Fr} {g g' : Gs} {σ : L2.St} {H H' : Hp} {ρ ρ' : Rho} {v u : V} {d x y : D} {p : Addr} {o : HO} {r : Rv}
theorem Opd.mono (G : Gro g H g' H') (h : Opd f g σ H v r) : Opd f g' σ H' v r := by
  cases r with
  | fz d => exact Rp.mono G.fz h
  | nw d => exact Rp.mono G.fz h
  | vr i => exact h
  | src => obtain ⟨p, c, e1, e2⟩ := h; exact ⟨p, c, G.src _ e1, e2⟩
  | scr => exact h
theorem Opd.rn (R : Rel f g σ H ρ) (h : Opd f g σ H v r) (e : res ρ r = some d) : RN f.K (Fz H g.M) H v d := by
  cases r with
  | fz x => cases e; exact .inl h
  | nw x => cases e; exact .inl h
  | vr i =>
    have e : slD ρ[i]? = some d := e
    unfold slD at e
    split at e
    · rename_i x e1
      cases e
      obtain ⟨w, e2, q⟩ := R.slot i _ e1
      have h' : σ[i]? = some (some v) := h
      rw [h'] at e2; cases e2
      exact SlR.rn R q d (.inl rfl)
    · rename_i x e1
      cases e
      obtain ⟨w, e2, q⟩ := R.slot i _ e1
      have h' : σ[i]? = some (some v) := h
      rw [h'] at e2; cases e2
      exact SlR.rn R q d (.inr (.inl rfl))
    · rename_i x e1
      cases e
      obtain ⟨w, e2, q⟩ := R.slot i _ e1
      have h' : σ[i]? = some (some v) := h
      rw [h'] at e2; cases e2
      exact SlR.rn R q d (.inr (.inr rfl))
    · cases e
  | src => cases e
  | scr => cases e
/-- the result of an expression as an operand: what is new is frozen -/
theorem VR.opd (R : Rel f g σ H ρ) (h : VR f g σ H ρ v r) : ∃ g', Rel f g' σ H ρ ∧ Gro g H g' H ∧ Opd f g' σ H v r := by
  cases r with
  | fz d => exact ⟨g, R, Gro.refl, h⟩
  | nw d =>
    obtain ⟨a, rfl, m, h0, ns, r, t, u⟩ := h
    obtain ⟨R', G⟩ := R.freeze h0 ns t u
    exact ⟨g.del a, R', G, r.rp G.fz fun o e => fz_of e fun z => z.2 rfl⟩
  | vr i =>
    obtain ⟨s, _, _, e⟩ := h
    exact ⟨g, R, Gro.refl, e⟩
  | src => exact ⟨g, R, Gro.refl, h⟩
  | scr => exact ⟨g, R, Gro.refl, h⟩
/-- an operand that is stored elsewhere: frozen for good -/
def flatD : D → Bool
  | .list _ => false
  | .dict _ => false
  | _ => true
theorem BoV.flat {f : Fr} {F : Hp} {v : V} {d : D} (h : BoV f F v d) (hd : flatD d = true) : Rp f.K F v d := by
  rcases h with h | ⟨a, _, h⟩
  · exact h
  · cases h <;> cases hd
def frzV (ρ : Rho) (i : Nat) : Option (Option Sl) → Option (D × Rho)
  | some (some (.sh d)) => some (d, ρ)
  | some (some (.ow d)) => some (d, ρ.set i (some (.sh d)))
  | some (some (.bo d)) => if flatD d = true then some (d, ρ) else none
  | _ => none
def frz (ρ : Rho) : Rv → Option (D × Rho)
  | .fz d => some (d, ρ)
  | .nw d => some (d, ρ)
  | .vr i => frzV ρ i ρ[i]?
  | .src => none
  | .scr => none
theorem getset {α : Type} {l : List α} {i j : Nat} {a x : α} (h : (l.set i a)[j]? = some x) : (i = j ∧ x = a) ∨ (i ≠ j ∧ l[j]? = some x) := by
  by_cases e : i = j
  · subst e
    by_cases hl : i < l.length
    · rw [List.getElem?_set_self hl] at h; cases h; exact .inl ⟨rfl, rfl⟩
    · rw [List.getElem?_eq_none (by simpa using hl)] at h; cases h
  · rw [List.getElem?_set_ne e] at h; exact .inr ⟨e, h⟩
/-- an own slot is frozen -/
theorem Rel.frzSlot {i : Nat} {a : Addr} (R : Rel f g σ H ρ) (hs : ρ[i]? = some (some (.ow d))) (hv : σ[i]? = some (some (.ref a))) :
    Rel f (g.del a) σ H (ρ.set i (some (.sh d))) ∧ Gro g H (g.del a) H ∧ Rp f.K (Fz H (g.del a).M) (.ref a) d := by
  obtain ⟨w, e1, b, e2, m, h0, ns, r⟩ := R.slot i _ hs
  rw [hv] at e1; cases e1; cases e2
  have hi : i < ρ.length := (List.getElem?_eq_some_iff.mp hs).1
  have R1 : Rel f g σ H (ρ.set i none) := ⟨R.keep, R.dom, R.m0, R.m00, R.mU, R.src, by rw [List.length_set]; exact R.len, fun j s e => by
      rcases getset e with ⟨_, q⟩ | ⟨_, q⟩
      · cases q
      · exact R.slot j s q, fun j k l d e h1 h2 h3 h4 => by
      rcases getset h1 with ⟨_, q⟩ | ⟨_, q⟩
      · cases q
      rcases getset h2 with ⟨_, q2⟩ | ⟨_, q2⟩
      · cases q2
      exact R.uq j k l d e q q2 h3 h4, fun b h => ⟨(R.tmp b h).1, (R.tmp b h).2.1, fun j e h1 => by
      rcases getset h1 with ⟨_, q⟩ | ⟨_, q⟩
      · cases q
      exact (R.tmp b h).2.2 j e q⟩⟩
  obtain ⟨R', G⟩ := R1.freeze (a := a) h0 ns (fun h => (R.tmp a h).2.2 i d hs hv) (fun j e h1 h2 => by
    rcases getset h1 with ⟨_, q⟩ | ⟨ne, q⟩
    · cases q
    exact ne (R.uq i j a d e hs q hv h2))
  have hr : Rp f.K (Fz H (g.del a).M) (.ref a) d := r.rp G.fz fun o e => fz_of e fun z => z.2 rfl
  refine ⟨⟨R'.keep, R'.dom, R'.m0, R'.m00, R'.mU, R'.src, by rw [List.length_set]; exact R.len, fun j s e => ?_, fun j k l d e h1 h2 h3 h4 => ?_, fun b h => ⟨(R'.tmp b h).1, (R'.tmp b h).2.1, fun j e h1 => ?_⟩⟩, G, hr⟩
  · rcases getset e with ⟨rfl, q⟩ | ⟨ne, q⟩
    · cases q; exact ⟨_, hv, hr⟩
    · exact R'.slot j s (by rw [List.getElem?_set_ne ne]; exact q)
  · rcases getset h1 with ⟨_, q⟩ | ⟨ne1, q⟩
    · cases q
    rcases getset h2 with ⟨_, q2⟩ | ⟨ne2, q2⟩
    · cases q2
    exact R.uq j k l d e q q2 h3 h4
  · rcases getset h1 with ⟨_, q⟩ | ⟨_, q⟩
    · cases q
    exact (R.tmp b h).2.2 j e q
theorem Opd.frzS (R : Rel f g σ H ρ) (h : Opd f g σ H v r) (e : frz ρ r = some (d, ρ')) : ∃ g', Rel f g' σ H ρ' ∧ Gro g H g' H ∧ g'.src = g.src ∧ Rp f.K (Fz H g'.M) v d := by
  cases r with
  | fz x => cases e; exact ⟨g, R, Gro.refl, rfl, h⟩
  | nw x => cases e; exact ⟨g, R, Gro.refl, rfl, h⟩
  | vr i =>
    have e : frzV ρ i ρ[i]? = some (d, ρ') := e
    unfold frzV at e
    have h' : σ[i]? = some (some v) := h
    split at e
    · rename_i x e1
      cases e
      obtain ⟨w, e2, q⟩ := R.slot i _ e1
      rw [h'] at e2; cases e2
      exact ⟨g, R, Gro.refl, rfl, q⟩
    · rename_i x e1
      cases e
      obtain ⟨w, e2, b, e3, _⟩ := R.slot i _ e1
      rw [h'] at e2; cases e2; cases e3
      obtain ⟨a, b, c⟩ := R.frzSlot e1 h'
      exact ⟨_, a, b, rfl, c⟩
    · rename_i x e1
      split at e
      · rename_i hf
        cases e
        obtain ⟨w, e2, q⟩ := R.slot i _ e1
        rw [h'] at e2; cases e2
        exact ⟨g, R, Gro.refl, rfl, q.flat hf⟩
      · cases e
    · cases e
  | src => cases e
  | scr => cases e
theorem Opd.frz (R : Rel f g σ H ρ) (h : Opd f g σ H v r) (e : frz ρ r = some (d, ρ')) : ∃ g', Rel f g' σ H ρ' ∧ Gro g H g' H ∧ Rp f.K (Fz H g'.M) v d :=
  let ⟨g', a, b, _, c⟩ := Opd.frzS R h e
  ⟨g', a, b, c⟩
end

/-! ### expressions -/
abbrev DE := Rho → (Rv → Rho → Prop) → Prop
def LE (K : PySem.W.Frag) (t : TE) (d : DE) : Prop := ∀ (f : Fr) (g : Gs) (σ : L2.St) (H : Hp) (ρ : Rho) (Q : Rv → Rho → Prop) (R : V → Hp → Prop), f.K = K → Rel f g σ H ρ → d ρ Q →
  (∀ (v : V) (H' : Hp) (g' : Gs) (ρ' : Rho) (r : Rv), Rel f g' σ H' ρ' → Gro g H g' H' → VR f g' σ H' ρ' v r → Q r ρ' → R v H') → t σ H R
/-- as an operand -/
theorem LE.opd {K : PySem.W.Frag} {t : TE} {d : DE} (h : LE K t d) {f : Fr} {g : Gs} {σ : L2.St} {H : Hp} {ρ : Rho} {Q : Rv → Rho → Prop} {R : V → Hp → Prop} (hK : f.K = K) (hR : Rel f g σ H ρ) (hd : d ρ Q)
    (k : ∀ (v : V) (H' : Hp) (g' : Gs) (ρ' : Rho) (r : Rv), Rel f g' σ H' ρ' → Gro g H g' H' → Opd f g' σ H' v r → Q r ρ' → R v H') : t σ H R :=
  h f g σ H ρ Q R hK hR hd fun v H' g' ρ' r R' G' V' q => by
    obtain ⟨g2, R2, G2, O⟩ := V'.opd R'
    exact k v H' g2 ρ' r R2 (G'.trans G2) O q
def wD (o : Option D) (k : D → Prop) : Prop := match o with
  | some x => k x
  | none => False
theorem wD_some {o : Option D} {k : D → Prop} (h : wD o k) : ∃ x, o = some x ∧ k x := by
  cases o with
  | some x => exact ⟨x, rfl, h⟩
  | none => exact h.elim
def wF (o : Option (D × Rho)) (k : D → Rho → Prop) : Prop := match o with
  | some x => k x.1 x.2
  | none => False
theorem wF_some {o : Option (D × Rho)} {k : D → Rho → Prop} (h : wF o k) : ∃ x ρ, o = some (x, ρ) ∧ k x ρ := by
  cases o with
  | some x => exact ⟨x.1, x.2, rfl, h⟩
  | none => exact h.elim
def dVar (i : Nat) : DE := fun ρ Q => match ρ[i]? with
  | some (some (.sh d)) => Q (.fz d) ρ
  | some (some (.bo _)) => Q (.vr i) ρ
  | some (some (.ow _)) => Q (.vr i) ρ
  | some (some .src) => Q .src ρ
  | some (some .scr) => Q .scr ρ
  | _ => False
theorem le_var {K : PySem.W.Frag} {i : Nat} : LE K (tVar i) (dVar i) := by
  intro f g σ H ρ Q R hK hR hd k
  unfold dVar at hd
  split at hd
  · rename_i d e
    obtain ⟨v, e1, q⟩ := hR.slot i _ e
    exact ⟨v, e1, k v H g ρ (.fz d) hR Gro.refl q hd⟩
  · rename_i d e
    obtain ⟨v, e1, q⟩ := hR.slot i _ e
    exact ⟨v, e1, k v H g ρ (.vr i) hR Gro.refl ⟨_, e, trivial, e1⟩ hd⟩
  · rename_i d e
    obtain ⟨v, e1, q⟩ := hR.slot i _ e
    exact ⟨v, e1, k v H g ρ (.vr i) hR Gro.refl ⟨_, e, trivial, e1⟩ hd⟩
  · rename_i e
    obtain ⟨v, e1, q⟩ := hR.slot i _ e
    exact ⟨v, e1, k v H g ρ .src hR Gro.refl q hd⟩
  · rename_i e
    obtain ⟨v, e1, q⟩ := hR.slot i _ e
    exact ⟨v, e1, k v H g ρ .scr hR Gro.refl q hd⟩
  · exact hd.elim
def dC (d : D) : DE := fun ρ Q => Q (.fz d) ρ
theorem le_c {K : PySem.W.Frag} {v : V} {d : D} (h : ∀ F, Rp K F v d) : LE K (tC v) (dC d) := fun f g σ H ρ Q R hK hR hd k =>
  k v H g ρ _ hR Gro.refl (by rw [← hK] at h; exact h _) hd
theorem le_int {K : PySem.W.Frag} {i : Int} : LE K (tC (.int i)) (dC (.int i)) := le_c fun _ => .int i
theorem le_bl {K : PySem.W.Frag} {i : Bool} : LE K (tC (.bl i)) (dC (.bool i)) := le_c fun _ => .bl i
theorem le_str {K : PySem.W.Frag} {i : Str} : LE K (tC (.str i)) (dC (.str i)) := le_c fun _ => .str i
theorem le_non {K : PySem.W.Frag} : LE K (tC .non) (dC .none) := le_c fun _ => .non

/-- what an operation on read values asks and gives -/
abbrev F2 := D → D → (Rv → Prop) → Prop
def OpL (K : PySem.W.Frag) (r : R2) (F : F2) : Prop := ∀ (f : Fr) (g : Gs) (σ : L2.St) (H : Hp) (ρ : Rho) (v u : V) (x y : D) (Q : Rv → Prop) (R : V → Hp → Prop), f.K = K → Rel f g σ H ρ → RN K (Fz H g.M) H v x → RN K (Fz H g.M) H u y → F x y Q →
  (∀ (z : V) (H' : Hp) (g' : Gs) (r : Rv), Rel f g' σ H' ρ → Gro g H g' H' → VR f g' σ H' ρ z r → Q r → R z H') → r v u H R
def dOp (F : F2) (da db : DE) : DE := fun ρ Q => da ρ fun r1 ρ1 => db ρ1 fun r2 ρ2 => wD (res ρ2 r1) fun x => wD (res ρ2 r2) fun y => F x y fun r => Q r ρ2
theorem le_op {K : PySem.W.Frag} {ta tb : TE} {da db : DE} {r : R2} {F : F2} (ha : LE K ta da) (hb : LE K tb db) (ho : OpL K r F) : LE K (tOp r ta tb) (dOp F da db) := by
  intro f g σ H ρ Q R hK hR hd k
  refine ha.opd hK hR hd fun v H1 g1 ρ1 r1 R1 G1 O1 q1 => ?_
  refine hb.opd hK R1 q1 fun u H2 g2 ρ2 r2 R2 G2 O2 q2 => ?_
  obtain ⟨x, e1, q2⟩ := wD_some q2
  obtain ⟨y, e2, q2⟩ := wD_some q2
  subst hK
  exact ho f g2 σ H2 ρ2 v u x y _ R rfl R2 ((O1.mono G2).rn R2 e1) (O2.rn R2 e2) q2 fun z H3 g3 r R3 G3 V3 q3 => k z H3 g3 ρ2 r R3 ((G1.trans G2).trans G3) V3 q3
/-- an operation that gives a value and leaves the heap -/
def OpP (K : PySem.W.Frag) (r : R2) (F : F2) : Prop := ∀ (F0 H : Hp) (v u : V) (x y : D) (Q : Rv → Prop) (R : V → Hp → Prop), Same F0 H → RN K F0 H v x → RN K F0 H u y → F x y Q → (∀ z d, Rp K F0 z d → Q (.fz d) → R z H) → r v u H R
theorem OpP.l {K : PySem.W.Frag} {r : R2} {F : F2} (h : OpP K r F) : OpL K r F := fun f g σ H ρ v u x y Q R hK hR h1 h2 hF k =>
  h _ H v u x y Q R fz_sub h1 h2 hF fun z d hz q => k z H g (.fz d) hR Gro.refl (by subst hK; exact hz) q
theorem OpL.or1 {K : PySem.W.Frag} {r r' : R2} {F F' : F2} (h : OpL K r F) (h' : OpL K r' F') : OpL K (fun x y H Q => r x y H Q ∨ r' x y H Q) (fun x y Q => F x y Q ∨ F' x y Q) :=
  fun f g σ H ρ v u x y Q R hK hR h1 h2 hF k => hF.elim (fun z => .inl (h f g σ H ρ v u x y Q R hK hR h1 h2 z k)) fun z => .inr (h' f g σ H ρ v u x y Q R hK hR h1 h2 z k)
/-- .. by cases of what is read -/
theorem OpL.or {K : PySem.W.Frag} {r r' : R2} {F : F2} (h : ∀ f g σ H ρ v u x y Q R, f.K = K → Rel f g σ H ρ → RN K (Fz H g.M) H v x → RN K (Fz H g.M) H u y → F x y Q →
  (∀ (z : V) (H' : Hp) (g' : Gs) (r : Rv), Rel f g' σ H' ρ → Gro g H g' H' → VR f g' σ H' ρ z r → Q r → R z H') → r v u H R ∨ r' v u H R) : OpL K (fun x y H Q => r x y H Q ∨ r' x y H Q) F := h

/-! ### tests -/
abbrev DT := Rho → (Bool → Rho → Prop) → Prop
def LT (K : PySem.W.Frag) (t : TT) (d : DT) : Prop := ∀ (f : Fr) (g : Gs) (σ : L2.St) (H : Hp) (ρ : Rho) (Q : Bool → Rho → Prop) (R : Bool → Hp → Prop), f.K = K → Rel f g σ H ρ → d ρ Q →
  (∀ (b : Bool) (H' : Hp) (g' : Gs) (ρ' : Rho), Rel f g' σ H' ρ' → Gro g H g' H' → Q b ρ' → R b H') → t σ H R
def wB (o : Option D) (k : Bool → Prop) : Prop := match o with
  | some (.bool b) => k b
  | _ => False
theorem wB_some {o : Option D} {k : Bool → Prop} (h : wB o k) : ∃ b, o = some (.bool b) ∧ k b := by
  unfold wB at h
  split at h
  · exact ⟨_, rfl, h⟩
  · exact h.elim
def dTest (d : DE) : DT := fun ρ Q => d ρ fun r ρ1 => wB (res ρ1 r) fun b => Q b ρ1
section
variable {K : PySem.W.Frag} {ta tb : TE} {da db : DE} {t u : TT} {d e : DT}
theorem lt_B (h : LE K ta da) : LT K (tB ta) (dTest da) := by
  intro f g σ H ρ Q R hK hR hd k
  refine h.opd hK hR hd fun v H1 g1 ρ1 r1 R1 G1 O1 q1 => ?_
  obtain ⟨b, e1, q1⟩ := wB_some q1
  exact ⟨b, (O1.rn R1 e1).bool, k b H1 g1 ρ1 R1 G1 q1⟩
theorem lt_test (h : LE K ta da) : LT K (tTest ta) (dTest da) := lt_B h
/-- two ways, kept shut -/
@[irreducible] def useB (b : Bool) (A B : Prop) : Prop := if b = true then A else B
theorem useB_t {A B : Prop} (h : useB true A B) : A := by unfold useB at h; exact h
theorem useB_f {A B : Prop} (h : useB false A B) : B := by unfold useB at h; exact h
theorem useB_y {b : Bool} {A B : Prop} (h : b = true) (a : A) : useB b A B := by unfold useB; rw [if_pos h]; exact a
theorem useB_n {b : Bool} {A B : Prop} (h : b = false) (a : B) : useB b A B := by unfold useB; rw [h, if_neg Bool.false_ne_true]; exact a
theorem useB_b {b : Bool} {A B : Prop} (h1 : b = true → A) (h2 : b = false → B) : useB b A B := by
  cases b with
  | true => exact useB_y rfl (h1 rfl)
  | false => exact useB_n rfl (h2 rfl)
def dAnd (d e : DT) : DT := fun ρ Q => d ρ fun b ρ1 => useB b (e ρ1 Q) (Q false ρ1)
def dOr (d e : DT) : DT := fun ρ Q => d ρ fun b ρ1 => useB b (Q true ρ1) (e ρ1 Q)
def dNot (d : DT) : DT := fun ρ Q => d ρ fun b ρ1 => Q (!b) ρ1
theorem lt_and (h : LT K t d) (h' : LT K u e) : LT K (tAnd t u) (dAnd d e) := by
  intro f g σ H ρ Q R hK hR hd k
  refine h f g σ H ρ _ _ hK hR hd fun b H1 g1 ρ1 R1 G1 q1 => ?_
  cases b with
  | true => replace q1 := useB_t q1; exact h' f g1 σ H1 ρ1 Q R hK R1 q1 fun c H2 g2 ρ2 R2 G2 q2 => k c H2 g2 ρ2 R2 (G1.trans G2) q2
  | false => replace q1 := useB_f q1; exact k false H1 g1 ρ1 R1 G1 q1
theorem lt_or (h : LT K t d) (h' : LT K u e) : LT K (tOr t u) (dOr d e) := by
  intro f g σ H ρ Q R hK hR hd k
  refine h f g σ H ρ _ _ hK hR hd fun b H1 g1 ρ1 R1 G1 q1 => ?_
  cases b with
  | false => replace q1 := useB_f q1; exact h' f g1 σ H1 ρ1 Q R hK R1 q1 fun c H2 g2 ρ2 R2 G2 q2 => k c H2 g2 ρ2 R2 (G1.trans G2) q2
  | true => replace q1 := useB_t q1; exact k true H1 g1 ρ1 R1 G1 q1
theorem lt_not (h : LT K t d) : LT K (tNot t) (dNot d) := by
  intro f g σ H ρ Q R hK hR hd k
  exact h f g σ H ρ _ _ hK hR hd fun b H1 g1 ρ1 R1 G1 q1 => k (!b) H1 g1 ρ1 R1 G1 q1
/-- .. as values -/
def dAndV (da db : DE) : DE := fun ρ Q => da ρ fun r ρ1 => wB (res ρ1 r) fun b => useB b (db ρ1 Q) (Q (.fz (.bool false)) ρ1)
def dOrV (da db : DE) : DE := fun ρ Q => da ρ fun r ρ1 => wB (res ρ1 r) fun b => useB b (Q (.fz (.bool true)) ρ1) (db ρ1 Q)
def dNotV (da : DE) : DE := fun ρ Q => da ρ fun r ρ1 => wB (res ρ1 r) fun b => Q (.fz (.bool (!b))) ρ1
theorem le_andV (h : LE K ta da) (h' : LE K tb db) : LE K (tAndV ta tb) (dAndV da db) := by
  intro f g σ H ρ Q R hK hR hd k
  refine h.opd hK hR hd fun v H1 g1 ρ1 r1 R1 G1 O1 q1 => ?_
  obtain ⟨b, e1, q1⟩ := wB_some q1
  refine ⟨b, (O1.rn R1 e1).bool, ?_⟩
  cases b with
  | true => replace q1 := useB_t q1; exact h' f g1 σ H1 ρ1 Q R hK R1 q1 fun v H2 g2 ρ2 r2 R2 G2 V2 q2 => k v H2 g2 ρ2 r2 R2 (G1.trans G2) V2 q2
  | false => replace q1 := useB_f q1; exact k _ H1 g1 ρ1 (.fz (.bool false)) R1 G1 (Rp.bl false) q1
theorem le_orV (h : LE K ta da) (h' : LE K tb db) : LE K (tOrV ta tb) (dOrV da db) := by
  intro f g σ H ρ Q R hK hR hd k
  refine h.opd hK hR hd fun v H1 g1 ρ1 r1 R1 G1 O1 q1 => ?_
  obtain ⟨b, e1, q1⟩ := wB_some q1
  refine ⟨b, (O1.rn R1 e1).bool, ?_⟩
  cases b with
  | false => replace q1 := useB_f q1; exact h' f g1 σ H1 ρ1 Q R hK R1 q1 fun v H2 g2 ρ2 r2 R2 G2 V2 q2 => k v H2 g2 ρ2 r2 R2 (G1.trans G2) V2 q2
  | true => replace q1 := useB_t q1; exact k _ H1 g1 ρ1 (.fz (.bool true)) R1 G1 (Rp.bl true) q1
theorem le_notV (h : LE K ta da) : LE K (tNotV ta) (dNotV da) := by
  intro f g σ H ρ Q R hK hR hd k
  refine h.opd hK hR hd fun v H1 g1 ρ1 r1 R1 G1 O1 q1 => ?_
  obtain ⟨b, e1, q1⟩ := wB_some q1
  exact ⟨b, (O1.rn R1 e1).bool, k _ H1 g1 ρ1 (.fz (.bool (!b))) R1 G1 (Rp.bl _) q1⟩
def dIf (d : DT) (da db : DE) : DE := fun ρ Q => d ρ fun b ρ1 => useB b (da ρ1 Q) (db ρ1 Q)
theorem le_if (h : LT K t d) (h1 : LE K ta da) (h2 : LE K tb db) : LE K (tIf t ta tb) (dIf d da db) := by
  intro f g σ H ρ Q R hK hR hd k
  refine h f g σ H ρ _ _ hK hR hd fun b H1 g1 ρ1 R1 G1 q1 => ?_
  cases b with
  | true => replace q1 := useB_t q1; exact h1 f g1 σ H1 ρ1 Q R hK R1 q1 fun v H2 g2 ρ2 r2 R2 G2 V2 q2 => k v H2 g2 ρ2 r2 R2 (G1.trans G2) V2 q2
  | false => replace q1 := useB_f q1; exact h2 f g1 σ H1 ρ1 Q R hK R1 q1 fun v H2 g2 ρ2 r2 R2 G2 V2 q2 => k v H2 g2 ρ2 r2 R2 (G1.trans G2) V2 q2
/-- is None -/
def isNone : D → Bool
  | .none => true
  | _ => false
def dIsN (neg : Bool) (da : DE) : DE := fun ρ Q => da ρ fun r ρ1 => wD (res ρ1 r) fun x => Q (.fz (.bool (neg != isNone x))) ρ1
theorem rn_isN {F H : Hp} {v : V} {x : D} (h : RN K F H v x) : decide (v = .non) = isNone x := by
  rcases h with h | ⟨a, rfl, h⟩
  · cases h <;> rfl
  · cases h <;> rfl
theorem le_isN (h : LE K ta da) : LE K (tIsN ta) (dIsN false da) := by
  intro f g σ H ρ Q R hK hR hd k
  refine h.opd hK hR hd fun v H1 g1 ρ1 r1 R1 G1 O1 q1 => ?_
  obtain ⟨x, e1, q1⟩ := wD_some q1
  exact k _ H1 g1 ρ1 (.fz (.bool (isNone x))) R1 G1 (by rw [rn_isN (O1.rn R1 e1)]; exact Rp.bl _) (by simpa using q1)
theorem le_notN (h : LE K ta da) : LE K (tNotN ta) (dIsN true da) := by
  intro f g σ H ρ Q R hK hR hd k
  refine h.opd hK hR hd fun v H1 g1 ρ1 r1 R1 G1 O1 q1 => ?_
  obtain ⟨x, e1, q1⟩ := wD_some q1
  exact k _ H1 g1 ρ1 (.fz (.bool (!isNone x))) R1 G1 (by rw [rn_isN (O1.rn R1 e1)]; exact Rp.bl _) (by simpa using q1)
end

/-! ### argument lists -/
abbrev DA := Rho → (List Rv → Rho → Prop) → Prop
inductive OpdA (f : Fr) (g : Gs) (σ : L2.St) (H : Hp) : List V → List Rv → Prop
  | nil : OpdA f g σ H [] []
  | cons {v : V} {r : Rv} {vs : List V} {rs : List Rv} : Opd f g σ H v r → OpdA f g σ H vs rs → OpdA f g σ H (v :: vs) (r :: rs)
theorem OpdA.mono {f : Fr} {g g' : Gs} {σ : L2.St} {H H' : Hp} (G : Gro g H g' H') {vs : List V} {rs : List Rv} (h : OpdA f g σ H vs rs) : OpdA f g' σ H' vs rs := by
  induction h with
  | nil => exact .nil
  | cons h _ ih => exact .cons (h.mono G) ih
def LA (K : PySem.W.Frag) (t : TA) (d : DA) : Prop := ∀ (f : Fr) (g : Gs) (σ : L2.St) (H : Hp) (ρ : Rho) (Q : List Rv → Rho → Prop) (R : List V → Hp → Prop), f.K = K → Rel f g σ H ρ → d ρ Q →
  (∀ (vs : List V) (H' : Hp) (g' : Gs) (ρ' : Rho) (rs : List Rv), Rel f g' σ H' ρ' → Gro g H g' H' → OpdA f g' σ H' vs rs → Q rs ρ' → R vs H') → t σ H R
def dNil : DA := fun ρ Q => Q [] ρ
def dCons (da : DE) (dr : DA) : DA := fun ρ Q => da ρ fun r ρ1 => dr ρ1 fun rs ρ2 => Q (r :: rs) ρ2
section
variable {K : PySem.W.Frag} {ta : TE} {da : DE} {tr : TA} {dr : DA}
theorem la_nil : LA K tNil dNil := fun f g σ H ρ Q R hK hR hd k => k [] H g ρ [] hR Gro.refl .nil hd
theorem la_cons (h : LE K ta da) (h' : LA K tr dr) : LA K (tCons ta tr) (dCons da dr) := by
  intro f g σ H ρ Q R hK hR hd k
  refine h.opd hK hR hd fun v H1 g1 ρ1 r1 R1 G1 O1 q1 => ?_
  exact h' f g1 σ H1 ρ1 _ _ hK R1 q1 fun vs H2 g2 ρ2 rs R2 G2 O2 q2 => k _ H2 g2 ρ2 _ R2 (G1.trans G2) (.cons (O1.mono G2) O2) q2
/-- all frozen for good -/
def frzA (ρ : Rho) : List Rv → Option (List D × Rho)
  | [] => some ([], ρ)
  | r :: rs => match frz ρ r with
    | some (d, ρ1) => match frzA ρ1 rs with
      | some (ds, ρ2) => some (d :: ds, ρ2)
      | none => none
    | none => none
theorem OpdA.frz {f : Fr} {σ : L2.St} {H : Hp} : ∀ {rs : List Rv} {vs : List V} {g : Gs} {ρ ρ' : Rho} {ds : List D}, Rel f g σ H ρ → OpdA f g σ H vs rs → frzA ρ rs = some (ds, ρ') → ∃ g', Rel f g' σ H ρ' ∧ Gro g H g' H ∧ RpA f.K (Fz H g'.M) vs ds := by
  intro rs
  induction rs with
  | nil =>
    intro vs g ρ ρ' ds R h e
    cases h
    unfold frzA at e
    cases e
    exact ⟨g, R, Gro.refl, .nil⟩
  | cons r rs ih =>
    intro vs g ρ ρ' ds R h e
    cases h with
    | cons h hr =>
      unfold frzA at e
      split at e
      · rename_i d ρ1 e1
        split at e
        · rename_i ds ρ2 e2
          cases e
          obtain ⟨g1, R1, G1, q1⟩ := h.frz R e1
          obtain ⟨g2, R2, G2, q2⟩ := ih R1 (hr.mono G1) e2
          exact ⟨g2, R2, G1.trans G2, .cons (q1.mono G2.fz) q2⟩
        · cases e
      · cases e
def wFA (o : Option (List D × Rho)) (k : List D → Rho → Prop) : Prop := match o with
  | some x => k x.1 x.2
  | none => False
theorem wFA_some {o : Option (List D × Rho)} {k : List D → Rho → Prop} (h : wFA o k) : ∃ x ρ, o = some (x, ρ) ∧ k x ρ := by
  cases o with
  | some x => exact ⟨x.1, x.2, rfl, h⟩
  | none => exact h.elim
def dTup (da : DA) : DE := fun ρ Q => da ρ fun rs ρ1 => wFA (frzA ρ1 rs) fun ds ρ2 => ds.length ≤ sizeLine ∧ Q (.fz (.tuple ds)) ρ2
def dLst (da : DA) : DE := fun ρ Q => da ρ fun rs ρ1 => wFA (frzA ρ1 rs) fun ds ρ2 => ds.length ≤ sizeLine ∧ Q (.nw (.list ds)) ρ2
theorem le_tup (h : LA K tr dr) : LE K (tTup tr) (dTup dr) := by
  intro f g σ H ρ Q R hK hR hd k
  refine h f g σ H ρ _ _ hK hR hd fun vs H1 g1 ρ1 rs R1 G1 O1 q1 => ?_
  obtain ⟨ds, ρ2, e1, hl, q1⟩ := wFA_some q1
  obtain ⟨g2, R2, G2, q2⟩ := O1.frz R1 e1
  refine ⟨by rw [q2.length]; exact hl, fun p hp => ?_⟩
  obtain ⟨R3, G3, e3⟩ := R2.new (o := .tup vs) hp
  exact k _ _ g2 ρ2 (.fz (.tuple ds)) R3 ((G1.trans G2).trans G3) (Rp.tup e3 (q2.mono G3.fz)) q1
theorem le_lst (h : LA K tr dr) : LE K (tLst tr) (dLst dr) := by
  intro f g σ H ρ Q R hK hR hd k
  refine h f g σ H ρ _ _ hK hR hd fun vs H1 g1 ρ1 rs R1 G1 O1 q1 => ?_
  obtain ⟨ds, ρ2, e1, hl, q1⟩ := wFA_some q1
  obtain ⟨g2, R2, G2, q2⟩ := O1.frz R1 e1
  refine ⟨by rw [q2.length]; exact hl, fun p hp => ?_⟩
  obtain ⟨R3, G3, V3⟩ := R2.own (o := .lst vs) (d := .list ds) hp (.lst upd_same q2)
  exact k _ _ _ ρ2 _ R3 ((G1.trans G2).trans G3) V3 q1
end

/-! ### calls on values -/
abbrev FA := List D → (Rv → Prop) → Prop
inductive RNA (K : PySem.W.Frag) (F H : Hp) : List V → List D → Prop
  | nil : RNA K F H [] []
  | cons {v : V} {d : D} {vs : List V} {ds : List D} : RN K F H v d → RNA K F H vs ds → RNA K F H (v :: vs) (d :: ds)
def resA (ρ : Rho) : List Rv → Option (List D)
  | [] => some []
  | r :: rs => match res ρ r with
    | some d => match resA ρ rs with
      | some ds => some (d :: ds)
      | none => none
    | none => none
theorem OpdA.rn {f : Fr} {g : Gs} {σ : L2.St} {H : Hp} {ρ : Rho} (R : Rel f g σ H ρ) {vs : List V} {rs : List Rv} (h : OpdA f g σ H vs rs) : ∀ {ds : List D}, resA ρ rs = some ds → RNA f.K (Fz H g.M) H vs ds := by
  induction h with
  | nil => intro ds e; cases e; exact .nil
  | cons h _ ih =>
    intro ds e
    unfold resA at e
    split at e
    · rename_i d e1
      split at e
      · rename_i ds e2
        cases e
        exact .cons (h.rn R e1) (ih e2)
      · cases e
    · cases e
def wA (o : Option (List D)) (k : List D → Prop) : Prop := match o with
  | some x => k x
  | none => False
theorem wA_some {o : Option (List D)} {k : List D → Prop} (h : wA o k) : ∃ x, o = some x ∧ k x := by
  cases o with
  | some x => exact ⟨x, rfl, h⟩
  | none => exact h.elim
def CaL (K : PySem.W.Frag) (r : List V → Hp → VK → Prop) (F : FA) : Prop := ∀ (f : Fr) (g : Gs) (σ : L2.St) (H : Hp) (ρ : Rho) (vs : List V) (ds : List D) (Q : Rv → Prop) (R : V → Hp → Prop), f.K = K → Rel f g σ H ρ → RNA K (Fz H g.M) H vs ds → F ds Q →
  (∀ (z : V) (H' : Hp) (g' : Gs) (r : Rv), Rel f g' σ H' ρ → Gro g H g' H' → VR f g' σ H' ρ z r → Q r → R z H') → r vs H R
def dCB (F : FA) (da : DA) : DE := fun ρ Q => da ρ fun rs ρ1 => wA (resA ρ1 rs) fun ds => F ds fun r => Q r ρ1
theorem le_cb {K : PySem.W.Frag} {r : List V → Hp → VK → Prop} {F : FA} {tr : TA} {dr : DA} (h : LA K tr dr) (hc : CaL K r F) : LE K (tCB r tr) (dCB F dr) := by
  intro f g σ H ρ Q R hK hR hd k
  refine h f g σ H ρ _ _ hK hR hd fun vs H1 g1 ρ1 rs R1 G1 O1 q1 => ?_
  obtain ⟨ds, e1, q1⟩ := wA_some q1
  subst hK
  exact hc f g1 σ H1 ρ1 vs ds _ R rfl R1 (O1.rn R1 e1) q1 fun z H2 g2 r R2 G2 V2 q2 => k z H2 g2 ρ1 r R2 (G1.trans G2) V2 q2
end DL

set_option Elab.async false
set_option linter.all false
set_option maxRecDepth 100000
set_option maxHeartbeats 4000000
namespace DL
open PySem L2

/-! ### slots stored -/
section
variable {f : Fr} {g g' : Gs} {σ : L2.St} {H H' : Hp} {ρ ρ' : Rho} {v u : V} {d x y : D} {p : Addr} {o : HO} {r : Rv} {i : Nat} {s : Sl}
theorem Rel.set (R : Rel f g σ H ρ) (h : SlR f g H v s) (hu : ∀ d, s = .ow d → ∀ a, v = .ref a → a ∉ g.T ∧ ∀ (j : Nat) (e : D), j ≠ i → ρ[j]? = some (some (.ow e)) → σ[j]? ≠ some (some (.ref a))) :
    Rel f g (σ.set i (some v)) H (ρ.set i (some s)) := by
  refine ⟨R.keep, R.dom, R.m0, R.m00, R.mU, R.src, by rw [List.length_set, List.length_set]; exact R.len, fun j t e => ?_, fun j k l d e h1 h2 h3 h4 => ?_, fun b hb => ⟨(R.tmp b hb).1, (R.tmp b hb).2.1, fun j e h1 h2 => ?_⟩⟩
  · rcases getset e with ⟨rfl, q⟩ | ⟨ne, q⟩
    · cases q
      have hi : i < σ.length := by
        have := (List.getElem?_eq_some_iff.mp e).1
        rw [List.length_set] at this
        rw [← R.len]; exact this
      exact ⟨v, List.getElem?_set_self hi, h⟩
    · obtain ⟨w, e1, q1⟩ := R.slot j t q
      exact ⟨w, by rw [List.getElem?_set_ne ne]; exact e1, q1⟩
  · rcases getset h1 with ⟨rfl, q⟩ | ⟨ne1, q⟩
    · rcases getset h2 with ⟨rfl, q2⟩ | ⟨ne2, q2⟩
      · rfl
      · rcases getset h3 with ⟨_, z⟩ | ⟨z, _⟩
        · cases z
          rw [List.getElem?_set_ne ne2] at h4
          cases q
          exact absurd h4 ((hu _ rfl l rfl).2 k e (Ne.symm ne2) q2)
        · exact absurd rfl z
    · rcases getset h2 with ⟨rfl, q2⟩ | ⟨ne2, q2⟩
      · rcases getset h4 with ⟨_, z⟩ | ⟨z, _⟩
        · cases z
          rw [List.getElem?_set_ne ne1] at h3
          cases q2
          exact absurd h3 ((hu _ rfl l rfl).2 j d (Ne.symm ne1) q)
        · exact absurd rfl z
      · rw [List.getElem?_set_ne ne1] at h3
        rw [List.getElem?_set_ne ne2] at h4
        exact R.uq j k l d e q q2 h3 h4
  · rcases getset h1 with ⟨rfl, q⟩ | ⟨ne, q⟩
    · rcases getset h2 with ⟨_, z⟩ | ⟨z, _⟩
      · cases z; cases q
        exact (hu _ rfl b rfl).1 hb
      · exact z rfl
    · rw [List.getElem?_set_ne ne] at h2
      exact (R.tmp b hb).2.2 j e q h2
def asgV (ρ : Rho) (i j : Nat) : Option (Option Sl) → Option Rho
  | some (some (.sh d)) => some (ρ.set i (some (.sh d)))
  | some (some (.bo d)) => some (ρ.set i (some (.bo d)))
  | some (some (.ow d)) => some ((ρ.set j (some (.sh d))).set i (some (.sh d)))
  | _ => none
def asg (ρ : Rho) (i : Nat) : Rv → Option Rho
  | .fz d => some (ρ.set i (some (.sh d)))
  | .nw d => some (ρ.set i (some (.ow d)))
  | .vr j => asgV ρ i j ρ[j]?
  | .src => some (ρ.set i (some .src))
  | .scr => some (ρ.set i (some .scr))
def wR (o : Option Rho) (k : Rho → Prop) : Prop := match o with
  | some x => k x
  | none => False
theorem wR_some {o : Option Rho} {k : Rho → Prop} (h : wR o k) : ∃ x, o = some x ∧ k x := by
  cases o with
  | some x => exact ⟨x, rfl, h⟩
  | none => exact h.elim
theorem VR.asg (R : Rel f g σ H ρ) (h : VR f g σ H ρ v r) (e : asg ρ i r = some ρ') : ∃ g', Rel f g' (σ.set i (some v)) H ρ' ∧ Gro g H g' H := by
  cases r with
  | fz d => cases e; exact ⟨g, R.set (s := .sh d) h (fun d z => nomatch z), Gro.refl⟩
  | nw d =>
    cases e
    obtain ⟨a, rfl, m, h0, ns, r, t, u⟩ := h
    exact ⟨g, R.set (s := .ow d) ⟨a, rfl, m, h0, ns, r⟩ (fun d' z b hb => by cases hb; exact ⟨t, fun j e _ h1 => u j e h1⟩), Gro.refl⟩
  | src => cases e; exact ⟨g, R.set (s := .src) h (fun d z => nomatch z), Gro.refl⟩
  | scr => cases e; exact ⟨g, R.set (s := .scr) h (fun d z => nomatch z), Gro.refl⟩
  | vr j =>
    have e : asgV ρ i j ρ[j]? = some ρ' := e
    obtain ⟨s, e0, _, e1⟩ := h
    rw [e0] at e
    unfold asgV at e
    split at e
    · rename_i d e2
      cases e; cases e2
      obtain ⟨w, e3, q⟩ := R.slot j _ e0
      rw [e1] at e3; cases e3
      exact ⟨g, R.set (s := .sh d) q (fun d z => nomatch z), Gro.refl⟩
    · rename_i d e2
      cases e; cases e2
      obtain ⟨w, e3, q⟩ := R.slot j _ e0
      rw [e1] at e3; cases e3
      exact ⟨g, R.set (s := .bo d) q (fun d z => nomatch z), Gro.refl⟩
    · rename_i d e2
      cases e; cases e2
      obtain ⟨w, e3, a, e4, _⟩ := R.slot j _ e0
      rw [e1] at e3; cases e3; cases e4
      obtain ⟨R1, G1, q1⟩ := R.frzSlot e0 e1
      exact ⟨_, R1.set (s := .sh d) q1 (fun d z => nomatch z), G1⟩
    · cases e
end

/-! ### statements -/
structure DEnds where
  nx : Rho → Prop
  rt : Rv → Rho → Prop
  bk : Rho → Prop := fun _ => False
  ct : Rho → Prop := fun _ => False
abbrev DS := DEnds → Rho → Prop
structure LkE (f : Fr) (g : Gs) (H : Hp) (DD : DEnds) (E : Ends) : Prop where
  nx : ∀ (g' : Gs) (σ' : L2.St) (H' : Hp) (ρ' : Rho), Rel f g' σ' H' ρ' → Gro g H g' H' → DD.nx ρ' → E.nx σ' H'
  rt : ∀ (g' : Gs) (σ' : L2.St) (H' : Hp) (ρ' : Rho) (v : V) (r : Rv), Rel f g' σ' H' ρ' → Gro g H g' H' → VR f g' σ' H' ρ' v r → DD.rt r ρ' → E.rt v H'
  bk : ∀ (g' : Gs) (σ' : L2.St) (H' : Hp) (ρ' : Rho), Rel f g' σ' H' ρ' → Gro g H g' H' → DD.bk ρ' → E.bk σ' H'
  ct : ∀ (g' : Gs) (σ' : L2.St) (H' : Hp) (ρ' : Rho), Rel f g' σ' H' ρ' → Gro g H g' H' → DD.ct ρ' → E.ct σ' H'
theorem LkE.mono {f : Fr} {g g1 : Gs} {H H1 : Hp} {DD : DEnds} {E : Ends} (G : Gro g H g1 H1) (l : LkE f g H DD E) : LkE f g1 H1 DD E :=
  ⟨fun g' σ' H' ρ' R G' => l.nx g' σ' H' ρ' R (G.trans G'), fun g' σ' H' ρ' v r R G' => l.rt g' σ' H' ρ' v r R (G.trans G'), fun g' σ' H' ρ' R G' => l.bk g' σ' H' ρ' R (G.trans G'), fun g' σ' H' ρ' R G' => l.ct g' σ' H' ρ' R (G.trans G')⟩
def LS (K : PySem.W.Frag) (t : TS) (d : DS) : Prop := ∀ (f : Fr) (g : Gs) (σ : L2.St) (H : Hp) (ρ : Rho) (DD : DEnds) (E : Ends), f.K = K → Rel f g σ H ρ → d DD ρ → LkE f g H DD E → t E σ H
abbrev DG := Rv → Rho → (Rho → Prop) → Prop
def LG (K : PySem.W.Frag) (t : TG) (d : DG) : Prop := ∀ (f : Fr) (g : Gs) (σ : L2.St) (H : Hp) (ρ : Rho) (v : V) (r : Rv) (Q : Rho → Prop) (R : L2.St → Hp → Prop), f.K = K → Rel f g σ H ρ → VR f g σ H ρ v r → d r ρ Q →
  (∀ (g' : Gs) (σ' : L2.St) (H' : Hp) (ρ' : Rho), Rel f g' σ' H' ρ' → Gro g H g' H' → Q ρ' → R σ' H') → t v σ H R
section
variable {K : PySem.W.Frag} {ta tb te : TE} {da db de : DE} {t u : TS} {d e : DS} {tt : TT} {dt : DT} {tg : TG} {dg : DG} {i j : Nat}
def dNext : DS := fun DD ρ => DD.nx ρ
def dSeq (d e : DS) : DS := fun DD ρ => d { DD with nx := e DD } ρ
def dBreak : DS := fun DD ρ => DD.bk ρ
def dCont : DS := fun DD ρ => DD.ct ρ
theorem ls_next : LS K tNext dNext := fun f g σ H ρ DD E hK R hd l => l.nx g σ H ρ R Gro.refl hd
theorem ls_break : LS K tBreak dBreak := fun f g σ H ρ DD E hK R hd l => l.bk g σ H ρ R Gro.refl hd
theorem ls_cont : LS K tCont dCont := fun f g σ H ρ DD E hK R hd l => l.ct g σ H ρ R Gro.refl hd
theorem ls_seq (h : LS K t d) (h' : LS K u e) : LS K (tSeq t u) (dSeq d e) := fun f g σ H ρ DD E hK R hd l =>
  h f g σ H ρ _ _ hK R hd ⟨fun g' σ' H' ρ' R' G' q => h' f g' σ' H' ρ' DD E hK R' q (l.mono G'), l.rt, l.bk, l.ct⟩
def dIfS (c : DT) (d e : DS) : DS := fun DD ρ => c ρ fun b ρ1 => useB b (d DD ρ1) (e DD ρ1)
theorem ls_if (hc : LT K tt dt) (h : LS K t d) (h' : LS K u e) : LS K (tIfS tt t u) (dIfS dt d e) := by
  intro f g σ H ρ DD E hK R hd l
  refine hc f g σ H ρ _ _ hK R hd fun b H1 g1 ρ1 R1 G1 q1 => ?_
  cases b with
  | true => replace q1 := useB_t q1; exact h f g1 σ H1 ρ1 DD E hK R1 q1 (l.mono G1)
  | false => replace q1 := useB_f q1; exact h' f g1 σ H1 ρ1 DD E hK R1 q1 (l.mono G1)
def dRet (da : DE) : DS := fun DD ρ => da ρ DD.rt
theorem ls_ret (h : LE K ta da) : LS K (tRet ta) (dRet da) := fun f g σ H ρ DD E hK R hd l =>
  h f g σ H ρ _ _ hK R hd fun v H1 g1 ρ1 r R1 G1 V1 q1 => l.rt g1 σ H1 ρ1 v r R1 G1 V1 q1
def dRetN : DS := fun DD ρ => DD.rt (.fz .none) ρ
theorem ls_retN : LS K tRetN dRetN := fun f g σ H ρ DD E hK R hd l => l.rt g σ H ρ .non (.fz .none) R Gro.refl .non hd
def dDrop (da : DE) : DS := fun DD ρ => da ρ fun _ ρ1 => DD.nx ρ1
theorem ls_drop (h : LE K ta da) : LS K (tDrop ta) (dDrop da) := fun f g σ H ρ DD E hK R hd l =>
  h f g σ H ρ _ _ hK R hd fun v H1 g1 ρ1 r R1 G1 V1 q1 => l.nx g1 σ H1 ρ1 R1 G1 q1
def dNever : DS := fun _ _ => False
theorem ls_never : LS K tNever dNever := fun f g σ H ρ DD E hK R hd l => hd
def dAsg (da : DE) (dg : DG) : DS := fun DD ρ => da ρ fun r ρ1 => dg r ρ1 DD.nx
theorem ls_asg (h : LE K ta da) (hg : LG K tg dg) : LS K (tAsg ta tg) (dAsg da dg) := fun f g σ H ρ DD E hK R hd l =>
  h f g σ H ρ _ _ hK R hd fun v H1 g1 ρ1 r R1 G1 V1 q1 => hg f g1 σ H1 ρ1 v r _ _ hK R1 V1 q1 fun g2 σ2 H2 ρ2 R2 G2 q2 => l.nx g2 σ2 H2 ρ2 R2 (G1.trans G2) q2
def dgN (i : Nat) : DG := fun r ρ Q => wR (asg ρ i r) Q
theorem lg_name : LG K (gName i) (dgN i) := by
  intro f g σ H ρ v r Q R hK hR V q k
  obtain ⟨ρ', e, q⟩ := wR_some q
  obtain ⟨g', R', G'⟩ := V.asg hR e
  exact k g' _ H ρ' R' G' q
/-- a tuple unpacked -/
abbrev DGs := List D → Rho → (Rho → Prop) → Prop
def LGs (K : PySem.W.Frag) (t : TGs) (d : DGs) : Prop := ∀ (f : Fr) (g : Gs) (σ : L2.St) (H : Hp) (ρ : Rho) (vs : List V) (ds : List D) (Q : Rho → Prop) (R : L2.St → Hp → Prop), f.K = K → Rel f g σ H ρ → RpA K (Fz H g.M) vs ds → d ds ρ Q →
  (∀ (g' : Gs) (σ' : L2.St) (H' : Hp) (ρ' : Rho), Rel f g' σ' H' ρ' → Gro g H g' H' → Q ρ' → R σ' H') → t vs σ H R
def dgNil : DGs := fun ds ρ Q => ds = [] ∧ Q ρ
def dgCons (dg : DG) (dgs : DGs) : DGs := fun ds ρ Q => match ds with
  | d :: r => dg (.fz d) ρ fun ρ1 => dgs r ρ1 Q
  | [] => False
theorem lgs_nil : LGs K gNil dgNil := by
  intro f g σ H ρ vs ds Q R hK hR h q k
  obtain ⟨rfl, q⟩ := q
  cases h
  exact ⟨rfl, k g σ H ρ hR Gro.refl q⟩
theorem lgs_cons {ts : TGs} {dgs : DGs} (h : LG K tg dg) (h' : LGs K ts dgs) : LGs K (gCons tg ts) (dgCons dg dgs) := by
  intro f g σ H ρ vs ds Q R hK hR hr q k
  cases hr with
  | nil => exact q.elim
  | cons hv hr =>
    refine ⟨_, _, rfl, ?_⟩
    refine h f g σ H ρ _ (.fz _) _ _ hK hR (by subst hK; exact hv) q fun g1 σ1 H1 ρ1 R1 G1 q1 => ?_
    exact h' f g1 σ1 H1 ρ1 _ _ Q R hK R1 (hr.mono G1.fz) q1 fun g2 σ2 H2 ρ2 R2 G2 q2 => k g2 σ2 H2 ρ2 R2 (G1.trans G2) q2
def wT (o : Option D) (k : List D → Prop) : Prop := match o with
  | some (.tuple ds) => k ds
  | _ => False
theorem wT_some {o : Option D} {k : List D → Prop} (h : wT o k) : ∃ b, o = some (.tuple b) ∧ k b := by
  unfold wT at h
  split at h
  · exact ⟨_, rfl, h⟩
  · exact h.elim
def dgT (n : Nat) (dgs : DGs) : DG := fun r ρ Q => wT (res ρ r) fun ds => ds.length = n ∧ dgs ds ρ Q
theorem lg_tup {n : Nat} {ts : TGs} {dgs : DGs} (h : LGs K ts dgs) : LG K (gTup K n ts) (dgT n dgs) := by
  intro f g σ H ρ v r Q R hK hR V q k
  obtain ⟨ds, e, hl, q⟩ := wT_some q
  obtain ⟨g1, R1, G1, O1⟩ := V.opd hR
  subst hK
  obtain ⟨a, xs, rfl, hs, hr, _⟩ := (O1.rn R1 e).tuple fz_sub
  refine ⟨a, xs, rfl, hs, by rw [hr.length]; exact hl, ?_⟩
  exact h f g1 σ H ρ xs ds Q R rfl R1 hr q fun g2 σ2 H2 ρ2 R2 G2 q2 => k g2 σ2 H2 ρ2 R2 (G1.trans G2) q2
/-- a, b = e1, e2 -/
def Gs.push (g : Gs) (a : Addr) : Gs := ⟨g.M, g.src, a :: g.T⟩
/-- a value kept while another expression runs -/
theorem VR.held {f : Fr} {g : Gs} {σ : L2.St} {H : Hp} {ρ : Rho} {v : V} {r : Rv} (R : Rel f g σ H ρ) (h : VR f g σ H ρ v r) : ∃ g1, Rel f g1 σ H ρ ∧ (∀ g2 H2 ρ2, Rel f g2 σ H2 ρ2 → Gro g1 H g2 H2 → (∀ i, r = .vr i → ∃ s, ρ2[i]? = some (some s) ∧ isRoot s) →
    ∃ g3, Rel f g3 σ H2 ρ2 ∧ Gro g H g3 H2 ∧ VR f g3 σ H2 ρ2 v r ∧ (∀ w q, VR f g2 σ H2 ρ2 w q → VR f g3 σ H2 ρ2 w q ∧ (∀ d e, q = .nw d → r = .nw e → v ≠ w))) := by
  cases r with
  | fz d => exact ⟨g, R, fun g2 H2 ρ2 R2 G2 _ => ⟨g2, R2, G2, Rp.mono G2.fz h, fun w q hq => ⟨hq, fun d e _ z => nomatch z⟩⟩⟩
  | scr => exact ⟨g, R, fun g2 H2 ρ2 R2 G2 _ => ⟨g2, R2, G2, h, fun w q hq => ⟨hq, fun d e _ z => nomatch z⟩⟩⟩
  | vr i =>
    refine ⟨g, R, fun g2 H2 ρ2 R2 G2 hi => ⟨g2, R2, G2, ?_, fun w q hq => ⟨hq, fun d e _ z => nomatch z⟩⟩⟩
    obtain ⟨s, h1, h2⟩ := hi i rfl
    obtain ⟨_, _, _, e⟩ := h
    exact ⟨s, h1, h2, e⟩
  | src =>
    refine ⟨g, R, fun g2 H2 ρ2 R2 G2 _ => ⟨g2, R2, G2, ?_, fun w q hq => ⟨hq, fun d e _ z => nomatch z⟩⟩⟩
    obtain ⟨p, c, e1, e2⟩ := h
    exact ⟨p, c, G2.src _ e1, e2⟩
  | nw d =>
    obtain ⟨a, rfl, m, h0, ns, r, t, u⟩ := h
    refine ⟨g.push a, ⟨R.keep, R.dom, R.m0, R.m00, R.mU, R.src, R.len, R.slot, R.uq, fun b hb => ?_⟩, fun g2 H2 ρ2 R2 G2 _ => ?_⟩
    · rcases List.mem_cons.mp hb with rfl | hb
      · exact ⟨m, ns, u⟩
      · exact R.tmp b hb
    · have ha : a ∈ g2.T := by rw [G2.tm]; exact List.mem_cons_self
      obtain ⟨m2, ns2, u2⟩ := R2.tmp a ha
      refine ⟨⟨g2.M, g2.src, g.T⟩, ⟨R2.keep, R2.dom, R2.m0, R2.m00, R2.mU, R2.src, R2.len, R2.slot, R2.uq, fun b hb => R2.tmp b (by rw [G2.tm]; exact List.mem_cons_of_mem _ hb)⟩,
        ⟨G2.fz, G2.src, rfl, fun b hb => G2.th b (List.mem_cons_of_mem _ hb)⟩, ⟨a, rfl, m2, h0, ns2, r.mono G2.fz fun o e => (G2.th a List.mem_cons_self).trans e, t, u2⟩, fun w q hq => ?_⟩
      cases q with
      | fz d => exact ⟨hq, fun d e z => nomatch z⟩
      | vr i => exact ⟨hq, fun d e z => nomatch z⟩
      | src => exact ⟨hq, fun d e z => nomatch z⟩
      | scr => exact ⟨hq, fun d e z => nomatch z⟩
      | nw d' =>
        obtain ⟨b, rfl, m', h0', ns', r', t', u'⟩ := hq
        refine ⟨⟨b, rfl, m', h0', ns', r', fun z => t' (by rw [G2.tm]; exact List.mem_cons_of_mem _ z), u'⟩, fun _ _ _ _ z => ?_⟩
        cases z
        exact t' ha
/-- storing in one slot leaves another value's reading -/
theorem VR.setO {f : Fr} {g : Gs} {σ : L2.St} {H : Hp} {ρ : Rho} {w : V} {q : Rv} {i : Nat} {v : V} {s : Sl} (R : Rel f g σ H ρ) (h : VR f g σ H ρ w q) (hv : ∀ j, q = .vr j → j ≠ i) (hn : ∀ d e, q = .nw d → s = .ow e → v ≠ w) : VR f g (σ.set i (some v)) H (ρ.set i (some s)) w q := by
  cases q with
  | fz d => exact h
  | src => exact h
  | scr => exact h
  | vr j =>
    obtain ⟨t, h1, h2, h3⟩ := h
    have hj := hv j rfl
    exact ⟨t, by rw [List.getElem?_set_ne (Ne.symm hj)]; exact h1, h2, by rw [List.getElem?_set_ne (Ne.symm hj)]; exact h3⟩
  | nw d =>
    obtain ⟨a, rfl, m, h0, ns, r, t, u⟩ := h
    refine ⟨a, rfl, m, h0, ns, r, t, fun j e h1 h2 => ?_⟩
    rcases getset h1 with ⟨rfl, z⟩ | ⟨ne, z⟩
    · cases z
      rcases getset h2 with ⟨_, z2⟩ | ⟨z2, _⟩
      · cases z2; exact hn _ _ rfl rfl rfl
      · exact z2 rfl
    · rw [List.getElem?_set_ne ne] at h2
      exact u j e z h2
def plainR : Rv → Prop
  | .fz _ => True
  | .nw _ => True
  | .src => True
  | .scr => True
  | .vr _ => False
def setR (ρ : Rho) (i : Nat) : Rv → Rho
  | .fz d => ρ.set i (some (.sh d))
  | .nw d => ρ.set i (some (.ow d))
  | .src => ρ.set i (some .src)
  | .scr => ρ.set i (some .scr)
  | .vr _ => ρ
/-- both sides plain: what is frozen, new, or the source -/
def plainV (ρ : Rho) : Rv → Option (Rv × Rho)
  | .vr j => match frz ρ (.vr j) with
    | some (d, ρ1) => some (.fz d, ρ1)
    | none => none
  | r => some (r, ρ)
def wP (o : Option (Rv × Rho)) (k : Rv → Rho → Prop) : Prop := match o with
  | some x => k x.1 x.2
  | none => False
theorem wP_some {o : Option (Rv × Rho)} {k : Rv → Rho → Prop} (h : wP o k) : ∃ x ρ, o = some (x, ρ) ∧ k x ρ := by
  cases o with
  | some x => exact ⟨x.1, x.2, rfl, h⟩
  | none => exact h.elim
theorem VR.plain {f : Fr} {g : Gs} {σ : L2.St} {H : Hp} {ρ ρ1 : Rho} {v : V} {r q : Rv} (R : Rel f g σ H ρ) (h : VR f g σ H ρ v r) (e : plainV ρ r = some (q, ρ1)) : ∃ g1, Rel f g1 σ H ρ1 ∧ Gro g H g1 H ∧ VR f g1 σ H ρ1 v q ∧ plainR q := by
  unfold plainV at e
  split at e
  · rename_i j
    split at e
    · rename_i d ρ2 e2
      cases e
      obtain ⟨s, h1, h2, h3⟩ := h
      obtain ⟨g1, R1, G1, q1⟩ := Opd.frz (r := .vr j) R h3 e2
      exact ⟨g1, R1, G1, q1, trivial⟩
    · cases e
  · rename_i hr
    cases e
    refine ⟨g, R, Gro.refl, h, ?_⟩
    cases r with
    | vr i => exact (hr i rfl).elim
    | fz d => exact True.intro
    | nw d => exact True.intro
    | src => exact True.intro
    | scr => exact True.intro
theorem VR.put {f : Fr} {g : Gs} {σ : L2.St} {H : Hp} {ρ : Rho} {v : V} {r : Rv} (R : Rel f g σ H ρ) (h : VR f g σ H ρ v r) (hp : plainR r) (i : Nat) : Rel f g (σ.set i (some v)) H (setR ρ i r) := by
  cases r with
  | fz d => exact R.set (s := .sh d) h (fun d z => nomatch z)
  | nw d =>
    obtain ⟨a, rfl, m, h0, ns, r, t, u⟩ := h
    exact R.set (s := .ow d) ⟨a, rfl, m, h0, ns, r⟩ (fun d' z b hb => by cases hb; exact ⟨t, fun j e _ h1 => u j e h1⟩)
  | src => exact R.set (s := .src) h (fun d z => nomatch z)
  | scr => exact R.set (s := .scr) h (fun d z => nomatch z)
  | vr j => exact hp.elim
theorem VR.putO {f : Fr} {g : Gs} {σ : L2.St} {H : Hp} {ρ : Rho} {v w : V} {r q : Rv} (R : Rel f g σ H ρ) (hq : VR f g σ H ρ w q) (hp : plainR r) (hpq : plainR q) (hn : ∀ d e, q = .nw d → r = .nw e → v ≠ w) (i : Nat) : VR f g (σ.set i (some v)) H (setR ρ i r) w q := by
  have hv : ∀ j, q = .vr j → j ≠ i := fun j z => by rw [z] at hpq; exact hpq.elim
  cases r with
  | fz d => exact hq.setO R hv fun d e _ z => nomatch z
  | nw d => exact hq.setO R hv fun d' e z _ => hn d' d z rfl
  | src => exact hq.setO R hv fun d e _ z => nomatch z
  | scr => exact hq.setO R hv fun d e _ z => nomatch z
  | vr j => exact hp.elim
def dPar (i j : Nat) (da db : DE) : DS := fun DD ρ => da ρ fun r ρ1 => wP (plainV ρ1 r) fun r1 ρ2 => db ρ2 fun q ρ3 => wP (plainV ρ3 q) fun q1 ρ4 => DD.nx (setR (setR ρ4 i r1) j q1)
theorem ls_par (h : LE K ta da) (h' : LE K tb db) : LS K (tPar i j (tCons ta (tCons tb tNil))) (dPar i j da db) := by
  intro f g σ H ρ DD E hK R hd l
  refine h f g σ H ρ _ _ hK R hd fun v H1 g1 ρ1 r R1 G1 V1 q1 => ?_
  obtain ⟨r1, ρ2, e1, q1⟩ := wP_some q1
  obtain ⟨g2, R2, G2, V2, p2⟩ := V1.plain R1 e1
  obtain ⟨g3, R3, hh⟩ := V2.held R2
  refine h' f g3 σ H1 ρ2 _ _ hK R3 q1 fun w H4 g4 ρ4 q R4 G4 V4 q4 => ?_
  obtain ⟨qq, ρ5, e5, q5⟩ := wP_some q4
  obtain ⟨g5, R5, G5, V5, p5⟩ := V4.plain R4 e5
  obtain ⟨g6, R6, G6, V6, hh6⟩ := hh g5 H4 ρ5 R5 (G4.trans G5) (fun i z => by rw [z] at p2; exact p2.elim)
  obtain ⟨W6, n6⟩ := hh6 w qq V5
  refine ⟨v, w, rfl, ?_⟩
  have R7 := V6.put R6 p2 i
  have W7 := W6.putO R6 p2 p5 (fun d e z1 z2 => n6 d e z1 z2) i
  exact l.nx g6 _ H4 _ (W7.put R7 p5 j) ((G1.trans G2).trans G6) q5
end
end DL

set_option Elab.async false
set_option linter.all false
set_option maxRecDepth 100000
set_option maxHeartbeats 4000000
namespace DL
open PySem L2

/-! ### what is walked -/
/-- a list, a tuple or a text, whichever it is -/
def iAny (K : PySem.W.Frag) (te : TE) : TI := fun σ H R => te σ H fun x H1 => (∃ a, x = .ref a ∧ (∃ xs, SqL K H1 a xs) ∧ R (Itl K a) H1) ∨ (∃ a, x = .ref a ∧ (∃ xs, SqT K H1 a xs) ∧ R (Itt K a) H1) ∨ (∃ z, x = .str z ∧ R (Its z) H1)
theorem pi_any {X : Cx} {tg l : Expr} {tl : TE} (hl : PE X l tl) : PI X tg l (iAny X.K tl) := by
  refine ⟨fun pins s σ H R I h => ?_⟩
  have hl' : ∀ (Z : V → Hp → Prop), (∀ v H', Z v H' → ∀ s' u, Inv X pins σ H' s' → RelV v u → wpAny (model X.prog X.w) X.A (pyIter u) (PIE X pins σ tg R) X.xe s') → tl σ H Z →
      wpAny (model X.prog X.w) X.A (eval l X.env) (fun v s1 => wpAny (model X.prog X.w) X.A (pyIter v) (PIE X pins σ tg R) X.xe s1) X.xe s := fun Z hz ht =>
    thn (hl.run pins s σ H Z I ht) fun u s1 ⟨x, H1, I1, r1, q1⟩ => hz x H1 q1 s1 u I1 r1
  refine hl' _ (fun v H1 q s1 u I1 r => ?_) h
  rcases q with ⟨a, rfl, ⟨xs, hq⟩, q⟩ | ⟨a, rfl, ⟨xs, hq⟩, q⟩ | ⟨z, rfl, q⟩
  · cases r
    obtain ⟨its, rv, p, hz⟩ := I1.list hq
    refine wpAny_pyIter_list p.isList ?_
    refine ⟨s1.heap.objs.size, [s1.heap.objs.size], _, _, H1, rfl, I1.kept (t' := s1.toks) fun b o e => Heap.get?_push_of_some _ e, turn_list a _, ⟨_, Heap.get?_push_size _ rfl, rfl, rfl⟩, fun b hb => ?_, q⟩
    have e : b = s1.heap.objs.size := by simpa using hb
    subst e
    exact I1.fpOk (Nat.le_refl _) (I1.hok.fresh (Nat.le_refl _))
  · cases r
    obtain ⟨its, rv, p, hz⟩ := I1.tuple hq
    refine wpAny_pyIter_tuple (show s1.heap.IsTuple a its.toArray from p) ?_
    refine ⟨s1.heap.objs.size, [s1.heap.objs.size], _, _, H1, rfl, I1.kept (t' := s1.toks) fun b o e => Heap.get?_push_of_some _ e, turn_tuple a _, ⟨_, Heap.get?_push_size _ rfl, rfl, rfl⟩, fun b hb => ?_, q⟩
    have e : b = s1.heap.objs.size := by simpa using hb
    subst e
    exact I1.fpOk (Nat.le_refl _) (I1.hok.fresh (Nat.le_refl _))
  · obtain ⟨t, rfl⟩ := r
    cases ha : z.cps.all (· < 128)
    · exact wpAny_pyIter_wide ha (pi_one (tk := s1.toks) I1 _ (turn_str _ z t "str_iterator" (.inr rfl)) ⟨_, Heap.get?_push_size _ rfl, rfl, rfl⟩ q)
    · exact wpAny_pyIter_ascii ha (pi_one (tk := s1.toks) I1 _ (turn_str _ z t "str_ascii_iterator" (.inl rfl)) ⟨_, Heap.get?_push_size _ rfl, rfl, rfl⟩ q)

structure ItOk (f : Fr) (g0 : Gs) (H0 : Hp) (G : Hp → Prop) (Y : Nat → Hp → V → Hp → Prop) (ds : List D) : Prop where
  st : ∀ g2 σ2 H2 ρ2, Rel f g2 σ2 H2 ρ2 → Same (Fz H0 g0.M) (Fz H2 g2.M) → G H2
  yl : ∀ g2 σ2 H2 ρ2, Rel f g2 σ2 H2 ρ2 → Same (Fz H0 g0.M) (Fz H2 g2.M) → ∀ i x H3 d, ds[i]? = some d → Y i H2 x H3 → ∃ g3, Rel f g3 σ2 H3 ρ2 ∧ Gro g2 H2 g3 H3 ∧ Rp f.K (Fz H3 g3.M) x d
abbrev DI := Rho → (List D → Rho → Prop) → Prop
def LI (K : PySem.W.Frag) (wi : TI) (d : DI) : Prop := ∀ (f : Fr) (g : Gs) (σ : L2.St) (H : Hp) (ρ : Rho) (Q : List D → Rho → Prop) (R : It → Hp → Prop), f.K = K → Rel f g σ H ρ → d ρ Q →
  (∀ (J : It) (H' : Hp) (g' : Gs) (ρ' : Rho) (G : Hp → Prop) (Y : Nat → Hp → V → Hp → Prop) (ds : List D), Rel f g' σ H' ρ' → Gro g H g' H' → Walk J ds.length G Y → ItOk f g' H' G Y ds → Q ds ρ' → R J H') → wi σ H R
/-- what a loop holds: frozen, or the borrowed thing -/
def itV (ρ : Rho) (i : Nat) : Option (Option Sl) → Option (D × Rho)
  | some (some (.bo d)) => some (d, ρ)
  | s => frzV ρ i s
def itD (ρ : Rho) : Rv → Option (D × Rho)
  | .vr i => itV ρ i ρ[i]?
  | r => frz ρ r
/-- the items of a sequence -/
def seqOf : D → Option (List D)
  | .list ds => some ds
  | .tuple ds => some ds
  | .str z => some (z.cps.toList.map fun c => .str ⟨#[c]⟩)
  | _ => none
def dAny (de : DE) : DI := fun ρ Q => de ρ fun r ρ1 => wF (itD ρ1 r) fun d ρ2 => wA (seqOf d) fun ds => Q ds ρ2
section
variable {K : PySem.W.Frag} {te : TE} {de : DE} {f : Fr} {g g' : Gs} {σ : L2.St} {H H' : Hp} {ρ ρ' : Rho} {v : V} {r : Rv} {d : D}
theorem itD_ok (R : Rel f g σ H ρ) (h : Opd f g σ H v r) (e : itD ρ r = some (d, ρ')) : ∃ g', Rel f g' σ H ρ' ∧ Gro g H g' H ∧ BoV f (Fz H g'.M) v d := by
  cases r with
  | vr i =>
    have e : itV ρ i ρ[i]? = some (d, ρ') := e
    have h' : σ[i]? = some (some v) := h
    unfold itV at e
    split at e
    · rename_i x e1
      cases e
      obtain ⟨w, e2, q⟩ := R.slot i _ e1
      rw [h'] at e2; cases e2
      exact ⟨g, R, Gro.refl, q⟩
    · obtain ⟨g1, R1, G1, q⟩ := Opd.frz (r := .vr i) R h e
      exact ⟨g1, R1, G1, .inl q⟩
  | fz x =>
    obtain ⟨g1, R1, G1, q⟩ := Opd.frz R h e
    exact ⟨g1, R1, G1, .inl q⟩
  | nw x =>
    obtain ⟨g1, R1, G1, q⟩ := Opd.frz R h e
    exact ⟨g1, R1, G1, .inl q⟩
  | src =>
    obtain ⟨g1, R1, G1, q⟩ := Opd.frz R h e
    exact ⟨g1, R1, G1, .inl q⟩
  | scr =>
    obtain ⟨g1, R1, G1, q⟩ := Opd.frz R h e
    exact ⟨g1, R1, G1, .inl q⟩
/-- a list that stands: frozen or borrowed -/
theorem BoV.list {F : Hp} {ds : List D} (h : BoV f F v (.list ds)) : ∃ a xs, v = .ref a ∧ RpA f.K F xs ds ∧ ∀ g2 σ2 H2 ρ2, Rel f g2 σ2 H2 ρ2 → Same F (Fz H2 g2.M) → SqL f.K H2 a xs := by
  rcases h with h | ⟨a, rfl, h⟩
  · cases h with | lst h r => exact ⟨_, _, rfl, r, fun g2 σ2 H2 ρ2 R2 e => .inl (.inl (fz_sub _ _ (e _ _ h)))⟩
  · cases h with | lst h r => exact ⟨_, _, rfl, r, fun g2 σ2 H2 ρ2 R2 e => .inl (.inl (R2.keep _ _ (of_fz h).1 (of_fz h).2))⟩
theorem BoV.tuple {F : Hp} {ds : List D} (h : BoV f F v (.tuple ds)) : ∃ a xs, v = .ref a ∧ RpA f.K F xs ds ∧ ∀ g2 σ2 H2 ρ2, Rel f g2 σ2 H2 ρ2 → Same F (Fz H2 g2.M) → SqT f.K H2 a xs := by
  rcases h with h | ⟨a, rfl, h⟩
  · cases h with | tup h r => exact ⟨_, _, rfl, r, fun g2 σ2 H2 ρ2 R2 e => .inl (.inl (fz_sub _ _ (e _ _ h)))⟩
  · cases h
theorem BoV.str {F : Hp} {z : Str} (h : BoV f F v (.str z)) : v = .str z := by
  rcases h with h | ⟨a, rfl, h⟩ <;> cases h; rfl
theorem itOk_at {xs : List V} {ds : List D} {G : Hp → Prop} {F : Hp} (hr : RpA f.K (Fz H g.M) xs ds) (hG : ∀ g2 σ2 H2 ρ2, Rel f g2 σ2 H2 ρ2 → Same (Fz H g.M) (Fz H2 g2.M) → G H2) : ItOk f g H G (YAt xs) ds := by
  refine ⟨hG, fun g2 σ2 H2 ρ2 R2 e i x H3 d hd y => ?_⟩
  obtain ⟨rfl, hx⟩ := y
  obtain ⟨w, e1, q⟩ := hr.get hd
  rw [hx] at e1; cases e1
  exact ⟨g2, R2, Gro.refl, q.mono e⟩
theorem li_any (h : LE K te de) : LI K (iAny K te) (dAny de) := by
  intro f g σ H ρ Q R hK hR hd k
  refine h.opd hK hR hd fun v H1 g1 ρ1 r1 R1 G1 O1 q1 => ?_
  obtain ⟨d, ρ2, e2, q2⟩ := wF_some q1
  obtain ⟨ds, e3, q3⟩ := wA_some q2
  obtain ⟨g2, R2, G2, B⟩ := itD_ok R1 O1 e2
  subst hK
  cases d with
  | list ds' =>
    cases e3
    obtain ⟨a, xs, rfl, hr, hs⟩ := B.list
    have hs1 := hs g2 σ H1 ρ2 R2 (Same.refl _)
    refine .inl ⟨a, rfl, ⟨xs, hs1⟩, k _ H1 g2 ρ2 _ _ ds R2 (G1.trans G2) (by rw [← hr.length]; exact walk_list (xs := xs)) (itOk_at (F := H) hr hs) q3⟩
  | tuple ds' =>
    cases e3
    obtain ⟨a, xs, rfl, hr, hs⟩ := B.tuple
    have hs1 := hs g2 σ H1 ρ2 R2 (Same.refl _)
    refine .inr (.inl ⟨a, rfl, ⟨xs, hs1⟩, k _ H1 g2 ρ2 _ _ ds R2 (G1.trans G2) (by rw [← hr.length]; exact walk_tup (xs := xs)) (itOk_at (F := H) hr hs) q3⟩)
  | str z =>
    cases e3
    obtain rfl := B.str
    refine .inr (.inr ⟨z, rfl, k _ H1 g2 ρ2 _ _ _ R2 (G1.trans G2) (by simpa using walk_str (z := z)) ⟨fun _ _ _ _ _ _ => trivial, fun g2 σ2 H2 ρ2 R2 e i x H3 d hd y => ?_⟩ q3⟩)
    obtain ⟨rfl, c, h1, rfl⟩ := y
    rw [List.getElem?_map] at hd
    have h2 : z.cps.toList[i]? = some c := by simpa using h1
    rw [h2] at hd
    cases hd
    exact ⟨g2, R2, Gro.refl, .str _⟩
  | none => cases e3
  | bool _ => cases e3
  | int _ => cases e3
  | dict _ => cases e3
def wI1 (o : Option (List D)) (k : Int → Prop) : Prop := match o with
  | some [.int i] => k i
  | _ => False
theorem wI1_some {o : Option (List D)} {k : Int → Prop} (h : wI1 o k) : ∃ b, o = some [.int b] ∧ k b := by
  unfold wI1 at h
  split at h
  · exact ⟨_, rfl, h⟩
  · exact h.elim
def wI2 (o : Option (List D)) (k : Int → Int → Prop) : Prop := match o with
  | some [.int i, .int j] => k i j
  | _ => False
theorem wI2_some {o : Option (List D)} {k : Int → Int → Prop} (h : wI2 o k) : ∃ b c, o = some [.int b, .int c] ∧ k b c := by
  unfold wI2 at h
  split at h
  · exact ⟨_, _, rfl, h⟩
  · exact h.elim
def rngD (lo : Int) (n : Nat) : List D := (List.range n).map fun i => .int (lo + (i : Nat))
theorem rngD_length (lo : Int) (n : Nat) : (rngD lo n).length = n := by simp [rngD]
theorem itOk_rng {lo : Int} {n : Nat} : ItOk f g H (fun _ => True) (YFn fun i => .int (lo + i)) (rngD lo n) := by
  refine ⟨fun _ _ _ _ _ _ => trivial, fun g2 σ2 H2 ρ2 R2 e i x H3 d hd y => ?_⟩
  obtain ⟨rfl, rfl⟩ := y
  unfold rngD at hd
  rw [List.getElem?_map] at hd
  by_cases hi : i < n
  · rw [List.getElem?_range hi] at hd
    cases hd
    exact ⟨g2, R2, Gro.refl, .int _⟩
  · rw [List.getElem?_eq_none (by simpa using hi)] at hd; cases hd
variable {ta : TA} {da : DA}
def dRng1 (da : DA) : DI := fun ρ Q => da ρ fun rs ρ1 => wI1 (resA ρ1 rs) fun j => (-(2 ^ 62) ≤ j ∧ j < 2 ^ 62) ∧ Q (rngD 0 j.toNat) ρ1
def dRng2 (da : DA) : DI := fun ρ Q => da ρ fun rs ρ1 => wI2 (resA ρ1 rs) fun i j => (-(2 ^ 62) ≤ i ∧ i < 2 ^ 62 ∧ -(2 ^ 62) ≤ j ∧ j < 2 ^ 62) ∧ Q (rngD i (j - i).toNat) ρ1
theorem RNA.int1 {F H : Hp} {vs : List V} {i : Int} (h : RNA K F H vs [.int i]) : vs = [.int i] := by
  cases h with | cons h r => cases r; rw [h.int]
theorem RNA.int2 {F H : Hp} {vs : List V} {i j : Int} (h : RNA K F H vs [.int i, .int j]) : vs = [.int i, .int j] := by
  cases h with | cons h r => cases r with | cons h' r => cases r; rw [h.int, h'.int]
theorem li_rng1 (h : LA K ta da) : LI K (iRng1 ta) (dRng1 da) := by
  intro f g σ H ρ Q R hK hR hd k
  refine h f g σ H ρ _ _ hK hR hd fun vs H1 g1 ρ1 rs R1 G1 O1 q1 => ?_
  obtain ⟨j, e, hj, q⟩ := wI1_some q1
  obtain rfl := (O1.rn R1 e).int1
  exact ⟨j, rfl, hj.1, hj.2, k _ H1 g1 ρ1 _ _ _ R1 G1 (by rw [rngD_length]; exact walk_range) itOk_rng q⟩
theorem li_rng2 (h : LA K ta da) : LI K (iRng2 ta) (dRng2 da) := by
  intro f g σ H ρ Q R hK hR hd k
  refine h f g σ H ρ _ _ hK hR hd fun vs H1 g1 ρ1 rs R1 G1 O1 q1 => ?_
  obtain ⟨i, j, e, hj, q⟩ := wI2_some q1
  obtain rfl := (O1.rn R1 e).int2
  exact ⟨i, j, rfl, hj, k _ H1 g1 ρ1 _ _ _ R1 G1 (by rw [rngD_length]; exact walk_range) itOk_rng q⟩
end

/-! ### for, while -/
section
variable {K : PySem.W.Frag} {wi : TI} {tg : TG} {tb : TS} {dI : DI} {dg : DG} {db : DS} {tt : TT} {dt : DT}
def dLoop (dg : DG) (db : DS) (DD : DEnds) : List D → Rho → Prop
  | [], ρ => DD.nx ρ
  | x :: xs, ρ => dg (.fz x) ρ fun ρ1 => db { nx := dLoop dg db DD xs, ct := dLoop dg db DD xs, bk := DD.nx, rt := DD.rt } ρ1
def dFor (dI : DI) (dg : DG) (db : DS) : DS := fun DD ρ => dI ρ fun ds ρ1 => dLoop dg db DD ds ρ1
theorem ls_for (hi : LI K wi dI) (hg : LG K tg dg) (hb : LS K tb db) : LS K (tFor wi tg tb) (dFor dI dg db) := by
  intro f g σ H ρ DD E hK R hd l
  refine hi f g σ H ρ _ _ hK R hd fun J H1 g1 ρ1 G Y ds R1 G1 w io q => ?_
  refine for_it w (fun i σ' H' => ∃ g' ρ', Rel f g' σ' H' ρ' ∧ Gro g1 H1 g' H' ∧ dLoop dg db DD (ds.drop i) ρ') ⟨g1, ρ1, R1, Gro.refl, by simpa using q⟩ (fun i σ' H' _ ⟨g', ρ', R', G', _⟩ => io.st g' σ' H' ρ' R' G'.fz) ?_ ?_
  · rintro i x σ' H' H'' hlt ⟨g', ρ', R', G', q'⟩ y
    obtain ⟨g2, R2, G2, hx⟩ := io.yl g' σ' H' ρ' R' G'.fz i x H'' ds[i] (by simp [hlt]) y
    rw [List.drop_eq_getElem_cons hlt] at q'
    refine hg f g2 σ' H'' ρ' x (.fz _) _ _ hK R2 hx q' fun g3 σ3 H3 ρ3 R3 G3 q3 => ?_
    have GG := (G'.trans G2).trans G3
    refine hb f g3 σ3 H3 ρ3 _ _ hK R3 q3 ⟨fun g4 σ4 H4 ρ4 R4 G4 q4 => ⟨g4, ρ4, R4, GG.trans G4, q4⟩, fun g4 σ4 H4 ρ4 v r R4 G4 V4 q4 => l.rt g4 σ4 H4 ρ4 v r R4 ((G1.trans GG).trans G4) V4 q4,
      fun g4 σ4 H4 ρ4 R4 G4 q4 => l.nx g4 σ4 H4 ρ4 R4 ((G1.trans GG).trans G4) q4, fun g4 σ4 H4 ρ4 R4 G4 q4 => ⟨g4, ρ4, R4, GG.trans G4, q4⟩⟩
  · rintro σ' H' ⟨g', ρ', R', G', q'⟩
    rw [List.drop_length] at q'
    exact l.nx g' σ' H' ρ' R' (G1.trans G') q'
def dWhile (dt : DT) (db : DS) : DS := fun DD ρ => ∃ P : Nat → Rho → Prop, (∃ m, P m ρ) ∧ ∀ m ρ, P m ρ → dt ρ fun b ρ1 => useB b (db { nx := fun ρ' => ∃ m', m' < m ∧ P m' ρ', ct := fun ρ' => ∃ m', m' < m ∧ P m' ρ', bk := DD.nx, rt := DD.rt } ρ1) (DD.nx ρ1)
theorem ls_while (hc : LT K tt dt) (hb : LS K tb db) : LS K (tWhile tt tb) (dWhile dt db) := by
  intro f g σ H ρ DD E hK R hd l
  obtain ⟨P, ⟨m0, p0⟩, hs⟩ := hd
  refine ⟨fun m σ' H' => ∃ g' ρ', Rel f g' σ' H' ρ' ∧ Gro g H g' H' ∧ P m ρ', ⟨m0, g, ρ, R, Gro.refl, p0⟩, ?_⟩
  rintro m σ' H' ⟨g', ρ', R', G', p'⟩
  refine hc f g' σ' H' ρ' _ _ hK R' (hs m ρ' p') fun b H1 g1 ρ1 R1 G1 q1 => ?_
  cases b with
  | true =>
    replace q1 := useB_t q1
    rw [if_pos rfl]
    refine ⟨fun σ3 H3 => ∃ m', m' < m ∧ ∃ g3 ρ3, Rel f g3 σ3 H3 ρ3 ∧ Gro g H g3 H3 ∧ P m' ρ3, fun _ _ q => q, ?_⟩
    have GG := G'.trans G1
    exact hb f g1 σ' H1 ρ1 _ _ hK R1 q1 ⟨fun g4 σ4 H4 ρ4 R4 G4 ⟨m', hm, p⟩ => ⟨m', hm, g4, ρ4, R4, GG.trans G4, p⟩, fun g4 σ4 H4 ρ4 v r R4 G4 V4 q4 => l.rt g4 σ4 H4 ρ4 v r R4 (GG.trans G4) V4 q4,
      fun g4 σ4 H4 ρ4 R4 G4 q4 => l.nx g4 σ4 H4 ρ4 R4 (GG.trans G4) q4, fun g4 σ4 H4 ρ4 R4 G4 ⟨m', hm, p⟩ => ⟨m', hm, g4, ρ4, R4, GG.trans G4, p⟩⟩
  | false =>
    replace q1 := useB_f q1
    rw [if_neg Bool.false_ne_true]
    exact l.nx g1 σ' H1 ρ1 R1 (G'.trans G1) q1
end
end DL

set_option Elab.async false
set_option linter.all false
set_option maxRecDepth 100000
set_option maxHeartbeats 4000000
namespace DL
open PySem L2

/-! ### a comprehension -/
section
variable {f : Fr} {g g' : Gs} {σ σ' : L2.St} {H H' : Hp} {ρ ρ' : Rho} {v : V} {r : Rv} {d : D} {D0 : Addr}
def Gs.pop (g : Gs) (T : List Addr) : Gs := ⟨g.M, g.src, T⟩
theorem Rel.pop {T : List Addr} (R : Rel f g σ H ρ) (h : ∀ a ∈ T, a ∈ g.T) : Rel f (g.pop T) σ H ρ :=
  ⟨R.keep, R.dom, R.m0, R.m00, R.mU, R.src, R.len, R.slot, R.uq, fun a ha => R.tmp a (h a ha)⟩
/-- a thing kept aside changes -/
theorem Rel.mutTmp {o : HO} (R : Rel f g σ H ρ) (h : D0 ∈ g.T) (h0 : f.H0 D0 = none) (ho : MuO (some o) := by trivial) : Rel f g σ (upd H D0 o) ρ ∧ Same (Fz H g.M) (Fz (upd H D0 o) g.M) := by
  obtain ⟨m, ns, u⟩ := R.tmp D0 h
  have hk : ∀ a o', H a = some o' → a ≠ D0 → upd H D0 o a = some o' := fun a o' e n => by rw [upd_ne n]; exact e
  have hG : Same (Fz H g.M) (Fz (upd H D0 o) g.M) := fz_mono fun a o' e n => ⟨hk a o' e fun q => n (q ▸ m), n⟩
  have hd : ∀ a, upd H D0 o a = none → H a = none := fun a e => by
    by_cases q : a = D0
    · rw [q, upd_same] at e; cases e
    · rw [upd_ne q] at e; exact e
  refine ⟨⟨fun a o' e n => hk a o' (R.keep a o' e n) (fun q => by rw [q, h0] at e; cases e), fun a e => R.dom a (hd a e), R.m0, R.m00, fun a m => by
    by_cases q : a = D0
    · rw [q, upd_same]; exact ho
    · rw [upd_ne q]; exact R.mU a m, fun p c e => ?_, R.len, fun i s e => ?_, R.uq, R.tmp⟩, hG⟩
  · obtain ⟨h1, h2, h3, h4, h5, h6⟩ := R.src p c e
    exact ⟨h1, h2, h3, h4, h5, srcOk_upd h6 (Ne.symm (ns p c e).1) (Ne.symm (ns p c e).2)⟩
  · obtain ⟨w, e1, q⟩ := R.slot i s e
    refine ⟨w, e1, ?_⟩
    cases s with
    | sh d => exact Rp.mono hG q
    | bo d => exact BoV.mono hG q
    | ow d =>
      obtain ⟨a, e2, m', h0', ns', r⟩ := q
      refine ⟨a, e2, m', h0', ns', r.mono hG fun o' e' => hk a o' e' fun q => u i d e ?_⟩
      rw [e1, e2, q]
    | src => exact q
    | scr => exact q
/-- the block's own slots forgotten, but for what is frozen -/
def bckS : Option (Option Sl) → Option Sl
  | some (some (.sh d)) => some (.sh d)
  | _ => none
def wipeR (ρ : Rho) : List Nat → Rho
  | [] => ρ
  | v :: vs => (wipeR ρ vs).set v none
def bckR (ρ0 ρ : Rho) : List Nat → Rho
  | [] => ρ
  | v :: vs => (bckR ρ0 ρ vs).set v (bckS ρ0[v]?)
theorem wipeR_length {ρ : Rho} {vs : List Nat} : (wipeR ρ vs).length = ρ.length := by
  induction vs with
  | nil => rfl
  | cons v vs ih => unfold wipeR; rw [List.length_set, ih]
theorem bckR_length {ρ0 ρ : Rho} {vs : List Nat} : (bckR ρ0 ρ vs).length = ρ.length := by
  induction vs with
  | nil => rfl
  | cons v vs ih => unfold bckR; rw [List.length_set, ih]
theorem wipeR_get {ρ : Rho} {vs : List Nat} {i : Nat} {s : Sl} (h : (wipeR ρ vs)[i]? = some (some s)) : ρ[i]? = some (some s) ∧ i ∉ vs := by
  induction vs with
  | nil => exact ⟨h, by simp⟩
  | cons v vs ih =>
    unfold wipeR at h
    rcases getset h with ⟨_, q⟩ | ⟨ne, q⟩
    · cases q
    · obtain ⟨a, b⟩ := ih q
      exact ⟨a, by simp only [List.mem_cons, not_or]; exact ⟨fun e => ne e.symm, b⟩⟩
theorem bckR_get {ρ0 ρ : Rho} {vs : List Nat} {i : Nat} {s : Sl} (h : (bckR ρ0 ρ vs)[i]? = some (some s)) : (ρ[i]? = some (some s) ∧ i ∉ vs) ∨ (i ∈ vs ∧ ρ0[i]? = some (some s) ∧ ∃ d, s = .sh d) := by
  induction vs with
  | nil => exact .inl ⟨h, by simp⟩
  | cons v vs ih =>
    unfold bckR at h
    rcases getset h with ⟨rfl, q⟩ | ⟨ne, q⟩
    · refine .inr ⟨List.mem_cons_self, ?_⟩
      have q : some s = bckS ρ0[v]? := q
      unfold bckS at q
      split at q
      · rename_i d e
        cases q
        exact ⟨e, d, rfl⟩
      · cases q
    · rcases ih q with ⟨a, b⟩ | ⟨a, b⟩
      · exact .inl ⟨a, by simp only [List.mem_cons, not_or]; exact ⟨fun e => ne e.symm, b⟩⟩
      · exact .inr ⟨List.mem_cons_of_mem _ a, b⟩
theorem wipe_ne {σ : L2.St} {vs : List Nat} {i : Nat} (h : i ∉ vs) : (wipe σ vs)[i]? = σ[i]? := by
  induction vs with
  | nil => rfl
  | cons v vs ih =>
    simp only [List.mem_cons, not_or] at h
    unfold wipe
    rw [List.getElem?_set_ne (fun e => h.1 e.symm)]
    exact ih h.2
theorem Rel.wiped (R : Rel f g σ H ρ) (vs : List Nat) : Rel f g (wipe σ vs) H (wipeR ρ vs) := by
  refine ⟨R.keep, R.dom, R.m0, R.m00, R.mU, R.src, by rw [wipeR_length, wipe_length]; exact R.len, fun i s e => ?_, fun i j l d e h1 h2 h3 h4 => ?_, fun a ha => ⟨(R.tmp a ha).1, (R.tmp a ha).2.1, fun i e h1 h2 => ?_⟩⟩
  · obtain ⟨h1, h2⟩ := wipeR_get e
    obtain ⟨w, e1, q⟩ := R.slot i s h1
    exact ⟨w, by rw [wipe_ne h2]; exact e1, q⟩
  · obtain ⟨a1, b1⟩ := wipeR_get h1
    obtain ⟨a2, b2⟩ := wipeR_get h2
    rw [wipe_ne b1] at h3
    rw [wipe_ne b2] at h4
    exact R.uq i j l d e a1 a2 h3 h4
  · obtain ⟨a1, b1⟩ := wipeR_get h1
    rw [wipe_ne b1] at h2
    exact (R.tmp a ha).2.2 i e a1 h2
/-- back in the frame -/
theorem Rel.backed {ρ0 : Rho} {vs : List Nat} {g0 : Gs} {H1 : Hp} (R0 : Rel f g0 σ H1 ρ0) (R : Rel f g σ' H ρ) (G : Same (Fz H1 g0.M) (Fz H g.M)) (hw : wipe σ' vs = wipe σ vs) : Rel f g σ H (bckR ρ0 ρ vs) := by
  have hs : ∀ i, i ∉ vs → σ'[i]? = σ[i]? := fun i hi => by rw [← wipe_ne hi, hw, wipe_ne hi]
  have hl : σ'.length = σ.length := by rw [← wipe_length σ' vs, hw, wipe_length]
  refine ⟨R.keep, R.dom, R.m0, R.m00, R.mU, R.src, by rw [bckR_length, ← hl]; exact R.len, fun i s e => ?_, fun i j l d e h1 h2 h3 h4 => ?_, fun a ha => ⟨(R.tmp a ha).1, (R.tmp a ha).2.1, fun i e h1 h2 => ?_⟩⟩
  · rcases bckR_get e with ⟨h1, h2⟩ | ⟨h1, h2, d, rfl⟩
    · obtain ⟨w, e1, q⟩ := R.slot i s h1
      exact ⟨w, by rw [← hs i h2]; exact e1, q⟩
    · obtain ⟨w, e1, q⟩ := R0.slot i _ h2
      exact ⟨w, e1, Rp.mono G q⟩
  · rcases bckR_get h1 with ⟨a1, b1⟩ | ⟨_, _, d, z⟩
    · rcases bckR_get h2 with ⟨a2, b2⟩ | ⟨_, _, d, z⟩
      · rw [← hs i b1] at h3
        rw [← hs j b2] at h4
        exact R.uq i j l _ e a1 a2 h3 h4
      · cases z
    · cases z
  · rcases bckR_get h1 with ⟨a1, b1⟩ | ⟨_, _, d, z⟩
    · rw [← hs i b1] at h2
      exact (R.tmp a ha).2.2 i e a1 h2
    · cases z
end
def dYes : DT := fun ρ Q => Q true ρ
theorem lt_yes {K : PySem.W.Frag} : LT K tYes dYes := fun f g σ H ρ Q R hK hR hd k => k true H g ρ hR Gro.refl hd
def dLcGo (dg : DG) (dt : DT) (de : DE) (vs : List Nat) (Q : Rv → Rho → Prop) : List D → List D → Rho → Prop
  | [], acc, ρ => Q (.nw (.list acc)) ρ
  | x :: xs, acc, ρ => dg (.fz x) (wipeR ρ vs) fun ρ1 => dt ρ1 fun b ρ2 => useB b (de ρ2 fun r ρ3 => wF (frz ρ3 r) fun d ρ4 => acc.length < sizeLine ∧ dLcGo dg dt de vs Q xs (acc ++ [d]) (bckR ρ ρ4 vs)) (dLcGo dg dt de vs Q xs acc (bckR ρ ρ2 vs))
def dLc (dI : DI) (dg : DG) (dt : DT) (de : DE) (vs : List Nat) : DE := fun ρ Q => dI ρ fun ds ρ1 => dLcGo dg dt de vs Q ds [] ρ1
/-- a target that stores in the block's own slots alone -/
def LGw (t : TG) (vs : List Nat) : Prop := ∀ (v : V) (σ : L2.St) (H : Hp) (Q : L2.St → Hp → Prop), t v σ H (fun σ2 H2 => wipe σ2 vs = wipe σ vs → Q σ2 H2) → t v σ H fun σ2 H2 => wipe σ2 vs = wipe σ vs ∧ Q σ2 H2
theorem wipe_in {vs : List Nat} {j : Nat} (hj : j ∈ vs) (τ : L2.St) : (wipe τ vs)[j]? = if j < τ.length then some none else none := by
  induction vs with
  | nil => cases hj
  | cons v vs ih =>
    unfold wipe
    by_cases e : v = j
    · subst e
      by_cases hl : v < τ.length
      · rw [if_pos hl, List.getElem?_set_self (by rw [wipe_length]; exact hl)]
      · rw [if_neg hl, List.getElem?_eq_none (by rw [List.length_set, wipe_length]; omega)]
    · rw [List.getElem?_set_ne e]
      exact ih ((List.mem_cons.mp hj).elim (fun z => absurd z.symm e) id)
theorem wipe_wipe {σ : L2.St} {vs : List Nat} : wipe (wipe σ vs) vs = wipe σ vs := by
  apply List.ext_getElem?
  intro j
  by_cases hj : j ∈ vs
  · rw [wipe_in hj, wipe_in hj, wipe_length]
  · rw [wipe_ne hj]
theorem wipe_set {σ : L2.St} {vs : List Nat} {i : Nat} {x : Option V} (h : i ∈ vs) : wipe (σ.set i x) vs = wipe σ vs := by
  apply List.ext_getElem?
  intro j
  by_cases hj : j ∈ vs
  · rw [wipe_in hj, wipe_in hj, List.length_set]
  · rw [wipe_ne hj, wipe_ne hj, List.getElem?_set_ne]
    intro e
    exact hj (e ▸ h)
theorem lgw_name {i : Nat} {vs : List Nat} (h : i ∈ vs) : LGw (gName i) vs := fun v σ H Q q => ⟨wipe_set h, q (wipe_set h)⟩
def LGsw (t : TGs) (vs : List Nat) : Prop := ∀ (v : List V) (σ : L2.St) (H : Hp) (Q : L2.St → Hp → Prop), t v σ H (fun σ2 H2 => wipe σ2 vs = wipe σ vs → Q σ2 H2) → t v σ H fun σ2 H2 => wipe σ2 vs = wipe σ vs ∧ Q σ2 H2
theorem lgsw_nil {vs : List Nat} : LGsw gNil vs := fun v σ H Q q => ⟨q.1, rfl, q.2 rfl⟩
/-- monotone in what is wanted -/
def MoG (t : TG) : Prop := ∀ v σ H (Q Q' : L2.St → Hp → Prop), (∀ σ' H', Q σ' H' → Q' σ' H') → t v σ H Q → t v σ H Q'
def MoGs (t : TGs) : Prop := ∀ v σ H (Q Q' : L2.St → Hp → Prop), (∀ σ' H', Q σ' H' → Q' σ' H') → t v σ H Q → t v σ H Q'
theorem mog_name {i : Nat} : MoG (gName i) := fun v σ H Q Q' h q => h _ _ q
theorem mogs_nil : MoGs gNil := fun v σ H Q Q' h q => ⟨q.1, h _ _ q.2⟩
theorem mogs_cons {t : TG} {ts : TGs} (h : MoG t) (h' : MoGs ts) : MoGs (gCons t ts) := fun v σ H Q Q' k q => by
  obtain ⟨x, r, e, q⟩ := q
  exact ⟨x, r, e, h _ _ _ _ _ (fun σ' H' q' => h' _ _ _ _ _ k q') q⟩
theorem mog_tup {K : PySem.W.Frag} {n : Nat} {ts : TGs} (h : MoGs ts) : MoG (gTup K n ts) := fun v σ H Q Q' k q => by
  obtain ⟨a, xs, e, h1, h2, q⟩ := q
  exact ⟨a, xs, e, h1, h2, h _ _ _ _ _ k q⟩
theorem lgsw_cons {t : TG} {ts : TGs} {vs : List Nat} (m : MoG t) (ms : MoGs ts) (h : LGw t vs) (h' : LGsw ts vs) : LGsw (gCons t ts) vs := fun v σ H Q q => by
  obtain ⟨x, r, e, q⟩ := q
  refine ⟨x, r, e, m _ _ _ _ _ (fun σ' H' q' => ?_) (h _ _ _ _ (m _ _ _ _ _ (fun σ' H' z _ => z) q))⟩
  exact ms _ _ _ _ _ (fun σ2 H2 z => ⟨z.1.trans q'.1, z.2⟩) (h' _ _ _ _ (ms _ _ _ _ _ (fun σ2 H2 z e2 => z (e2.trans q'.1)) q'.2))
theorem lgw_tup {K : PySem.W.Frag} {n : Nat} {ts : TGs} {vs : List Nat} (h : LGsw ts vs) : LGw (gTup K n ts) vs := fun v σ H Q q => by
  obtain ⟨a, xs, e, h1, h2, q⟩ := q
  exact ⟨a, xs, e, h1, h2, h _ _ _ _ q⟩
section
variable {K : PySem.W.Frag} {wi : TI} {tg : TG} {te : TE} {tt : TT} {dI : DI} {dg : DG} {de : DE} {dt : DT} {vs : List Nat}
theorem le_lc (hi : LI K wi dI) (hg : LG K tg dg) (hw : LGw tg vs) (ht : LT K tt dt) (he : LE K te de) : LE K (tLc wi tg tt te vs) (dLc dI dg dt de vs) := by
  intro f g σ H ρ Q R hK hR hd k
  refine hi f g σ H ρ _ _ hK hR hd fun J H1 g1 ρ1 G Y ds R1 G1 w io q => ?_
  intro D0 hD
  have h0 : f.H0 D0 = none := R1.dom D0 hD
  obtain ⟨R2, G2, V2⟩ := R1.own (o := .lst []) (d := .list []) hD (.lst upd_same .nil)
  obtain ⟨a, ea, m2, _, ns2, _, t2, u2⟩ := V2
  cases ea
  refine lc_it w (fun i H' => ∃ g' ρ' xs acc, Rel f (g'.push D0) σ H' ρ' ∧ Gro g1 H1 g' H' ∧ H' D0 = some (.lst xs) ∧ RpA f.K (Fz H' g'.M) xs acc ∧ dLcGo dg dt de vs Q (ds.drop i) acc ρ')
    ⟨g1.add D0, ρ1, [], [], ⟨R2.keep, R2.dom, R2.m0, R2.m00, R2.mU, R2.src, R2.len, R2.slot, R2.uq, fun b hb => ?_⟩, G2, upd_same, .nil, by simpa using q⟩ (fun i H' _ ⟨g', ρ', xs, acc, R', G', _⟩ => io.st _ σ H' ρ' R' G'.fz) ?_ ?_
  · rcases List.mem_cons.mp hb with rfl | hb
    · exact ⟨m2, ns2, u2⟩
    · exact R2.tmp b hb
  · rintro i x H' H'' hlt ⟨g', ρ', xs, acc, R', G', hx, hr, q'⟩ y
    obtain ⟨g3, R3, G3, hxx⟩ := io.yl _ σ H' ρ' R' G'.fz i x H'' ds[i] (by simp [hlt]) y
    rw [List.drop_eq_getElem_cons hlt] at q'
    have T3 : g3.T = D0 :: g'.T := G3.tm
    have hw' := hw x (wipe σ vs) H''
    rw [wipe_wipe] at hw'
    refine hw' _ ?_
    -- what a turn's end is
    have fin : ∀ (g5 : Gs) (H5 : Hp) (ρ5 : Rho) (σ5 : L2.St), Rel f g5 σ5 H5 ρ5 → Gro g3 H'' g5 H5 → wipe σ5 vs = wipe σ vs →
        Rel f ((g5.pop g'.T).push D0) σ H5 (bckR ρ' ρ5 vs) ∧ Gro g1 H1 (g5.pop g'.T) H5 ∧ H5 D0 = some (.lst xs) ∧ RpA f.K (Fz H5 g5.M) xs acc := by
      intro g5 H5 ρ5 σ5 R5 G5 hwp
      have G35 : Gro (g'.push D0) H' g5 H5 := G3.trans G5
      have hT : g5.T = D0 :: g'.T := G35.tm
      have RB := Rel.backed (vs := vs) R' R5 G35.fz hwp
      refine ⟨RB.pop (T := D0 :: g'.T) (fun a ha => by rw [hT]; exact ha), ⟨G'.fz.trans G35.fz, fun pc h => G35.src pc (G'.src pc h), G'.tm, fun a ha => ?_⟩, (G35.th D0 List.mem_cons_self).trans hx, hr.mono G35.fz⟩
      exact (G35.th a (List.mem_cons_of_mem _ (by rw [G'.tm]; exact ha))).trans (G'.th a ha)
    refine hg f g3 (wipe σ vs) H'' (wipeR ρ' vs) x (.fz _) _ _ hK (R3.wiped vs) hxx q' fun g4 σ4 H4 ρ4 R4 G4 q4 => ?_
    intro hws
    refine ht f g4 σ4 H4 ρ4 _ _ hK R4 q4 fun b H5 g5 ρ5 R5 G5 q5 => ?_
    cases b with
    | false =>
      replace q5 := useB_f q5
      obtain ⟨A, B, C, E⟩ := fin g5 H5 ρ5 σ4 R5 (G4.trans G5) hws
      exact ⟨g5.pop g'.T, _, xs, acc, A, B, C, E, q5⟩
    | true =>
      replace q5 := useB_t q5
      rw [if_pos rfl]
      refine he.opd hK R5 q5 fun y H6 g6 ρ6 r R6 G6 O6 q6 => ?_
      obtain ⟨d, ρ7, e7, hl7, q7⟩ := wF_some q6
      obtain ⟨g7, R7, G7, hy⟩ := O6.frz R6 e7
      obtain ⟨A, B, C, E⟩ := fin g7 H6 ρ7 σ4 R7 (((G4.trans G5).trans G6).trans G7) hws
      refine ⟨xs, C, by rw [E.length]; exact hl7, ?_⟩
      obtain ⟨A2, S2⟩ := A.mutTmp (o := .lst (xs ++ [y])) List.mem_cons_self h0
      refine ⟨g7.pop g'.T, _, xs ++ [y], acc ++ [d], A2, ⟨B.fz.trans S2, B.src, B.tm, fun a ha => ?_⟩, upd_same, (E.append (.cons hy .nil)).mono S2, q7⟩
      rw [upd_ne]
      · exact B.th a ha
      · rintro rfl
        exact R1.mH a hD (R1.tmp a ha).1
  · rintro H' ⟨g', ρ', xs, acc, R', G', hx, hr, q'⟩
    rw [List.drop_length] at q'
    obtain ⟨m', ns', u'⟩ := R'.tmp D0 List.mem_cons_self
    refine k _ H' g' ρ' (.nw (.list acc)) (R'.pop (T := g'.T) fun a ha => List.mem_cons_of_mem _ ha) (G1.trans G') ⟨D0, rfl, m', h0, ns', .lst hx hr, ?_, u'⟩ q'
    intro ha
    rw [G'.tm] at ha
    exact R1.mH D0 hD (R1.tmp D0 ha).1
end
end DL

set_option Elab.async false
set_option linter.all false
set_option maxRecDepth 100000
set_option maxHeartbeats 4000000
namespace DL
open PySem L2

/-! ### contracts -/
inductive Kd where
  | sh | bo | src | scr
inductive Re where
  | fz (d : D) | nw (d : D)
/-- what a def asks of its arguments and gives -/
abbrev Con := List D → (Re → Prop) → Prop
def srcSet (src : Option (Addr × Addr)) : AP := fun b => ∃ p c, src = some (p, c) ∧ (b = p ∨ b = c)
def ArgOk (K : PySem.W.Frag) (F H : Hp) (src : Option (Addr × Addr)) : Kd → V → D → Prop
  | .sh, v, d => Rp K F v d
  | .bo, v, d => Rp K F v d ∨ ∃ a, v = .ref a ∧ Rt K F H a d ∧ ∀ p c, src = some (p, c) → a ≠ p ∧ a ≠ c
  | .src, v, d => d = .none ∧ ∃ p c, src = some (p, c) ∧ v = .ref p
  | .scr, v, d => d = .none ∧ ∃ (a : Addr) (ns : List Int), v = .ref a ∧ SqL K (Fz H (srcSet src)) a (ns.map V.int) ∧ ns.length ≤ 63
inductive ArgsOk (K : PySem.W.Frag) (F H : Hp) (src : Option (Addr × Addr)) : List Kd → List V → List D → Prop
  | nil : ArgsOk K F H src [] [] []
  | cons {k : Kd} {v : V} {d : D} {ks : List Kd} {vs : List V} {ds : List D} : ArgOk K F H src k v d → ArgsOk K F H src ks vs ds → ArgsOk K F H src (k :: ks) (v :: vs) (d :: ds)
def RetOk (K : PySem.W.Frag) (M0 : AP) (H H' : Hp) (v : V) : Re → Prop
  | .fz d => Rp K (Fz H' M0) v d
  | .nw d => ∃ a, v = .ref a ∧ H a = none ∧ Rt K (Fz H' (fun b => M0 b ∨ b = a)) H' a d
structure PostC (K : PySem.W.Frag) (M0 : AP) (src : Option (Addr × Addr)) (H H' : Hp) (v : V) (r : Re) : Prop where
  keep : ∀ a o, H a = some o → (∀ p c, src = some (p, c) → a ≠ p ∧ a ≠ c) → H' a = some o
  dom : ∀ a, H' a = none → H a = none
  sok : ∀ p c, src = some (p, c) → SrcOk H' p c
  ret : RetOk K M0 H H' v r
structure PreC (K : PySem.W.Frag) (M0 : AP) (src : Option (Addr × Addr)) (H : Hp) (ks : List Kd) (vs : List V) (ds : List D) : Prop where
  mu : ∀ a, M0 a → MuO (H a)
  sok : ∀ p c, src = some (p, c) → p ≠ c ∧ M0 p ∧ M0 c ∧ SrcOk H p c
  args : ArgsOk K (Fz H M0) H src ks vs ds
theorem PreC.dom {K : PySem.W.Frag} {M0 : AP} {src : Option (Addr × Addr)} {H : Hp} {ks : List Kd} {vs : List V} {ds : List D} (P : PreC K M0 src H ks vs ds) (a : Addr) (e : H a = none) : ¬ M0 a := fun m => by
  have := P.mu a m
  rw [e] at this
  exact this
def spD (K : PySem.W.Frag) (ks : List Kd) (C : Con) : Sp := fun vs H Q _ => ∃ (M0 : AP) (src : Option (Addr × Addr)) (ds : List D), PreC K M0 src H ks vs ds ∧ ∃ Qc : Re → Prop, C ds Qc ∧ ∀ r, Qc r → ∀ v H', PostC K M0 src H H' v r → Q v H'
theorem ArgsOk.length {K : PySem.W.Frag} {F H : Hp} {src : Option (Addr × Addr)} {ks : List Kd} {vs : List V} {ds : List D} (h : ArgsOk K F H src ks vs ds) : ks.length = vs.length ∧ vs.length = ds.length := by
  induction h with
  | nil => exact ⟨rfl, rfl⟩
  | cons _ _ ih => simp [ih.1, ih.2]
theorem ArgOk.mono {K : PySem.W.Frag} {F F' H : Hp} {src : Option (Addr × Addr)} (e : Same F F') {k : Kd} {v : V} {d : D} (h : ArgOk K F H src k v d) : ArgOk K F' H src k v d := by
  cases k with
  | sh => exact Rp.mono e h
  | bo =>
    rcases h with h | ⟨a, e1, h, n⟩
    · exact .inl (h.mono e)
    · exact .inr ⟨a, e1, h.mono e fun _ h => h, n⟩
  | src => exact h
  | scr => exact h
theorem ArgsOk.mono {K : PySem.W.Frag} {F F' H : Hp} {src : Option (Addr × Addr)} (e : Same F F') {ks : List Kd} {vs : List V} {ds : List D} (h : ArgsOk K F H src ks vs ds) : ArgsOk K F' H src ks vs ds := by
  induction h with
  | nil => exact .nil
  | cons h _ ih => exact .cons (h.mono e) ih

/-! ### a call -/
def arg1 (ρ : Rho) : Kd → Rv → Option (D × Rho)
  | .sh, r => frz ρ r
  | .bo, r => match res ρ r with
    | some d => some (d, ρ)
    | none => none
  | .src, .src => some (.none, ρ)
  | .scr, .scr => some (.none, ρ)
  | _, _ => none
def argA (ρ : Rho) : List Kd → List Rv → Option (List D × Rho)
  | [], [] => some ([], ρ)
  | k :: ks, r :: rs => match arg1 ρ k r with
    | some (d, ρ1) => match argA ρ1 ks rs with
      | some (ds, ρ2) => some (d :: ds, ρ2)
      | none => none
    | none => none
  | _, _ => none
def ofRe : Re → Rv
  | .fz d => .fz d
  | .nw d => .nw d
section
variable {f : Fr} {g g' : Gs} {σ : L2.St} {H H' : Hp} {ρ ρ' : Rho} {v : V} {r : Rv} {d : D} {p : Addr}
theorem Scr.sq (R : Rel f g σ H ρ) (h : Scr f v) : ∃ (a : Addr) (ns : List Int), v = .ref a ∧ SqL f.K H a (ns.map V.int) ∧ ns.length ≤ 63 := by
  obtain ⟨a, ns, e, h, hl⟩ := h
  refine ⟨a, ns, e, ?_, hl⟩
  rcases h with (h | ⟨o, h⟩) | h
  · exact .inl (.inl (R.keep a _ (of_fz h).1 (of_fz h).2))
  · exact .inl (.inr ⟨o, R.keep a _ (of_fz h).1 (of_fz h).2⟩)
  · exact .inr h
theorem NoSrc.mt {a : Addr} {o : HO} (R : Rel f g σ H ρ) (h : Fz f.H0 f.mt a = some o) : NoSrc g a := fun p c e => by
  obtain ⟨_, _, _, h4, h5, _⟩ := R.src p c e
  obtain ⟨q1, q2⟩ := of_fz h
  refine ⟨?_, ?_⟩
  · rintro rfl
    rcases h4 with z | z
    · exact q2 z
    · rw [q1] at z; cases z
  · rintro rfl
    rcases h5 with z | z
    · exact q2 z
    · rw [q1] at z; cases z
theorem Opd.arg (R : Rel f g σ H ρ) {k : Kd} (h : Opd f g σ H v r) (e : arg1 ρ k r = some (d, ρ')) : ∃ g', Rel f g' σ H ρ' ∧ Gro g H g' H ∧ g'.src = g.src ∧ ArgOk f.K (Fz H g'.M) H g'.src k v d := by
  cases k with
  | sh =>
    obtain ⟨g1, R1, G1, s1, q⟩ := h.frzS R e
    exact ⟨g1, R1, G1, s1, q⟩
  | bo =>
    have e : (match res ρ r with | some d => some (d, ρ) | none => none) = some (d, ρ') := e
    split at e
    · rename_i x e1
      cases e
      refine ⟨g, R, Gro.refl, rfl, ?_⟩
      cases r with
      | fz y => cases e1; exact .inl h
      | nw y => cases e1; exact .inl h
      | src => cases e1
      | scr => cases e1
      | vr i =>
        have e1 : slD ρ[i]? = some d := e1
        have h' : σ[i]? = some (some v) := h
        unfold slD at e1
        split at e1
        · rename_i x e2
          cases e1
          obtain ⟨w, e3, q⟩ := R.slot i _ e2
          rw [h'] at e3; cases e3
          exact .inl q
        · rename_i x e2
          cases e1
          obtain ⟨w, e3, q⟩ := R.slot i _ e2
          rw [h'] at e3; cases e3
          rcases q with q | ⟨a, rfl, q⟩
          · exact .inl q
          · obtain ⟨o, q2⟩ := q.there
            exact .inr ⟨a, rfl, q.mono (Same.refl _) fun o e => R.keep a o (of_fz e).1 (of_fz e).2, NoSrc.mt R q2⟩
        · rename_i x e2
          cases e1
          obtain ⟨w, e3, a, rfl, _, _, ns, q⟩ := R.slot i _ e2
          rw [h'] at e3; cases e3
          exact .inr ⟨a, rfl, q, ns⟩
        · cases e1
    · cases e
  | src =>
    cases r with
    | src => cases e; exact ⟨g, R, Gro.refl, rfl, rfl, h⟩
    | _ => cases e
  | scr =>
    cases r with
    | scr =>
      cases e
      refine ⟨g, R, Gro.refl, rfl, rfl, ?_⟩
      obtain ⟨a, ns, e1, h1, hl⟩ := id h
      refine ⟨a, ns, e1, ?_, hl⟩
      have key : ∀ o, Fz f.H0 f.mt a = some o → Fz H (srcSet g.src) a = some o := fun o ho => fz_of (R.keep a o (of_fz ho).1 (of_fz ho).2) (by
        rintro ⟨p, c, e, z⟩
        have := NoSrc.mt R ho p c e
        rcases z with z | z
        · exact this.1 z
        · exact this.2 z)
      rcases h1 with (h1 | ⟨o, h1⟩) | h1
      · exact .inl (.inl (key _ h1))
      · exact .inl (.inr ⟨o, key _ h1⟩)
      · exact .inr h1
    | _ => cases e
theorem OpdA.arg {f : Fr} {σ : L2.St} {H : Hp} : ∀ {ks : List Kd} {rs : List Rv} {vs : List V} {g : Gs} {ρ ρ' : Rho} {ds : List D}, Rel f g σ H ρ → OpdA f g σ H vs rs → argA ρ ks rs = some (ds, ρ') → ∃ g', Rel f g' σ H ρ' ∧ Gro g H g' H ∧ g'.src = g.src ∧ ArgsOk f.K (Fz H g'.M) H g.src ks vs ds := by
  intro ks
  induction ks with
  | nil =>
    intro rs vs g ρ ρ' ds R h e
    cases h with
    | nil => unfold argA at e; cases e; exact ⟨g, R, Gro.refl, rfl, .nil⟩
    | cons _ _ => unfold argA at e; cases e
  | cons k ks ih =>
    intro rs vs g ρ ρ' ds R h e
    cases h with
    | nil => unfold argA at e; cases e
    | cons h hr =>
      unfold argA at e
      split at e
      · rename_i d ρ1 e1
        split at e
        · rename_i ds ρ2 e2
          cases e
          obtain ⟨g1, R1, G1, s1, q1⟩ := h.arg R e1
          obtain ⟨g2, R2, G2, s2, q2⟩ := ih R1 (hr.mono G1) e2
          rw [s1] at q1 q2
          exact ⟨g2, R2, G1.trans G2, s2.trans s1, .cons (q1.mono G2.fz) q2⟩
        · cases e
      · cases e
/-- behind a call, with a new thing -/
theorem Rel.ownC (R : Rel f g σ H ρ) (hp : H p = none) (hk : ∀ a o, H a = some o → (∀ p c, g.src = some (p, c) → a ≠ p ∧ a ≠ c) → H' a = some o) (hd : ∀ a, H' a = none → H a = none) (hsrc : ∀ p c, g.src = some (p, c) → SrcOk H' p c)
    (hr : Rt f.K (Fz H' (g.add p).M) H' p d) : Rel f (g.add p) σ H' ρ ∧ Gro g H (g.add p) H' ∧ VR f (g.add p) σ H' ρ (.ref p) (.nw d) := by
  have nsM : ∀ a, ¬ g.M a → ∀ p c, g.src = some (p, c) → a ≠ p ∧ a ≠ c := fun a n p c e => ⟨fun q => n (q ▸ (R.src p c e).2.1), fun q => n (q ▸ (R.src p c e).2.2.1)⟩
  have hG : Same (Fz H g.M) (Fz H' (g.add p).M) := fz_mono fun a u e n => ⟨hk a u e (nsM a n), fun z => z.elim n fun q => by rw [q, hp] at e; cases e⟩
  have hns : NoSrc g p := nsM p (R.mH p hp)
  have hT : ∀ a ∈ g.T, H' a = H a := fun a h => by
    have hn := R.tmp a h
    cases e : H a with
    | none => exact absurd hn.1 (R.mH a e)
    | some o => exact hk a o e fun p c hp => hn.2.1 p c hp
  refine ⟨⟨fun a u e n => hk a u (R.keep a u e n) fun q c hq => ?_, fun a e => R.dom a (hd a e), fun a m => .inl (R.m0 a m), R.m00, fun a m => ?_, fun q c e => ?_, R.len, fun i s e => ?_, R.uq, fun a h => ⟨.inl (R.tmp a h).1, (R.tmp a h).2⟩⟩, ⟨hG, fun _ h => h, rfl, hT⟩, p, rfl, .inr rfl, R.dom p hp, hns, hr, fun h => R.mH p hp (R.tmp p h).1, fun i e h1 h2 => ?_⟩
  · obtain ⟨_, _, _, h4, h5, _⟩ := R.src q c hq
    refine ⟨?_, ?_⟩
    · rintro rfl
      rcases h4 with z | z
      · exact n z
      · rw [e] at z; cases z
    · rintro rfl
      rcases h5 with z | z
      · exact n z
      · rw [e] at z; cases z
  · rcases m with m | m
    · exact R.mu_step hk hsrc a m
    · rw [m]; exact hr.mu
  · obtain ⟨h1, h2, h3, h4, h5, h6⟩ := R.src q c e
    exact ⟨h1, .inl h2, .inl h3, h4, h5, hsrc q c e⟩
  · obtain ⟨v, e1, h⟩ := R.slot i s e
    refine ⟨v, e1, ?_⟩
    cases s with
    | sh d => exact Rp.mono hG h
    | bo d => exact BoV.mono hG h
    | ow d =>
      obtain ⟨a, e2, m, h0, ns, r⟩ := h
      exact ⟨a, e2, .inl m, h0, ns, r.mono hG fun o e => hk a o e ns⟩
    | src => exact h
    | scr => exact h
  · obtain ⟨v, e1, a, e2, m, h0, ns, r⟩ := R.slot i _ h1
    rw [e1] at h2
    cases h2
    cases e2
    obtain ⟨o', e3⟩ := r.there
    rw [hp] at e3; cases e3
/-- behind the call that makes the source -/
theorem Rel.mkSrc {c : Addr} (R : Rel f g σ H ρ) (hn : g.src = none) (hp : H p = none) (hc : H c = none) (hpc : p ≠ c) (hk : ∀ a o, H a = some o → H' a = some o) (hd : ∀ a, H' a = none → H a = none) (hs : SrcOk H' p c) :
    Rel f ⟨fun a => g.M a ∨ a = p ∨ a = c, some (p, c), g.T⟩ σ H' ρ ∧ Gro g H ⟨fun a => g.M a ∨ a = p ∨ a = c, some (p, c), g.T⟩ H' := by
  have hG : Same (Fz H g.M) (Fz H' (fun a => g.M a ∨ a = p ∨ a = c)) := fz_mono fun a u e n => ⟨hk a u e, fun z => z.elim n fun q => q.elim (fun q => by rw [q, hp] at e; cases e) fun q => by rw [q, hc] at e; cases e⟩
  have hT : ∀ a ∈ g.T, H' a = H a := fun a h => by
    have hn := R.tmp a h
    cases e : H a with
    | none => exact absurd hn.1 (R.mH a e)
    | some o => exact hk a o e
  obtain ⟨ns, l, m, t, more, s1, s2, s3⟩ := id hs
  refine ⟨⟨fun a u e n => hk a u (R.keep a u e n), fun a e => R.dom a (hd a e), fun a m => .inl (R.m0 a m), R.m00, fun a m => ?_, fun q d e => ?_, R.len, fun i s e => ?_, R.uq, fun a h => ⟨.inl (R.tmp a h).1, fun q d e => ?_, (R.tmp a h).2.2⟩⟩, ⟨hG, (fun pc h => by rw [hn] at h; cases h), rfl, hT⟩⟩
  · rcases m with m | m | m
    · have h := R.mU a m
      cases e : H a with
      | none => rw [e] at h; exact h.elim
      | some o => rw [hk a o e, ← e]; exact h
    · rw [m]; exact hs.mu.1
    · rw [m]; exact hs.mu.2
  · cases e
    exact ⟨hpc, .inr (.inl rfl), .inr (.inr rfl), .inr (R.dom p hp), .inr (R.dom c hc), hs⟩
  · obtain ⟨v, e1, h⟩ := R.slot i s e
    refine ⟨v, e1, ?_⟩
    cases s with
    | sh d => exact Rp.mono hG h
    | bo d => exact BoV.mono hG h
    | ow d =>
      obtain ⟨a, e2, m, h0, ns, r⟩ := h
      refine ⟨a, e2, .inl m, h0, fun q d e => ?_, r.mono hG fun o e => hk a o e⟩
      cases e
      obtain ⟨o', e3⟩ := r.there
      refine ⟨?_, ?_⟩
      · rintro rfl; rw [hp] at e3; cases e3
      · rintro rfl; rw [hc] at e3; cases e3
    | src =>
      obtain ⟨q, d, e, _⟩ := h
      rw [hn] at e; cases e
    | scr => exact h
  · cases e
    have := (R.tmp a h).1
    refine ⟨?_, ?_⟩
    · rintro rfl; exact R.mH _ hp this
    · rintro rfl; exact R.mH _ hc this
/-- a call's end, for the caller -/
theorem PostC.fin {re : Re} {v : V} (R : Rel f g σ H ρ) (P : PostC f.K g.M g.src H H' v re) : ∃ g', Rel f g' σ H' ρ ∧ Gro g H g' H' ∧ VR f g' σ H' ρ v (ofRe re) := by
  cases re with
  | fz d =>
    obtain ⟨R1, G1⟩ := R.step (g' := g) (fun _ => Iff.rfl) rfl rfl P.keep P.dom P.sok
    exact ⟨g, R1, G1, P.ret⟩
  | nw d =>
    obtain ⟨a, rfl, hp, hr⟩ := P.ret
    obtain ⟨R1, G1, V1⟩ := R.ownC hp P.keep P.dom P.sok hr
    exact ⟨_, R1, G1, V1⟩
end
def dCall (ks : List Kd) (C : Con) (da : DA) : DE := fun ρ Q => da ρ fun rs ρ1 => wFA (argA ρ1 ks rs) fun ds ρ2 => C ds fun re => Q (ofRe re) ρ2
theorem le_call {K : PySem.W.Frag} {ks : List Kd} {C : Con} {E : XK} {tr : TA} {dr : DA} (h : LA K tr dr) : LE K (tCall (spD K ks C) [] E tr) (dCall ks C dr) := by
  intro f g σ H ρ Q R hK hR hd k
  refine h f g σ H ρ _ _ hK hR hd fun vs H1 g1 ρ1 rs R1 G1 O1 q1 => ?_
  obtain ⟨ds, ρ2, e1, q1⟩ := wFA_some q1
  obtain ⟨g2, R2, G2, s2, A⟩ := O1.arg R1 e1
  subst hK
  rw [List.append_nil]
  refine ⟨g2.M, g2.src, ds, ⟨fun a m => R2.mU a m, fun p c e => ?_, by rw [s2]; exact A⟩, ?_⟩
  · obtain ⟨h1, h2, h3, _, _, h6⟩ := R2.src p c e
    exact ⟨h1, h2, h3, h6⟩
  · refine ⟨_, q1, fun re q v H' P => ?_⟩
    obtain ⟨g3, R3, G3, V3⟩ := P.fin R2
    exact k v H' g3 ρ2 _ R3 ((G1.trans G2).trans G3) V3 q

/-! ### a def -/
def slot0 : Kd → D → Option Sl
  | .sh, d => some (.sh d)
  | .bo, d => some (.bo d)
  | .src, _ => some .src
  | .scr, _ => some .scr
def slots0 : List Kd → List D → Rho
  | k :: ks, d :: ds => slot0 k d :: slots0 ks ds
  | _, _ => []
def startR (n : Nat) (ks : List Kd) (ds : List D) : Rho := slots0 ks ds ++ List.replicate (n - ds.length) none
def retS (Qc : Re → Prop) : Option (Option Sl) → Prop
  | some (some (.sh d)) => Qc (.fz d)
  | some (some (.ow d)) => Qc (.nw d)
  | some (some (.bo d)) => flatD d = true ∧ Qc (.fz d)
  | _ => False
def retC (Qc : Re → Prop) : Rv → Rho → Prop
  | .fz d, _ => Qc (.fz d)
  | .nw d, _ => Qc (.nw d)
  | .vr i, ρ => retS Qc ρ[i]?
  | _, _ => False
theorem slots0_get {K : PySem.W.Frag} {F H : Hp} {src : Option (Addr × Addr)} {ks : List Kd} {vs : List V} {ds : List D} (h : ArgsOk K F H src ks vs ds) : ∀ {i : Nat} {s : Sl}, (slots0 ks ds)[i]? = some (some s) → ∃ k v d, vs[i]? = some v ∧ ArgOk K F H src k v d ∧ slot0 k d = some s := by
  induction h with
  | nil => intro i s e; simp [slots0] at e
  | cons h _ ih =>
    intro i s e
    cases i with
    | zero => simp [slots0] at e; exact ⟨_, _, _, rfl, h, e⟩
    | succ i =>
      obtain ⟨k, v, d, e1, e2, e3⟩ := ih (i := i) (s := s) (by simpa [slots0] using e)
      exact ⟨k, v, d, by simpa using e1, e2, e3⟩
theorem slots0_length {K : PySem.W.Frag} {F H : Hp} {src : Option (Addr × Addr)} {ks : List Kd} {vs : List V} {ds : List D} (h : ArgsOk K F H src ks vs ds) : (slots0 ks ds).length = ds.length := by
  induction h with
  | nil => rfl
  | cons _ _ ih => simp [slots0, ih]
theorem rel_start {K : PySem.W.Frag} {M0 : AP} {src : Option (Addr × Addr)} {H : Hp} {N : List Str} {ks : List Kd} {vs : List V} {ds : List D} (P : PreC K M0 src H ks vs ds) :
    Rel ⟨K, H, M0, srcSet src⟩ ⟨M0, src, []⟩ (L2.start N vs) H (startR N.length ks ds) := by
  have hl := P.args.length
  have hl2 := slots0_length P.args
  have hslot : ∀ (i : Nat) (s : Sl), (startR N.length ks ds)[i]? = some (some s) → ∃ k v d, (L2.start N vs)[i]? = some (some v) ∧ ArgOk K (Fz H M0) H src k v d ∧ slot0 k d = some s := fun i s e => by
    unfold startR at e
    by_cases hi : i < (slots0 ks ds).length
    · rw [List.getElem?_append_left hi] at e
      obtain ⟨k, v, d, e1, e2, e3⟩ := slots0_get P.args e
      refine ⟨k, v, d, ?_, e2, e3⟩
      unfold L2.start
      rw [List.getElem?_append_left (by rw [List.length_map]; omega), List.getElem?_map, e1]
      rfl
    · rw [List.getElem?_append_right (by omega)] at e
      rw [List.getElem?_replicate] at e
      split at e <;> cases e
  refine ⟨fun a o e _ => e, fun a e => e, fun a m => m, fun a m e => P.dom a e m, fun a m => P.mu a m, fun p c e => ?_, ?_, fun i s e => ?_, fun i j l d e h1 _ _ _ => ?_, fun a h => nomatch h⟩
  · obtain ⟨h1, h2, h3, h4⟩ := P.sok p c e
    exact ⟨h1, h2, h3, .inl ⟨p, c, e, .inl rfl⟩, .inl ⟨p, c, e, .inr rfl⟩, h4⟩
  · unfold startR L2.start
    rw [List.length_append, List.length_append, List.length_replicate, List.length_replicate, List.length_map]
    omega
  · obtain ⟨k, v, d, e1, e2, e3⟩ := hslot i s e
    refine ⟨v, e1, ?_⟩
    cases k with
    | sh => cases e3; exact e2
    | bo =>
      cases e3
      rcases e2 with h | ⟨a, rfl, h, n⟩
      · exact .inl h
      · exact .inr ⟨a, rfl, h.mono (Same.refl _) fun o e => fz_of e (by
          rintro ⟨p, c, e, z⟩
          rcases z with z | z
          · exact (n p c e).1 z
          · exact (n p c e).2 z)⟩
    | src => cases e3; exact e2.2
    | scr => cases e3; exact e2.2
  · obtain ⟨k, v, d, _, _, e3⟩ := hslot i _ h1
    cases k <;> cases e3
/-- the end of a def -/
theorem ret_end {K : PySem.W.Frag} {M0 : AP} {src : Option (Addr × Addr)} {H : Hp} {g' : Gs} {σ' : L2.St} {H' : Hp} {ρ' : Rho} {v : V} {r : Rv} {Qc : Re → Prop} {Q : V → Hp → Prop}
    (R : Rel ⟨K, H, M0, srcSet src⟩ g' σ' H' ρ') (hs : ∀ pc, src = some pc → g'.src = some pc) (V : VR ⟨K, H, M0, srcSet src⟩ g' σ' H' ρ' v r) (q : retC Qc r ρ') (hQ : ∀ re, Qc re → ∀ v H', PostC K M0 src H H' v re → Q v H') : Q v H' := by
  have keep : ∀ a o, H a = some o → (∀ p c, src = some (p, c) → a ≠ p ∧ a ≠ c) → H' a = some o := fun a o e n => R.keep a o e (by
    rintro ⟨p, c, e, z⟩
    rcases z with z | z
    · exact (n p c e).1 z
    · exact (n p c e).2 z)
  have sok : ∀ p c, src = some (p, c) → SrcOk H' p c := fun p c e => (R.src p c (hs _ e)).2.2.2.2.2
  have sub : Same (Fz H' g'.M) (Fz H' M0) := fz_mono fun a o e n => ⟨e, fun m => n (R.m0 a m)⟩
  have own : ∀ a d, H a = none → g'.M a → Rt K (Fz H' g'.M) H' a d → RetOk K M0 H H' (.ref a) (.nw d) := fun a d h0 m r => ⟨a, rfl, h0, r.mono (fz_mono fun b o e n => ⟨e, fun z => z.elim (fun z => n (R.m0 b z)) fun z => n (z ▸ m)⟩) fun _ h => h⟩
  cases r with
  | fz d => exact hQ _ q v H' ⟨keep, R.dom, sok, Rp.mono sub V⟩
  | nw d =>
    obtain ⟨a, rfl, m, h0, _, r, _⟩ := V
    exact hQ _ q _ H' ⟨keep, R.dom, sok, own a d h0 m r⟩
  | vr i =>
    obtain ⟨s, e0, _, e1⟩ := V
    have q : retS Qc ρ'[i]? := q
    obtain ⟨w, e2, h⟩ := R.slot i s e0
    rw [e1] at e2; cases e2
    rw [e0] at q
    cases s with
    | sh d => exact hQ _ q v H' ⟨keep, R.dom, sok, Rp.mono sub h⟩
    | ow d =>
      obtain ⟨a, rfl, m, h0, _, r⟩ := h
      exact hQ _ q _ H' ⟨keep, R.dom, sok, own a d h0 m r⟩
    | bo d => exact hQ _ q.2 v H' ⟨keep, R.dom, sok, Rp.mono sub (BoV.flat h q.1)⟩
    | src => exact q.elim
    | scr => exact q.elim
  | src => exact q.elim
  | scr => exact q.elim
/-- a def by its data reading -/
theorem def_end {K : PySem.W.Frag} {ks : List Kd} {C : Con} {N : List Str} {t : TS} {d : DS} {vs : List V} {H : Hp} {Q : VK} {E : XK} (h : spD K ks C vs H Q E) (hl : LS K t d)
    (hd : ∀ ds Qc, C ds Qc → d { nx := fun _ => Qc (.fz .none), rt := retC Qc } (startR N.length ks ds)) : t { nx := fun _ H' => Q .non H', rt := Q } (L2.start N vs) H := by
  obtain ⟨M0, src, ds, P, Qc, hC, hQ⟩ := h
  refine hl ⟨K, H, M0, srcSet src⟩ ⟨M0, src, []⟩ (L2.start N vs) H _ _ _ rfl (rel_start P) (hd ds _ hC) ⟨fun g' σ' H' ρ' R' G' q => ?_, fun g' σ' H' ρ' v r R' G' V' q => ret_end R' G'.src V' q hQ, fun _ _ _ _ _ _ q => q.elim, fun _ _ _ _ _ _ q => q.elim⟩
  exact ret_end (r := .fz .none) R' G'.src Rp.non (Qc := Qc) q hQ
end DL

set_option Elab.async false
set_option linter.all false
set_option maxRecDepth 100000
set_option maxHeartbeats 4000000
namespace DL
open PySem L2 PySem.Spec PyProof.Rows

/-! ### defs that run where no repr is under way -/
structure FnG (P : Program) (w : World) (K : PySem.W.Frag) (mg : Str → Option Value) (base : Heap) (CX : CXT) (k : Nat) (f : Addr) (fd : FuncData) (ps : List Str) (sp : Sp) : Prop where
  len : ∀ vs H Q E, sp vs H Q E → vs.length = ps.length
  go : ∀ (A : Around), A.guards = some [] → Room k A → ∀ (outer : List Env) (s : Shared) (H : Hp), Env0 P w K mg base A outer s H → ∀ (args : Args) (us : List Value) (vs : List V) (Q : VK) (E : XK),
    BindsTo s fd args (ps.zip us) → Vals vs us → sp vs H Q E → codeAny (model P w) A (.call (.ref f) args) (CR CX outer P w H s Q E) s
section
variable {P : Program} {w : World} {K : PySem.W.Frag} {mg : Str → Option Value} {base : Heap} {CX : CXT}
/-- by its body -/
theorem fnG_of {k : Nat} {f : Addr} {x qual : Str} {st : Stmt} {fd : FuncData} {N ps : List Str} {sp : Sp} (F : C8.Fun K x qual st f fd) (S : FnScope N ps (C8.fnScope st)) (len : ∀ vs H Q E, sp vs H Q E → vs.length = ps.length)
    (hb : ∀ (cdv : Value) (A : Around) (outer : List Env) (s : Shared) (H : Hp) (vs : List V) (Q : VK) (E : XK), (A.deeper (envOfC qual (C8.fnScope st) s.heap.objs.size f cdv)).guards = some [] →
      Room k (A.deeper (envOfC qual (C8.fnScope st) s.heap.objs.size f cdv)) → sp vs H Q E →
      ∃ t, PSs (cxOf CX P w K mg base N qual (C8.fnScope st) f cdv A outer s H E) (C8.fnBody st) t ∧ t { nx := fun _ H' => Q .non H', rt := Q } (L2.start N vs) H) : FnG P w K mg base CX (k + 1) f fd ps sp := by
  obtain ⟨oc, od, dV, kV, doc, pm, an, cdv, ct, osl, rfl, lk, hcd⟩ := F.ex
  refine ⟨len, fun A hg hr outer s H e0 args us vs Q E hbd r hsp => ?_⟩
  have KX : K.In s.heap := e0.mod.kin.keeps fun b o e => (e0.bs b o e).1
  have hk : ∀ y ∈ ps.zip us, (C8.fnScope st).names.lookup y.1 = some .local ∨ ((C8.fnScope st).names.lookup y.1 = some .cell ∧ ((cellsFrom (s.heap.objs.size + 1) (C8.fnScope st).names []).lookup y.1).isSome = true) := by
    rintro ⟨n, v⟩ hy
    rcases S.par n (List.of_mem_zip hy).1 with q | q
    · left; exact q
    · right; exact ⟨q, PySem.W.cellsFrom_some _ _ _ (.inl q)⟩
  refine codeAny_call_function hr.depth (KX _ _ lk) rfl S.co S.gen rfl (PySem.W.codeRec_of KX hcd) (hbd _ _ _ _ (wpAny_newFunctionEnv_cells S.kind hk ?_))
  intro env he s1 x'
  subst he
  obtain ⟨t, ht, hq⟩ := hb cdv A outer s H vs Q E hg (hr.deeper _) hsp
  refine ⟨(e0.mod.nolimit.keeps fun b o e => (e0.bs b o e).1).keeps x'.toInCall.keep, codeAny_func ?_⟩
  have I := inv_start S hr.hd e0 (len _ _ _ _ hsp) r x' (CX := CX) (E := E) (qual := qual) (cd := cdv) (f := f)
  refine wpAny_mono (ht.run [] s1 (L2.start N vs) H _ I hq) (fun fl s' hs => ?_) (fun e s' hs => hs)
  cases fl with
  | ret u => obtain ⟨v, σ', H', J, rv, q⟩ := hs; exact ⟨v, H', J.os, J.bare, J.base, J.hok, rv, q⟩
  | next => obtain ⟨σ', H', J, q⟩ := hs; exact ⟨V.non, H', J.os, J.bare, J.base, J.hok, rfl, q⟩
  | brk => obtain ⟨_, _, _, q⟩ := hs; exact q.elim
  | cont => obtain ⟨_, _, _, q⟩ := hs; exact q.elim
/-- a def that may be called by its name -/
structure CalG (P : Program) (w : World) (K : PySem.W.Frag) (mg : Str → Option Value) (base : Heap) (k : Nat) (x : Str) (sp : Sp) : Prop where
  ex : ∃ (f : Addr) (fd : FuncData) (ps : List Str), FnG P w K mg base C8.CX0 k f fd ps sp ∧ mg x = some (.ref f) ∧ PySem.W.keepIn K (.ref f) = true ∧ Binds K fd ps []
theorem CalG.mono {j k : Nat} {x : Str} {sp : Sp} (c : CalG P w K mg base j x sp) (h : j ≤ k) : CalG P w K mg base k x sp := by
  obtain ⟨f, fd, ps, F, a, b, d⟩ := c.ex
  exact ⟨f, fd, ps, ⟨F.len, fun A hg hr => F.go A hg (hr.mono h)⟩, a, b, d⟩
/-- a def by the link of its body -/
theorem calG {x : Str} {st : Stmt} {f : Addr} {fd : FuncData} {N ps : List Str} {k : Nat} {ks : List Kd} {C : Con} (F : C8.Def K mg x st f fd) (b : Binds K fd ps []) (S : FnScope N ps (C8.fnScope st)) (hl : ks.length = ps.length)
    (hb : ∀ (cdv : Value) (A : Around) (outer : List Env) (s : Shared) (H : Hp) (E : XK), (A.deeper (envOfC x (C8.fnScope st) s.heap.objs.size f cdv)).guards = some [] → Room k (A.deeper (envOfC x (C8.fnScope st) s.heap.objs.size f cdv)) →
      ∃ t d, PSs (cxOf C8.CX0 P w K mg base N x (C8.fnScope st) f cdv A outer s H E).nox (C8.fnBody st) t ∧ LS K t d ∧ ∀ ds Qc, C ds Qc → d { nx := fun _ => Qc (.fz .none), rt := retC Qc } (startR N.length ks ds)) :
    CalG P w K mg base (k + 1) x (spD K ks C) := by
  refine ⟨f, fd, ps, fnG_of F.fn S (fun vs H Q E h => ?_) (fun cdv A outer s H vs Q E hg hr h => ?_), F.mgf, F.kp, b⟩
  · obtain ⟨M0, src, ds, P, _⟩ := h
    rw [← hl, P.args.length.1]
  · obtain ⟨t, d, h1, h2, h3⟩ := hb cdv A outer s H E hg hr
    exact ⟨t, h1.nox, def_end h h2 h3⟩
end
section
variable {X : Cx} {k j : Nat} {x : Str} {sp : Sp} {p pos : Pos} {e : Expr} {es : List Expr} {t : TA}
theorem pe_cG (c : CalG X.prog X.w X.K X.mg X.base k x sp) (hA : X.A.guards = some []) (hr : Room j X.A) (hk : k ≤ j) (hg : Gl X x) (ha : PA X (e :: es) t)
    (hdb : (x == ("__debug__" : Str)) = false := by decide) (he : starEach (e :: es) X.env = (false, eval e X.env) :: starEach es X.env := by rfl) (hpl : (backTo pos (starEach es X.env)).any (·.1) = false := by rfl) :
    PE X (.Call (.Name x p) (e :: es) [] pos) (tCall sp [] C8.E0 t) := by
  obtain ⟨f, fd, ps, F, hm, kp, b⟩ := c.ex
  constructor
  intro pins s σ H Q I h
  refine wpAny_Call_Name_kw (ld_glob I hg hm (PySem.W.callWith_K (h₀ := X.base) I.ok.mod.kin kp (thn (ha.run pos pins s σ H _ I h) ?_) he hpl) hdb)
  rintro us s1 ⟨vs, H1, I1, r, q⟩
  refine ⟨I1.kIn, ?_⟩
  rw [List.append_nil] at q
  have hl : (us ++ []).length = ps.length := by rw [List.append_nil, ← r.length]; exact F.len _ _ _ _ q
  have hb := b s1 us I1.kIn hl
  rw [List.append_nil] at hb
  refine wpAny_call (codeAny_mono (F.go X.A hA (hr.mono hk) X.stack s1 H1 I1.env0 ⟨us, []⟩ us vs Q C8.E0 hb r q) ?_)
  intro rr s' hq
  cases rr with
  | error e => exact hq.elim
  | ok fl =>
    cases fl with
    | ret u => exact I1.after hq
    | next => exact False.elim hq
    | brk => exact False.elim hq
    | cont => exact False.elim hq
end
/-! ### repr of data -/
section
variable {X : Cx} {pins : List (Addr × Obj)} {σ : L2.St} {H : Hp} {s : Shared}
/-- no dict in it -/
def noDict : D → Bool := fun d => !d.hasDict
mutual
theorem Rp.dp {K : PySem.W.Frag} {F : Hp} : ∀ {v : V} {d : D}, Rp K F v d → d.hasDict = false → Dp K F v d
  | _, _, .non, _ => .non
  | _, _, .bl b, _ => .bl b
  | _, _, .int b, _ => .int b
  | _, _, .str b, _ => .str b
  | _, _, .lst h r, e => .lst (.inl (.inl h)) (RpA.dp r (by simpa [PyData.hasDict] using e))
  | _, _, .tup h r, e => .tup (.inl (.inl h)) (RpA.dp r (by simpa [PyData.hasDict] using e))
  | _, _, .dic h r, e => by simp [PyData.hasDict] at e
  | _, _, .dct h r, e => by simp [PyData.hasDict] at e
theorem RpA.dp {K : PySem.W.Frag} {F : Hp} : ∀ {v : List V} {d : List D}, RpA K F v d → PyData.hasDictAll d = false → DpAll K F v d
  | _, _, .nil, _ => .nil
  | _, _, .cons h r, e => by
    simp only [PyData.hasDictAll, Bool.or_eq_false_iff] at e
    exact .cons (Rp.dp h e.1) (RpA.dp r e.2)
end
theorem RN.dp {K : PySem.W.Frag} {F H : Hp} {v : V} {d : D} (e : Same F H) (h : RN K F H v d) (hd : d.hasDict = false) : Dp K H v d := by
  rcases h with h | ⟨a, rfl, h⟩
  · exact (h.mono e).dp hd
  · cases h with
    | lst h r => exact .lst (.inl (.inl h)) ((r.mono e).dp (by simpa [PyData.hasDict] using hd))
    | dic h r => simp [PyData.hasDict] at hd
    | dct h r => simp [PyData.hasDict] at hd
def rRepr (K : PySem.W.Frag) : List V → Hp → VK → Prop := fun xs H Q => ∃ v d, xs = [v] ∧ Dp K H v d ∧ d.showable = true ∧ d.hasDict = false ∧ d.depth ≤ 60 ∧ d.shown.length ≤ sizeLine ∧ Q (.str d.shown) H
theorem call_repr (hA : X.A.guards = some []) (hu : X.A.units + 64 < cLine) : CallR X (.builtin "repr") (rRepr X.K) := by
  intro pins s σ H xs us Q I r h
  obtain ⟨v, d, rfl, hd, hs, hnd, hdp, hz, q⟩ := h
  cases r with
  | cons r rr =>
    cases rr
    obtain ⟨as, rd⟩ := Dp.reads I d v _ hd r
    have key : ∀ (u : Tok) (tk : Nat) (h' : Heap), (∀ b o, s.heap.get? b = some o → h'.get? b = some o) → EP X pins σ Q (.str d.shown u) { s with heap := h', toks := tk } := fun u tk h' hk => ⟨.str d.shown, H, I.kept hk, ⟨_, rfl⟩, q⟩
    have nd : d.hasDict = true → sysModules ∉ as := fun z => by rw [hnd] at z; cases z
    cases rd with
    | none => exact PySem.P.repr_of_none ⟨.str _, H, I.tok _, ⟨_, rfl⟩, q⟩
    | bool b => exact PySem.P.repr_of_bool ⟨.str _, H, I.tok _, ⟨_, rfl⟩, by cases b <;> exact q⟩
    | int i t => exact PySem.P.repr_of_int (by simpa [PyData.showable] using hs) ⟨.str _, H, I.tok _, ⟨_, rfl⟩, q⟩
    | str x t => exact PySem.P.repr_of_str ⟨.str _, H, I.tok _, ⟨_, rfl⟩, q⟩ hz
    | list h1 h2 h3 h4 => exact repr_of_reads' (.list h1 h2 h3 h4) hs nd hA (by omega) (fun _ _ h => h) (fun h' u tk hk => key u tk h' hk) hz
    | tuple h1 h2 h3 h4 => exact repr_of_reads' (.tuple h1 h2 h3 h4) hs nd hA (by omega) (fun _ _ h => h) (fun h' u tk hk => key u tk h' hk) hz
    | dict h1 h2 h3 h4 h5 => simp [PyData.hasDict] at hnd
end
end DL

set_option Elab.async false
set_option linter.all false
set_option maxRecDepth 100000
set_option maxHeartbeats 4000000
set_option autoImplicit false
namespace DL
open PySem L2 PySem.Spec PyProof.Rows

/-! ### the end of a law -/
/-- from a tracked heap that knows the script alone (or nothing) -/
theorem law_run {P : Program} {w : World} {K : PySem.W.Frag} {mg mb : Str → Option Value} {k : Nat} {fa a : Addr} {fd : FuncData} {x : Str} {sp : Sp} {s : Shared} {H : Hp} {obj : Obj} {u : HO}
    (KX : K.In s.heap) (hns : s.heap.Ns mainGlobals mg) (hb : s.heap.Ns builtinsNs mb) (hbb : ∀ x : Str, x ≠ "__name__" → mb x = bootBuiltins x) (hlim : s.heap.NoLimit) (hg : s.gens = #[])
    (hobj : s.heap.get? a = some obj) (hnd : ∀ es ep, obj.data ≠ .dict es ep) (hH : ∀ b, H b = none ∨ (b = a ∧ H b = some (.frz obj u) ∧ K.lookup a = none)) (hok : HOk P w H s.heap)
    (F : ∀ base : Heap, K.In base → base.Ns mainGlobals mg → FnG P w K mg base C8.CX0 k fa fd [x] sp) (hr : Room k callerA) (hbind : ∀ (s : Shared) (u : Value), BindsTo s fd ⟨[u], []⟩ [(x, u)])
    (hsp : sp [.ref a] H (fun v _ => v = .bl true) fun _ _ _ => False) :
    codeAny (model P w) callerA (.call (.ref fa) ⟨[.ref a], []⟩) (fun r s' => r = .ok (.ret (.bool true)) ∧ OldK s.heap s'.heap ∧ s'.os = s.os ∧ AllBare s'.gens) s := by
  -- what is not tracked stands in the base
  have stay : ∀ b o, s.heap.get? b = some o → (∀ es ep, o.data ≠ .dict es ep) ∨ K.lookup b = some o ∨ (∃ es ep, o.data = .dict es ep) → ((∃ es ep, o.data = .dict es ep) ∨ K.lookup b = some o) → (hidT s.heap H).get? b = some o := by
    intro b o e _ h
    refine hidT_get e ?_
    rcases hH b with z | ⟨rfl, _, z⟩
    · exact z
    · rw [hobj] at e
      cases e
      rcases h with ⟨es, ep, h⟩ | h
      · exact absurd h (hnd es ep)
      · rw [z] at h; cases h
  have keepNs : ∀ {b : Addr} {m : Str → Option Value}, s.heap.Ns b m → (hidT s.heap H).Ns b m := by
    rintro b m ⟨o, es, ep, e, d, r⟩
    exact ⟨o, es, ep, stay b o e (.inr (.inr ⟨es, ep, d⟩)) (.inl ⟨es, ep, d⟩), d, r⟩
  have hK : K.In (hidT s.heap H) := fun b o e => stay b o (KX b o e) (.inr (.inl e)) (.inr e)
  have hM : Mod K mg (hidT s.heap H) := by
    obtain ⟨mc, c1, c2⟩ := hlim
    exact ⟨hK, keepNs hns, ⟨mb, keepNs hb, hbb⟩, ⟨mc, keepNs c1, c2⟩⟩
  have env : Env0 P w K mg (hidT s.heap H) callerA [] s H := by
    refine ⟨rfl, hM, fun b o e => of_hidT e, ?_, trivial, ?_, hok, .of_eq hg⟩
    · rw [hidT_size]; exact Nat.le_refl _
    · intro b hb'; cases hb'
  have main := (F _ hK (keepNs hns)).go callerA rfl hr [] s H env ⟨[.ref a], []⟩ [.ref a] [.ref a] (fun v _ => v = .bl true) (fun _ _ _ => False) (hbind s (.ref a)) (.cons rfl .nil) hsp
  refine codeAny_mono main ?_
  rintro r s' h
  cases r with
  | error e => exact h.elim
  | ok fl =>
    cases fl with
    | next => exact h.elim
    | brk => exact h.elim
    | cont => exact h.elim
    | ret z =>
      obtain ⟨v, H', os, bare, un, hok', rv, q⟩ := h
      have q : v = .bl true := q
      rw [q] at rv
      obtain rfl : z = .bool true := rv
      refine ⟨rfl, OldK.of_keep ?_, os, bare⟩
      intro b o e
      rcases hH b with n | ⟨rfl, n, _⟩
      · exact un.keep b o e n (fun z => nomatch z) (fun z => nomatch z)
      · have e1 := (hok' b _ (un.frzs b obj u n)).1
        rw [hobj] at e
        cases e
        exact e1
/-- the whole end: F is asked for the promise of law, over every base -/
theorem law_end {l : PySem.W.OpenLaw} {k : Nat} {q : Program} {loose : List Str} {XP : (Str → Option Value) → Heap → Prop} {YP : World → Heap → Prop} {d : DefRec} {K : Params → PySem.W.Frag} {sp : World → Sp} {x : Str}
    (hn : l.most = some 63) (hdf : d.params.defaults = []) (hr : Room k callerA) (hY : ∀ (w : World) (h : Heap), YP w h → (K w.params).In h)
    (F : ∀ (w : World) (mg : Str → Option Value) (fa : Addr) (h : Heap), (K w.params).In h → h.Ns mainGlobals mg → mg d.name = some (.ref fa) →
      ∃ fd : FuncData, (∀ (s : Shared) (u : Value), BindsTo s fd ⟨[u], []⟩ [(x, u)]) ∧ ∀ base : Heap, (K w.params).In base → base.Ns mainGlobals mg → FnG l.prog w (K w.params) mg base C8.CX0 k fa fd [x] (sp w))
    (hsp : ∀ (w : World) (H : Hp) (a : Addr) (ns : List Int), ns.length ≤ 63 → SqL (K w.params) H a (ns.map V.int) → (∀ b o, H b = some o → ∃ ob u, o = .frz ob u) → sp w [.ref a] H (fun v _ => v = .bl true) fun _ _ _ => False) :
    PySem.W.WalkO q loose XP YP l.row.toRowW d [] (fun f vs => PySem.call f vs) := by
  refine Att.attach_call hn hdf ?_
  intro w s0 s1 mg mb fa o pm cd doc a vs ns G Y ho hd hcd hmg hobj hints hlen hg
  have KX := hY w _ Y
  obtain ⟨fd, hb, hF⟩ := F w mg fa _ KX G.T.g hmg
  have rv := vals_ints hints
  have len := hints.length
  have big : ns.length ≤ sizeLine := Nat.le_trans hlen (by decide)
  cases hk : K w.params |>.lookup a with
  | some ob =>
    have e := KX a ob hk
    rw [hobj] at e
    cases e
    refine law_run (H := fun _ => none) (u := .lst []) KX G.T.g G.T.b G.T.builtins G.T.nolimit hg hobj (fun es ep z => nomatch z) (fun _ => .inl rfl) (fun b u z => nomatch z) hF hr hb (hsp w _ a ns hlen (.inr ⟨_, vs.toArray, 0, hk, rfl, rfl, rfl, ?_, by simpa using rv⟩) fun b o z => nomatch z)
    rw [List.size_toArray, len]; exact big
  | none =>
    refine law_run (H := fun b => if b = a then some (.frz { cls := .type "list", data := .seq vs.toArray } (.lst (ns.map V.int))) else none) (u := .lst (ns.map V.int)) KX G.T.g G.T.b G.T.builtins G.T.nolimit hg hobj (fun es ep z => nomatch z) ?_ ?_ hF hr hb (hsp w _ a ns hlen (.inl (.inr ⟨_, if_pos rfl⟩)) ?_)
    · intro b
      by_cases h : b = a
      · exact .inr ⟨h, if_pos h, hk⟩
      · exact .inl (if_neg h)
    · intro b u z
      by_cases h : b = a
      · subst h
        have z := (if_pos rfl).symm.trans z
        cases z
        refine ⟨hobj, ?_, vs, 0, rv, hobj⟩
        rw [List.length_map]; exact big
      · have z := (if_neg h).symm.trans z
        cases z
    · intro b u z
      by_cases h : b = a
      · have z := (if_pos h).symm.trans z
        cases z; exact ⟨_, _, rfl⟩
      · have z := (if_neg h).symm.trans z
        cases z
end DL

set_option Elab.async false
set_option linter.all false
set_option maxRecDepth 100000
set_option maxHeartbeats 4000000
set_option autoImplicit false
namespace DL
open PySem L2

/-! ### new things of an operation -/
section
variable {f : Fr} {g : Gs} {σ : L2.St} {H : Hp} {ρ : Rho} {Q : Rv → Prop} {R : V → Hp → Prop}
/-- an operation's end: a scalar | a new tuple | a new list | a new dict -/
abbrev OEnd (f : Fr) (g : Gs) (σ : L2.St) (H : Hp) (ρ : Rho) (Q : Rv → Prop) (R : V → Hp → Prop) : Prop := ∀ (z : V) (H' : Hp) (g' : Gs) (r : Rv), Rel f g' σ H' ρ → Gro g H g' H' → VR f g' σ H' ρ z r → Q r → R z H'
theorem OEnd.fz (k : OEnd f g σ H ρ Q R) (hR : Rel f g σ H ρ) {v : V} {d : D} (h : Rp f.K (Fz H g.M) v d) (q : Q (.fz d)) : R v H := k v H g (.fz d) hR Gro.refl h q
theorem OEnd.tup (k : OEnd f g σ H ρ Q R) (hR : Rel f g σ H ρ) {xs : List V} {ds : List D} (h : RpA f.K (Fz H g.M) xs ds) (q : Q (.fz (.tuple ds))) : ∀ p, H p = none → R (.ref p) (upd H p (.tup xs)) := fun p hp => by
  obtain ⟨R3, G3, e3⟩ := hR.new (o := .tup xs) hp
  exact k _ _ g (.fz (.tuple ds)) R3 G3 (Rp.tup e3 (h.mono G3.fz)) q
theorem OEnd.lst (k : OEnd f g σ H ρ Q R) (hR : Rel f g σ H ρ) {xs : List V} {ds : List D} (h : RpA f.K (Fz H g.M) xs ds) (q : Q (.nw (.list ds))) : ∀ p, H p = none → R (.ref p) (upd H p (.lst xs)) := fun p hp => by
  obtain ⟨R3, G3, V3⟩ := hR.own (o := .lst xs) (d := .list ds) hp (.lst upd_same h)
  exact k _ _ _ (.nw (.list ds)) R3 G3 V3 q
end

/-! ### binary operators -/
def rStrAdd : R2 := fun x y H Q => ∃ i j, x = .str i ∧ y = .str j ∧ i.length + j.length ≤ sizeLine ∧ Q (.str (i ++ j)) H
def rAddA (K : PySem.W.Frag) : R2 := fun x y H Q => rI0 (fun i j => V.int (i + j)) x y H Q ∨ (rCat x y H Q ∨ (rCatA K x y H Q ∨ rStrAdd x y H Q))
theorem op_addA {X : Cx} : OpR X (binaryOp .Add) (rAddA X.K) := op_add.or (op_cat.or (op_catA.or op_add_str))
def fAdd : F2 := fun x y Q => match x, y with
  | .int i, .int j => Q (.fz (.int (i + j)))
  | .list xs, .list ys => xs.length + ys.length ≤ sizeLine ∧ Q (.nw (.list (xs ++ ys)))
  | .tuple xs, .tuple ys => xs.length + ys.length ≤ sizeLine ∧ Q (.fz (.tuple (xs ++ ys)))
  | .str i, .str j => i.length + j.length ≤ sizeLine ∧ Q (.fz (.str (i ++ j)))
  | _, _ => False
theorem ol_add {K : PySem.W.Frag} : OpL K (rAddA K) fAdd := by
  intro f g σ H ρ v u x y Q R hK hR h1 h2 hF k
  subst hK
  unfold fAdd at hF
  split at hF
  · obtain rfl := h1.int
    obtain rfl := h2.int
    exact .inl ⟨_, _, rfl, rfl, OEnd.fz k hR (.int _) hF⟩
  · obtain ⟨a, xs, rfl, e1, r1⟩ := h1.list fz_sub
    obtain ⟨b, ys, rfl, e2, r2⟩ := h2.list fz_sub
    exact .inr (.inl ⟨a, b, xs, ys, rfl, rfl, e1, e2, by rw [r1.length, r2.length]; exact hF.1, OEnd.lst k hR (r1.append r2) hF.2⟩)
  · obtain ⟨a, xs, rfl, e1, r1, z1⟩ := h1.tuple fz_sub
    obtain ⟨b, ys, rfl, e2, r2, z2⟩ := h2.tuple fz_sub
    refine .inr (.inr (.inl ⟨a, b, xs, ys, rfl, rfl, e1, e2, by rw [r1.length, r2.length]; exact hF.1, fun e => ?_, fun _ e => ?_, fun _ _ => OEnd.tup k hR (r1.append r2) hF.2⟩))
    · subst e
      cases r1
      exact OEnd.fz k hR (.tup z2 r2) hF.2
    · subst e
      cases r2
      exact OEnd.fz k hR (.tup z1 r1) (by simpa using hF.2)
  · obtain rfl := h1.str
    obtain rfl := h2.str
    exact .inr (.inr (.inr ⟨_, _, rfl, rfl, hF.1, OEnd.fz k hR (.str _) hF.2⟩))
  · exact hF.elim
/-- two ints -/
def fII (C : Int → Int → Prop) (G : Int → Int → D) : F2 := fun x y Q => match x, y with
  | .int i, .int j => C i j ∧ Q (.fz (G i j))
  | _, _ => False
def fII0 (G : Int → Int → D) : F2 := fun x y Q => match x, y with
  | .int i, .int j => Q (.fz (G i j))
  | _, _ => False
theorem ol_II {K : PySem.W.Frag} {C : Int → Int → Prop} {gv : Int → Int → V} {G : Int → Int → D} (h : ∀ i j F, Rp K F (gv i j) (G i j)) : OpL K (rI C gv) (fII C G) := by
  intro f g σ H ρ v u x y Q R hK hR h1 h2 hF k
  subst hK
  unfold fII at hF
  split at hF
  · obtain rfl := h1.int
    obtain rfl := h2.int
    exact ⟨_, _, rfl, rfl, hF.1, OEnd.fz k hR (h _ _ _) hF.2⟩
  · exact hF.elim
theorem ol_II0 {K : PySem.W.Frag} {gv : Int → Int → V} {G : Int → Int → D} (h : ∀ i j F, Rp K F (gv i j) (G i j)) : OpL K (rI0 gv) (fII0 G) := by
  intro f g σ H ρ v u x y Q R hK hR h1 h2 hF k
  subst hK
  unfold fII0 at hF
  split at hF
  · obtain rfl := h1.int
    obtain rfl := h2.int
    exact ⟨_, _, rfl, rfl, OEnd.fz k hR (h _ _ _) hF⟩
  · exact hF.elim
abbrev fSub : F2 := fII0 fun i j => .int (i - j)
theorem ol_sub {K : PySem.W.Frag} : OpL K (rI0 fun i j => .int (i - j)) fSub := ol_II0 fun _ _ _ => .int _
/-- // by anything of less than 9000 bits -/
def CDivL (_ j : Int) : Prop := j ≠ 0 ∧ j.natAbs.log2 < 9000
theorem op_fdivL {X : Cx} : OpR X (binaryOp .FloorDiv) (rI CDivL fun i j => .int (i.fdiv j)) := opI fun _ _ _ _ _ _ _ hc q => PyProof.Rows.floordiv_int hc.1 q (.inl (PyProof.noPylong_of_log2 hc.2))
abbrev fFdv : F2 := fII CDivL fun i j => .int (i.fdiv j)
theorem ol_fdv {K : PySem.W.Frag} : OpL K (rI CDivL fun i j => .int (i.fdiv j)) fFdv := ol_II fun _ _ _ => .int _
abbrev fMod : F2 := fII (fun _ j => j ≠ 0) fun i j => .int (i.fmod j)
theorem ol_mod {K : PySem.W.Frag} : OpL K (rI (fun _ j => j ≠ 0) fun i j => .int (i.fmod j)) fMod := ol_II fun _ _ _ => .int _
abbrev fPow : F2 := fII CPow fun i j => .int (i ^ j.toNat)
theorem ol_pow {K : PySem.W.Frag} : OpL K (rI CPow fun i j => .int (i ^ j.toNat)) fPow := ol_II fun _ _ _ => .int _
abbrev fShl : F2 := fII CPow fun i j => .int (i * 2 ^ j.toNat)
theorem ol_shl {K : PySem.W.Frag} : OpL K (rI CPow fun i j => .int (i * 2 ^ j.toNat)) fShl := ol_II fun _ _ _ => .int _
abbrev fShr : F2 := fII (fun _ j => 0 ≤ j) fun i j => .int (i / 2 ^ j.toNat)
theorem ol_shr {K : PySem.W.Frag} : OpL K (rI (fun _ j => 0 ≤ j) fun i j => .int (i / 2 ^ j.toNat)) fShr := ol_II fun _ _ _ => .int _
abbrev fAnd : F2 := fII0 fun i j => .int (Builtin.bitAnd i j)
theorem ol_and {K : PySem.W.Frag} : OpL K (rI0 fun i j => .int (Builtin.bitAnd i j)) fAnd := ol_II0 fun _ _ _ => .int _
abbrev fOr : F2 := fII0 fun i j => .int (Builtin.bitOr i j)
theorem ol_or {K : PySem.W.Frag} : OpL K (rI0 fun i j => .int (Builtin.bitOr i j)) fOr := ol_II0 fun _ _ _ => .int _
abbrev fXor : F2 := fII0 fun i j => .int (Builtin.bitXor i j)
theorem ol_xor {K : PySem.W.Frag} : OpL K (rI0 fun i j => .int (Builtin.bitXor i j)) fXor := ol_II0 fun _ _ _ => .int _
/-- times: ints, a list again and again -/
def rMulA : R2 := fun x y H Q => rI CMul (fun i j => V.int (i * j)) x y H Q ∨ rRep x y H Q
theorem op_mulA {X : Cx} : OpR X (binaryOp .Mult) rMulA := op_mul.or op_rep
def fMul : F2 := fun x y Q => match x, y with
  | .int i, .int j => CMul i j ∧ Q (.fz (.int (i * j)))
  | .list xs, .int k => (-(2 ^ 63) ≤ k ∧ k < 2 ^ 63 ∧ xs.length * k.toNat ≤ sizeLine) ∧ Q (.nw (.list (List.replicate k.toNat xs).flatten))
  | _, _ => False
theorem RpA.rep {K : PySem.W.Frag} {F : Hp} {vs : List V} {ds : List D} (h : RpA K F vs ds) : ∀ n, RpA K F (List.replicate n vs).flatten (List.replicate n ds).flatten
  | 0 => .nil
  | n + 1 => by
    rw [List.replicate_succ, List.replicate_succ, List.flatten_cons, List.flatten_cons]
    exact h.append (h.rep n)
theorem ol_mul {K : PySem.W.Frag} : OpL K rMulA fMul := by
  intro f g σ H ρ v u x y Q R hK hR h1 h2 hF k
  subst hK
  unfold fMul at hF
  split at hF
  · obtain rfl := h1.int
    obtain rfl := h2.int
    exact .inl ⟨_, _, rfl, rfl, hF.1, OEnd.fz k hR (.int _) hF.2⟩
  · obtain ⟨a, xs, rfl, e1, r1⟩ := h1.list fz_sub
    obtain rfl := h2.int
    obtain ⟨⟨b1, b2, b3⟩, q⟩ := hF
    exact .inr ⟨a, _, xs, rfl, rfl, e1, b1, b2, by rw [r1.length]; exact b3, OEnd.lst k hR (r1.rep _) q⟩
  · exact hF.elim

/-! ### comparisons -/
def rLtA : R2 := fun x y H Q => rI0 (fun i j => V.bl (decide (i < j))) x y H Q ∨ (∃ i j, x = .str i ∧ y = .str j ∧ Q (.bl (decide (i.cps.toList < j.cps.toList))) H)
theorem op_ltA {X : Cx} : OpR X (compareOp .Lt) rLtA := op_lt.or op_lt_str
abbrev fLt : F2 := fII0 fun i j => .bool (decide (i < j))
theorem ol_lt {K : PySem.W.Frag} : OpL K (rI0 fun i j => .bl (decide (i < j))) fLt := ol_II0 fun _ _ _ => .bl _
abbrev fLe : F2 := fII0 fun i j => .bool (decide (i ≤ j))
theorem ol_le {K : PySem.W.Frag} : OpL K (rI0 fun i j => .bl (decide (i ≤ j))) fLe := ol_II0 fun _ _ _ => .bl _
abbrev fGt : F2 := fII0 fun i j => .bool (decide (j < i))
theorem ol_gt {K : PySem.W.Frag} : OpL K (rI0 fun i j => .bl (decide (j < i))) fGt := ol_II0 fun _ _ _ => .bl _
abbrev fGe : F2 := fII0 fun i j => .bool (decide (j ≤ i))
theorem ol_ge {K : PySem.W.Frag} : OpL K (rI0 fun i j => .bl (decide (j ≤ i))) fGe := ol_II0 fun _ _ _ => .bl _
/-- equality of data without dicts -/
def eqOk (d : D) : Bool := !d.hasDict && SeqAt.shaped d
/-- two single values that may be compared at once -/
def scalD : D → D → Bool
  | .none, .none => true
  | .none, .int _ => true
  | .int _, .none => true
  | .none, .bool _ => true
  | .bool _, .none => true
  | .none, .str _ => true
  | .str _, .none => true
  | .int _, .int _ => true
  | .bool _, .bool _ => true
  | .str _, .str _ => true
  | .int _, .str _ => true
  | .str _, .int _ => true
  | .bool _, .str _ => true
  | .str _, .bool _ => true
  | _, _ => false
def eqOk2 (x y : D) : Bool := scalD x y || (eqOk x && eqOk y)
def fEq (neg : Bool) : F2 := fun x y Q => eqOk2 x y = true ∧ Q (.fz (.bool (neg != PyData.eqv x y)))
theorem eqOk_and {d : D} (h : eqOk d = true) : d.hasDict = false ∧ SeqAt.shaped d = true := by simpa [eqOk] using h
theorem scal_of {K : PySem.W.Frag} {F H : Hp} {v u : V} {x y : D} (h1 : RN K F H v x) (h2 : RN K F H u y) (h : scalD x y = true) : scal v u = true ∧ decide (v = u) = PyData.eqv x y := by
  cases x <;> cases y <;> first
    | exact absurd h Bool.false_ne_true
    | (first | obtain rfl := h1.non | obtain rfl := h1.bool | obtain rfl := h1.int | obtain rfl := h1.str
       first | obtain rfl := h2.non | obtain rfl := h2.bool | obtain rfl := h2.int | obtain rfl := h2.str
       refine ⟨rfl, ?_⟩
       simp only [PyData.eqv]
       first | (rw [Bool.eq_iff_iff]; simp; done) | simp)
theorem ol_eq {K : PySem.W.Frag} : OpL K (fun x y H Q => rEq x y H Q ∨ rEqD K x y H Q) (fEq false) := by
  intro f g σ H ρ v u x y Q R hK hR h1 h2 hF k
  subst hK
  obtain ⟨hs, q⟩ := hF
  unfold eqOk2 at hs
  rcases Bool.or_eq_true_iff.mp hs with hs | hs
  · obtain ⟨a, b⟩ := scal_of h1 h2 hs
    exact .inl ⟨a, by rw [b]; exact OEnd.fz k hR (.bl _) (by simpa using q)⟩
  · rw [Bool.and_eq_true] at hs
    obtain ⟨a1, a2⟩ := eqOk_and hs.1
    obtain ⟨b1, b2⟩ := eqOk_and hs.2
    exact .inr ⟨x, y, h1.dp fz_sub a1, h2.dp fz_sub b1, a2, b2, OEnd.fz k hR (.bl _) (by simpa using q)⟩
theorem ol_ne {K : PySem.W.Frag} : OpL K (fun x y H Q => rNe x y H Q ∨ rNeD K x y H Q) (fEq true) := by
  intro f g σ H ρ v u x y Q R hK hR h1 h2 hF k
  subst hK
  obtain ⟨hs, q⟩ := hF
  unfold eqOk2 at hs
  rcases Bool.or_eq_true_iff.mp hs with hs | hs
  · obtain ⟨a, b⟩ := scal_of h1 h2 hs
    exact .inl ⟨a, by rw [b]; exact OEnd.fz k hR (.bl _) (by simpa using q)⟩
  · rw [Bool.and_eq_true] at hs
    obtain ⟨a1, a2⟩ := eqOk_and hs.1
    obtain ⟨b1, b2⟩ := eqOk_and hs.2
    exact .inr ⟨x, y, h1.dp fz_sub a1, h2.dp fz_sub b1, a2, b2, OEnd.fz k hR (.bl _) (by simpa using q)⟩
/-- values that hold no address -/
def flatP : D → Bool
  | .none => true
  | .bool _ => true
  | .int _ => true
  | .str _ => true
  | _ => false
theorem flat_of {K : PySem.W.Frag} {F : Hp} {v : V} {d : D} (h : Rp K F v d) (hd : flatP d = true) : flatV v = true := by
  cases h <;> first | rfl | cases hd
theorem eqV_of {K : PySem.W.Frag} {F : Hp} {v u : V} {d e : D} (h : Rp K F v d) (h' : Rp K F u e) (hd : flatP d = true) (he : flatP e = true) : eqV v u = PyData.eqv d e := by
  cases h <;> cases hd <;> cases h' <;> cases he <;> simp [eqV, PyData.eqv]
theorem flatA_of {K : PySem.W.Frag} {F : Hp} {vs : List V} {ds : List D} (h : RpA K F vs ds) (hd : ds.all flatP = true) : vs.all flatV = true := by
  induction ds generalizing vs with
  | nil => cases h; rfl
  | cons d ds ih =>
    cases h with
    | cons h r =>
      rw [List.all_cons, Bool.and_eq_true] at hd ⊢
      exact ⟨flat_of h hd.1, ih r hd.2⟩
theorem inV_of {K : PySem.W.Frag} {F : Hp} {u : V} {e : D} {vs : List V} {ds : List D} (h : RpA K F vs ds) (hd : ds.all flatP = true) (hu : Rp K F u e) (he : flatP e = true) : inV u vs = ds.any fun z => PyData.eqv z e := by
  induction ds generalizing vs with
  | nil => cases h; rfl
  | cons d ds ih =>
    cases h with
    | cons h r =>
      rw [List.all_cons, Bool.and_eq_true] at hd
      show (eqV _ _ || inV u _) = _
      rw [List.any_cons, eqV_of h hu hd.1 he, ih r hd.2]
theorem RN.flat {K : PySem.W.Frag} {F H : Hp} {v : V} {d : D} (h : RN K F H v d) (hd : flatP d = true) : Rp K F v d := by
  rcases h with h | ⟨a, _, h⟩
  · exact h
  · cases h <;> cases hd
/-- an item in a flat sequence -/
def fIn (neg : Bool) : F2 := fun x y Q => match seqFlat y with
  | some ds => (flatP x = true ∧ ds.all flatP = true) ∧ Q (.fz (.bool (neg != ds.any fun z => PyData.eqv z x)))
  | none => False
where seqFlat : D → Option (List D)
  | .list ds => some ds
  | .tuple ds => some ds
  | _ => none
theorem ol_inG {K : PySem.W.Frag} {neg : Bool} : OpL K (rIn K neg) (fIn neg) := by
  intro f g σ H ρ v u x y Q R hK hR h1 h2 hF k
  subst hK
  have fin : ∀ (vs : List V) (ds : List D), RpA f.K (Fz H g.M) vs ds → (flatP x = true ∧ ds.all flatP = true) ∧ Q (.fz (.bool (neg != ds.any fun z => PyData.eqv z x))) → flatV v = true ∧ vs.all flatV = true ∧ R (.bl (if neg then !inV v vs else inV v vs)) H := by
    intro vs ds r hF
    refine ⟨flat_of (h1.flat hF.1.1) hF.1.1, flatA_of r hF.1.2, ?_⟩
    rw [inV_of r hF.1.2 (h1.flat hF.1.1) hF.1.1]
    cases neg
    · exact OEnd.fz k hR (.bl _) (by simpa using hF.2)
    · exact OEnd.fz k hR (.bl _) (by simpa using hF.2)
  cases y with
  | list ds =>
    obtain ⟨a, xs, rfl, e1, r1⟩ := h2.list fz_sub
    exact ⟨a, xs, rfl, .inl (.inl (.inl e1)), fin xs ds r1 hF⟩
  | tuple ds =>
    obtain ⟨a, xs, rfl, e1, r1, _⟩ := h2.tuple fz_sub
    exact ⟨a, xs, rfl, .inr e1, fin xs ds r1 hF⟩
  | none => exact hF.elim
  | bool _ => exact hF.elim
  | int _ => exact hF.elim
  | str _ => exact hF.elim
  | dict _ => exact hF.elim
theorem ol_in {K : PySem.W.Frag} : OpL K (rIn K false) (fIn false) := ol_inG
theorem ol_nin {K : PySem.W.Frag} : OpL K (rIn K true) (fIn true) := ol_inG

/-! ### one operand -/
abbrev F1 := D → (Rv → Prop) → Prop
def UnL (K : PySem.W.Frag) (r : V → Hp → VK → Prop) (F : F1) : Prop := ∀ (f : Fr) (g : Gs) (σ : L2.St) (H : Hp) (ρ : Rho) (v : V) (x : D) (Q : Rv → Prop) (R : V → Hp → Prop), f.K = K → Rel f g σ H ρ → RN K (Fz H g.M) H v x → F x Q → OEnd f g σ H ρ Q R → r v H R
def dUn (F : F1) (da : DE) : DE := fun ρ Q => da ρ fun r1 ρ1 => wD (res ρ1 r1) fun x => F x fun r => Q r ρ1
theorem le_un {K : PySem.W.Frag} {ta : TE} {da : DE} {r : V → Hp → VK → Prop} {F : F1} (ha : LE K ta da) (ho : UnL K r F) : LE K (tUn r ta) (dUn F da) := by
  intro f g σ H ρ Q R hK hR hd k
  refine ha.opd hK hR hd fun v H1 g1 ρ1 r1 R1 G1 O1 q1 => ?_
  obtain ⟨x, e1, q2⟩ := wD_some q1
  subst hK
  exact ho f g1 σ H1 ρ1 v x _ R rfl R1 (O1.rn R1 e1) q2 fun z H3 g3 r R3 G3 V3 q3 => k z H3 g3 ρ1 r R3 (G1.trans G3) V3 q3
def fNeg : F1 := fun x Q => match x with
  | .int i => Q (.fz (.int (-i)))
  | _ => False
theorem ul_neg {K : PySem.W.Frag} : UnL K (rU fun i => .int (-i)) fNeg := by
  intro f g σ H ρ v x Q R hK hR h1 hF k
  subst hK
  cases x with
  | int i => obtain rfl := h1.int; exact ⟨_, rfl, OEnd.fz k hR (.int _) hF⟩
  | _ => exact hF.elim

/-! ### subscripts -/
def seqAt (x : D) (i : Int) : Option D := match x with
  | .list ds => atI ds i
  | .tuple ds => atI ds i
  | .str z => (atI z.cps.toList i).map fun c => .str ⟨#[c]⟩
  | _ => none
def strOk0 : D → Prop
  | .str z => z.length ≤ sizeLine
  | _ => True
def fIx : F2 := fun x y Q => match y with
  | .int i => strOk0 x ∧ ∃ d, seqAt x i = some d ∧ Q (.fz d)
  | _ => False
theorem RpA.atI {K : PySem.W.Frag} {F : Hp} {vs : List V} {ds : List D} (h : RpA K F vs ds) {i : Int} {d : D} (e : L2.atI ds i = some d) : ∃ v, L2.atI vs i = some v ∧ Rp K F v d := by
  unfold L2.atI at e ⊢
  rw [h.length]
  cases hj : ixN ds.length i with
  | none => rw [hj] at e; cases e
  | some j =>
    rw [hj] at e
    exact h.get e
theorem ol_ix {K : PySem.W.Frag} : OpL K (rIx K) fIx := by
  intro f g σ H ρ v u x y Q R hK hR h1 h2 hF k
  subst hK
  cases y with
  | int i =>
    obtain rfl := h2.int
    obtain ⟨hs, hF⟩ := hF
    obtain ⟨d, e, q⟩ := hF
    cases x with
    | list ds =>
      obtain ⟨a, xs, rfl, e1, r1⟩ := h1.list fz_sub
      obtain ⟨w, e2, r2⟩ := r1.atI e
      exact .inl ⟨a, xs, i, w, rfl, rfl, .inl (.inl e1), e2, OEnd.fz k hR r2 q⟩
    | tuple ds =>
      obtain ⟨a, xs, rfl, e1, r1, _⟩ := h1.tuple fz_sub
      obtain ⟨w, e2, r2⟩ := r1.atI e
      exact .inr (.inl ⟨a, xs, i, w, rfl, rfl, e1, e2, OEnd.fz k hR r2 q⟩)
    | str z =>
      obtain rfl := h1.str
      have e : (L2.atI z.cps.toList i).map (fun c => PyData.str ⟨#[c]⟩) = some d := e
      cases hc : L2.atI z.cps.toList i with
      | none => rw [hc] at e; cases e
      | some c =>
        rw [hc] at e
        cases e
        exact .inr (.inr ⟨z, i, c, rfl, rfl, hs, hc, OEnd.fz k hR (.str _) q⟩)
    | none => cases e
    | bool _ => cases e
    | int _ => cases e
    | dict _ => cases e
  | _ => exact hF.elim
/-- slices -/
def cutD (xs : List D) (lo hi : Option Int) : List D := (xs.drop (HT.sIx xs.length 0 lo)).take (HT.sIx xs.length xs.length hi - HT.sIx xs.length 0 lo)
theorem RpA.cut {K : PySem.W.Frag} {F : Hp} {vs : List V} {ds : List D} (h : RpA K F vs ds) (lo hi : Option Int) : RpA K F (cutV vs lo hi) (cutD ds lo hi) := by
  unfold cutV cutD
  rw [h.length]
  exact (h.drop _).take _
def rSlAny (K : PySem.W.Frag) : V → Option Int → Option Int → Hp → VK → Prop := fun x lo hi H Q => rSlL K x lo hi H Q ∨ (rSlA K x lo hi H Q ∨ rSlS x lo hi H Q)
theorem sl_any {X : Cx} : L2.SlR X (rSlAny X.K) := sl_list.or (sl_tupA.or sl_str)
abbrev DO := Rho → (Option Int → Rho → Prop) → Prop
def LO (K : PySem.W.Frag) (t : TO) (d : DO) : Prop := ∀ (f : Fr) (g : Gs) (σ : L2.St) (H : Hp) (ρ : Rho) (Q : Option Int → Rho → Prop) (R : Option Int → Hp → Prop), f.K = K → Rel f g σ H ρ → d ρ Q →
  (∀ (o : Option Int) (H' : Hp) (g' : Gs) (ρ' : Rho), Rel f g' σ H' ρ' → Gro g H g' H' → Q o ρ' → R o H') → t σ H R
def dNoP : DO := fun ρ Q => Q none ρ
def wI (o : Option D) (k : Int → Prop) : Prop := match o with
  | some (.int i) => k i
  | _ => False
theorem wI_some {o : Option D} {k : Int → Prop} (h : wI o k) : ∃ b, o = some (.int b) ∧ k b := by
  unfold wI at h
  split at h
  · exact ⟨_, rfl, h⟩
  · exact h.elim
def dPart (da : DE) : DO := fun ρ Q => da ρ fun r ρ1 => wI (res ρ1 r) fun i => Q (some i) ρ1
theorem lo_none {K : PySem.W.Frag} : LO K tNoPart dNoP := fun f g σ H ρ Q R hK hR hd k => k none H g ρ hR Gro.refl hd
theorem lo_some {K : PySem.W.Frag} {ta : TE} {da : DE} (h : LE K ta da) : LO K (tPart ta) (dPart da) := by
  intro f g σ H ρ Q R hK hR hd k
  refine h.opd hK hR hd fun v H1 g1 ρ1 r1 R1 G1 O1 q1 => ?_
  obtain ⟨i, e, q⟩ := wI_some q1
  exact ⟨i, (O1.rn R1 e).int, k _ H1 g1 ρ1 R1 G1 q⟩
def fSl (x : D) (lo hi : Option Int) (Q : Rv → Prop) : Prop := match x with
  | .list ds => Q (.nw (.list (cutD ds lo hi)))
  | .tuple ds => Q (.fz (.tuple (cutD ds lo hi)))
  | .str z => z.length ≤ sizeLine ∧ Q (.fz (.str (cutS z lo hi)))
  | _ => False
def dSl (da : DE) (dl dh : DO) : DE := fun ρ Q => da ρ fun r ρ1 => dl ρ1 fun lo ρ2 => dh ρ2 fun hi ρ3 => wD (res ρ3 r) fun x => fSl x lo hi fun q => Q q ρ3
theorem cutD_whole {xs : List D} {lo hi : Option Int} (h : HT.sIx xs.length 0 lo = 0 ∧ HT.sIx xs.length xs.length hi = xs.length) : cutD xs lo hi = xs := by
  unfold cutD
  rw [h.1, h.2]
  simp
theorem le_sl {K : PySem.W.Frag} {ta : TE} {da : DE} {tl th : TO} {dl dh : DO} (h : LE K ta da) (hl : LO K tl dl) (hh : LO K th dh) : LE K (tSl (rSlAny K) ta tl th) (dSl da dl dh) := by
  intro f g σ H ρ Q R hK hR hd k
  refine h.opd hK hR hd fun v H1 g1 ρ1 r1 R1 G1 O1 q1 => ?_
  refine hl f g1 σ H1 ρ1 _ _ hK R1 q1 fun lo H2 g2 ρ2 R2 G2 q2 => ?_
  refine hh f g2 σ H2 ρ2 _ _ hK R2 q2 fun hi H3 g3 ρ3 R3 G3 q3 => ?_
  obtain ⟨x, e, q⟩ := wD_some q3
  subst hK
  have hx := ((O1.mono G2).mono G3).rn R3 e
  have k' : OEnd f g3 σ H3 ρ3 (fun q => Q q ρ3) R := fun z H' g' r R' G' V' q' => k z H' g' ρ3 r R' (((G1.trans G2).trans G3).trans G') V' q'
  cases x with
  | list ds =>
    obtain ⟨a, xs, rfl, e1, r1⟩ := hx.list fz_sub
    exact .inl ⟨a, xs, rfl, .inl (.inl e1), OEnd.lst k' R3 (r1.cut lo hi) q⟩
  | tuple ds =>
    obtain ⟨a, xs, rfl, e1, r1, z1⟩ := hx.tuple fz_sub
    refine .inr (.inl ⟨a, xs, rfl, e1, fun hw => ?_, fun _ => OEnd.tup k' R3 (r1.cut lo hi) q⟩)
    rw [r1.length] at hw
    have q : Q (.fz (.tuple (cutD ds lo hi))) ρ3 := q
    rw [cutD_whole hw] at q
    exact OEnd.fz k' R3 (.tup z1 r1) q
  | str z =>
    obtain rfl := hx.str
    exact .inr (.inr ⟨z, rfl, q.1, OEnd.fz k' R3 (.str _) q.2⟩)
  | none => exact q.elim
  | bool _ => exact q.elim
  | int _ => exact q.elim
  | dict _ => exact q.elim
end DL

set_option Elab.async false
set_option linter.all false
set_option maxRecDepth 100000
set_option maxHeartbeats 4000000
set_option autoImplicit false
namespace DL
open PySem L2

theorem CallR.or {X : Cx} {f : Value} {r r' : List V → Hp → VK → Prop} (h : CallR X f r) (h' : CallR X f r') : CallR X f (fun xs H Q => r xs H Q ∨ r' xs H Q) := by
  intro pins s σ H xs us Q I r q
  rcases q with q | q
  · exact h pins s σ H xs us Q I r q
  · exact h' pins s σ H xs us Q I r q
theorem RNA.one {K : PySem.W.Frag} {F H : Hp} {vs : List V} {d : D} (h : RNA K F H vs [d]) : ∃ v, vs = [v] ∧ RN K F H v d := by
  cases h with | cons h r => cases r; exact ⟨_, rfl, h⟩
theorem RNA.two {K : PySem.W.Frag} {F H : Hp} {vs : List V} {d e : D} (h : RNA K F H vs [d, e]) : ∃ v u, vs = [v, u] ∧ RN K F H v d ∧ RN K F H u e := by
  cases h with | cons h r => cases r with | cons h' r => cases r; exact ⟨_, _, rfl, h, h'⟩
/-- one argument -/
def fA1 (F : F1) : FA := fun ds Q => match ds with
  | [d] => F d Q
  | _ => False
def fA2 (F : F2) : FA := fun ds Q => match ds with
  | [d, e] => F d e Q
  | _ => False
theorem fA1_some {F : F1} {ds : List D} {Q : Rv → Prop} (h : fA1 F ds Q) : ∃ d, ds = [d] ∧ F d Q := by
  unfold fA1 at h
  split at h
  · exact ⟨_, rfl, h⟩
  · exact h.elim
theorem fA2_some {F : F2} {ds : List D} {Q : Rv → Prop} (h : fA2 F ds Q) : ∃ d e, ds = [d, e] ∧ F d e Q := by
  unfold fA2 at h
  split at h
  · exact ⟨_, _, rfl, h⟩
  · exact h.elim
section
variable {K : PySem.W.Frag}
/-! ### len -/
def rLenA (K : PySem.W.Frag) : List V → Hp → VK → Prop := fun xs H Q => (∃ x n, xs = [x] ∧ LenV K x H n ∧ Q (.int n) H) ∨ (∃ d kvs, xs = [.ref d] ∧ H d = some (.dK kvs) ∧ Q (.int kvs.length) H)
def lenD : D → Option Nat
  | .list ds => some ds.length
  | .tuple ds => some ds.length
  | .str z => if z.length ≤ sizeLine then some z.length else none
  | _ => none
def fLen : F1 := fun x Q => match lenD x with
  | some n => Q (.fz (.int (n : Int)))
  | none => False
theorem cl_len : CaL K (fun xs H Q => ∃ x n, xs = [x] ∧ LenV K x H n ∧ Q (.int n) H) (fA1 fLen) := by
  intro f g σ H ρ vs ds Q R hK hR hA hF0 k
  subst hK
  obtain ⟨d, rfl, hF⟩ := fA1_some hF0
  obtain ⟨v, rfl, h⟩ := hA.one
  unfold fLen at hF
  cases d with
  | list ds =>
    obtain ⟨a, xs, rfl, e1, r1⟩ := h.list fz_sub
    exact ⟨_, xs.length, rfl, .inl ⟨xs, .inl (.inl e1), rfl⟩, OEnd.fz k hR (.int _) (by rw [r1.length]; exact hF)⟩
  | tuple ds =>
    obtain ⟨a, xs, rfl, e1, r1, _⟩ := h.tuple fz_sub
    exact ⟨_, xs.length, rfl, .inr ⟨xs, e1, rfl⟩, OEnd.fz k hR (.int _) (by rw [r1.length]; exact hF)⟩
  | str z =>
    obtain rfl := h.str
    simp only [lenD] at hF
    split at hF
    · rename_i n e
      split at e
      · rename_i hz
        cases e
        exact ⟨_, z.length, rfl, ⟨hz, rfl⟩, OEnd.fz k hR (.int _) hF⟩
      · cases e
    · exact hF.elim
  | none => exact hF.elim
  | bool _ => exact hF.elim
  | int _ => exact hF.elim
  | dict _ => exact hF.elim
/-! ### tuple, list -/
def rTupleA (K : PySem.W.Frag) : List V → Hp → VK → Prop := fun xs H Q => ∃ p ys, xs = [.ref p] ∧ ((SqL K H p ys ∧ ∀ l, H l = none → Q (.ref l) (upd H l (.tup ys))) ∨ (SqT K H p ys ∧ Q (.ref p) H))
def fTuple : F1 := fun x Q => match x with
  | .list ds => Q (.fz (.tuple ds))
  | .tuple ds => Q (.fz (.tuple ds))
  | _ => False
theorem cl_tuple : CaL K (fun xs H Q => ∃ p ys, xs = [.ref p] ∧ ((SqL K H p ys ∧ ∀ l, H l = none → Q (.ref l) (upd H l (.tup ys))) ∨ (SqT K H p ys ∧ Q (.ref p) H))) (fA1 fTuple) := by
  intro f g σ H ρ vs ds Q R hK hR hA hF0 k
  subst hK
  obtain ⟨d, rfl, hF⟩ := fA1_some hF0
  obtain ⟨v, rfl, h⟩ := hA.one
  cases d with
  | list ds =>
    obtain ⟨a, xs, rfl, e1, r1⟩ := h.list fz_sub
    exact ⟨a, xs, rfl, .inl ⟨.inl (.inl e1), OEnd.tup k hR r1 hF⟩⟩
  | tuple ds =>
    obtain ⟨a, xs, rfl, e1, r1, z1⟩ := h.tuple fz_sub
    exact ⟨a, xs, rfl, .inr ⟨e1, OEnd.fz k hR (.tup z1 r1) hF⟩⟩
  | none => exact hF.elim
  | bool _ => exact hF.elim
  | int _ => exact hF.elim
  | dict _ => exact hF.elim
  | str _ => exact hF.elim
def fList : F1 := fun x Q => match x with
  | .list ds => Q (.nw (.list ds))
  | .tuple ds => Q (.nw (.list ds))
  | _ => False
theorem cl_list : CaL K (fun xs H Q => ∃ p ys, xs = [.ref p] ∧ (SqL K H p ys ∨ SqT K H p ys) ∧ ∀ l, H l = none → Q (.ref l) (upd H l (.lst ys))) (fA1 fList) := by
  intro f g σ H ρ vs ds Q R hK hR hA hF0 k
  subst hK
  obtain ⟨d, rfl, hF⟩ := fA1_some hF0
  obtain ⟨v, rfl, h⟩ := hA.one
  cases d with
  | list ds =>
    obtain ⟨a, xs, rfl, e1, r1⟩ := h.list fz_sub
    exact ⟨a, xs, rfl, .inl (.inl (.inl e1)), OEnd.lst k hR r1 hF⟩
  | tuple ds =>
    obtain ⟨a, xs, rfl, e1, r1, z1⟩ := h.tuple fz_sub
    exact ⟨a, xs, rfl, .inr e1, OEnd.lst k hR r1 hF⟩
  | none => exact hF.elim
  | bool _ => exact hF.elim
  | int _ => exact hF.elim
  | dict _ => exact hF.elim
  | str _ => exact hF.elim
/-! ### ints in a list -/
def intsOf : List D → Option (List Int)
  | [] => some []
  | .int i :: r => match intsOf r with
    | some ns => some (i :: ns)
    | none => none
  | _ => none
theorem intsOf_eq {ds : List D} {ns : List Int} (h : intsOf ds = some ns) : ds = ns.map PyData.int := by
  induction ds generalizing ns with
  | nil => cases h; rfl
  | cons d ds ih =>
    cases d with
    | int i =>
      unfold intsOf at h
      split at h
      · rename_i ms e
        cases h
        rw [ih e]; rfl
      · cases h
    | _ => cases h
theorem intsOf_map (ns : List Int) : intsOf (ns.map PyData.int) = some ns := by
  induction ns with
  | nil => rfl
  | cons n ns ih => simp [intsOf, ih]
def boolsOf : List D → Option (List Bool)
  | [] => some []
  | .bool i :: r => match boolsOf r with
    | some ns => some (i :: ns)
    | none => none
  | _ => none
theorem boolsOf_eq {ds : List D} {ns : List Bool} (h : boolsOf ds = some ns) : ds = ns.map PyData.bool := by
  induction ds generalizing ns with
  | nil => cases h; rfl
  | cons d ds ih =>
    cases d with
    | bool i =>
      unfold boolsOf at h
      split at h
      · rename_i ms e
        cases h
        rw [ih e]; rfl
      · cases h
    | _ => cases h
theorem boolsOf_map (ns : List Bool) : boolsOf (ns.map PyData.bool) = some ns := by
  induction ns with
  | nil => rfl
  | cons n ns ih => simp [boolsOf, ih]
def wN (o : Option (List Int)) (k : List Int → Prop) : Prop := match o with
  | some ns => k ns
  | none => False
theorem wN_some {o : Option (List Int)} {k : List Int → Prop} (h : wN o k) : ∃ b, o = some b ∧ k b := by
  cases o with
  | some x => exact ⟨x, rfl, h⟩
  | none => exact h.elim
def wBs (o : Option (List Bool)) (k : List Bool → Prop) : Prop := match o with
  | some ns => k ns
  | none => False
theorem wBs_some {o : Option (List Bool)} {k : List Bool → Prop} (h : wBs o k) : ∃ b, o = some b ∧ k b := by
  cases o with
  | some x => exact ⟨x, rfl, h⟩
  | none => exact h.elim
theorem RN.lints {F H : Hp} {v : V} {ns : List Int} (e : Same F H) (h : RN K F H v (.list (ns.map PyData.int))) : ∃ a, v = .ref a ∧ SqL K H a (ns.map V.int) := by
  obtain ⟨a, xs, rfl, e1, r1⟩ := h.list e
  rw [r1.ints] at e1
  exact ⟨a, rfl, .inl (.inl e1)⟩
theorem RN.lbools {F H : Hp} {v : V} {ns : List Bool} (e : Same F H) (h : RN K F H v (.list (ns.map PyData.bool))) : ∃ a, v = .ref a ∧ SqL K H a (ns.map V.bl) := by
  obtain ⟨a, xs, rfl, e1, r1⟩ := h.list e
  rw [r1.bools] at e1
  exact ⟨a, rfl, .inl (.inl e1)⟩
def listOf : D → Option (List D)
  | .list ds => some ds
  | _ => none
def fInts (G : List Int → (Rv → Prop) → Prop) : F1 := fun x Q => wA (listOf x) fun ds => wN (intsOf ds) fun ns => G ns Q
theorem fInts_some {G : List Int → (Rv → Prop) → Prop} {x : D} {Q : Rv → Prop} (h : fInts G x Q) : ∃ ns, x = .list (ns.map PyData.int) ∧ G ns Q := by
  obtain ⟨ds, e, h1⟩ := wA_some h
  obtain ⟨ns, e2, h2⟩ := wN_some h1
  cases x with
  | list xs => cases e; exact ⟨ns, by rw [intsOf_eq e2], h2⟩
  | _ => cases e
def fSum : F1 := fInts fun ns Q => Q (.fz (.int ns.sum))
theorem cl_sum : CaL K (rSum K) (fA1 fSum) := by
  intro f g σ H ρ vs ds Q R hK hR hA hF0 k
  subst hK
  obtain ⟨d, rfl, hF⟩ := fA1_some hF0
  obtain ⟨v, rfl, h⟩ := hA.one
  obtain ⟨ns, rfl, q⟩ := fInts_some hF
  obtain ⟨a, rfl, e⟩ := h.lints fz_sub
  exact ⟨a, ns, rfl, e, OEnd.fz k hR (.int _) q⟩
def fMaxL : F1 := fInts fun ns Q => 0 < ns.length ∧ ∀ m, m ∈ ns → (∀ y ∈ ns, y ≤ m) → Q (.fz (.int m))
theorem cl_max : CaL K (rMax K) (fA1 fMaxL) := by
  intro f g σ H ρ vs ds Q R hK hR hA hF0 k
  subst hK
  obtain ⟨d, rfl, hF⟩ := fA1_some hF0
  obtain ⟨v, rfl, h⟩ := hA.one
  obtain ⟨ns, rfl, hl, q⟩ := fInts_some hF
  obtain ⟨a, rfl, e⟩ := h.lints fz_sub
  exact ⟨a, ns, rfl, e, hl, fun m hm hle => OEnd.fz k hR (.int _) (q m hm hle)⟩
def fMinL : F1 := fInts fun ns Q => 0 < ns.length ∧ ∀ m, m ∈ ns → (∀ y ∈ ns, m ≤ y) → Q (.fz (.int m))
theorem cl_min : CaL K (rMin K) (fA1 fMinL) := by
  intro f g σ H ρ vs ds Q R hK hR hA hF0 k
  subst hK
  obtain ⟨d, rfl, hF⟩ := fA1_some hF0
  obtain ⟨v, rfl, h⟩ := hA.one
  obtain ⟨ns, rfl, hl, q⟩ := fInts_some hF
  obtain ⟨a, rfl, e⟩ := h.lints fz_sub
  exact ⟨a, ns, rfl, e, hl, fun m hm hle => OEnd.fz k hR (.int _) (q m hm hle)⟩
def fSorted : F1 := fInts fun ns Q => ∀ ms : List Int, ms.Perm ns → ms.Pairwise (· ≤ ·) → Q (.nw (.list (ms.map PyData.int)))
theorem cl_sorted : CaL K (rSortedI K) (fA1 fSorted) := by
  intro f g σ H ρ vs ds Q R hK hR hA hF0 k
  subst hK
  obtain ⟨d, rfl, hF⟩ := fA1_some hF0
  obtain ⟨v, rfl, h⟩ := hA.one
  obtain ⟨ns, rfl, q⟩ := fInts_some hF
  obtain ⟨a, rfl, e⟩ := h.lints fz_sub
  exact ⟨a, ns, rfl, e, fun ms p hp hs hn => OEnd.lst k hR (RpA.of_ints ms) (q ms hp hs) p hn⟩
def fBools (G : List Bool → Bool) : F1 := fun x Q => wA (listOf x) fun ds => wBs (boolsOf ds) fun bs => Q (.fz (.bool (G bs)))
theorem fBools_some {G : List Bool → Bool} {x : D} {Q : Rv → Prop} (h : fBools G x Q) : ∃ ns, x = .list (ns.map PyData.bool) ∧ Q (.fz (.bool (G ns))) := by
  obtain ⟨ds, e, h1⟩ := wA_some h
  obtain ⟨ns, e2, h2⟩ := wBs_some h1
  cases x with
  | list xs => cases e; exact ⟨ns, by rw [boolsOf_eq e2], h2⟩
  | _ => cases e
def fAny : F1 := fBools fun bs => bs.any id
def fAll : F1 := fBools fun bs => bs.all id
theorem cl_any : CaL K (rAny K) (fA1 fAny) := by
  intro f g σ H ρ vs ds Q R hK hR hA hF0 k
  subst hK
  obtain ⟨d, rfl, hF⟩ := fA1_some hF0
  obtain ⟨v, rfl, h⟩ := hA.one
  obtain ⟨ns, rfl, q⟩ := fBools_some hF
  obtain ⟨a, rfl, e⟩ := h.lbools fz_sub
  exact ⟨a, ns, rfl, e, OEnd.fz k hR (.bl _) q⟩
theorem cl_all : CaL K (rAll K) (fA1 fAll) := by
  intro f g σ H ρ vs ds Q R hK hR hA hF0 k
  subst hK
  obtain ⟨d, rfl, hF⟩ := fA1_some hF0
  obtain ⟨v, rfl, h⟩ := hA.one
  obtain ⟨ns, rfl, q⟩ := fBools_some hF
  obtain ⟨a, rfl, e⟩ := h.lbools fz_sub
  exact ⟨a, ns, rfl, e, OEnd.fz k hR (.bl _) q⟩
def fMax2 : F2 := fII0 fun i j => .int (max i j)
def fMin2 : F2 := fII0 fun i j => .int (min i j)
theorem fII0_some {G : Int → Int → D} {x y : D} {Q : Rv → Prop} (h : fII0 G x y Q) : ∃ i j, x = .int i ∧ y = .int j ∧ Q (.fz (G i j)) := by
  unfold fII0 at h
  split at h
  · exact ⟨_, _, rfl, rfl, h⟩
  · exact h.elim
theorem cl_max2 : CaL K (fun xs H Q => ∃ i j, xs = [.int i, .int j] ∧ Q (.int (if j > i then j else i)) H) (fA2 fMax2) := by
  intro f g σ H ρ vs ds Q R hK hR hA hF0 k
  subst hK
  obtain ⟨d, e, rfl, hF⟩ := fA2_some hF0
  obtain ⟨v, u, rfl, h, h'⟩ := hA.two
  obtain ⟨i, j, rfl, rfl, q⟩ := fII0_some hF
  obtain rfl := h.int
  obtain rfl := h'.int
  refine ⟨i, j, rfl, OEnd.fz k hR (.int _) ?_⟩
  have e : (if j > i then j else i) = max i j := by split <;> omega
  rw [e]; exact q
theorem cl_min2 : CaL K (fun xs H Q => ∃ i j, xs = [.int i, .int j] ∧ Q (.int (if j < i then j else i)) H) (fA2 fMin2) := by
  intro f g σ H ρ vs ds Q R hK hR hA hF0 k
  subst hK
  obtain ⟨d, e, rfl, hF⟩ := fA2_some hF0
  obtain ⟨v, u, rfl, h, h'⟩ := hA.two
  obtain ⟨i, j, rfl, rfl, q⟩ := fII0_some hF
  obtain rfl := h.int
  obtain rfl := h'.int
  refine ⟨i, j, rfl, OEnd.fz k hR (.int _) ?_⟩
  have e : (if j < i then j else i) = min i j := by split <;> omega
  rw [e]; exact q
def fAbs : F1 := fun x Q => match x with
  | .int i => Q (.fz (.int (i.natAbs : Int)))
  | _ => False
theorem cl_abs : CaL K (fun xs H Q => ∃ i, xs = [.int i] ∧ Q (.int (if i < 0 then -i else i)) H) (fA1 fAbs) := by
  intro f g σ H ρ vs ds Q R hK hR hA hF0 k
  subst hK
  obtain ⟨d, rfl, hF⟩ := fA1_some hF0
  obtain ⟨v, rfl, h⟩ := hA.one
  cases d with
  | int i =>
    obtain rfl := h.int
    refine ⟨i, rfl, OEnd.fz k hR (.int _) ?_⟩
    have e : (if i < 0 then -i else i) = (i.natAbs : Int) := by split <;> omega
    rw [e]; exact hF
  | _ => exact hF.elim
def fInt : F1 := fun x Q => match x with
  | .int i => Q (.fz (.int i))
  | .bool b => Q (.fz (.int (if b then 1 else 0)))
  | _ => False
theorem cl_int : CaL K (fun xs H Q => (∃ i, xs = [.int i] ∧ Q (.int i) H) ∨ ∃ k, xs = [.bl k] ∧ Q (.int (if k then 1 else 0)) H) (fA1 fInt) := by
  intro f g σ H ρ vs ds Q R hK hR hA hF0 k
  subst hK
  obtain ⟨d, rfl, hF⟩ := fA1_some hF0
  obtain ⟨v, rfl, h⟩ := hA.one
  cases d with
  | int i => obtain rfl := h.int; exact .inl ⟨i, rfl, OEnd.fz k hR (.int _) hF⟩
  | bool b => obtain rfl := h.bool; exact .inr ⟨b, rfl, OEnd.fz k hR (.int _) hF⟩
  | _ => exact hF.elim
/-- what a repr asks -/
def reprOk (d : D) : Prop := d.showable = true ∧ d.hasDict = false ∧ d.depth ≤ 60 ∧ d.shown.length ≤ sizeLine
def fRepr : F1 := fun x Q => reprOk x ∧ Q (.fz (.str x.shown))
theorem cl_repr : CaL K (rRepr K) (fA1 fRepr) := by
  intro f g σ H ρ vs ds Q R hK hR hA hF0 k
  subst hK
  obtain ⟨d, rfl, hF⟩ := fA1_some hF0
  obtain ⟨v, rfl, h⟩ := hA.one
  obtain ⟨⟨h1, h2, h3, h4⟩, q⟩ := hF
  exact ⟨v, d, rfl, h.dp fz_sub h2, h1, h2, h3, h4, OEnd.fz k hR (.str _) q⟩
end
/-! ### x or y, on truth: tests of any value -/
def truD : D → Bool
  | .none => false
  | .bool b => b
  | .int i => i != 0
  | .str z => (z.length : Int) != 0
  | .list ds => !ds.isEmpty
  | .tuple ds => !ds.isEmpty
  | .dict es => !es.isEmpty
/-! ### statements that change a list of one's own -/
section
variable {f : Fr} {g : Gs} {σ : L2.St} {H : Hp} {ρ : Rho} {d d' : D} {i : Nat} {a : Addr} {o : HO}
theorem Rel.mutOwn (R : Rel f g σ H ρ) (hs : ρ[i]? = some (some (.ow d))) (hv : σ[i]? = some (some (.ref a))) (hr : Rt f.K (Fz H g.M) (upd H a o) a d') :
    Rel f g σ (upd H a o) (ρ.set i (some (.ow d'))) ∧ Gro g H g (upd H a o) := by
  obtain ⟨w, e1, b, e2, m, h0, ns, r⟩ := R.slot i _ hs
  rw [hv] at e1; cases e1; cases e2
  have hk : ∀ b o', H b = some o' → b ≠ a → upd H a o b = some o' := fun b o' e n => by rw [upd_ne n]; exact e
  have hG : Same (Fz H g.M) (Fz (upd H a o) g.M) := fz_mono fun b o' e n => ⟨hk b o' e fun q => n (q ▸ m), n⟩
  have hd : ∀ b, upd H a o b = none → H b = none := fun b e => by
    by_cases q : b = a
    · rw [q, upd_same] at e; cases e
    · rw [upd_ne q] at e; exact e
  refine ⟨⟨fun b o' e n => hk b o' (R.keep b o' e n) (fun q => by rw [q, h0] at e; cases e), fun b e => R.dom b (hd b e), R.m0, R.m00, fun b m => by
    by_cases q : b = a
    · rw [q]; exact hr.mu
    · rw [upd_ne q]; exact R.mU b m, fun p c e => ?_, by rw [List.length_set]; exact R.len, fun j s e => ?_, fun j k l d e h1 h2 h3 h4 => ?_, fun b hb => ⟨(R.tmp b hb).1, (R.tmp b hb).2.1, fun j e h1 h2 => ?_⟩⟩, ⟨hG, fun _ h => h, rfl, fun b hb => upd_ne fun q => ?_⟩⟩
  · obtain ⟨h1, h2, h3, h4, h5, h6⟩ := R.src p c e
    exact ⟨h1, h2, h3, h4, h5, srcOk_upd h6 (Ne.symm (ns p c e).1) (Ne.symm (ns p c e).2)⟩
  · rcases getset e with ⟨rfl, q⟩ | ⟨ne, q⟩
    · cases q
      exact ⟨_, hv, a, rfl, m, h0, ns, hr.mono hG fun _ h => h⟩
    · obtain ⟨w, e1, q1⟩ := R.slot j s q
      refine ⟨w, e1, ?_⟩
      cases s with
      | sh d => exact Rp.mono hG q1
      | bo d => exact BoV.mono hG q1
      | ow d =>
        obtain ⟨b, e2, m', h0', ns', r⟩ := q1
        refine ⟨b, e2, m', h0', ns', r.mono hG fun o' e' => hk b o' e' fun z => ne ?_⟩
        rw [z] at e2
        rw [e2] at e1
        exact R.uq i j a _ _ hs q hv e1
      | src => exact q1
      | scr => exact q1
  · have j1 : ∃ d1, ρ[j]? = some (some (.ow d1)) := by
      rcases getset h1 with ⟨rfl, _⟩ | ⟨_, q⟩
      · exact ⟨_, hs⟩
      · exact ⟨_, q⟩
    have k1 : ∃ d1, ρ[k]? = some (some (.ow d1)) := by
      rcases getset h2 with ⟨rfl, _⟩ | ⟨_, q⟩
      · exact ⟨_, hs⟩
      · exact ⟨_, q⟩
    obtain ⟨d1, j1⟩ := j1
    obtain ⟨d2, k1⟩ := k1
    exact R.uq j k l d1 d2 j1 k1 h3 h4
  · have j1 : ∃ d1, ρ[j]? = some (some (.ow d1)) := by
      rcases getset h1 with ⟨rfl, _⟩ | ⟨_, q⟩
      · exact ⟨_, hs⟩
      · exact ⟨_, q⟩
    obtain ⟨d1, j1⟩ := j1
    exact (R.tmp b hb).2.2 j d1 j1 h2
  · subst q
    exact (R.tmp b hb).2.2 i d hs hv
end
def ownL (ρ : Rho) (i : Nat) : Option (List D) := match ρ[i]? with
  | some (some (.ow (.list ds))) => some ds
  | _ => none
theorem ownL_some {ρ : Rho} {i : Nat} {ds : List D} (h : ownL ρ i = some ds) : ρ[i]? = some (some (.ow (.list ds))) := by
  unfold ownL at h
  split at h
  · rename_i xs e; cases h; exact e
  · cases h
/-- xs.append(e) -/
def dApp (i : Nat) (de : DE) : DS := fun DD ρ => wA (ownL ρ i) fun _ => de ρ fun r ρ1 => wF (frz ρ1 r) fun d ρ2 => wA (ownL ρ2 i) fun xs => xs.length < sizeLine ∧ DD.nx (ρ2.set i (some (.ow (.list (xs ++ [d])))))
theorem ls_app {K : PySem.W.Frag} {i : Nat} {te : TE} {de : DE} (h : LE K te de) : LS K (tDrop (tBM K "list" rAppend (tVar i) (tCons te tNil))) (dApp i de) := by
  intro f g σ H ρ DD E hK R hd l
  obtain ⟨xs0, e0, hd⟩ := wA_some hd
  obtain ⟨w, e1, a, e2, m, h0, ns, r⟩ := R.slot i _ (ownL_some e0)
  subst e2
  refine ⟨.ref a, e1, ?_, ?_⟩
  · cases r with | lst h r => exact .inl ⟨rfl, _, .inl (.inl h)⟩
  · refine h.opd hK R hd fun v H1 g1 ρ1 r1 R1 G1 O1 q1 => ?_
    obtain ⟨d, ρ2, e3, q1⟩ := wF_some q1
    obtain ⟨g2, R2, G2, hv⟩ := O1.frz R1 e3
    obtain ⟨xs, e4, hl, q1⟩ := wA_some q1
    have s2 := ownL_some e4
    obtain ⟨w2, e5, a2, e6, m2, h02, ns2, r2⟩ := R2.slot i _ s2
    rw [e1] at e5; cases e5; cases e6
    cases r2 with
    | lst hh rr =>
      refine ⟨a, _, v, rfl, rfl, hh, by rw [rr.length]; exact hl, ?_⟩
      obtain ⟨R3, G3⟩ := R2.mutOwn (o := .lst (_ ++ [v])) (d' := .list (xs ++ [d])) s2 e1 (.lst upd_same (rr.append (.cons hv .nil)))
      exact l.nx g2 σ _ _ R3 ((G1.trans G2).trans G3) q1
/-- x += e, ints -/
def dAug (i : Nat) (de : DE) (F : F2) : DS := fun DD ρ => wD (slD ρ[i]?) fun x => de ρ fun r ρ1 => wD (res ρ1 r) fun y => F x y fun q => wR (asg ρ1 i q) DD.nx
end DL

set_option Elab.async false
set_option linter.all false
set_option maxRecDepth 100000
set_option maxHeartbeats 4000000
set_option autoImplicit false
namespace DL
open PySem L2

/-! ### keys -/
def keyOf : D → Option Key
  | .int i => some (.inl i)
  | .str x => some (.inr x)
  | _ => none
theorem keyOf_keyD (k : Key) : keyOf (keyD k) = some k := by cases k <;> rfl
theorem keyOf_kV {K : PySem.W.Frag} {F : Hp} {v : V} {d : D} {k : Key} (h : Rp K F v d) (e : keyOf d = some k) : v = kV k := by
  cases h <;> cases e <;> rfl
theorem keyOf_flat {d : D} {k : Key} (e : keyOf d = some k) : flatP d = true := by
  cases d <;> first | rfl | cases e
theorem keyOf_eq {d : D} {k : Key} (e : keyOf d = some k) : d = keyD k := by
  cases d <;> first | (cases e; rfl) | cases e
/-- what a dict tells of a key -/
def lookE : List (D × D) → Key → Option D
  | [], _ => none
  | (a, d) :: r, k => if keyOf a = some k then some d else lookE r k
def hasE (es : List (D × D)) (k : Key) : Bool := es.any fun e => decide (keyOf e.1 = some k)
def putE (es : List (D × D)) (k : Key) (x : D) : List (D × D) := if hasE es k = true then es.map (fun e => if keyOf e.1 = some k then (e.1, x) else e) else es ++ [(keyD k, x)]
section
variable {K : PySem.W.Frag} {F : Hp}
theorem RpK.look {kvs : List (Key × V)} {es : List (D × D)} (h : RpK K F kvs es) (k : Key) : (valV kvs k = none ∧ lookE es k = none) ∨ ∃ v d, valV kvs k = some v ∧ lookE es k = some d ∧ Rp K F v d := by
  induction es generalizing kvs with
  | nil => cases h; exact .inl ⟨rfl, rfl⟩
  | cons e es ih =>
    cases h with
    | @cons k0 v0 d0 vs ds h r =>
      unfold lookE
      rw [keyOf_keyD]
      by_cases q : k0 = k
      · subst q
        refine .inr ⟨v0, d0, ?_, by rw [if_pos rfl], h⟩
        simp [valV]
      · rw [if_neg (fun z => q (Option.some.inj z))]
        have e1 : valV ((k0, v0) :: vs) k = valV vs k := by simp [valV, q]
        rw [e1]
        exact ih r
theorem RpK.has {kvs : List (Key × V)} {es : List (D × D)} (h : RpK K F kvs es) (k : Key) : (kvs.any fun kv => decide (kv.1 = k)) = hasE es k := by
  induction es generalizing kvs with
  | nil => cases h; rfl
  | cons e es ih =>
    cases h with
    | @cons k0 v0 d0 vs ds h r =>
      show (decide (k0 = k) || _) = (decide (keyOf (keyD k0) = some k) || hasE es k)
      rw [ih r, keyOf_keyD]
      congr 1
      by_cases q : k0 = k
      · rw [q]; simp
      · simp [q]
theorem RpK.append {kvs kvs' : List (Key × V)} {es es' : List (D × D)} (h : RpK K F kvs es) (h' : RpK K F kvs' es') : RpK K F (kvs ++ kvs') (es ++ es') := by
  induction es generalizing kvs with
  | nil => cases h; exact h'
  | cons e es ih => cases h with | cons h r => exact .cons h (ih r)
theorem RpK.put {kvs : List (Key × V)} {es : List (D × D)} (h : RpK K F kvs es) (k : Key) {v : V} {d : D} (hv : Rp K F v d) : RpK K F (putK kvs k v) (putE es k d) := by
  unfold putK putE
  rw [h.has k]
  by_cases q : hasE es k = true
  · rw [if_pos q, if_pos q]
    clear q
    induction es generalizing kvs with
    | nil => cases h; exact .nil
    | cons e es ih =>
      cases h with
      | @cons k0 v0 d0 vs ds h r =>
        rw [List.map_cons, List.map_cons]
        by_cases q : k0 = k
        · rw [if_pos q, if_pos (by rw [keyOf_keyD, q])]
          exact .cons hv (ih r)
        · rw [if_neg q, if_neg (by rw [keyOf_keyD]; exact fun z => q (Option.some.inj z))]
          exact .cons h (ih r)
  · rw [if_neg q, if_neg q]
    exact h.append (.cons hv .nil)
theorem RpK.length {kvs : List (Key × V)} {es : List (D × D)} (h : RpK K F kvs es) : kvs.length = es.length := by
  induction es generalizing kvs with
  | nil => cases h; rfl
  | cons e es ih => cases h with | cons h r => simp [ih r]
end
def dictOf : D → Option (List (D × D))
  | .dict es => if isT es = true then none else some es
  | _ => none
def wDE (o : Option D) (k : List (D × D) → Prop) : Prop := match o with
  | some (.dict es) => isT es = false ∧ k es
  | _ => False
theorem wDE_some {o : Option D} {k : List (D × D) → Prop} (h : wDE o k) : ∃ es, o = some (.dict es) ∧ isT es = false ∧ k es := by
  unfold wDE at h
  split at h
  · exact ⟨_, rfl, h⟩
  · exact h.elim
def wK (o : Option D) (k : Key → Prop) : Prop := match o with
  | some (.int i) => k (.inl i)
  | some (.str x) => k (.inr x)
  | _ => False
theorem wK_some {o : Option D} {k : Key → Prop} (h : wK o k) : ∃ q, o = some (keyD q) ∧ k q := by
  unfold wK at h
  split at h
  · exact ⟨.inl _, rfl, h⟩
  · exact ⟨.inr _, rfl, h⟩
  · exact h.elim
theorem RN.key {K : PySem.W.Frag} {F H : Hp} {v : V} {k : Key} (h : RN K F H v (keyD k)) : v = kV k := by
  cases k with
  | inl i => exact h.int
  | inr x => exact h.str
section
variable {K : PySem.W.Frag} {td ty tv : TE} {dd dk dv : DE} {i : Nat}
/-- d[k] -/
def dDGet (dd dk : DE) : DE := fun ρ Q => dd ρ fun r ρ1 => dk ρ1 fun q ρ2 => wDE (res ρ2 r) fun es => wK (res ρ2 q) fun k => ∃ d, lookE es k = some d ∧ Q (.fz d) ρ2
theorem le_dget (h : LE K td dd) (h' : LE K ty dk) : LE K (tDGet td ty) (dDGet dd dk) := by
  intro f g σ H ρ Q R hK hR hd k
  refine h.opd hK hR hd fun v H1 g1 ρ1 r1 R1 G1 O1 q1 => ?_
  refine h'.opd hK R1 q1 fun u H2 g2 ρ2 r2 R2 G2 O2 q2 => ?_
  obtain ⟨es, e1, nt, q2⟩ := wDE_some q2
  obtain ⟨key, e2, q2⟩ := wK_some q2
  obtain ⟨d, e3, q2⟩ := q2
  obtain ⟨a, kvs, rfl, hd, hr⟩ := ((O1.mono G2).rn R2 e1).dict fz_sub nt
  rw [(O2.rn R2 e2).key]
  rcases hr.look key with ⟨_, z⟩ | ⟨w, d', z1, z2, z3⟩
  · rw [e3] at z; cases z
  · rw [e3] at z2; cases z2
    refine ⟨a, w, rfl, .inl ⟨kvs, key, .inl hd, rfl, z1.symm⟩, ?_⟩
    exact k w H2 g2 ρ2 (.fz d) R2 (G1.trans G2) z3 q2
/-- d.get(k) -/
def dDGet1 (dd dk : DE) : DE := fun ρ Q => dd ρ fun r ρ1 => wDE (res ρ1 r) fun _ => dk ρ1 fun q ρ2 => wDE (res ρ2 r) fun es => wK (res ρ2 q) fun k => ∃ d, (lookE es k).getD .none = d ∧ Q (.fz d) ρ2
theorem le_dget1 (h : LE K td dd) (h' : LE K ty dk) : LE K (tDGet1 td ty) (dDGet1 dd dk) := by
  intro f g σ H ρ Q R hK hR hd k
  refine h.opd hK hR hd fun v H1 g1 ρ1 r1 R1 G1 O1 q1 => ?_
  obtain ⟨es0, e0, nt0, q1⟩ := wDE_some q1
  obtain ⟨a, kvs0, rfl, hd0, _⟩ := (O1.rn R1 e0).dict fz_sub nt0
  refine ⟨a, rfl, .inl ⟨kvs0, .inl hd0⟩, ?_⟩
  refine h'.opd hK R1 q1 fun u H2 g2 ρ2 r2 R2 G2 O2 q2 => ?_
  obtain ⟨es, e1, nt, q2⟩ := wDE_some q2
  obtain ⟨key, e2, q2⟩ := wK_some q2
  obtain ⟨a', kvs, ea, hd, hr⟩ := ((O1.mono G2).rn R2 e1).dict fz_sub nt
  cases ea
  rw [(O2.rn R2 e2).key]
  obtain ⟨_, rfl, q2⟩ := q2
  refine ⟨valV kvs key, .inl ⟨kvs, key, .inl hd, rfl, rfl⟩, ?_⟩
  rcases hr.look key with ⟨z0, z⟩ | ⟨w, d', z1, z2, z3⟩
  · rw [z0]
    rw [z] at q2
    exact k .non H2 g2 ρ2 (.fz .none) R2 (G1.trans G2) Rp.non q2
  · rw [z1]
    rw [z2] at q2
    exact k w H2 g2 ρ2 (.fz d') R2 (G1.trans G2) z3 q2
/-- k in d -/
def dDIn (neg : Bool) (dk dd : DE) : DE := fun ρ Q => dk ρ fun q ρ1 => dd ρ1 fun r ρ2 => wDE (res ρ2 r) fun es => wK (res ρ2 q) fun k => ∃ b, (lookE es k).isSome = b ∧ Q (.fz (.bool (neg != b))) ρ2
theorem le_din (h' : LE K ty dk) (h : LE K td dd) : LE K (tDIn ty td) (dDIn false dk dd) := by
  intro f g σ H ρ Q R hK hR hd k
  refine h'.opd hK hR hd fun u H1 g1 ρ1 r1 R1 G1 O1 q1 => ?_
  refine h.opd hK R1 q1 fun v H2 g2 ρ2 r2 R2 G2 O2 q2 => ?_
  obtain ⟨es, e1, nt, q2⟩ := wDE_some q2
  obtain ⟨key, e2, q2⟩ := wK_some q2
  obtain ⟨a, kvs, rfl, hd, hr⟩ := (O2.rn R2 e1).dict fz_sub nt
  rw [((O1.mono G2).rn R2 e2).key]
  refine ⟨a, valV kvs key, rfl, .inl ⟨kvs, key, .inl hd, rfl, rfl⟩, ?_⟩
  have e : (valV kvs key).isSome = (lookE es key).isSome := by
    rcases hr.look key with ⟨z0, z⟩ | ⟨w, d', z1, z2, z3⟩
    · rw [z0, z]; rfl
    · rw [z1, z2]; rfl
  obtain ⟨_, rfl, q2⟩ := q2
  rw [e]
  exact k _ H2 g2 ρ2 (.fz (.bool _)) R2 (G1.trans G2) (Rp.bl _) (by simpa using q2)
theorem le_dnin (h' : LE K ty dk) (h : LE K td dd) : LE K (tDNotIn ty td) (dDIn true dk dd) := by
  intro f g σ H ρ Q R hK hR hd k
  refine h'.opd hK hR hd fun u H1 g1 ρ1 r1 R1 G1 O1 q1 => ?_
  refine h.opd hK R1 q1 fun v H2 g2 ρ2 r2 R2 G2 O2 q2 => ?_
  obtain ⟨es, e1, nt, q2⟩ := wDE_some q2
  obtain ⟨key, e2, q2⟩ := wK_some q2
  obtain ⟨a, kvs, rfl, hd, hr⟩ := (O2.rn R2 e1).dict fz_sub nt
  rw [((O1.mono G2).rn R2 e2).key]
  refine ⟨a, valV kvs key, rfl, .inl ⟨kvs, key, .inl hd, rfl, rfl⟩, ?_⟩
  have e : (valV kvs key).isSome = (lookE es key).isSome := by
    rcases hr.look key with ⟨z0, z⟩ | ⟨w, d', z1, z2, z3⟩
    · rw [z0, z]; rfl
    · rw [z1, z2]; rfl
  obtain ⟨_, rfl, q2⟩ := q2
  rw [e]
  exact k _ H2 g2 ρ2 (.fz (.bool _)) R2 (G1.trans G2) (Rp.bl _) (by simpa using q2)
/-- {} -/
def dDNew : DE := fun ρ Q => Q (.nw (.dict [])) ρ
def dDNewT : DE := fun ρ Q => Q (.nw (.dict [tmark])) ρ
theorem le_dnew : LE K tDNewK dDNew := by
  intro f g σ H ρ Q R hK hR hd k p hp
  obtain ⟨R3, G3, V3⟩ := hR.own (o := .dK []) (d := .dict []) hp (.dic upd_same .nil)
  exact k _ _ _ ρ _ R3 G3 V3 hd
theorem le_dnewT : LE K tDNewT dDNewT := by
  intro f g σ H ρ Q R hK hR hd k p hp
  obtain ⟨R3, G3, V3⟩ := hR.own (o := .dT []) (d := .dict [tmark]) hp (.dct upd_same .nil)
  exact k _ _ _ ρ _ R3 G3 V3 hd
/-- d[k] = v, d one's own -/
def ownD (ρ : Rho) (i : Nat) : Option (List (D × D)) := match ρ[i]? with
  | some (some (.ow (.dict es))) => if isT es = true then none else some es
  | _ => none
theorem ownD_some {ρ : Rho} {i : Nat} {es : List (D × D)} (h : ownD ρ i = some es) : ρ[i]? = some (some (.ow (.dict es))) ∧ isT es = false := by
  unfold ownD at h
  split at h
  · rename_i xs e
    split at h
    · cases h
    · rename_i n
      cases h
      exact ⟨e, by simpa using n⟩
  · cases h
def wO (o : Option (List (D × D))) (k : List (D × D) → Prop) : Prop := match o with
  | some es => k es
  | none => False
theorem wO_some {o : Option (List (D × D))} {k : List (D × D) → Prop} (h : wO o k) : ∃ b, o = some b ∧ k b := by
  cases o with
  | some x => exact ⟨x, rfl, h⟩
  | none => exact h.elim
def dDPut (i : Nat) (dk dv : DE) : DS := fun DD ρ => dv ρ fun r ρ1 => wF (frz ρ1 r) fun d ρ2 => (∃ es, ρ2[i]? = some (some (.ow (.dict es))) ∧ isT es = false) ∧ dk ρ2 fun q ρ3 => ∃ es, ρ3[i]? = some (some (.ow (.dict es))) ∧ isT es = false ∧ wK (res ρ3 q) fun k => es.length < sizeLine ∧ DD.nx (ρ3.set i (some (.ow (.dict (putE es k d)))))
theorem ls_dput (h : LE K ty dk) (h' : LE K tv dv) : LS K (sDPut (tVar i) ty tv) (dDPut i dk dv) := by
  intro f g σ H ρ DD E hK R hd l
  refine h'.opd hK R hd fun v H1 g1 ρ1 r1 R1 G1 O1 q1 => ?_
  obtain ⟨d, ρ2, e2, q1⟩ := wF_some q1
  obtain ⟨g2, R2, G2, hv⟩ := O1.frz R1 e2
  obtain ⟨⟨es0, e0, _⟩, q1⟩ := q1
  obtain ⟨w, w1, a, wa, m, h0, ns, rr⟩ := R2.slot i _ e0
  subst wa
  refine ⟨.ref a, w1, ?_⟩
  refine h.opd hK R2 q1 fun u H3 g3 ρ3 r3 R3 G3 O3 q3 => ?_
  obtain ⟨es, s4, nt, q3⟩ := q3
  obtain ⟨key, e5, hl, q3⟩ := wK_some q3
  obtain ⟨w', w2, a', wa', m', h0', ns', r4⟩ := R3.slot i _ s4
  rw [w1] at w2; cases w2; cases wa'
  rw [(O3.rn R3 e5).key]
  obtain ⟨a2, kvs, ea, hk, hr⟩ := (show RN f.K (Fz H3 g3.M) H3 (.ref a) (.dict es) from .inr ⟨a, rfl, r4⟩).dict fz_sub nt
  cases ea
  refine ⟨a, _, rfl, DPut.k (k := key) hk (by rw [hr.length]; exact hl), ?_⟩
  obtain ⟨R5, G5⟩ := R3.mutOwn (o := .dK (putK kvs key v)) (d' := .dict (putE es key d)) s4 w1 (.dic upd_same (hr.put key (hv.mono G3.fz)))
  exact l.nx g3 σ _ _ R5 (((G1.trans G2).trans G3).trans G5) q3
end
/-! ### chains -/
def dChain (F F' : F2) (da db dc : DE) : DE := fun ρ Q => da ρ fun r1 ρ1 => db ρ1 fun r2 ρ2 => wD (res ρ2 r1) fun x => wD (res ρ2 r2) fun y => F x y fun b => wB (res ρ2 b) fun b => useB b (dc ρ2 fun r3 ρ3 => wD (res ρ3 r2) fun y => wD (res ρ3 r3) fun z => F' y z fun r => Q r ρ3) (Q (.fz (.bool false)) ρ2)
theorem le_chain {K : PySem.W.Frag} {ta tb tc : TE} {da db dc : DE} {r r' : R2} {F F' : F2} (ha : LE K ta da) (hb : LE K tb db) (hc : LE K tc dc) (ho : OpL K r F) (ho' : OpL K r' F') : LE K (tChain r r' ta tb tc) (dChain F F' da db dc) := by
  intro f g σ H ρ Q R hK hR hd k
  refine ha.opd hK hR hd fun v H1 g1 ρ1 r1 R1 G1 O1 q1 => ?_
  refine hb.opd hK R1 q1 fun u H2 g2 ρ2 r2 R2 G2 O2 q2 => ?_
  obtain ⟨x, e1, q2⟩ := wD_some q2
  obtain ⟨y, e2, q2⟩ := wD_some q2
  subst hK
  refine ho f g2 σ H2 ρ2 v u x y _ _ rfl R2 ((O1.mono G2).rn R2 e1) (O2.rn R2 e2) q2 fun z H3 g3 r R3 G3 V3 q3 => ?_
  obtain ⟨b, e3, q3⟩ := wB_some q3
  obtain ⟨g4, R4, G4, O4⟩ := V3.opd R3
  refine ⟨b, (O4.rn R4 e3).bool, ?_⟩
  cases b with
  | false =>
    rw [if_neg Bool.false_ne_true]
    replace q3 := useB_f q3
    exact k _ H3 g4 ρ2 (.fz (.bool false)) R4 ((G1.trans G2).trans (G3.trans G4)) (Rp.bl false) q3
  | true =>
    rw [if_pos rfl]
    replace q3 := useB_t q3
    refine hc.opd rfl R4 q3 fun w H5 g5 ρ5 r5 R5 G5 O5 q5 => ?_
    obtain ⟨y', e6, q5⟩ := wD_some q5
    obtain ⟨z', e7, q5⟩ := wD_some q5
    exact ho' f g5 σ H5 ρ5 u w y' z' _ R rfl R5 ((((O2.mono G3).mono G4).mono G5).rn R5 e6) (O5.rn R5 e7) q5 fun z H6 g6 r R6 G6 V6 q6 => k z H6 g6 ρ5 r R6 ((((G1.trans G2).trans (G3.trans G4)).trans G5).trans G6) V6 q6
/-! ### truth -/
def dTru (da : DE) : DT := fun ρ Q => da ρ fun r ρ1 => wD (res ρ1 r) fun x => (strOk0 x ∧ (match x with | .dict es => isT es = false | _ => True)) ∧ Q (truD x) ρ1
theorem emp_eq {K : PySem.W.Frag} {F : Hp} {vs : List V} {ds : List D} (h : RpA K F vs ds) : (!ds.isEmpty) = !vs.isEmpty := by
  cases ds <;> cases h <;> rfl
theorem lt_truth {K : PySem.W.Frag} {ta : TE} {da : DE} (h : LE K ta da) : LT K (fun σ H Q => ta σ H fun x H' => ∃ k, TruV K x H' k ∧ Q k H') (dTru da) := by
  intro f g σ H ρ Q R hK hR hd k
  refine h.opd hK hR hd fun v H1 g1 ρ1 r1 R1 G1 O1 q1 => ?_
  obtain ⟨x, e1, ⟨hs, nt⟩, q1⟩ := wD_some q1
  subst hK
  have rn := O1.rn R1 e1
  refine ⟨truD x, ?_, k _ H1 g1 ρ1 R1 G1 q1⟩
  cases x with
  | none => obtain rfl := rn.non; rfl
  | bool b => obtain rfl := rn.bool; rfl
  | int b => obtain rfl := rn.int; rfl
  | str z => obtain rfl := rn.str; exact ⟨hs, rfl⟩
  | list ds =>
    obtain ⟨a, xs, rfl, e2, r2⟩ := rn.list fz_sub
    exact .inl ⟨xs, .inl (.inl e2), emp_eq r2⟩
  | tuple ds =>
    obtain ⟨a, xs, rfl, e2, r2, _⟩ := rn.tuple fz_sub
    exact .inr (.inl ⟨xs, e2, emp_eq r2⟩)
  | dict es =>
    obtain ⟨a, kvs, rfl, e2, r2⟩ := rn.dict fz_sub nt
    refine .inr (.inr ⟨kvs, e2, ?_⟩)
    cases es <;> cases r2 <;> rfl
end DL

set_option Elab.async false
set_option linter.all false
set_option maxRecDepth 100000
set_option maxHeartbeats 4000000
set_option autoImplicit false
namespace DL
open PySem L2

/-! ### loops by what holds -/
theorem dLoop_of {dg : DG} {db : DS} {DD : DEnds} (ds : List D) (I : Nat → Rho → Prop) {ρ : Rho} (h0 : I 0 ρ)
    (hs : ∀ (i : Nat) (d : D) (ρ : Rho) (k : Rho → Prop), ds[i]? = some d → I i ρ → (∀ ρ', I (i + 1) ρ' → k ρ') → dg (.fz d) ρ fun ρ1 => db { nx := k, ct := k, bk := DD.nx, rt := DD.rt } ρ1)
    (hd : ∀ ρ, I ds.length ρ → DD.nx ρ) : dLoop dg db DD ds ρ := by
  suffices h : ∀ (n i : Nat) (ρ : Rho), i + n = ds.length → I i ρ → dLoop dg db DD (ds.drop i) ρ by
    have := h ds.length 0 ρ (by simp) h0
    simpa using this
  intro n
  induction n with
  | zero =>
    intro i ρ e hi
    have e : i = ds.length := by omega
    subst e
    rw [List.drop_length]
    exact hd ρ hi
  | succ n ih =>
    intro i ρ e hi
    have hlt : i < ds.length := by omega
    rw [List.drop_eq_getElem_cons hlt]
    exact hs i _ ρ _ (by simp [hlt]) hi fun ρ' h => ih (i + 1) ρ' (by omega) h
theorem dLcGo_of {dg : DG} {dt : DT} {de : DE} {vs : List Nat} {Q : Rv → Rho → Prop} (ds : List D) (I : Nat → List D → Rho → Prop) {ρ : Rho} (h0 : I 0 [] ρ)
    (hs : ∀ (i : Nat) (x : D) (acc : List D) (ρ : Rho) (k : List D → Rho → Prop), ds[i]? = some x → I i acc ρ → (∀ acc' ρ', I (i + 1) acc' ρ' → k acc' ρ') →
      dg (.fz x) (wipeR ρ vs) fun ρ1 => dt ρ1 fun b ρ2 => useB b (de ρ2 fun r ρ3 => wF (frz ρ3 r) fun d ρ4 => acc.length < sizeLine ∧ k (acc ++ [d]) (bckR ρ ρ4 vs)) (k acc (bckR ρ ρ2 vs)))
    (hd : ∀ acc ρ, I ds.length acc ρ → Q (.nw (.list acc)) ρ) : dLcGo dg dt de vs Q ds [] ρ := by
  suffices h : ∀ (n i : Nat) (acc : List D) (ρ : Rho), i + n = ds.length → I i acc ρ → dLcGo dg dt de vs Q (ds.drop i) acc ρ by
    have := h ds.length 0 [] ρ (by simp) h0
    simpa using this
  intro n
  induction n with
  | zero =>
    intro i acc ρ e hi
    have e : i = ds.length := by omega
    subst e
    rw [List.drop_length]
    exact hd acc ρ hi
  | succ n ih =>
    intro i acc ρ e hi
    have hlt : i < ds.length := by omega
    rw [List.drop_eq_getElem_cons hlt]
    exact hs i _ acc ρ _ (by simp [hlt]) hi fun acc' ρ' h => ih (i + 1) acc' ρ' (by omega) h
/-- an element by element list, the slots as they were -/
theorem dLcGo_map {dg : DG} {de : DE} {vs : List Nat} {Q : Rv → Rho → Prop} (ds : List D) (f : D → D) {ρ : Rho} (hl : ds.length ≤ sizeLine)
    (hs : ∀ (x : D) (k : D → Rho → Prop), x ∈ ds → k (f x) ρ → dg (.fz x) (wipeR ρ vs) fun ρ1 => de ρ1 fun r ρ3 => wF (frz ρ3 r) fun d ρ4 => k d (bckR ρ ρ4 vs))
    (hd : Q (.nw (.list (ds.map f))) ρ) : dLcGo dg dYes de vs Q ds [] ρ := by
  suffices h : ∀ (xs acc : List D), acc.length + xs.length ≤ sizeLine → (∀ x ∈ xs, x ∈ ds) → Q (.nw (.list (acc ++ xs.map f))) ρ → dLcGo dg dYes de vs Q xs acc ρ from
    h ds [] (by simpa using hl) (fun _ h => h) (by simpa using hd)
  intro xs
  induction xs with
  | nil => intro acc _ _ q; simpa [dLcGo] using q
  | cons x xs ih =>
    intro acc hl hm q
    show dg (.fz x) (wipeR ρ vs) fun ρ1 => useB true _ _
    have hu : ∀ (A B : Prop), useB true A B = A := fun A B => propext ⟨useB_t, useB_y rfl⟩
    simp only [hu]
    have hl' : acc.length < sizeLine := by simp at hl; omega
    have := hs x (fun d ρ' => acc.length < sizeLine ∧ dLcGo dg dYes de vs Q xs (acc ++ [d]) ρ') (hm x List.mem_cons_self) ⟨hl', ih (acc ++ [f x]) (by simp at hl ⊢; omega) (fun y hy => hm y (List.mem_cons_of_mem _ hy)) (by simpa using q)⟩
    exact this

/-! ### the source's dict -/
theorem nCL : ¬ ((Str.ofString "cells") = Str.ofString "left") := by decide +kernel
theorem nCM : ¬ ((Str.ofString "cells") = Str.ofString "mixed") := by decide +kernel
theorem nCT : ¬ ((Str.ofString "cells") = Str.ofString "turn") := by decide +kernel
theorem nCR : ¬ ((Str.ofString "cells") = Str.ofString "room") := by decide +kernel
theorem nLC : ¬ ((Str.ofString "left") = Str.ofString "cells") := by decide +kernel
theorem nLM : ¬ ((Str.ofString "left") = Str.ofString "mixed") := by decide +kernel
theorem nLT : ¬ ((Str.ofString "left") = Str.ofString "turn") := by decide +kernel
theorem nLR : ¬ ((Str.ofString "left") = Str.ofString "room") := by decide +kernel
theorem nMC : ¬ ((Str.ofString "mixed") = Str.ofString "cells") := by decide +kernel
theorem nML : ¬ ((Str.ofString "mixed") = Str.ofString "left") := by decide +kernel
theorem nMT : ¬ ((Str.ofString "mixed") = Str.ofString "turn") := by decide +kernel
theorem nMR : ¬ ((Str.ofString "mixed") = Str.ofString "room") := by decide +kernel
theorem nTC : ¬ ((Str.ofString "turn") = Str.ofString "cells") := by decide +kernel
theorem nTL : ¬ ((Str.ofString "turn") = Str.ofString "left") := by decide +kernel
theorem nTM : ¬ ((Str.ofString "turn") = Str.ofString "mixed") := by decide +kernel
theorem nTR : ¬ ((Str.ofString "turn") = Str.ofString "room") := by decide +kernel
theorem nRC : ¬ ((Str.ofString "room") = Str.ofString "cells") := by decide +kernel
theorem nRL : ¬ ((Str.ofString "room") = Str.ofString "left") := by decide +kernel
theorem nRM : ¬ ((Str.ofString "room") = Str.ofString "mixed") := by decide +kernel
theorem nRT : ¬ ((Str.ofString "room") = Str.ofString "turn") := by decide +kernel
section
variable {c : Addr} {l m t : Int} {more : List (Key × V)}
theorem src_cells : valV (srcKvs c l m t more) (Sum.inr "cells") = some (.ref c) := by simp [srcKvs, valV, nCL, nCM, nCT, nCR, nLC, nLM, nLT, nLR, nMC, nML, nMT, nMR, nTC, nTL, nTM, nTR, nRC, nRL, nRM, nRT]
theorem src_left : valV (srcKvs c l m t more) (Sum.inr "left") = some (.int l) := by simp [srcKvs, valV, nCL, nCM, nCT, nCR, nLC, nLM, nLT, nLR, nMC, nML, nMT, nMR, nTC, nTL, nTM, nTR, nRC, nRL, nRM, nRT]
theorem src_mixed : valV (srcKvs c l m t more) (Sum.inr "mixed") = some (.int m) := by simp [srcKvs, valV, nCL, nCM, nCT, nCR, nLC, nLM, nLT, nLR, nMC, nML, nMT, nMR, nTC, nTL, nTM, nTR, nRC, nRL, nRM, nRT]
theorem src_turn : valV (srcKvs c l m t more) (Sum.inr "turn") = some (.int t) := by simp [srcKvs, valV, nCL, nCM, nCT, nCR, nLC, nLM, nLT, nLR, nMC, nML, nMT, nMR, nTC, nTL, nTM, nTR, nRC, nRL, nRM, nRT]
def MoreOk (more : List (Key × V)) : Prop := more = [] ∨ ∃ r : Int, more = [((Sum.inr "room" : Key), V.int r)]
theorem put_left (h : MoreOk more) (x : Int) : putK (srcKvs c l m t more) (Sum.inr "left") (.int x) = srcKvs c x m t more := by
  rcases h with rfl | ⟨r, rfl⟩ <;> simp [srcKvs, putK, nCL, nCM, nCT, nCR, nLC, nLM, nLT, nLR, nMC, nML, nMT, nMR, nTC, nTL, nTM, nTR, nRC, nRL, nRM, nRT]
theorem put_mixed (h : MoreOk more) (x : Int) : putK (srcKvs c l m t more) (Sum.inr "mixed") (.int x) = srcKvs c l x t more := by
  rcases h with rfl | ⟨r, rfl⟩ <;> simp [srcKvs, putK, nCL, nCM, nCT, nCR, nLC, nLM, nLT, nLR, nMC, nML, nMT, nMR, nTC, nTL, nTM, nTR, nRC, nRL, nRM, nRT]
theorem put_turn (h : MoreOk more) (x : Int) : putK (srcKvs c l m t more) (Sum.inr "turn") (.int x) = srcKvs c l m x more := by
  rcases h with rfl | ⟨r, rfl⟩ <;> simp [srcKvs, putK, nCL, nCM, nCT, nCR, nLC, nLM, nLT, nLR, nMC, nML, nMT, nMR, nTC, nTL, nTM, nTR, nRC, nRL, nRM, nRT]
theorem put_room (h : MoreOk more) (x : Int) : ∃ more', MoreOk more' ∧ putK (srcKvs c l m t more) (Sum.inr "room") (.int x) = srcKvs c l m t more' := by
  rcases h with rfl | ⟨r, rfl⟩
  · exact ⟨_, .inr ⟨x, rfl⟩, by simp [srcKvs, putK, nCL, nCM, nCT, nCR, nLC, nLM, nLT, nLR, nMC, nML, nMT, nMR, nTC, nTL, nTM, nTR, nRC, nRL, nRM, nRT]⟩
  · exact ⟨_, .inr ⟨x, rfl⟩, by simp [srcKvs, putK, nCL, nCM, nCT, nCR, nLC, nLM, nLT, nLR, nMC, nML, nMT, nMR, nTC, nTL, nTM, nTR, nRC, nRL, nRM, nRT]⟩
theorem src_len (h : MoreOk more) : (srcKvs c l m t more).length < sizeLine := by
  rcases h with rfl | ⟨r, rfl⟩ <;> (show _ < 16777216; simp [srcKvs])
end
end DL

set_option Elab.async false
set_option linter.all false
set_option maxRecDepth 100000
set_option maxHeartbeats 4000000
set_option autoImplicit false
namespace DL
open PySem L2

/-! ### what stands of the source, for its own defs -/
structure Sx (c : Addr) (H : Hp) (p : Addr) (ns : List Int) (l m t : Int) (more : List (Key × V)) : Prop where
  hp : H p = some (.dK (srcKvs c l m t more))
  hc : H c = some (.lst (ns.map V.int))
  nn : ∀ n ∈ ns, 0 ≤ n
  l0 : 0 ≤ l
  m0 : 0 ≤ m
  m1 : m < 2147483647
  mo : MoreOk more
structure Fm (H : Hp) (p c : Addr) (H' : Hp) : Prop where
  keep : ∀ a o, H a = some o → a ≠ p → a ≠ c → H' a = some o
  dom : ∀ a, H' a = none → H a = none
section
variable {H H' : Hp} {p c : Addr} {ns : List Int} {l m t x : Int} {more : List (Key × V)}
theorem SrcOk.sx (h : SrcOk H p c) : ∃ ns l m t more, Sx c H p ns l m t more := by
  obtain ⟨ns, l, m, t, more, h1, h2, h3, h4, h5, h6, h7⟩ := h
  exact ⟨ns, l, m, t, more, h1, h2, h3, h4, h5, h6, h7⟩
theorem Sx.ok (h : Sx c H p ns l m t more) : SrcOk H p c := ⟨ns, l, m, t, more, h.hp, h.hc, h.nn, h.l0, h.m0, h.m1, h.mo⟩
theorem Fm.refl : Fm H p c H := ⟨fun a o h _ _ => h, fun a h => h⟩
theorem Fm.updP {o : HO} (h : Fm H p c H') : Fm H p c (upd H' p o) := by
  refine ⟨fun a u e n1 n2 => by rw [upd_ne n1]; exact h.keep a u e n1 n2, fun a e => ?_⟩
  by_cases q : a = p
  · rw [q, upd_same] at e; cases e
  · rw [upd_ne q] at e; exact h.dom a e
theorem Fm.updC {o : HO} (h : Fm H p c H') : Fm H p c (upd H' c o) := by
  refine ⟨fun a u e n1 n2 => by rw [upd_ne n2]; exact h.keep a u e n1 n2, fun a e => ?_⟩
  by_cases q : a = c
  · rw [q, upd_same] at e; cases e
  · rw [upd_ne q] at e; exact h.dom a e
theorem Sx.gC (h : Sx c H p ns l m t more) : DGet H p (.str "cells") (some (.ref c)) := .inl ⟨_, .inr "cells", .inl h.hp, rfl, src_cells.symm⟩
theorem Sx.gL (h : Sx c H p ns l m t more) : DGet H p (.str "left") (some (.int l)) := .inl ⟨_, .inr "left", .inl h.hp, rfl, src_left.symm⟩
theorem Sx.gM (h : Sx c H p ns l m t more) : DGet H p (.str "mixed") (some (.int m)) := .inl ⟨_, .inr "mixed", .inl h.hp, rfl, src_mixed.symm⟩
theorem Sx.gT (h : Sx c H p ns l m t more) : DGet H p (.str "turn") (some (.int t)) := .inl ⟨_, .inr "turn", .inl h.hp, rfl, src_turn.symm⟩
theorem Sx.pL (h : Sx c H p ns l m t more) : DPut H p (.str "left") (.int x) (upd H p (.dK (srcKvs c x m t more))) := .inl ⟨_, .inr "left", h.hp, rfl, src_len h.mo, by rw [put_left h.mo]⟩
theorem Sx.pM (h : Sx c H p ns l m t more) : DPut H p (.str "mixed") (.int x) (upd H p (.dK (srcKvs c l x t more))) := .inl ⟨_, .inr "mixed", h.hp, rfl, src_len h.mo, by rw [put_mixed h.mo]⟩
theorem Sx.pT (h : Sx c H p ns l m t more) : DPut H p (.str "turn") (.int x) (upd H p (.dK (srcKvs c l m x more))) := .inl ⟨_, .inr "turn", h.hp, rfl, src_len h.mo, by rw [put_turn h.mo]⟩
theorem Sx.setL (h : Sx c H p ns l m t more) (n : c ≠ p) (hx : 0 ≤ x) : Sx c (upd H p (.dK (srcKvs c x m t more))) p ns x m t more := ⟨upd_same, by rw [upd_ne n]; exact h.hc, h.nn, hx, h.m0, h.m1, h.mo⟩
theorem Sx.setM (h : Sx c H p ns l m t more) (n : c ≠ p) (hx : 0 ≤ x) (hy : x < 2147483647) : Sx c (upd H p (.dK (srcKvs c l x t more))) p ns l x t more := ⟨upd_same, by rw [upd_ne n]; exact h.hc, h.nn, h.l0, hx, hy, h.mo⟩
theorem Sx.setT (h : Sx c H p ns l m t more) (n : c ≠ p) : Sx c (upd H p (.dK (srcKvs c l m x more))) p ns l m x more := ⟨upd_same, by rw [upd_ne n]; exact h.hc, h.nn, h.l0, h.m0, h.m1, h.mo⟩
theorem Sx.setC (h : Sx c H p ns l m t more) (n : c ≠ p) {ms : List Int} (hm : ∀ n ∈ ms, 0 ≤ n) : Sx c (upd H c (.lst (ms.map V.int))) p ms l m t more := ⟨by rw [upd_ne (Ne.symm n)]; exact h.hp, upd_same, hm, h.l0, h.m0, h.m1, h.mo⟩
end
theorem log_pick {m : Int} (h1 : 1 ≤ m) (h2 : m < 1267650600228229401496703205376) : m.natAbs.log2 < 9000 := by
  have : m.natAbs.log2 < 100 := (Nat.log2_lt (by omega)).mpr (by omega)
  omega
/-- a draw -/
def Cpick : Con := fun ds Q => ∃ m : Int, ds = [.none, .int m] ∧ (1 ≤ m ∧ m < 1267650600228229401496703205376) ∧ ∀ k : Int, 0 ≤ k → k < m → Q (.fz (.int k))
/-- a drawn member -/
def Cof : Con := fun ds Q => ∃ xs : List D, (ds = [.none, .list xs] ∨ ds = [.none, .tuple xs]) ∧ (1 ≤ xs.length ∧ xs.length < 1073741824) ∧ ∀ x ∈ xs, Q (.fz x)
theorem ite_b {c : Bool} {A B : Prop} (h1 : c = true → A) (h2 : c = false → B) : if c = true then A else B := by
  cases c with
  | true => rw [if_pos rfl]; exact h1 rfl
  | false => rw [if_neg Bool.false_ne_true]; exact h2 rfl
/-- the arguments of a draw's def -/
theorem pre_src2 {K : PySem.W.Frag} {M0 : AP} {src : Option (Addr × Addr)} {H : Hp} {vs : List V} {m : Int} (P : PreC K M0 src H [.src, .bo] vs [.none, .int m]) : ∃ p c, vs = [.ref p, .int m] ∧ src = some (p, c) ∧ p ≠ c ∧ SrcOk H p c := by
  obtain ⟨_, sok, args⟩ := P
  cases args with
  | cons h r =>
    cases r with
    | cons h' r =>
      cases r
      obtain ⟨_, p, c, e, rfl⟩ := h
      obtain ⟨h1, _, _, h4⟩ := sok p c e
      rcases h' with h' | ⟨a, _, h', _⟩
      · cases h'; exact ⟨p, c, rfl, e, h1, h4⟩
      · cases h'
theorem pre_src1 {K : PySem.W.Frag} {M0 : AP} {src : Option (Addr × Addr)} {H : Hp} {vs : List V} {d : D} (P : PreC K M0 src H [.src] vs [d]) : ∃ p c, vs = [.ref p] ∧ src = some (p, c) ∧ p ≠ c ∧ SrcOk H p c := by
  obtain ⟨_, sok, args⟩ := P
  cases args with
  | cons h r =>
    cases r
    obtain ⟨_, p, c, e, rfl⟩ := h
    obtain ⟨h1, _, _, h4⟩ := sok p c e
    exact ⟨p, c, rfl, e, h1, h4⟩
/-- a scalar handed back, the source changed -/
theorem Fm.post {K : PySem.W.Frag} {M0 : AP} {p c : Addr} {H H' : Hp} {v : V} {d : D} (h : Fm H p c H') (hs : SrcOk H' p c) (hv : ∀ F, Rp K F v d) : PostC K M0 (some (p, c)) H H' v (.fz d) :=
  ⟨fun a o e n => h.keep a o e (n p c rfl).1 (n p c rfl).2, h.dom, fun q d e => by cases e; exact hs, hv _⟩
/-- the source made from the script -/
def spSrc (K : PySem.W.Frag) : Sp := fun vs H Q _ => ∃ (a : Addr) (ns : List Int), vs = [.ref a] ∧ SqL K H a (ns.map V.int) ∧ ns.length ≤ 63 ∧
  ∀ (p c : Addr) (H' : Hp), p ≠ c → H p = none → H c = none → (∀ x o, H x = some o → H' x = some o) → (∀ x, H' x = none → H x = none) → SrcOk H' p c → Q (.ref p) H'
theorem ite_t {A B : Prop} (h : A) : if true = true then A else B := h
end DL

set_option Elab.async false
set_option linter.all false
set_option maxRecDepth 100000
set_option maxHeartbeats 4000000
set_option autoImplicit false
namespace DL
open PySem L2
/-- what is promised of law itself -/
def spLaw (K : PySem.W.Frag) : Sp := fun vs H Q _ => ∃ (a : Addr) (ns : List Int), vs = [.ref a] ∧ SqL K H a (ns.map V.int) ∧ ns.length ≤ 63 ∧ ∀ H', Q (.bl true) H'
def sayYes : DEnds := { nx := fun _ => False, rt := fun r _ => r = .fz (.bool true) }
/-- law: the source is made, the rest on data -/
theorem law_rest {K : PySem.W.Frag} {N : List Str} {tR : TS} {dR : DS} {vs : List V} {H : Hp} {Q : VK} {E XE : XK} (h : spLaw K vs H Q XE) (hN : 2 ≤ N.length) (hl : LS K tR dR)
    (hd : dR sayYes (some .scr :: some .src :: List.replicate (N.length - 2) none)) :
    tSeq (tAsg (tCall (spSrc K) [] E (tCons (tVar 0) tNil)) (gName 1)) tR { nx := fun _ H' => Q .non H', rt := Q } (L2.start N vs) H := by
  obtain ⟨a, ns, rfl, hs, hlen, hQ⟩ := h
  have hs' : SqL K (Fz H (srcSet none)) a (ns.map V.int) := by
    have e : ∀ x o, H x = some o → Fz H (srcSet none) x = some o := fun x o h => fz_of h (fun ⟨_, _, z, _⟩ => nomatch z)
    exact hs.elim (fun h1 => .inl (h1.elim (fun h2 => .inl (e _ _ h2)) fun ⟨o, h2⟩ => .inr ⟨o, e _ _ h2⟩)) fun h1 => .inr h1
  have P : PreC K (fun _ => False) none H [.scr] [.ref a] [.none] := ⟨fun _ z => z.elim, fun _ _ z => (nomatch z), .cons ⟨rfl, a, ns, rfl, hs', hlen⟩ .nil⟩
  have R0 := rel_start (N := N) P
  refine ⟨_, rfl, a, ns, rfl, hs, hlen, fun p c H' hpc hp hc hk hdm ok => ?_⟩
  obtain ⟨R1, G1⟩ := R0.mkSrc rfl hp hc hpc hk hdm ok
  have R2 := R1.set (i := 1) (v := .ref p) (s := .src) ⟨p, c, rfl, rfl⟩ (fun d z => nomatch z)
  have e : (startR N.length [.scr] [.none]).set 1 (some .src) = some .scr :: some .src :: List.replicate (N.length - 2) none := by
    obtain ⟨n, e⟩ : ∃ n, N.length = n + 2 := ⟨N.length - 2, by omega⟩
    rw [e]
    rfl
  rw [e] at R2
  refine hl _ _ _ _ _ sayYes _ rfl R2 hd ⟨fun g' σ' H' ρ' _ _ q => q.elim, fun g' σ' H' ρ' v r R' G' V' q => ?_, fun g' σ' H' ρ' _ _ q => q.elim, fun g' σ' H' ρ' _ _ q => q.elim⟩
  have q : r = .fz (.bool true) := q
  subst q
  have V' : Rp _ _ v (.bool true) := V'
  cases V'
  exact hQ _
end DL

set_option Elab.async false
set_option linter.all false
set_option maxRecDepth 100000
set_option maxHeartbeats 4000000
set_option autoImplicit false
namespace DL
open PySem L2

/-! ### a dict display -/
def mergeE (es more : List (D × D)) : List (D × D) := more.foldl (fun acc e => match keyOf e.1 with
  | some k => putE acc k e.2
  | none => acc) es
theorem RpK.merge {K : PySem.W.Frag} {F : Hp} {more : List (Key × V)} {mo : List (D × D)} (hm : RpK K F more mo) : ∀ {kvs : List (Key × V)} {es : List (D × D)}, RpK K F kvs es → RpK K F (mergeK kvs more) (mergeE es mo) := by
  induction mo generalizing more with
  | nil => intro kvs es h; cases hm; exact h
  | cons e mo ih =>
    intro kvs es h
    cases hm with
    | @cons k v d vs ds hv hr =>
      have := ih hr (h.put k hv)
      unfold mergeE mergeK at this ⊢
      rw [List.foldl_cons, List.foldl_cons]
      show RpK K F _ (List.foldl _ (match keyOf (keyD k) with
        | some k => putE es k d
        | none => es) _)
      rw [keyOf_keyD]
      exact this
abbrev DP := Rho → (List (D × D) → Rho → Prop) → Prop
def LP (K : PySem.W.Frag) (t : List (TE × TE)) (d : DP) : Prop := ∀ (f : Fr) (g : Gs) (σ : L2.St) (H : Hp) (ρ : Rho) (Q : List (D × D) → Rho → Prop) (R : List (V × V) → Hp → Prop), f.K = K → Rel f g σ H ρ → d ρ Q →
  (∀ (kvs : List (Key × V)) (es : List (D × D)) (H' : Hp) (g' : Gs) (ρ' : Rho), Rel f g' σ H' ρ' → Gro g H g' H' → RpK f.K (Fz H' g'.M) kvs es → Q es ρ' → R (kvs.map fun kv => (kV kv.1, kv.2)) H') → tPairs t σ H R
def dPNil : DP := fun ρ Q => Q [] ρ
def dPCons (dk dv : DE) (dr : DP) : DP := fun ρ Q => dk ρ fun q ρ1 => dv ρ1 fun r ρ2 => wF (frz ρ2 r) fun d ρ3 => wK (res ρ3 q) fun k => dr ρ3 fun es ρ4 => Q ((keyD k, d) :: es) ρ4
section
variable {K : PySem.W.Frag} {tk tv : TE} {dk dv : DE} {tr : List (TE × TE)} {dr : DP}
theorem lp_nil : LP K [] dPNil := fun f g σ H ρ Q R hK hR hd k => k [] [] H g ρ hR Gro.refl .nil hd
theorem lp_cons (h : LE K tk dk) (h' : LE K tv dv) (hr : LP K tr dr) : LP K ((tk, tv) :: tr) (dPCons dk dv dr) := by
  intro f g σ H ρ Q R hK hR hd k
  refine h.opd hK hR hd fun u H1 g1 ρ1 q R1 G1 O1 q1 => ?_
  refine h'.opd hK R1 q1 fun v H2 g2 ρ2 r R2 G2 O2 q2 => ?_
  obtain ⟨d, ρ3, e3, q3⟩ := wF_some q2
  obtain ⟨g3, R3, G3, hv⟩ := O2.frz R2 e3
  obtain ⟨key, e4, q4⟩ := wK_some q3
  have hu := (((O1.mono G2).mono G3).rn R3 e4).key
  subst hu
  refine hr f g3 σ H2 ρ3 _ _ hK R3 q4 fun kvs es H4 g4 ρ4 R4 G4 r4 q5 => ?_
  exact k ((key, v) :: kvs) ((keyD key, d) :: es) H4 g4 ρ4 R4 (((G1.trans G2).trans G3).trans G4) (.cons (hv.mono G4.fz) r4) q5
def dDisp (dp : DP) : DE := fun ρ Q => dp ρ fun es ρ1 => es.length ≤ 15 ∧ Q (.nw (.dict (mergeE [] es))) ρ1
theorem le_disp (h : LP K tr dr) : LE K (tDisp tr) (dDisp dr) := by
  intro f g σ H ρ Q R hK hR hd k
  intro D0 hD
  have h0 : f.H0 D0 = none := hR.dom D0 hD
  obtain ⟨R2, G2, V2⟩ := hR.own (o := .dK []) (d := .dict []) hD (.dic upd_same .nil)
  obtain ⟨a, ea, m2, _, ns2, _, t2, u2⟩ := V2
  cases ea
  have R3 : Rel f ((g.add D0).push D0) σ (upd H D0 (.dK [])) ρ := ⟨R2.keep, R2.dom, R2.m0, R2.m00, R2.mU, R2.src, R2.len, R2.slot, R2.uq, fun b hb => by
    rcases List.mem_cons.mp hb with rfl | hb
    · exact ⟨m2, ns2, u2⟩
    · exact R2.tmp b hb⟩
  refine h f _ σ _ ρ _ _ hK R3 hd fun kvs es H4 g4 ρ4 R4 G4 r4 q => ?_
  have T4 : g4.T = D0 :: g.T := G4.tm.trans (congrArg (D0 :: ·) G2.tm)
  have e4 : H4 D0 = some (.dK []) := (G4.th D0 List.mem_cons_self).trans upd_same
  refine ⟨e4, kvs, rfl, by rw [r4.length]; exact q.1, ?_⟩
  have hm4 : D0 ∈ g4.T := by rw [T4]; exact List.mem_cons_self
  obtain ⟨R5, S5⟩ := R4.mutTmp (o := .dK (mergeK [] kvs)) hm4 h0
  obtain ⟨m', ns', u'⟩ := R5.tmp D0 hm4
  refine k _ _ (g4.pop g.T) ρ4 (.nw _) (R5.pop (T := g.T) fun a ha => by rw [T4]; exact List.mem_cons_of_mem _ ha) ⟨(G2.fz.trans G4.fz).trans S5, fun pc h => G4.src pc (G2.src pc h), rfl, fun b hb => ?_⟩ ⟨D0, rfl, m', h0, ns', .dic upd_same ((RpK.merge r4 .nil).mono S5), ?_, u'⟩ q.2
  · rw [upd_ne]
    · exact (G4.th b (List.mem_cons_of_mem _ (by rw [G2.tm]; exact hb))).trans (G2.th b hb)
    · rintro rfl
      exact hR.mH b hD (hR.tmp b hb).1
  · intro ha
    exact hR.mH D0 hD (hR.tmp D0 ha).1
end
end DL

set_option Elab.async false
set_option linter.all false
set_option maxRecDepth 100000
set_option maxHeartbeats 4000000
set_option autoImplicit false
namespace DL
open PySem L2

/-! ### repr of a dict that holds no list -/
mutual
def plainD : D → Bool
  | .list _ => false
  | .tuple ds => plainAll ds
  | .dict es => !isT es && plainEnts es
  | _ => true
def plainAll : List D → Bool
  | [] => true
  | d :: ds => plainD d && plainAll ds
def plainEnts : List (D × D) → Bool
  | [] => true
  | (_, d) :: es => plainD d && plainEnts es
end
section
variable {X : Cx} {pins : List (Addr × Obj)} {σ : L2.St} {H F : Hp} {s : Shared}
theorem keyIs_reads {k : Key} {u : Value} {P : Program} {w : World} (h : (mixKind P w).is k u = true) : Reads s.heap u (keyD k) [] := by
  rcases keyIs_shape h with ⟨i, t, rfl, rfl⟩ | ⟨x, t, rfl, rfl⟩
  · exact .int i t
  · exact .str x t
mutual
theorem Rp.readsP (I : Inv X pins σ H s) (e : Same F H) : ∀ {v : V} {d : D}, Rp X.K F v d → plainD d = true → ∀ u, RelV v u → ∃ as, Reads s.heap u d as ∧ sysModules ∉ as
  | _, _, .non, _, u, r => by cases r; exact ⟨_, .none, by simp⟩
  | _, _, .bl b, _, u, r => by cases r; exact ⟨_, .bool b, by simp⟩
  | _, _, .int b, _, u, r => by obtain ⟨t, rfl⟩ := r; exact ⟨_, .int b t, by simp⟩
  | _, _, .str b, _, u, r => by obtain ⟨t, rfl⟩ := r; exact ⟨_, .str b t, by simp⟩
  | _, _, .lst h r, hp, _, _ => by simp [plainD] at hp
  | _, _, .tup h r, hp, u, q => by
    cases q
    obtain ⟨its, rv, ⟨o, ho, hc, n, hd⟩, _⟩ := I.tuple (.inl (.inl (e _ _ h)))
    obtain ⟨as, hr, hn⟩ := RpA.readsP I e r (by simpa [plainD] using hp) its rv
    exact ⟨_, .tuple ho hc hd hr, hn⟩
  | _, _, .dic h r, hp, u, q => by
    cases q
    simp only [plainD, Bool.and_eq_true] at hp
    obtain ⟨z, hm, vs, rel, o, es, ep, ho, hx, hd, _, hpr, _⟩ := dk_of I.hok (e _ _ h)
    obtain ⟨as, bs, h1, h2, n1, n2⟩ := RpK.readsP I e r hp.2 vs rel es.toList hpr
    refine ⟨_, .dict ho hx.1 hd h1 h2, ?_⟩
    simp only [List.cons_append, List.mem_cons, List.mem_append, not_or]
    exact ⟨fun z => by rw [← z] at hm; simp at hm, n1, n2⟩
  | _, _, .dct h r, hp, _, _ => by simp [plainD, isT] at hp
theorem RpA.readsP (I : Inv X pins σ H s) (e : Same F H) : ∀ {vs : List V} {ds : List D}, RpA X.K F vs ds → plainAll ds = true → ∀ us, Vals vs us → ∃ as, ReadsAll s.heap us ds as ∧ sysModules ∉ as
  | _, _, .nil, _, us, r => by cases r; exact ⟨_, .nil, by simp⟩
  | _, _, .cons h r, hp, us, q => by
    simp only [plainAll, Bool.and_eq_true] at hp
    cases q with
    | cons q1 q2 =>
      obtain ⟨as, a1, a2⟩ := Rp.readsP I e h hp.1 _ q1
      obtain ⟨bs, b1, b2⟩ := RpA.readsP I e r hp.2 _ q2
      exact ⟨_, .cons a1 b1, by simp [a2, b2]⟩
theorem RpK.readsP (I : Inv X pins σ H s) (e : Same F H) : ∀ {kvs : List (Key × V)} {es : List (D × D)}, RpK X.K F kvs es → plainEnts es = true → ∀ vs, KV kvs vs → ∀ ens : List DictEntry, Pairs (mixKind X.prog X.w) ens vs →
    ∃ as bs, ReadsAll s.heap (ens.map (·.key)) (es.map (·.1)) as ∧ ReadsAll s.heap (ens.map (·.val)) (es.map (·.2)) bs ∧ sysModules ∉ as ∧ sysModules ∉ bs
  | _, _, .nil, _, vs, r, ens, p => by cases r; cases p; exact ⟨_, _, .nil, .nil, by simp, by simp⟩
  | _, _, .cons h r, hp, vs, q, ens, p => by
    simp only [plainEnts, Bool.and_eq_true] at hp
    cases q with
    | cons q1 q2 =>
      cases p with
      | cons p1 p2 p3 =>
        obtain ⟨k1, v1⟩ := q1
        dsimp only at k1 v1
        subst k1
        obtain ⟨as, a1, a2⟩ := Rp.readsP I e h hp.1 _ v1
        obtain ⟨bs, cs, b1, b2, b3, b4⟩ := RpK.readsP I e r hp.2 _ q2 _ p3
        rw [← p2] at a1
        exact ⟨[] ++ bs, as ++ cs, .cons (keyIs_reads p1) b1, .cons a1 b2, by simp [b3], by simp [a2, b4]⟩
end
def rReprP (K : PySem.W.Frag) : List V → Hp → VK → Prop := fun xs H Q => ∃ v d, xs = [v] ∧ (∃ F, Same F H ∧ RN K F H v d) ∧ d.showable = true ∧ (d.hasDict = false ∨ plainD d = true) ∧ d.depth ≤ 60 ∧ d.shown.length ≤ sizeLine ∧ Q (.str d.shown) H
theorem RN.same {K : PySem.W.Frag} {v : V} {d : D} (e : Same F H) (h : RN K F H v d) : Rp K H v d := by
  rcases h with h | ⟨a, rfl, h⟩
  · exact h.mono e
  · exact h.rp e fun _ h => h
theorem call_reprP (hA : X.A.guards = some []) (hu : X.A.units + 64 < cLine) : CallR X (.builtin "repr") (rReprP X.K) := by
  intro pins s σ H xs us Q I r h
  obtain ⟨v, d, rfl, ⟨F, hs1, hd⟩, hs, hnd, hdp, hz, q⟩ := h
  have hd := hd.same hs1
  cases r with
  | @cons _ uu _ _ r rr =>
    cases rr
    have key : ∀ (u : Tok) (tk : Nat) (h' : Heap), (∀ b o, s.heap.get? b = some o → h'.get? b = some o) → EP X pins σ Q (.str d.shown u) { s with heap := h', toks := tk } := fun u tk h' hk => ⟨.str d.shown, H, I.kept hk, ⟨_, rfl⟩, q⟩
    have hr : ∃ as, Reads s.heap uu d as ∧ (d.hasDict = true → sysModules ∉ as) := by
      rcases hnd with hnd | hp
      · obtain ⟨as, rd⟩ := Dp.reads I d v _ (hd.dp hnd) r
        exact ⟨as, rd, fun z => by rw [hnd] at z; cases z⟩
      · obtain ⟨as, rd, n⟩ := hd.readsP I (Same.refl _) hp _ r
        exact ⟨as, rd, fun _ => n⟩
    obtain ⟨as, rd, nd⟩ := hr
    cases rd with
    | none => exact PySem.P.repr_of_none ⟨.str _, H, I.tok _, ⟨_, rfl⟩, q⟩
    | bool b => exact PySem.P.repr_of_bool ⟨.str _, H, I.tok _, ⟨_, rfl⟩, by cases b <;> exact q⟩
    | int i t => exact PySem.P.repr_of_int (by simpa [PyData.showable] using hs) ⟨.str _, H, I.tok _, ⟨_, rfl⟩, q⟩
    | str x t => exact PySem.P.repr_of_str ⟨.str _, H, I.tok _, ⟨_, rfl⟩, q⟩ hz
    | list h1 h2 h3 h4 => exact repr_of_reads' (.list h1 h2 h3 h4) hs nd hA (by omega) (fun _ _ h => h) (fun h' u tk hk => key u tk h' hk) hz
    | tuple h1 h2 h3 h4 => exact repr_of_reads' (.tuple h1 h2 h3 h4) hs nd hA (by omega) (fun _ _ h => h) (fun h' u tk hk => key u tk h' hk) hz
    | dict h1 h2 h3 h4 h5 => exact repr_of_reads' (.dict h1 h2 h3 h4 h5) hs nd hA (by omega) (fun _ _ h => h) (fun h' u tk hk => key u tk h' hk) hz
end
def reprOkP (d : D) : Prop := d.showable = true ∧ (d.hasDict = false ∨ plainD d = true) ∧ d.depth ≤ 60 ∧ d.shown.length ≤ sizeLine
def fReprP : F1 := fun x Q => reprOkP x ∧ Q (.fz (.str x.shown))
theorem cl_reprP {K : PySem.W.Frag} : CaL K (rReprP K) (fA1 fReprP) := by
  intro f g σ H ρ vs ds Q R hK hR hA hF0 k
  subst hK
  obtain ⟨d, rfl, hF⟩ := fA1_some hF0
  obtain ⟨v, rfl, h⟩ := hA.one
  obtain ⟨⟨h1, h2, h3, h4⟩, q⟩ := hF
  exact ⟨v, d, rfl, ⟨_, fz_sub, h⟩, h1, h2, h3, h4, OEnd.fz k hR (.str _) q⟩
end DL

set_option Elab.async false
set_option linter.all false
set_option maxRecDepth 100000
set_option maxHeartbeats 4000000
set_option autoImplicit false
namespace DL
open PySem L2

section
variable {K : PySem.W.Frag} {ta tb tc : TE} {da db dc : DE}
def dPar3 (i j l : Nat) (da db dc : DE) : DS := fun DD ρ => da ρ fun r ρ1 => wP (plainV ρ1 r) fun r1 ρ2 => db ρ2 fun q ρ3 => wP (plainV ρ3 q) fun q1 ρ4 => dc ρ4 fun s ρ5 => wP (plainV ρ5 s) fun s1 ρ6 => DD.nx (setR (setR (setR ρ6 i r1) j q1) l s1)
theorem ls_par3 {i j l : Nat} (h : LE K ta da) (h' : LE K tb db) (h'' : LE K tc dc) : LS K (tPar3 i j l (tCons ta (tCons tb (tCons tc tNil)))) (dPar3 i j l da db dc) := by
  intro f g σ H ρ DD E hK R hd lk
  refine h f g σ H ρ _ _ hK R hd fun v H1 g1 ρ1 r R1 G1 V1 q1 => ?_
  obtain ⟨r1, ρ2, e1, q1⟩ := wP_some q1
  obtain ⟨g2, R2, G2, V2, p2⟩ := V1.plain R1 e1
  obtain ⟨g3, R3, hh⟩ := V2.held R2
  refine h' f g3 σ H1 ρ2 _ _ hK R3 q1 fun w H4 g4 ρ4 q R4 G4 V4 q4 => ?_
  obtain ⟨qq, ρ5, e5, q5⟩ := wP_some q4
  obtain ⟨g5, R5, G5, V5, p5⟩ := V4.plain R4 e5
  obtain ⟨g6, R6, kk⟩ := V5.held R5
  refine h'' f g6 σ H4 ρ5 _ _ hK R6 q5 fun z H7 g7 ρ7 s R7 G7 V7 q7 => ?_
  obtain ⟨ss, ρ8, e8, q8⟩ := wP_some q7
  obtain ⟨g8, R8, G8, V8, p8⟩ := V7.plain R7 e8
  obtain ⟨g9, R9, G9, V9, kk9⟩ := kk g8 H7 ρ8 R8 (G7.trans G8) (fun i z => by rw [z] at p5; exact p5.elim)
  obtain ⟨W9, n9⟩ := kk9 z ss V8
  obtain ⟨g10, R10, G10, V10, hh10⟩ := hh g9 H7 ρ8 R9 ((G4.trans G5).trans G9) (fun i z => by rw [z] at p2; exact p2.elim)
  obtain ⟨Wb, nb⟩ := hh10 w qq V9
  obtain ⟨Wc, nc⟩ := hh10 z ss W9
  refine ⟨v, w, z, rfl, ?_⟩
  have R11 := V10.put R10 p2 i
  have B11 := Wb.putO R10 p2 p5 (fun d e z1 z2 => nb d e z1 z2) i
  have C11 := Wc.putO R10 p2 p8 (fun d e z1 z2 => nc d e z1 z2) i
  have R12 := B11.put R11 p5 j
  have C12 := C11.putO R11 p5 p8 (fun d e z1 z2 => n9 d e z1 z2) j
  exact lk.nx g10 _ H7 _ (C12.put R12 p8 l) ((G1.trans G2).trans G10) q8
theorem atI0 {x : D} {xs : List D} : atI (x :: xs) 0 = some x := by simp [atI, ixN]
theorem atI1 {x y : D} {xs : List D} : atI (x :: y :: xs) 1 = some y := by simp [atI, ixN, show (1 : Int) < (xs.length : Int) + 1 + 1 by omega]
theorem atI2 {x y z : D} {xs : List D} : atI (x :: y :: z :: xs) 2 = some z := by simp [atI, ixN, show (2 : Int) < (xs.length : Int) + 1 + 1 + 1 by omega]
theorem strOk0_tuple {xs : List D} : strOk0 (.tuple xs) = True := rfl
theorem strOk0_list {xs : List D} : strOk0 (.list xs) = True := rfl
theorem ite_y {c : Bool} {A B : Prop} (h : c = true) (a : A) : if c = true then A else B := by rw [if_pos h]; exact a
theorem ite_n {c : Bool} {A B : Prop} (h : c = false) (a : B) : if c = true then A else B := by rw [h, if_neg Bool.false_ne_true]; exact a
theorem src_room {c : Addr} {l m t : Int} {more : List (Key × V)} (h : MoreOk more) : ∃ r : Int, ((valV (srcKvs c l m t more) (Sum.inr "room")).getD (.int 150)) = .int r := by
  rcases h with rfl | ⟨r, rfl⟩
  · exact ⟨150, by simp [srcKvs, valV, nCR, nLR, nMR, nTR]⟩
  · exact ⟨r, by simp [srcKvs, valV, nCR, nLR, nMR, nTR]⟩
theorem room_put {c : Addr} {l m t : Int} {more : List (Key × V)} (h : MoreOk more) (x : Int) : valV (putK (srcKvs c l m t more) (Sum.inr "room") (.int x)) (Sum.inr "room") = some (.int x) := by
  rcases h with rfl | ⟨r, rfl⟩ <;> simp [srcKvs, putK, valV, nCR, nLR, nMR, nTR]
/-- the source's room set -/
def isInt : D → Prop
  | .int _ => True
  | _ => False
def dSrcPut (i : Nat) (da : DE) : DS := fun DD ρ => da ρ fun r ρ1 => wD (res ρ1 r) fun d => isInt d ∧ ρ1[i]? = some (some .src) ∧ DD.nx ρ1
theorem ls_sput {i : Nat} (h : LE K ta da) : LS K (sDPut (tVar i) (tC (.str "room")) ta) (dSrcPut i da) := by
  intro f g σ H ρ DD E hK R hd l
  refine h.opd hK R hd fun v H1 g1 ρ1 r1 R1 G1 O1 q1 => ?_
  obtain ⟨d, e2, hi, hs, q1⟩ := wD_some q1
  obtain ⟨n, rfl⟩ : ∃ n, d = .int n := by cases d <;> first | exact ⟨_, rfl⟩ | exact hi.elim
  have hv := (O1.rn R1 e2).int
  subst hv
  obtain ⟨w, w1, p, c, e3, rfl⟩ := R1.slot i _ hs
  obtain ⟨hpc, mp, mc, _, _, ok⟩ := R1.src p c e3
  obtain ⟨ns, lf, m, t, more, S⟩ := ok.sx
  obtain ⟨more', hm', e4⟩ := put_room (c := c) (l := lf) (m := m) (t := t) S.mo n
  refine ⟨.ref p, w1, p, _, rfl, DPut.k (k := .inr "room") S.hp (src_len S.mo), ?_⟩
  rw [e4]
  have ok' : SrcOk (upd H1 p (.dK (srcKvs c lf m t more'))) p c := (⟨upd_same, by rw [upd_ne (Ne.symm hpc)]; exact S.hc, S.nn, S.l0, S.m0, S.m1, hm'⟩ : Sx c _ p ns lf m t more').ok
  obtain ⟨R2, G2⟩ := R1.step (g' := g1) (H' := upd H1 p (.dK (srcKvs c lf m t more'))) (fun _ => Iff.rfl) rfl rfl (fun a o e n => by rw [upd_ne (n p c e3).1]; exact e) (fun a e => by
    by_cases q : a = p
    · rw [q, upd_same] at e; cases e
    · rw [upd_ne q] at e; exact e) (fun p' c' e => by rw [e3] at e; cases e; exact ok')
  exact l.nx g1 σ _ _ R2 (G1.trans G2) q1
/-- d.get(k, x) -/
def dDGet2 (dd dk dx : DE) : DE := fun ρ Q => dd ρ fun r ρ1 => wDE (res ρ1 r) fun _ => dk ρ1 fun q ρ2 => dx ρ2 fun s ρ3 => wF (frz ρ3 s) fun x ρ4 => wDE (res ρ4 r) fun es => wK (res ρ4 q) fun k => ∃ d, (lookE es k).getD x = d ∧ Q (.fz d) ρ4
theorem le_dget2 {td ty tx : TE} {dd dk dx : DE} (h : LE K td dd) (h' : LE K ty dk) (h'' : LE K tx dx) : LE K (tDGet2 td ty tx) (dDGet2 dd dk dx) := by
  intro f g σ H ρ Q R hK hR hd k
  refine h.opd hK hR hd fun v H1 g1 ρ1 r1 R1 G1 O1 q1 => ?_
  obtain ⟨es0, e0, nt0, q1⟩ := wDE_some q1
  obtain ⟨a, kvs0, rfl, hd0, _⟩ := (O1.rn R1 e0).dict fz_sub nt0
  refine ⟨a, rfl, .inl ⟨kvs0, .inl hd0⟩, ?_⟩
  refine h'.opd hK R1 q1 fun u H2 g2 ρ2 r2 R2 G2 O2 q2 => ?_
  refine h''.opd hK R2 q2 fun x H3 g3 ρ3 r3 R3 G3 O3 q3 => ?_
  obtain ⟨xd, ρ4, e3, q4⟩ := wF_some q3
  obtain ⟨g4, R4, G4, hx⟩ := O3.frz R3 e3
  obtain ⟨es, e1, nt, q4⟩ := wDE_some q4
  obtain ⟨key, e2, q4⟩ := wK_some q4
  obtain ⟨a', kvs, ea, hd, hr⟩ := ((((O1.mono G2).mono G3).mono G4).rn R4 e1).dict fz_sub nt
  cases ea
  rw [(((O2.mono G3).mono G4).rn R4 e2).key]
  obtain ⟨_, rfl, q4⟩ := q4
  refine ⟨valV kvs key, .inl ⟨kvs, key, .inl hd, rfl, rfl⟩, ?_⟩
  rcases hr.look key with ⟨z0, z⟩ | ⟨w, d', z1, z2, z3⟩
  · rw [z0]
    rw [z] at q4
    exact k x H3 g4 ρ4 (.fz xd) R4 (((G1.trans G2).trans G3).trans G4) hx q4
  · rw [z1]
    rw [z2] at q4
    exact k w H3 g4 ρ4 (.fz d') R4 (((G1.trans G2).trans G3).trans G4) z3 q4
end
end DL

set_option Elab.async false
set_option linter.all false
set_option maxRecDepth 100000
set_option maxHeartbeats 4000000
set_option autoImplicit false
namespace DL
open PySem PySem.Spec PyProof.Rows L2

/-! ### a list or a tuple, whichever: what its iterator draws -/
def SqB (K : PySem.W.Frag) (b : Bool) (H : Hp) (a : Addr) (xs : List V) : Prop := match b with
  | true => SqT K H a xs
  | false => SqL K H a xs
def ItB (b : Bool) (h : Heap) (it a : Addr) (i : Nat) : Prop := match b with
  | true => h.IsTupleIter it a i
  | false => h.IsListIter it a i
def SeB (b : Bool) (h : Heap) (a : Addr) (its : Array Value) : Prop := match b with
  | true => h.IsTuple a its
  | false => h.IsList a its
def itO (b : Bool) (a : Addr) : Obj := match b with
  | true => { cls := .type "tuple_iterator", data := .fields #[.ref a, .int 0 0] }
  | false => { cls := .type "list_iterator", data := .fields #[.ref a, .int 0 0] }
section
variable {X : Cx} {pins : List (Addr × Obj)} {σ : L2.St} {H : Hp} {s : Shared} {b : Bool} {a it : Addr} {xs ys : List V} {h h' : Heap} {i : Nat} {its : Array Value}
theorem Inv.seqB (I : L2.Inv X pins σ H s) (q : SqB X.K b H a xs) : ∃ its : List Value, Vals xs its ∧ SeB b s.heap a its.toArray := by
  cases b with
  | true => obtain ⟨its, r, p, _⟩ := I.tuple q; exact ⟨its, r, p⟩
  | false => obtain ⟨its, r, p, _⟩ := I.list q; exact ⟨its, r, p.isList⟩
theorem Inv.seqB_inj (I : L2.Inv X pins σ H s) (q : SqB X.K b H a xs) (q' : SqB X.K b H a ys) : xs = ys := by
  cases b with
  | true => exact I.tuple_inj q q'
  | false => exact I.list_inj q q'
theorem draws_b {P : Program} {w : World} {A : Around} (hh : A.handled = none) (hne : a ≠ it) : Draws P w A it [it, a] its.size (fun i v => its[i]? = some v) (fun i h => ItB b h it a i ∧ SeB b h a its) := by
  cases b with
  | true => exact Draws.tuple hh it a hne its
  | false => exact Draws.list hh it a hne its
theorem begins_b : Begins (.ref a) (itO b a) (fun h => SeB b h a its) := by
  cases b with
  | true => exact begins_tuple a its
  | false => exact begins_list a its
theorem ItB.obj (t : ItB b h it a i) : ∃ o v, h.get? it = some o ∧ o.data = .fields v ∧ ∃ n, o.cls = .type n ∧ n ≠ "tuple" ∧ n ≠ "list" := by
  cases b with
  | true => obtain ⟨o, e, c, d⟩ := t; exact ⟨o, _, e, d, _, c, by decide, by decide⟩
  | false => obtain ⟨o, e, c, d⟩ := t; exact ⟨o, _, e, d, _, c, by decide, by decide⟩
theorem SeB.obj (t : SeB b h a its) : ∃ o n, h.get? a = some o ∧ o.data = .seq its n := by
  cases b with
  | true => obtain ⟨o, e, c, n, d⟩ := t; exact ⟨o, n, e, d⟩
  | false => obtain ⟨o, e, c, n, d⟩ := t; exact ⟨o, n, e, d⟩
theorem ItB.at (t : ItB b h it a i) (k : ∀ o, h.get? it = some o → h'.get? it = some o) : ItB b h' it a i := by
  cases b with
  | true => obtain ⟨o, e, c, d⟩ := t; exact ⟨o, k o e, c, d⟩
  | false => obtain ⟨o, e, c, d⟩ := t; exact ⟨o, k o e, c, d⟩
theorem SeB.at (t : SeB b h a its) (k : ∀ o, h.get? a = some o → h'.get? a = some o) : SeB b h' a its := by
  cases b with
  | true => obtain ⟨o, e, c, n, d⟩ := t; exact ⟨o, k o e, c, n, d⟩
  | false => obtain ⟨o, e, c, n, d⟩ := t; exact ⟨o, k o e, c, n, d⟩
theorem ItB.begun (e : h.get? it = some (itO b a)) : ItB b h it a 0 := by
  cases b with
  | true => exact ⟨_, e, rfl, rfl⟩
  | false => exact ⟨_, e, rfl, rfl⟩
theorem seb_ne (t : SeB b h a its) (e : ItB b h it a i) : a ≠ it := by
  rintro rfl
  obtain ⟨o, n, e1, d1⟩ := t.obj
  obtain ⟨o2, v, e2, d2, _⟩ := e.obj
  rw [e1] at e2; cases e2
  rw [d1] at d2; cases d2
end
/-! ### enumerate -/
def IteB (b : Bool) (K : PySem.W.Frag) (a : Addr) : It :=
  ⟨fun i H => ∃ (xs : List V) (x : V), SqB K b H a xs ∧ xs[i]? = some x, fun i H v H' => ∃ T x, v = .ref T ∧ H T = none ∧ H' = upd H T (.tup [.int (i : Nat), x]) ∧ ∀ xs, SqB K b H a xs → xs[i]? = some x, fun i H => ∃ xs : List V, SqB K b H a xs ∧ xs.length = i⟩
theorem turn_enumB {b : Bool} {P : Program} {w : World} {K : PySem.W.Frag} {elts : List Expr} {kk : Nat} {tpos : Pos} (a e it : Addr) :
    Turn P w K (.Tuple elts kk tpos) (IteB b K a) [e, it] e (fun i h => (∃ old, IsEnum h e it ((i : Nat) : Int) old) ∧ ItB b h it a i ∧ e ≠ it) where
  mem := by simp
  obj := fun i h st c hc => by
    obtain ⟨⟨old, he⟩, hi, _⟩ := st
    obtain ⟨o, v, ho, hd, _⟩ := hi.obj
    have e' : c = e ∨ c = it := by simpa using hc
    rcases e' with z | z
    · rw [z]; exact ⟨_, he, fun v q => nomatch q⟩
    · rw [z]; exact ⟨o, ho, fun v q => by rw [hd] at q; cases q⟩
  keep := fun i h h' st k => let ⟨⟨old, he⟩, hi, hne⟩ := st; ⟨⟨old, k e (by simp) _ he⟩, hi.at fun o q => k it (by simp) o q, hne⟩
  item := by
    intro X hP hw hK hc i pins s σ H E I hf st hg
    subst hP hw hK
    obtain ⟨⟨old, he⟩, hit, hne⟩ := st
    obtain ⟨xs, x, hq, hx⟩ := hg
    obtain ⟨its, rv, p⟩ := Inv.seqB I hq
    obtain ⟨u, hu, ru⟩ := rv.get hx
    have hai := seb_ne p hit
    have hae : e ≠ a := by
      rintro rfl
      obtain ⟨o, n, e1, d1⟩ := p.obj
      rw [he] at e1; cases e1; cases d1
    have hel : e < s.heap.objs.size := Heap.lt_size he
    have hil : it < s.heap.objs.size := by obtain ⟨_, _, q, _⟩ := hit.obj; exact Heap.lt_size q
    have hlt : i < its.toArray.size := by
      have := (List.getElem?_eq_some_iff.mp hu).1
      simpa using this
    refine wpAny_pyNext_enum_itemC (c := (i : Int)) (draws_b (b := b) (A := X.A.in1) (I.ok.hd hc) hai) he ⟨hit, p⟩ hlt hne (by simp [hne, hae]) fun x2 h' tk hP ho st' hT hsz hk => ?_
    have hxu : x2 = u := by
      have h1 : its.toArray[i]? = some u := by simpa using hu
      rw [h1] at hP; exact (Option.some.inj hP).symm
    subst hxu
    refine ⟨_, rfl, wpAny_letOwnedTupleGo_enum (s := { s with heap := h', toks := tk + 1 }) ho fun h'' he' sb => ?_⟩
    have hT2 : h''.get? s.heap.objs.size = some { cls := .type "tuple", data := .seq #[.int i tk, x2] } := (sb.2 _ (Nat.ne_of_gt hel)).trans hT
    have new : ObjOk X.prog X.w (upd H s.heap.objs.size (.tup [.int (i : Nat), x])) h'' s.heap.objs.size (.tup [.int (i : Nat), x]) :=
      ⟨by show 2 ≤ sizeLine; decide, [.int i tk, x2], .cons ⟨_, rfl⟩ (.cons ru .nil), ⟨_, hT2, rfl, _, rfl⟩⟩
    have I1 : L2.Inv X pins σ (upd H s.heap.objs.size (.tup [.int (i : Nat), x])) { s with heap := h'', toks := tk + 1 } :=
      I.turnedNew (t' := tk + 1) (ch := [e, it]) (fun c ob hb q => (sb.2 c (fun z => hb (by simp [z]))).trans (hk c ob (fun z => hb (by simp [z])) (fun z => hb (by simp [z])) q)) hf (Nat.le_refl _) new
    refine ⟨.ref s.heap.objs.size, _, I1, rfl, ⟨_, x, rfl, I.hok.fresh (Nat.le_refl _), rfl, fun ys hy => by rw [Inv.seqB_inj I hy hq]; exact hx⟩, ⟨⟨x2, ?_⟩, st'.1.at fun o q => (sb.2 it (Ne.symm hne)).trans q, hne⟩, fun c hcm => ?_⟩
    · have e1 : ((i + 1 : Nat) : Int) = (i : Int) + 1 := by omega
      rw [e1]; exact he'
    · have hb' : c < s.heap.objs.size := by
        have e' : c = e ∨ c = it := by simpa using hcm
        rcases e' with z | z
        · rw [z]; exact hel
        · rw [z]; exact hil
      rw [upd_ne (Nat.ne_of_lt hb')]
      exact (hf c hcm).1
  done := by
    intro X hP hw hK hc i pins s σ H E I hf st hg
    subst hP hw hK
    obtain ⟨⟨old, he⟩, hit, hne⟩ := st
    obtain ⟨xs, hq, hx⟩ := hg
    obtain ⟨its, rv, p⟩ := Inv.seqB I hq
    obtain ⟨f0, f1, f2, f3, f4, f5⟩ := hf it (by simp)
    have hl := rv.length
    have hi : i = its.toArray.size := by simp; omega
    subst hi
    exact wpAny_pyNext_enum_endD (draws_b (b := b) (A := X.A.in1) (I.ok.hd hc) (seb_ne p hit)) he ⟨hit, p⟩ fun h' eb => ⟨rfl, I.turned (t' := s.toks) (fun b o hb q => eb b o hb q) f0 f1 f3 f4 f5⟩
  self := fun A i s Q E st h => let ⟨⟨_, he⟩, _⟩ := st; wpAny_pyIter_enum he h
set_option maxHeartbeats 8000000 in
theorem meets_enum_b {v : Value} {o : Obj} {H : Heap → Prop} (B : Begins v o H) :
    Meets (Builtin.«enumerate.__new__» ⟨[.type "enumerate", v], []⟩) (fun _ R s => H s.heap ∧
      R (.ok (.ret (.ref (s.heap.push o).objs.size))) { s with heap := (s.heap.push o).push { cls := .type "enumerate", data := .fields #[.none, .bool false, .ref s.heap.objs.size, rawInt 0, .none, .none] } }) :=
  .of_wp fun prog w A R s h => by
    obtain ⟨hp, g, d, tk, os⟩ := s; obtain ⟨h1, h⟩ := h
    have hsub := sub_enumerate
    have q1 : ∀ {A' : Around} {E : Value → Shared → Prop} {Q : Value → Shared → Prop}, Q (.ref hp.objs.size) ⟨hp.push o, g, d, tk, os⟩ → wpAny (model prog w) A' (pyIter v) Q E ⟨hp, g, d, tk, os⟩ :=
      fun q => B.iter prog w _ _ ⟨hp, g, d, tk, os⟩ _ h1 q
    wp_walk using q1
    refine wpAny_stack_any fun st => wpAny_pure ?_
    split
    · rename_i c _ _ _ _ _
      cases (c == Value.type "enumerate")
      · wp_walk using q1
        exact ⟨_, rfl, h⟩
      · wp_walk using q1
        exact ⟨_, rfl, h⟩
    · wp_walk using q1
      exact ⟨_, rfl, h⟩
theorem call_enum_b {prog : Program} {w : World} {A : Around} {E : Value → Shared → Prop} {s : Shared} {v : Value} {o : Obj} {H : Heap → Prop} {Q : Value → Shared → Prop} (B : Begins v o H) (h1 : H s.heap)
    (h : ∀ h', IsEnum h' (s.heap.objs.size + 1) s.heap.objs.size 0 .none → h'.get? s.heap.objs.size = some o → h'.objs.size = s.heap.objs.size + 2 →
      (∀ b o, s.heap.get? b = some o → h'.get? b = some o) → Q (.ref (s.heap.objs.size + 1)) { s with heap := h' }) :
    wpAny (model prog w) A (call (.type "enumerate") [v]) Q E s := by
  refine callType_new F.called_enumerate (by decide) (F.typeCall_enumerate_1 _) (F.newCall_enumerate_1 _) (fun obj => F.args_object_init_2 obj _) F.entry_enumerate_new
    (meets_enum_b B) ⟨h1, ?_⟩
  have hz : (s.heap.push o).objs.size = s.heap.objs.size + 1 := Heap.size_push ..
  show _ ∧ _
  rw [hz]
  have he : IsEnum ((s.heap.push o).push { cls := .type "enumerate", data := .fields #[.none, .bool false, .ref s.heap.objs.size, rawInt 0, .none, .none] }) (s.heap.objs.size + 1) s.heap.objs.size 0 .none := by
    have := Heap.get?_push_size (s.heap.push o) (o := { cls := .type "enumerate", data := .fields #[.none, .bool false, .ref s.heap.objs.size, rawInt 0, .none, .none] }) rfl
    rw [hz] at this; exact this
  refine ⟨⟨_, he, rfl⟩, h _ he (Heap.get?_push_of_some _ (Heap.get?_push_size _ B.free)) (by rw [Heap.size_push, hz]) fun b o x => Heap.get?_push_of_some _ (Heap.get?_push_of_some _ x)⟩
def iEnumA (K : PySem.W.Frag) (ta : TA) : TI := fun σ H R => ta σ H fun vs H1 => ∃ a b xs, vs = [.ref a] ∧ SqB K b H1 a xs ∧ R (IteB b K a) H1
theorem pi_enumA {X : Cx} {e : Expr} {ta : TA} {p pos tpos : Pos} {elts : List Expr} {kk : Nat} (hg : Gl X "enumerate") (hm : X.mg "enumerate" = none) (ha : PA X [e] ta) (hs : starEach [e] X.env = [(false, eval e X.env)] := by rfl) :
    PI X (.Tuple elts kk tpos) (.Call (.Name "enumerate" p) [e] [] pos) (iEnumA X.K ta) := by
  refine ⟨fun pins s σ H R I h => ?_⟩
  refine Call_ (ld_blt I hg hm boot_enumerate (PyProof.Rows.callWith_type1 (thn (ha.run pos pins s σ H _ I h) fun us s1 ⟨vs, H1, I1, r1, q1⟩ => ?_) hs rfl))
  obtain ⟨a, b, xs, ex, hq, q⟩ := q1
  subst ex
  cases r1 with
  | cons r rr =>
    cases rr
    cases r
    obtain ⟨its, rv, p'⟩ := Inv.seqB I1 hq
    refine call_enum_b begins_b p' fun h' he hit hsz hk => wpAny_pyIter_enum he ?_
    have I2 : L2.Inv X pins σ H1 { s1 with heap := h' } := I1.kept (t' := s1.toks) hk
    refine ⟨s1.heap.objs.size + 1, [s1.heap.objs.size + 1, s1.heap.objs.size], _, _, H1, rfl, I2, turn_enumB a (s1.heap.objs.size + 1) s1.heap.objs.size, ⟨⟨.none, he⟩, ItB.begun hit, Nat.succ_ne_self _⟩, fun b hb => ?_, q⟩
    have e' : b = s1.heap.objs.size + 1 ∨ b = s1.heap.objs.size := by simpa using hb
    have hle : s1.heap.objs.size ≤ b := by
      rcases e' with z | z
      · rw [z]; exact Nat.le_add_right _ _
      · rw [z]; exact Nat.le_refl _
    exact I1.fpOk hle (I1.hok.fresh hle)
end DL

set_option Elab.async false
set_option linter.all false
set_option maxRecDepth 100000
set_option maxHeartbeats 4000000
set_option autoImplicit false
namespace DL
open PySem PySem.Spec PyProof.Rows L2
/-! ### a strict zip -/
abbrev IsZipS (h : Heap) (z TI TO : Addr) (f0 : Value) : Prop :=
  h.get? z = some { cls := .type "zip", dict := none, data := .fields #[f0, .bool false, .bool true, .ref TI, .ref TO], slots := #[] }
section
variable {prog : Program} {w : World} {A : Around} {E : Value → Shared → Prop} {s : Shared} {z TI TO i1 i2 : Addr} {fp1 fp2 : List Addr} {n1 n2 i : Nat} {P1 P2 : Nat → Value → Prop} {St1 St2 : Nat → Heap → Prop} {a1 a2 : Value}
theorem wpAny_no {α : Type} {c : Prop} [Decidable c] {a b : Sem α} {Q : α → Shared → Prop} (hc : ¬ c) (h : wpAny (model prog w) A b Q E s) : wpAny (model prog w) A (if c then a else b) Q E s := by rw [if_neg hc]; exact h
theorem nextOrEnd_item {it : Addr} {fp : List Addr} {n : Nat} {P : Nat → Value → Prop} {St : Nat → Heap → Prop} (D : Draws prog w A it fp n P St) {Q : Option Value → Shared → Prop} (hi : i < n) (st : St i s.heap)
    (hQ : ∀ x h' tk, P i x → St (i + 1) h' → Heap.SameBut it s.heap h' → Q (some x) { s with heap := h', toks := tk }) : wpAny (model prog w) A (Builtin.SmallTypes.nextOrEnd (.ref it)) Q E s := by
  unfold Builtin.SmallTypes.nextOrEnd
  exact wpAny_bind (wpAny_attempt (D.item i s _ _ hi st fun x h' tk hp hs hb => wpAny_pure (hQ x h' tk hp hs hb)))
theorem nextOrEnd_end {it : Addr} {fp : List Addr} {n : Nat} {P : Nat → Value → Prop} {St : Nat → Heap → Prop} (D : Draws prog w A it fp n P St) {Q : Option Value → Shared → Prop} (st : St n s.heap)
    (hQ : ∀ h', Heap.ExtBut it s.heap h' → Q none { s with heap := h' }) : wpAny (model prog w) A (Builtin.SmallTypes.nextOrEnd (.ref it)) Q E s := by
  unfold Builtin.SmallTypes.nextOrEnd
  refine wpAny_bind (wpAny_attempt (D.done s _ _ st fun h' e hb ⟨o, ho, hc⟩ => ?_))
  exact wpAny_bind (wpAny_isInstance (T := "StopIteration") (b := true) ⟨o, ho, hc⟩ isSubtype_stop (wpAny_pure (hQ h' hb)))
theorem zipS_next_item {Q : Value → Shared → Prop} (S : ZipSep2 z TI TO i1 i2 fp1 fp2) (D1 : Draws prog w A i1 fp1 n1 P1 St1) (D2 : Draws prog w A i2 fp2 n2 P2 St2)
    (hz : IsZipS s.heap z TI TO .none) (hTI : IsTupOf2 s.heap TI (.ref i1) (.ref i2)) (hTO : IsTupOf2 s.heap TO a1 a2) (st1 : St1 i s.heap) (st2 : St2 i s.heap) (hlt1 : i < n1) (hlt2 : i < n2)
    (hQ : ∀ x1 x2 h' tk, P1 i x1 → P2 i x2 → IsZipS h' z TI TO (rawInt s.heap.objs.size) → IsTupOf2 h' TO x1 x2 → St1 (i + 1) h' → St2 (i + 1) h' → IsTupOf2 h' s.heap.objs.size x1 x2 → h'.objs.size = s.heap.objs.size + 1 →
      (∀ c o, c ≠ z → c ≠ TO → c ≠ i1 → c ≠ i2 → s.heap.get? c = some o → h'.get? c = some o) → Q (.ref s.heap.objs.size) { s with heap := h', toks := tk }) :
    wpAny (model prog w) A (Builtin.«zip.__next__» ⟨[.ref z], []⟩) (fun fin s' => ∃ v, fin = .done (.ret v) ∧ Q v s') E s := by
  obtain ⟨hp, g, d, tk0, os⟩ := s
  show wpAny _ _ (field (.ref z) 2 >>= _) _ _ _
  refine wpAny_bind (wpAny_field hz rfl (x := .bool true) rfl ?_)
  show wpAny _ _ (field (.ref z) 3 >>= _) _ _ _
  refine wpAny_bind (wpAny_field hz rfl (x := .ref TI) rfl ?_)
  refine wpAny_bind (wpAny_seqItems hTI rfl ?_)
  show wpAny _ _ (Builtin.SmallTypes.ownedTupleIsFree (.ref z) >>= _) _ _ _
  refine wpAny_bind ?_
  unfold Builtin.SmallTypes.ownedTupleIsFree
  refine wpAny_bind (wpAny_field hz rfl (x := .none) rfl (wpAny_pure ?_))
  simp only [if_true]
  refine wpAny_bind (wpAny_rule ?_)
  refine wpAny_bind (wpAny_field hz rfl (x := .ref TO) rfl ?_)
  refine wpAny_bind (wpAny_setField_rec hz (by simp) fun g0 hz0 hs0 => ?_)
  replace hz0 : IsZipS g0 z TI TO .ellipsis := hz0
  replace hs0 : Heap.SameBut z hp g0 := hs0
  refine wpAny_bind ?_
  simp only [List.zipIdx_cons, List.zipIdx_nil, List.forIn_cons, List.forIn_nil]
  refine wpAny_bind (wpAny_bind (wpAny_onRaise ?_))
  show wpAny _ _ (Builtin.SmallTypes.nextOrEnd (.ref i1)) _ _ ⟨g0, g, d, tk0, os⟩
  refine nextOrEnd_item D1 hlt1 (D1.over st1 hs0 S.zf1) fun x1 p1 tk1 hx1 sn1 hp1 => ?_
  replace hp1 : Heap.SameBut i1 g0 p1 := hp1
  have hU1 : IsTupOf2 p1 TO a1 a2 := hp1.extBut _ _ S.Ti1 (hs0.extBut _ _ S.TOz hTO)
  refine wpAny_bind (wpAny_seqItems (s := ⟨p1, g, d, tk1, os⟩) hU1 rfl ?_)
  refine wpAny_bind (updateSeq_IsTupOf2 (s := ⟨p1, g, d, tk1, os⟩) hU1 fun g1 hT1 hs1 => ?_)
  replace hT1 : IsTupOf2 g1 TO x1 a2 := hT1
  replace hs1 : Heap.SameBut TO p1 g1 := hs1
  refine wpAny_bind (wpAny_letGo (wpAny_pure ?_))
  refine wpAny_bind (wpAny_bind (wpAny_onRaise ?_))
  show wpAny _ _ (Builtin.SmallTypes.nextOrEnd (.ref i2)) _ _ ⟨g1, g, d, tk1, os⟩
  refine nextOrEnd_item D2 hlt2 (D2.over (D2.over (D2.over st2 hs0 S.zf2) hp1 S.sep1_2) hs1 S.Tf2) fun x2 p2 tk2 hx2 sn2 hp2 => ?_
  replace hp2 : Heap.SameBut i2 g1 p2 := hp2
  have hU2 : IsTupOf2 p2 TO x1 a2 := hp2.extBut _ _ S.Ti2 hT1
  refine wpAny_bind (wpAny_seqItems (s := ⟨p2, g, d, tk2, os⟩) hU2 rfl ?_)
  refine wpAny_bind (updateSeq_IsTupOf2 (s := ⟨p2, g, d, tk2, os⟩) hU2 fun g2 hT2 hs2 => ?_)
  replace hT2 : IsTupOf2 g2 TO x1 x2 := hT2
  replace hs2 : Heap.SameBut TO p2 g2 := hs2
  refine wpAny_bind (wpAny_letGo (wpAny_pure (wpAny_pure ?_)))
  refine wpAny_bind (wpAny_seqItems (s := ⟨g2, g, d, tk2, os⟩) hT2 rfl ?_)
  refine wpAny_bind (wpAny_newTuple ?_)
  have hsz : g2.objs.size = hp.objs.size := by rw [hs2.1, hp2.1, hs1.1, hp1.1, hs0.1]
  have hzz : IsZipS g2 z TI TO .ellipsis := (hs2.extBut _ _ S.TOz.symm (hp2.extBut _ _ S.zi2 (hs1.extBut _ _ S.TOz.symm (hp1.extBut _ _ S.zi1 hz0))))
  have hkk : ∀ c o, c ≠ z → c ≠ TO → c ≠ i1 → c ≠ i2 → hp.get? c = some o → g2.get? c = some o := fun c o cz cT c1 c2 e =>
    (hs2.extBut _ _ cT (hp2.extBut _ _ c2 (hs1.extBut _ _ cT (hp1.extBut _ _ c1 (hs0.extBut _ _ cz e)))))
  have hj1 : St1 (i + 1) g2 := (D1.over (D1.over (D1.over sn1 hs1 S.Tf1) hp2 S.sep2_1) hs2 S.Tf1)
  have hj2 : St2 (i + 1) g2 := (D2.over sn2 hs2 S.Tf2)
  have hzlt : z < g2.objs.size := Heap.lt_size hzz
  show wpAny _ _ (Builtin.SmallTypes.ownedTupleHandOut (.ref z) (.ref g2.objs.size) >>= _) _ _ ⟨g2.push { cls := .type "tuple", data := .seq #[x1, x2] }, g, d, tk2, os⟩
  refine wpAny_bind ?_
  unfold Builtin.SmallTypes.ownedTupleHandOut
  have hz₆ : IsZipS (g2.push { cls := .type "tuple", data := .seq #[x1, x2] }) z TI TO .ellipsis := Heap.get?_push_of_some _ hzz
  refine wpAny_bind (wpAny_setField_rec hz₆ (by simp) fun h₇ hz₇ hs₇ => ?_)
  replace hz₇ : IsZipS h₇ z TI TO (rawInt g2.objs.size) := hz₇
  refine wpAny_setField_rec hz₇ (by simp) fun h₈ hz₈ hs₈ => ?_
  replace hz₈ : IsZipS h₈ z TI TO (rawInt g2.objs.size) := hz₈
  replace hs₇ : Heap.SameBut z (g2.push { cls := .type "tuple", data := .seq #[x1, x2] }) h₇ := hs₇
  replace hs₈ : Heap.SameBut z h₇ h₈ := hs₈
  have up : ∀ c o, c ≠ z → g2.get? c = some o → h₈.get? c = some o := fun c o c1 e => hs₈.extBut _ _ c1 (hs₇.extBut _ _ c1 (Heap.get?_push_of_some _ e))
  have hT₈ : IsTupOf2 h₈ g2.objs.size x1 x2 := hs₈.extBut _ _ (Nat.ne_of_gt hzlt) (hs₇.extBut _ _ (Nat.ne_of_gt hzlt) (Heap.get?_push_size _ rfl))
  have hz8 : h₈.objs.size = g2.objs.size + 1 := by rw [hs₈.1, hs₇.1, Heap.size_push]
  rw [hsz] at hz₈ hT₈ hz8
  refine wpAny_pure ⟨_, rfl, ?_⟩
  show Q (.ref g2.objs.size) ⟨h₈, g, d, tk2, os⟩
  rw [hsz]
  exact hQ x1 x2 h₈ tk2 hx1 hx2 hz₈ (up _ _ S.TOz hT2) (D1.frame _ _ _ hj1 fun b hb o e => up b o (fun q => S.zf1 (q ▸ hb)) e) (D2.frame _ _ _ hj2 fun b hb o e => up b o (fun q => S.zf2 (q ▸ hb)) e) hT₈ hz8 fun c o cz cT c1 c2 e => up c o cz (hkk c o cz cT c1 c2 e)
theorem zipS_next_end {Q : Fin → Shared → Prop} (hh : A.handled = none) (S : ZipSep2 z TI TO i1 i2 fp1 fp2) (D1 : Draws prog w A i1 fp1 n1 P1 St1) (D2 : Draws prog w A i2 fp2 n2 P2 St2)
    (hz : IsZipS s.heap z TI TO .none) (hTI : IsTupOf2 s.heap TI (.ref i1) (.ref i2)) (hTO : IsTupOf2 s.heap TO a1 a2) (st1 : St1 i s.heap) (st2 : St2 i s.heap) (e1 : i = n1) (e2 : i = n2)
    (hE : ∀ h' tk e, (∀ c o, c ≠ z → c ≠ TO → c ≠ i1 → c ≠ i2 → s.heap.get? c = some o → h'.get? c = some o) → (∃ o, h'.get? e = some o ∧ o.cls = .type "StopIteration") → E (.ref e) { s with heap := h', toks := tk }) :
    wpAny (model prog w) A (Builtin.«zip.__next__» ⟨[.ref z], []⟩) Q E s := by
  obtain ⟨hp, g, d, tk0, os⟩ := s
  show wpAny _ _ (field (.ref z) 2 >>= _) _ _ _
  refine wpAny_bind (wpAny_field hz rfl (x := .bool true) rfl ?_)
  show wpAny _ _ (field (.ref z) 3 >>= _) _ _ _
  refine wpAny_bind (wpAny_field hz rfl (x := .ref TI) rfl ?_)
  refine wpAny_bind (wpAny_seqItems hTI rfl ?_)
  show wpAny _ _ (Builtin.SmallTypes.ownedTupleIsFree (.ref z) >>= _) _ _ _
  refine wpAny_bind ?_
  unfold Builtin.SmallTypes.ownedTupleIsFree
  refine wpAny_bind (wpAny_field hz rfl (x := .none) rfl (wpAny_pure ?_))
  simp only [if_true]
  refine wpAny_bind (wpAny_rule ?_)
  refine wpAny_bind (wpAny_field hz rfl (x := .ref TO) rfl ?_)
  refine wpAny_bind (wpAny_setField_rec hz (by simp) fun g0 hz0 hs0 => ?_)
  replace hz0 : IsZipS g0 z TI TO .ellipsis := hz0
  replace hs0 : Heap.SameBut z hp g0 := hs0
  refine wpAny_bind ?_
  simp only [List.zipIdx_cons, List.zipIdx_nil, List.forIn_cons, List.forIn_nil]
  refine wpAny_bind (wpAny_bind (wpAny_onRaise ?_))
  show wpAny _ _ (Builtin.SmallTypes.nextOrEnd (.ref i1)) _ _ ⟨g0, g, d, tk0, os⟩
  refine nextOrEnd_end D1 (by rw [← e1]; exact D1.over st1 hs0 S.zf1) fun q hq => ?_
  replace hq : Heap.ExtBut i1 g0 q := hq
  have hzq : IsZipS q z TI TO .ellipsis := hq _ _ S.zi1 hz0
  refine wpAny_bind (wpAny_setField_rec (s := ⟨q, g, d, tk0, os⟩) hzq (by simp) fun q' hzq' hq' => ?_)
  replace hq' : Heap.SameBut z q q' := hq'
  refine wpAny_bind ?_
  show wpAny _ _ (forIn (List.zipIdx (List.drop 1 [Value.ref i1, Value.ref i2]) 1) PUnit.unit _ >>= _) _ _ _
  simp only [List.drop_succ_cons, List.drop_zero, List.zipIdx_cons, List.zipIdx_nil, List.forIn_cons, List.forIn_nil]
  refine wpAny_bind (wpAny_bind (wpAny_bind (nextOrEnd_end D2 (by rw [← e2]; exact D2.over (D2.frame _ _ _ (D2.over st2 hs0 S.zf2) fun b hb o e => hq b o (fun x => S.sep1_2 (x ▸ hb)) e) hq' S.zf2) fun q2 hq2 => ?_)))
  replace hq2 : Heap.ExtBut i2 q' q2 := hq2
  rw [if_neg (show ¬ ((none : Option Value).isSome = true) from Bool.false_ne_true)]
  refine wpAny_pure (wpAny_pure (wpAny_bind (wpAny_rule ?_)))
  show wpAny _ _ (newExc (.type "StopIteration") [] >>= _) _ _ _
  refine wpAny_bind ?_
  simp only [newExc, newTuple]
  refine wpAny_bind (wpAny_newObj_type ?_ (by size_fits))
  refine wpAny_bind (m := firstArgMember _ _) (wpAny_of_eq (a := Value.none) (by first | rfl | (simp only [firstArgMember]; rfl)) ?_)
  refine wpAny_newObj_type ?_ (by size_fits)
  simp only [raiseNew]
  refine wpAny_bind (wpAny_handled ?_)
  rw [hh]
  refine wpAny_bind (wpAny_pure (wpAny_throw ?_))
  have hk : ∀ c o, c ≠ z → c ≠ TO → c ≠ i1 → c ≠ i2 → hp.get? c = some o → q2.get? c = some o := fun c o cz cT c1 c2 x => hq2 _ _ c2 (hq'.extBut _ _ cz (hq _ _ c1 (hs0.extBut _ _ cz x)))
  exact hE _ tk0 _ (fun c o cz cT c1 c2 x => Heap.get?_push_of_some _ (Heap.get?_push_of_some _ (hk c o cz cT c1 c2 x))) ⟨_, Heap.get?_push_size _ rfl, rfl⟩
theorem pyNext_zipS_item {Q : Option Value → Shared → Prop} (S : ZipSep2 z TI TO i1 i2 fp1 fp2) (D1 : Draws prog w A.in1 i1 fp1 n1 P1 St1) (D2 : Draws prog w A.in1 i2 fp2 n2 P2 St2)
    (hz : IsZipS s.heap z TI TO .none) (hTI : IsTupOf2 s.heap TI (.ref i1) (.ref i2)) (hTO : IsTupOf2 s.heap TO a1 a2) (st1 : St1 i s.heap) (st2 : St2 i s.heap) (hlt1 : i < n1) (hlt2 : i < n2)
    (hQ : ∀ x1 x2 h' tk, P1 i x1 → P2 i x2 → IsZipS h' z TI TO (rawInt s.heap.objs.size) → IsTupOf2 h' TO x1 x2 → St1 (i + 1) h' → St2 (i + 1) h' → IsTupOf2 h' s.heap.objs.size x1 x2 → h'.objs.size = s.heap.objs.size + 1 →
      (∀ c o, c ≠ z → c ≠ TO → c ≠ i1 → c ≠ i2 → s.heap.get? c = some o → h'.get? c = some o) → Q (some (.ref s.heap.objs.size)) { s with heap := h', toks := tk }) :
    wpAny (model prog w) A (pyNext (.ref z)) Q E s := by
  have hT : s.TypeIs (.ref z) "zip" := ⟨_, hz, rfl⟩
  unfold pyNext
  exact wpAny_bind (wpAny_attempt (wpAny_callSpecial?_slot (name := Str.ofString "__next__") hT F.slot_zip_next
    (wpAny_call_entry F.slot_zip_next hT F.entry_zip_next
      (zipS_next_item S D1 D2 hz hTI hTO st1 st2 hlt1 hlt2 fun x1 x2 h' tk y1 y2 b1 b2 d1 d2 b5 b6 b7 => wpAny_pure (hQ x1 x2 h' tk y1 y2 b1 b2 d1 d2 b5 b6 b7)) (F.args_zip_next_1 _))))
theorem pyNext_zipS_end {Q : Option Value → Shared → Prop} (hh : A.handled = none) (S : ZipSep2 z TI TO i1 i2 fp1 fp2) (D1 : Draws prog w A.in1 i1 fp1 n1 P1 St1) (D2 : Draws prog w A.in1 i2 fp2 n2 P2 St2)
    (hz : IsZipS s.heap z TI TO .none) (hTI : IsTupOf2 s.heap TI (.ref i1) (.ref i2)) (hTO : IsTupOf2 s.heap TO a1 a2) (st1 : St1 i s.heap) (st2 : St2 i s.heap) (e1 : i = n1) (e2 : i = n2)
    (hQ : ∀ h' tk, (∀ c o, c ≠ z → c ≠ TO → c ≠ i1 → c ≠ i2 → s.heap.get? c = some o → h'.get? c = some o) → Q none { s with heap := h', toks := tk }) : wpAny (model prog w) A (pyNext (.ref z)) Q E s := by
  have hT : s.TypeIs (.ref z) "zip" := ⟨_, hz, rfl⟩
  unfold pyNext
  refine wpAny_bind (wpAny_attempt (wpAny_callSpecial?_slot (name := Str.ofString "__next__") hT F.slot_zip_next
    (wpAny_call_entry F.slot_zip_next hT F.entry_zip_next (zipS_next_end (A := A.in1) hh S D1 D2 hz hTI hTO st1 st2 e1 e2 fun h' tk e hk he => ?_) (F.args_zip_next_1 _))))
  obtain ⟨o, ho, hc⟩ := he
  refine wpAny_bind (wpAny_isInstance (T := "StopIteration") (b := true) ⟨o, ho, hc⟩ isSubtype_stop ?_)
  exact wpAny_pure (hQ _ _ hk)
theorem letGo_zipS {elts : List Expr} {x1} {pos : Pos} {z TI TO T : Addr} {Q : Unit → Shared → Prop} (hz : IsZipS s.heap z TI TO (rawInt T))
    (hQ : ∀ h', IsZipS h' z TI TO .none → Heap.SameBut z s.heap h' → Q () { s with heap := h' }) :
    wpAny (model prog w) A (letOwnedTupleGo (.Tuple elts x1 pos) (.ref z) (.ref T)) Q E s := by
  unfold letOwnedTupleGo
  refine wpAny_bind (wpAny_load hz ?_)
  show wpAny _ _ (if (["enumerate", "zip", "dict_itemiterator", "dict_reverseitemiterator", "odict_iterator", "itertools.zip_longest", "itertools.pairwise"].contains "zip" &&
      (#[rawInt T, .bool false, .bool true, .ref TI, .ref TO] : Array Value)[0]? == some (rawInt T)) = true then _ else _) Q E s
  rw [if_pos (by simp)]
  refine wpAny_bind (wpAny_rule ?_)
  show wpAny _ _ (setField (.ref z) 0 .none) Q E s
  exact wpAny_setField_rec hz (by simp) fun h' hz' hs' => hQ h' hz' hs'
theorem pyIter_zipS {z TI TO : Addr} {f0 : Value} {Q : Value → Shared → Prop} (hz : IsZipS s.heap z TI TO f0) (h : Q (.ref z) s) : wpAny (model prog w) A (pyIter (.ref z)) Q E s := by
  have hT : s.TypeIs (.ref z) "zip" := ⟨_, hz, rfl⟩
  refine wpAny_pyIter_slot hT F.slot_zip_iter (wpAny_call_entry F.slot_zip_iter hT F.entry_zip_iter ?_ (F.args_zip_iter_1 _))
  show wpAny _ _ (ret (.ref z)) _ _ s
  exact wpAny_pure ⟨_, rfl, "zip", _, hT, F.slot_zip_next.lookup, h⟩
end
end DL

set_option Elab.async false
set_option linter.all false
set_option maxRecDepth 100000
set_option maxHeartbeats 4000000
set_option autoImplicit false
namespace DL
open PySem PySem.Spec PyProof.Rows L2
/-! ### zip of two sequences, strict or not -/
abbrev IsZf (sf : Bool) (h : Heap) (z TI TO : Addr) (f0 : Value) : Prop :=
  h.get? z = some { cls := .type "zip", dict := none, data := .fields #[f0, .bool false, .bool sf, .ref TI, .ref TO], slots := #[] }
section
variable {prog : Program} {w : World} {A : Around} {E : Value → Shared → Prop} {s : Shared} {z TI TO i1 i2 : Addr} {fp1 fp2 : List Addr} {n1 n2 i : Nat} {P1 P2 : Nat → Value → Prop} {St1 St2 : Nat → Heap → Prop} {a1 a2 : Value} {sf : Bool}
theorem pyNext_zf_item {Q : Option Value → Shared → Prop} (S : ZipSep2 z TI TO i1 i2 fp1 fp2) (D1 : Draws prog w A.in1 i1 fp1 n1 P1 St1) (D2 : Draws prog w A.in1 i2 fp2 n2 P2 St2)
    (hz : IsZf sf s.heap z TI TO .none) (hTI : IsTupOf2 s.heap TI (.ref i1) (.ref i2)) (hTO : IsTupOf2 s.heap TO a1 a2) (st1 : St1 i s.heap) (st2 : St2 i s.heap) (hlt1 : i < n1) (hlt2 : i < n2)
    (hQ : ∀ x1 x2 h' tk, P1 i x1 → P2 i x2 → IsZf sf h' z TI TO (rawInt s.heap.objs.size) → IsTupOf2 h' TO x1 x2 → St1 (i + 1) h' → St2 (i + 1) h' → IsTupOf2 h' s.heap.objs.size x1 x2 → h'.objs.size = s.heap.objs.size + 1 →
      (∀ c o, c ≠ z → c ≠ TO → c ≠ i1 → c ≠ i2 → s.heap.get? c = some o → h'.get? c = some o) → Q (some (.ref s.heap.objs.size)) { s with heap := h', toks := tk }) :
    wpAny (model prog w) A (pyNext (.ref z)) Q E s := by
  cases sf with
  | true => exact pyNext_zipS_item S D1 D2 hz hTI hTO st1 st2 hlt1 hlt2 hQ
  | false => exact wpAny_pyNext_zipD2_item S D1 D2 hz hTI hTO st1 st2 hlt1 hlt2 hQ
/-- how a zip ends -/
def Zend (sf : Bool) (i n1 n2 : Nat) : Prop := match sf with
  | true => i = n1 ∧ i = n2
  | false => i ≤ n1 ∧ i ≤ n2 ∧ (i = n1 ∨ i = n2)
theorem pyNext_zf_end {Q : Option Value → Shared → Prop} (hh : A.handled = none) (S : ZipSep2 z TI TO i1 i2 fp1 fp2) (D1 : Draws prog w A.in1 i1 fp1 n1 P1 St1) (D2 : Draws prog w A.in1 i2 fp2 n2 P2 St2)
    (hz : IsZf sf s.heap z TI TO .none) (hTI : IsTupOf2 s.heap TI (.ref i1) (.ref i2)) (hTO : IsTupOf2 s.heap TO a1 a2) (st1 : St1 i s.heap) (st2 : St2 i s.heap) (e : Zend sf i n1 n2)
    (hQ : ∀ h' tk, (∀ c o, c ≠ z → c ≠ TO → c ≠ i1 → c ≠ i2 → s.heap.get? c = some o → h'.get? c = some o) → Q none { s with heap := h', toks := tk }) : wpAny (model prog w) A (pyNext (.ref z)) Q E s := by
  cases sf with
  | true => exact pyNext_zipS_end hh S D1 D2 hz hTI hTO st1 st2 e.1 e.2 hQ
  | false => exact wpAny_pyNext_zipD2_end S D1 D2 hz hTI hTO st1 st2 e.1 e.2.1 e.2.2 hQ
theorem letGo_zf {elts : List Expr} {x1} {pos : Pos} {z TI TO T : Addr} {Q : Unit → Shared → Prop} (hz : IsZf sf s.heap z TI TO (rawInt T))
    (hQ : ∀ h', IsZf sf h' z TI TO .none → Heap.SameBut z s.heap h' → Q () { s with heap := h' }) :
    wpAny (model prog w) A (letOwnedTupleGo (.Tuple elts x1 pos) (.ref z) (.ref T)) Q E s := by
  cases sf with
  | true => exact letGo_zipS hz hQ
  | false => exact wpAny_letOwnedTupleGo_zip hz hQ
theorem pyIter_zf {z TI TO : Addr} {f0 : Value} {Q : Value → Shared → Prop} (hz : IsZf sf s.heap z TI TO f0) (h : Q (.ref z) s) : wpAny (model prog w) A (pyIter (.ref z)) Q E s := by
  cases sf with
  | true => exact pyIter_zipS hz h
  | false => exact wpAny_pyIter_zip hz h
end
def ItzB (sf b1 b2 : Bool) (K : PySem.W.Frag) (a b : Addr) : It :=
  ⟨fun i H => ∃ (xs ys : List V) (x y : V), SqB K b1 H a xs ∧ SqB K b2 H b ys ∧ xs[i]? = some x ∧ ys[i]? = some y,
    fun i H v H' => ∃ T x y, v = .ref T ∧ H T = none ∧ H' = upd H T (.tup [x, y]) ∧ (∀ xs, SqB K b1 H a xs → xs[i]? = some x) ∧ ∀ ys, SqB K b2 H b ys → ys[i]? = some y,
    fun i H => ∃ xs ys : List V, SqB K b1 H a xs ∧ SqB K b2 H b ys ∧ Zend sf i xs.length ys.length⟩
theorem turn_zipB {sf b1 b2 : Bool} {P : Program} {w : World} {K : PySem.W.Frag} {elts : List Expr} {kk : Nat} {tpos : Pos} {a b z TI TO i1 i2 : Addr} (D : ZipSep2 z TI TO i1 i2 [i1, a] [i2, b]) :
    Turn P w K (.Tuple elts kk tpos) (ItzB sf b1 b2 K a b) [z, TI, TO, i1, i2] z (fun i h => IsZf sf h z TI TO .none ∧ IsTupOf2 h TI (.ref i1) (.ref i2) ∧ (∃ x y, IsTupOf2 h TO x y) ∧ ItB b1 h i1 a i ∧ ItB b2 h i2 b i) where
  mem := by simp
  obj := fun i h st c hc => by
    obtain ⟨hz, hTI, ⟨x, y, hTO⟩, t1, t2⟩ := st
    obtain ⟨o1, v1, e1, d1, _⟩ := t1.obj
    obtain ⟨o2, v2, e2, d2, _⟩ := t2.obj
    have e' : c = z ∨ c = TI ∨ c = TO ∨ c = i1 ∨ c = i2 := by simpa using hc
    rcases e' with q | q | q | q | q
    · rw [q]; exact ⟨_, hz, fun v q => nomatch q⟩
    · rw [q]; exact ⟨_, hTI, fun v q => nomatch q⟩
    · rw [q]; exact ⟨_, hTO, fun v q => nomatch q⟩
    · rw [q]; exact ⟨o1, e1, fun v q => by rw [d1] at q; cases q⟩
    · rw [q]; exact ⟨o2, e2, fun v q => by rw [d2] at q; cases q⟩
  keep := fun i h h' st k => by
    obtain ⟨hz, hTI, ⟨x, y, hTO⟩, h1, h2⟩ := st
    exact ⟨k z (by simp) _ hz, k TI (by simp) _ hTI, ⟨x, y, k TO (by simp) _ hTO⟩, h1.at fun o q => k i1 (by simp) o q, h2.at fun o q => k i2 (by simp) o q⟩
  item := by
    intro X hP hw hK hc i pins s σ H E I hf st hg
    subst hP hw hK
    obtain ⟨hz, hTI, ⟨x0, y0, hTO⟩, h1, h2⟩ := st
    obtain ⟨xs, ys, x, y, hqx, hqy, hx, hy⟩ := hg
    obtain ⟨its, rv, p⟩ := Inv.seqB I hqx
    obtain ⟨its2, rv2, p2⟩ := Inv.seqB I hqy
    obtain ⟨u, hu, ru⟩ := rv.get hx
    obtain ⟨u2, hu2, ru2⟩ := rv2.get hy
    have hzl : z < s.heap.objs.size := Heap.lt_size hz
    have l1 : i < its.toArray.size := by
      have := (List.getElem?_eq_some_iff.mp hu).1
      simpa using this
    have l2 : i < its2.toArray.size := by
      have := (List.getElem?_eq_some_iff.mp hu2).1
      simpa using this
    refine pyNext_zf_item D (draws_b (b := b1) (A := X.A.in1) (I.ok.hd hc) (seb_ne p h1)) (draws_b (b := b2) (A := X.A.in1) (I.ok.hd hc) (seb_ne p2 h2)) hz hTI hTO ⟨h1, p⟩ ⟨h2, p2⟩ l1 l2 fun w1 w2 h' tk q1 q2 z' TO' n1 n2 hT hsz hk => ?_
    have e1 : w1 = u := by
      have h3 : its.toArray[i]? = some u := by simpa using hu
      rw [h3] at q1; exact (Option.some.inj q1).symm
    have e2 : w2 = u2 := by
      have h3 : its2.toArray[i]? = some u2 := by simpa using hu2
      rw [h3] at q2; exact (Option.some.inj q2).symm
    subst e1 e2
    refine ⟨_, rfl, letGo_zf (s := { s with heap := h', toks := tk }) z' fun h'' z'' sb => ?_⟩
    have hT2 : h''.get? s.heap.objs.size = some { cls := .type "tuple", data := .seq #[w1, w2] } := (sb.2 _ (Nat.ne_of_gt hzl)).trans hT
    have new : ObjOk X.prog X.w (upd H s.heap.objs.size (.tup [x, y])) h'' s.heap.objs.size (.tup [x, y]) :=
      ⟨by show 2 ≤ sizeLine; decide, [w1, w2], .cons ru (.cons ru2 .nil), ⟨_, hT2, rfl, _, rfl⟩⟩
    have I1 : L2.Inv X pins σ (upd H s.heap.objs.size (.tup [x, y])) { s with heap := h'', toks := tk } :=
      I.turnedNew (t' := tk) (ch := [z, TI, TO, i1, i2]) (fun c o hb q => (sb.2 c (fun q' => hb (by simp [q']))).trans (hk c o (fun q' => hb (by simp [q'])) (fun q' => hb (by simp [q'])) (fun q' => hb (by simp [q'])) (fun q' => hb (by simp [q'])) q)) hf (Nat.le_refl _) new
    refine ⟨.ref s.heap.objs.size, _, I1, rfl, ⟨_, x, y, rfl, I.hok.fresh (Nat.le_refl _), rfl, fun l hl => by rw [Inv.seqB_inj I hl hqx]; exact hx, fun l hl => by rw [Inv.seqB_inj I hl hqy]; exact hy⟩, ⟨z'', ?_, ⟨w1, w2, ?_⟩, ?_, ?_⟩, fun c hcm => ?_⟩
    · exact (sb.2 _ D.TIz).trans (hk _ _ D.TIz D.TITO D.TIi1 D.TIi2 hTI)
    · exact (sb.2 _ D.TOz).trans TO'
    · exact n1.1.at fun o q => (sb.2 _ D.zi1.symm).trans q
    · exact n2.1.at fun o q => (sb.2 _ D.zi2.symm).trans q
    · have hlt : c < s.heap.objs.size := by
        obtain ⟨_, _, e1, _⟩ := h1.obj
        obtain ⟨_, _, e2, _⟩ := h2.obj
        have e' : c = z ∨ c = TI ∨ c = TO ∨ c = i1 ∨ c = i2 := by simpa using hcm
        rcases e' with q | q | q | q | q
        · rw [q]; exact hzl
        · rw [q]; exact Heap.lt_size hTI
        · rw [q]; exact Heap.lt_size hTO
        · rw [q]; exact Heap.lt_size e1
        · rw [q]; exact Heap.lt_size e2
      rw [upd_ne (Nat.ne_of_lt hlt)]
      exact (hf c hcm).1
  done := by
    intro X hP hw hK hc i pins s σ H E I hf st hg
    subst hP hw hK
    obtain ⟨hz, hTI, ⟨x0, y0, hTO⟩, h1, h2⟩ := st
    obtain ⟨xs, ys, hqx, hqy, hend⟩ := hg
    obtain ⟨its, rv, p⟩ := Inv.seqB I hqx
    obtain ⟨its2, rv2, p2⟩ := Inv.seqB I hqy
    have e1 : xs.length = its.toArray.size := by rw [rv.length]; simp
    have e2 : ys.length = its2.toArray.size := by rw [rv2.length]; simp
    rw [e1, e2] at hend
    exact pyNext_zf_end (I.ok.hd hc) D (draws_b (b := b1) (A := X.A.in1) (I.ok.hd hc) (seb_ne p h1)) (draws_b (b := b2) (A := X.A.in1) (I.ok.hd hc) (seb_ne p2 h2)) hz hTI hTO ⟨h1, p⟩ ⟨h2, p2⟩ hend fun h' tk hk => ⟨rfl, I.turnedL (t' := tk) (ch := [z, TI, TO, i1, i2]) (fun c o hb q =>
      hk c o (fun q' => hb (by simp [q'])) (fun q' => hb (by simp [q'])) (fun q' => hb (by simp [q'])) (fun q' => hb (by simp [q'])) q) hf⟩
  self := fun A i s Q E st h => pyIter_zf st.1 h
def iZipB (sf : Bool) (K : PySem.W.Frag) (ta : TA) : TI := fun σ H R => ta σ H fun vs H1 => ∃ a b b1 b2 xs ys, vs = [.ref a, .ref b] ∧ SqB K b1 H1 a xs ∧ SqB K b2 H1 b ys ∧ R (ItzB sf b1 b2 K a b) H1
theorem SeB.lt {b : Bool} {h : Heap} {a : Addr} {its : Array Value} (t : SeB b h a its) : a < h.objs.size := by
  obtain ⟨o, n, e, _⟩ := t.obj
  exact Heap.lt_size e
theorem zipB_fresh {X : Cx} {pins : List (Addr × Obj)} {σ : L2.St} {H1 : Hp} {s1 : Shared} (I1 : L2.Inv X pins σ H1 s1) : ∀ c, c ∈ [s1.heap.objs.size + 4, s1.heap.objs.size + 2, s1.heap.objs.size + 3, s1.heap.objs.size, s1.heap.objs.size + 1] → FpOk X pins H1 c := fun c hcm => by
  have e' : c = s1.heap.objs.size + 4 ∨ c = s1.heap.objs.size + 2 ∨ c = s1.heap.objs.size + 3 ∨ c = s1.heap.objs.size ∨ c = s1.heap.objs.size + 1 := by simpa using hcm
  have hle : s1.heap.objs.size ≤ c := by
    rcases e' with z | z | z | z | z
    · rw [z]; exact Nat.le_add_right _ _
    · rw [z]; exact Nat.le_add_right _ _
    · rw [z]; exact Nat.le_add_right _ _
    · rw [z]; exact Nat.le_refl _
    · rw [z]; exact Nat.le_add_right _ _
  exact I1.fpOk hle (I1.hok.fresh hle)
/-- zip(a, b) -/
theorem pi_zipB {X : Cx} {e e2 : Expr} {ta : TA} {p pos tpos : Pos} {elts : List Expr} {kk : Nat} (hg : Gl X "zip") (hm : X.mg "zip" = none) (ha : PA X [e, e2] ta)
    (hs : starEach [e, e2] X.env = (false, eval e X.env) :: starEach [e2] X.env := by rfl) (hpl : (backTo pos (starEach [e2] X.env)).any (·.1) = false := by rfl) :
    PI X (.Tuple elts kk tpos) (.Call (.Name "zip" p) [e, e2] [] pos) (iZipB false X.K ta) := by
  refine ⟨fun pins s σ H R I h => ?_⟩
  refine Call_ (ld_blt I hg hm PyProof.Rows.boot_zip (PyProof.Rows.callWith_type1 (thn (ha.run pos pins s σ H _ I h) fun us s1 ⟨vs, H1, I1, r1, q1⟩ => ?_) hs hpl))
  obtain ⟨a, b, b1, b2, xs, ys, ex, hqx, hqy, q⟩ := q1
  subst ex
  cases r1 with
  | cons r rr =>
    cases rr with
    | cons r' rr =>
      cases rr
      cases r
      cases r'
      obtain ⟨its, rv, p1⟩ := Inv.seqB I1 hqx
      obtain ⟨its2, rv2, p2⟩ := Inv.seqB I1 hqy
      refine zip_begins2 begins_b begins_b p1 p2 fun h' hz hTI hTO h1 h2 hsz hk => wpAny_pyIter_zip hz ?_
      have I2 : L2.Inv X pins σ H1 { s1 with heap := h' } := I1.kept (t' := s1.toks) hk
      exact ⟨s1.heap.objs.size + 4, [s1.heap.objs.size + 4, s1.heap.objs.size + 2, s1.heap.objs.size + 3, s1.heap.objs.size, s1.heap.objs.size + 1], _, _, H1, rfl, I2,
        turn_zipB (sf := false) (zip_sep2 (fp1 := [a]) (fp2 := [b]) (fun c hc => by rw [List.mem_singleton.mp hc]; exact p1.lt) (fun c hc => by rw [List.mem_singleton.mp hc]; exact p2.lt)),
        ⟨hz, hTI, ⟨_, _, hTO⟩, ItB.begun h1, ItB.begun h2⟩, zipB_fresh I1, q⟩
end DL

set_option Elab.async false
set_option linter.all false
set_option maxRecDepth 100000
set_option maxHeartbeats 4000000
set_option autoImplicit false
namespace DL
open PySem PySem.Spec PyProof.Rows L2
/-! ### zip(a, b, strict=..) -/
abbrev gzS2 (sf : Bool) (h : Heap) (o1 o2 : Obj) : Heap := (gzO2 h o1 o2).push { cls := .type "zip", data := .fields #[.none, .bool false, .bool sf, .ref ((h.push o1).push o2).objs.size, .ref (gzT2 h o1 o2).objs.size] }
theorem typeCall_zip_strict (a b c : Value) : checkTypeCall "zip" ⟨[a, b], [(Str.ofString "strict", c)]⟩ = pure () := by kernel_rfl
theorem newCall_zip_strict (a b c : Value) : checkBuiltinCall "zip.__new__" ⟨[.type "zip", a, b], [(Str.ofString "strict", c)]⟩ = pure () := by kernel_rfl
theorem args_object_init_strict (obj a b c : Value) : argsOk "object.__init__" ⟨[obj, a, b], [(Str.ofString "strict", c)]⟩ := by unfold argsOk; kernel_rfl
set_option maxHeartbeats 8000000 in
theorem meets_zip_newS {v1 v2 : Value} {o1 o2 : Obj} {H1 H2 : Heap → Prop} (B1 : Begins v1 o1 H1) (B2 : Begins v2 o2 H2) (sf : Bool) :
    Meets (Builtin.«zip.__new__» ⟨[.type "zip", v1, v2], [(Str.ofString "strict", .bool sf)]⟩) (fun _ R s => (H1 s.heap ∧ H2 s.heap) ∧
      R (.ok (.ret (.ref (gzO2 s.heap o1 o2).objs.size))) { s with heap := gzS2 sf s.heap o1 o2 }) :=
  .of_wp fun prog w A R s h => by
    obtain ⟨hp, g, d, tk, os⟩ := s; obtain ⟨⟨h1, h2⟩, h⟩ := h
    have hsub := sub_zip
    have e2 : (Str.ofString "strict" != ("strict" : Str)) = false := by decide +kernel
    have q1 : ∀ {A' : Around} {E : Value → Shared → Prop} {Q : Value → Shared → Prop}, Q (.ref hp.objs.size) ⟨(hp.push o1), g, d, tk, os⟩ → wpAny (model prog w) A' (pyIter v1) Q E ⟨hp, g, d, tk, os⟩ :=
      fun q => B1.iter prog w _ _ ⟨hp, g, d, tk, os⟩ _ (B1.keeps _ _ h1 fun b o' e => e) q
    have q2 : ∀ {A' : Around} {E : Value → Shared → Prop} {Q : Value → Shared → Prop}, Q (.ref (hp.push o1).objs.size) ⟨((hp.push o1).push o2), g, d, tk, os⟩ → wpAny (model prog w) A' (pyIter v2) Q E ⟨(hp.push o1), g, d, tk, os⟩ :=
      fun q => B2.iter prog w _ _ ⟨(hp.push o1), g, d, tk, os⟩ _ (B2.keeps _ _ h2 fun b o' e => (Heap.get?_push_of_some _ e)) q
    wp_walk using q1, q2
    exact ⟨_, rfl, h⟩
section
variable {prog : Program} {w : World} {A : Around} {E : Value → Shared → Prop} {s : Shared}
theorem zip_beginsS {v1 v2 : Value} {o1 o2 : Obj} {H1 H2 : Heap → Prop} {Q : Value → Shared → Prop} {sf : Bool} (B1 : Begins v1 o1 H1) (B2 : Begins v2 o2 H2) (h1 : H1 s.heap) (h2 : H2 s.heap)
    (h : ∀ h', IsZf sf h' (s.heap.objs.size + 4) (s.heap.objs.size + 2) (s.heap.objs.size + 3) .none → IsTupOf2 h' (s.heap.objs.size + 2) (.ref s.heap.objs.size) (.ref (s.heap.objs.size + 1)) →
      IsTupOf2 h' (s.heap.objs.size + 3) .none .none → h'.get? s.heap.objs.size = some o1 → h'.get? (s.heap.objs.size + 1) = some o2 → h'.objs.size = s.heap.objs.size + 5 →
      (∀ c o, s.heap.get? c = some o → h'.get? c = some o) → Q (.ref (s.heap.objs.size + 4)) { s with heap := h' }) :
    wpAny (model prog w) A (call (.type "zip") [v1, v2] [(Str.ofString "strict", .bool sf)]) Q E s := by
  refine callType_newKw F.called_zip (by decide) (typeCall_zip_strict _ _ _) (newCall_zip_strict _ _ _) (fun obj => args_object_init_strict obj _ _ _) F.entry_zip_new
    (meets_zip_newS B1 B2 sf) ⟨⟨h1, h2⟩, ?_⟩
  have z1 : (s.heap.push o1).objs.size = s.heap.objs.size + 1 := by rw [Heap.size_push]
  have z2 : ((s.heap.push o1).push o2).objs.size = s.heap.objs.size + 2 := by rw [Heap.size_push, z1]
  have zT : (gzT2 s.heap o1 o2).objs.size = s.heap.objs.size + 3 := by rw [Heap.size_push, z2]
  have zO : (gzO2 s.heap o1 o2).objs.size = s.heap.objs.size + 4 := by rw [Heap.size_push, zT]
  have zZ : (gzS2 sf s.heap o1 o2).objs.size = s.heap.objs.size + 5 := by rw [Heap.size_push, zO]
  have gZ : (gzS2 sf s.heap o1 o2).get? (gzO2 s.heap o1 o2).objs.size = some { cls := .type "zip", data := .fields #[.none, .bool false, .bool sf, .ref ((s.heap.push o1).push o2).objs.size, .ref (gzT2 s.heap o1 o2).objs.size] } := Heap.get?_push_size _ rfl
  have gO : (gzS2 sf s.heap o1 o2).get? (gzT2 s.heap o1 o2).objs.size = some { cls := .type "tuple", data := .seq #[.none, .none] } := Heap.get?_push_of_some _ (Heap.get?_push_size _ rfl)
  have gT : (gzS2 sf s.heap o1 o2).get? ((s.heap.push o1).push o2).objs.size = some { cls := .type "tuple", data := .seq #[.ref s.heap.objs.size, .ref (s.heap.push o1).objs.size] } := Heap.get?_push_of_some _ (Heap.get?_push_of_some _ (Heap.get?_push_size _ rfl))
  have g1 : (gzS2 sf s.heap o1 o2).get? s.heap.objs.size = some o1 := Heap.get?_push_of_some _ (Heap.get?_push_of_some _ (Heap.get?_push_of_some _ (Heap.get?_push_of_some _ (Heap.get?_push_size _ B1.free))))
  have g2 : (gzS2 sf s.heap o1 o2).get? (s.heap.push o1).objs.size = some o2 := Heap.get?_push_of_some _ (Heap.get?_push_of_some _ (Heap.get?_push_of_some _ (Heap.get?_push_size _ B2.free)))
  rw [zO, zT, z2] at gZ
  rw [zT] at gO
  rw [z2, z1] at gT
  rw [z1] at g2
  show _ ∧ _
  rw [zO]
  exact ⟨⟨_, gZ, rfl⟩, h _ gZ gT gO g1 g2 zZ fun c o e => Heap.get?_push_of_some _ (Heap.get?_push_of_some _ (Heap.get?_push_of_some _ (Heap.get?_push_of_some _ (Heap.get?_push_of_some _ e))))⟩
end
section
variable {M : Model} {A : Around} {E : Value → Shared → Prop} {s : Shared} {env : Env}
theorem callWith_type_kwB {pos : Pos} {T : String} {first : List Value} {args : List (Bool × Sem Value)} {keywords : List (Option Str × Sem Value)} {Q : Value → Shared → Prop}
    (hplain : args.any (·.1) = false) (hkw : keywords.any (·.1.isNone) = false)
    (h : wpAny M A (evalArgs (.type T) true args keywords) (fun a s₁ => wpAny M A (call (.type T) (first ++ a.pos) a.kw) Q E s₁) E s) :
    wpAny M A (callWith pos (.type T) first args keywords) Q E s := by
  unfold callWith
  refine wpAny_bind (wpAny_holding (wpAny_mono h (fun a s₁ h₁ => wpAny_bind (wpAny_standAt ?_)) fun _ _ x => x))
  simp only [hplain, hkw, Bool.or_false]
  refine wpAny_bind (wpAny_pure ?_)
  exact wpAny_bind (wpAny_mono h₁ (fun r s₂ hr => wpAny_bind (wpAny_holding (wpAny_point (wpAny_pure hr)))) fun _ _ x => x)
theorem callWith_typeKw {pos : Pos} {T : String} {e : Expr} {rest : List Expr} {kws : List Keyword} {Q : Value → Shared → Prop}
    (h : wpAny M A (spliced (backTo pos (starEach (e :: rest) env))) (fun vs s₁ => wpAny M A (evalAll ((backToKw pos (keywordEach kws env)).map (·.2)))
      (fun kvs s₂ => wpAny M A (call (.type T) vs (((backToKw pos (keywordEach kws env)).filterMap (·.1)).zip kvs)) Q E s₂) E s₁) E s)
    (he : backTo pos (starEach (e :: rest) env) = (false, eval e env) :: backTo pos (starEach rest env) := by rfl)
    (hplain : (backTo pos (starEach (e :: rest) env)).any (·.1) = false := by rfl)
    (hall : (backToKw pos (keywordEach kws env)).all (·.1.isSome) = true := by rfl)
    (hkw : (backToKw pos (keywordEach kws env)).any (·.1.isNone) = false := by rfl) :
    wpAny M A (callWith pos (.type T) [] (backTo pos (starEach (e :: rest) env)) (backToKw pos (keywordEach kws env))) Q E s := by
  refine callWith_type_kwB hplain hkw ?_
  rw [he] at h ⊢
  exact evalArgs_kwB hall h
end
theorem pi_zipS {X : Cx} {e e2 : Expr} {ta : TA} {p pos tpos kp kp2 : Pos} {elts : List Expr} {kk k3 : Nat} {sf : Bool} (hg : Gl X "zip") (hm : X.mg "zip" = none) (ha : PA X [e, e2] ta)
    (he : backTo pos (starEach [e, e2] X.env) = (false, eval e X.env) :: backTo pos (starEach [e2] X.env) := by rfl) (hpl : (backTo pos (starEach [e, e2] X.env)).any (·.1) = false := by rfl) :
    PI X (.Tuple elts kk tpos) (.Call (.Name "zip" p) [e, e2] [⟨some "strict", .Constant (.bool sf) k3 kp, kp2⟩] pos) (iZipB sf X.K ta) := by
  refine ⟨fun pins s σ H R I h => ?_⟩
  refine wpAny_Call_Name_kw (ld_blt I hg hm PyProof.Rows.boot_zip (callWith_typeKw (thn (ha.run pos pins s σ H _ I h) fun us s1 ⟨vs, H1, I1, r1, q1⟩ => ?_) he hpl))
  obtain ⟨a, b, b1, b2, xs, ys, ex, hqx, hqy, q⟩ := q1
  subst ex
  cases r1 with
  | cons r rr =>
    cases rr with
    | cons r' rr =>
      cases rr
      cases r
      cases r'
      obtain ⟨its, rv, p1⟩ := Inv.seqB I1 hqx
      obtain ⟨its2, rv2, p2⟩ := Inv.seqB I1 hqy
      refine kws_cons ((pe_bl (X := X) (b := sf)).run pins s1 σ H1 (fun v H2 => v = .bl sf ∧ H2 = H1) I1 ⟨rfl, rfl⟩ |> fun hx => thn hx fun v s2 ⟨x, H2, I2, rx, ex, eh⟩ => ?_)
      subst ex eh
      cases rx
      refine kws_nil ?_
      show wpAny _ _ (call (.type "zip") [.ref a, .ref b] [(Str.ofString "strict", .bool sf)]) _ _ s2
      obtain ⟨its, rv, p1⟩ := Inv.seqB I2 hqx
      obtain ⟨its2, rv2, p2⟩ := Inv.seqB I2 hqy
      refine zip_beginsS begins_b begins_b p1 p2 fun h' hz hTI hTO h1 h2 hsz hk => pyIter_zf hz ?_
      have I3 : L2.Inv X pins σ H2 { s2 with heap := h' } := I2.kept (t' := s2.toks) hk
      exact ⟨s2.heap.objs.size + 4, [s2.heap.objs.size + 4, s2.heap.objs.size + 2, s2.heap.objs.size + 3, s2.heap.objs.size, s2.heap.objs.size + 1], _, _, H2, rfl, I3,
        turn_zipB (sf := sf) (zip_sep2 (fp1 := [a]) (fp2 := [b]) (fun c hc => by rw [List.mem_singleton.mp hc]; exact p1.lt) (fun c hc => by rw [List.mem_singleton.mp hc]; exact p2.lt)),
        ⟨hz, hTI, ⟨_, _, hTO⟩, ItB.begun h1, ItB.begun h2⟩, zipB_fresh I2, q⟩
end DL

set_option Elab.async false
set_option linter.all false
set_option maxRecDepth 100000
set_option maxHeartbeats 4000000
set_option autoImplicit false
namespace DL
open PySem L2
/-! ### enumerate and zip as data -/
def seq2 : D → Option (List D)
  | .list ds => some ds
  | .tuple ds => some ds
  | _ => none
def itS (ρ : Rho) (r : Rv) : Option (List D × Rho) := match itD ρ r with
  | some (d, ρ1) => match seq2 d with
    | some ds => some (ds, ρ1)
    | none => none
  | none => none
theorem itS_some {ρ ρ2 : Rho} {r : Rv} {ds : List D} (h : itS ρ r = some (ds, ρ2)) : ∃ d, itD ρ r = some (d, ρ2) ∧ seq2 d = some ds := by
  unfold itS at h
  split at h
  · rename_i d ρ1 e
    split at h
    · rename_i xs e2
      cases h
      exact ⟨d, e, e2⟩
    · cases h
  · cases h
def enumD (ds : List D) : List D := ds.mapIdx fun i d => .tuple [.int (i : Nat), d]
def zipD (xs ys : List D) : List D := List.zipWith (fun x y => .tuple [x, y]) xs ys
def dEnum (da : DA) : DI := fun ρ Q => da ρ fun rs ρ1 => match rs with
  | [r] => wFA (itS ρ1 r) fun ds ρ2 => Q (enumD ds) ρ2
  | _ => False
def dZip (sf : Bool) (da : DA) : DI := fun ρ Q => da ρ fun rs ρ1 => match rs with
  | [r, q] => wFA (itS ρ1 r) fun xs ρ2 => wFA (itS ρ2 q) fun ys ρ3 => (sf = true → xs.length = ys.length) ∧ Q (zipD xs ys) ρ3
  | _ => False
section
variable {K : PySem.W.Frag} {f : Fr} {g g' : Gs} {σ : L2.St} {H H' : Hp} {ρ ρ' : Rho} {v : V} {r : Rv} {d : D} {b b1 b2 sf : Bool} {a a2 : Addr} {xs ys : List V} {ta : TA} {da : DA}
theorem walk_enumB : Walk (IteB b K a) xs.length (fun H => SqB K b H a xs) (YPair (fun i => some (.int (i : Nat))) (fun i => xs[i]?)) := by
  refine ⟨fun i _ hi q => ⟨xs, xs[i], q, by simp [hi]⟩, fun _ q => ⟨xs, q, rfl⟩, fun i H v H' _ q y => ?_⟩
  obtain ⟨T, x, h1, h2, h3, h4⟩ := y
  exact ⟨T, .int (i : Nat), x, h1, h2, h3, rfl, h4 xs q⟩
theorem walk_zipB {n : Nat} (hn : Zend sf n xs.length ys.length) (hn2 : n ≤ xs.length ∧ n ≤ ys.length) : Walk (ItzB sf b1 b2 K a a2) n (fun H => SqB K b1 H a xs ∧ SqB K b2 H a2 ys) (YPair (fun i => xs[i]?) (fun i => ys[i]?)) := by
  refine ⟨fun i _ hi q => ?_, fun _ q => ⟨xs, ys, q.1, q.2, hn⟩, fun i H v H' _ q y => ?_⟩
  · have h1 : i < xs.length := by omega
    have h2 : i < ys.length := by omega
    exact ⟨xs, ys, xs[i], ys[i], q.1, q.2, by simp [h1], by simp [h2]⟩
  · obtain ⟨T, x, z, h1, h2, h3, h4, h5⟩ := y
    exact ⟨T, x, z, h1, h2, h3, h4 xs q.1, h5 ys q.2⟩
theorem BoV.seqB {F : Hp} {ds : List D} (h : BoV f F v d) (e : seq2 d = some ds) : ∃ b a xs, v = .ref a ∧ RpA f.K F xs ds ∧ ∀ g2 σ2 H2 ρ2, Rel f g2 σ2 H2 ρ2 → Same F (Fz H2 g2.M) → SqB f.K b H2 a xs := by
  cases d with
  | list xs => cases e; obtain ⟨a, ys, e1, e2, e3⟩ := h.list; exact ⟨false, a, ys, e1, e2, e3⟩
  | tuple xs => cases e; obtain ⟨a, ys, e1, e2, e3⟩ := h.tuple; exact ⟨true, a, ys, e1, e2, e3⟩
  | none => cases e
  | bool _ => cases e
  | int _ => cases e
  | str _ => cases e
  | dict _ => cases e
theorem itOk_pair {fx fy : Nat → Option V} {ds : List D} {G : Hp → Prop} (hf : ∀ (i : Nat) (d : D), ds[i]? = some d → ∃ dx dy, d = .tuple [dx, dy] ∧ (∀ x, fx i = some x → Rp f.K (Fz H g.M) x dx) ∧ ∀ y, fy i = some y → Rp f.K (Fz H g.M) y dy)
    (hG : ∀ g2 σ2 H2 ρ2, Rel f g2 σ2 H2 ρ2 → Same (Fz H g.M) (Fz H2 g2.M) → G H2) : ItOk f g H G (YPair fx fy) ds := by
  refine ⟨hG, fun g2 σ2 H2 ρ2 R2 e i v H3 d hd y => ?_⟩
  obtain ⟨T, x, y, rfl, hT, rfl, h1, h2⟩ := y
  obtain ⟨dx, dy, rfl, q1, q2⟩ := hf i d hd
  obtain ⟨R3, G3, e3⟩ := R2.new (o := .tup [x, y]) hT
  exact ⟨g2, R3, G3, .tup e3 (.cons (((q1 x h1).mono e).mono G3.fz) (.cons (((q2 y h2).mono e).mono G3.fz) .nil))⟩
theorem li_enum (h : LA K ta da) : LI K (iEnumA K ta) (dEnum da) := by
  intro f g σ H ρ Q R hK hR hd k
  refine h f g σ H ρ _ _ hK hR hd fun vs H1 g1 ρ1 rs R1 G1 O1 q1 => ?_
  subst hK
  cases O1 with
  | nil => exact q1.elim
  | cons o or' =>
    cases or' with
    | cons _ _ => exact q1.elim
    | nil =>
      obtain ⟨ds, ρ2, e2, q2⟩ := wFA_some q1
      obtain ⟨d, e3, e4⟩ := itS_some e2
      obtain ⟨g2, R2, G2, B⟩ := itD_ok R1 o e3
      obtain ⟨b, a, xs, rfl, hr, hs⟩ := B.seqB e4
      refine ⟨a, b, xs, rfl, hs g2 σ H1 ρ2 R2 (Same.refl _), k _ H1 g2 ρ2 _ _ (enumD ds) R2 (G1.trans G2) (by unfold enumD; rw [List.length_mapIdx, ← hr.length]; exact walk_enumB) (itOk_pair (fun i d hd => ?_) hs) q2⟩
      unfold enumD at hd
      rw [List.getElem?_mapIdx] at hd
      cases hi : ds[i]? with
      | none => rw [hi] at hd; cases hd
      | some x =>
        rw [hi] at hd
        cases hd
        refine ⟨_, _, rfl, fun x e => by cases e; exact .int _, fun y e => ?_⟩
        obtain ⟨w, e1, q⟩ := hr.get hi
        rw [e] at e1; cases e1
        exact q
theorem li_zip (h : LA K ta da) : LI K (iZipB sf K ta) (dZip sf da) := by
  intro f g σ H ρ Q R hK hR hd k
  refine h f g σ H ρ _ _ hK hR hd fun vs H1 g1 ρ1 rs R1 G1 O1 q1 => ?_
  subst hK
  cases O1 with
  | nil => exact q1.elim
  | cons o or' =>
    cases or' with
    | nil => exact q1.elim
    | cons o2 or2 =>
      cases or2 with
      | cons _ _ => exact q1.elim
      | nil =>
        obtain ⟨ds, ρ2, e2, q2⟩ := wFA_some q1
        obtain ⟨d, e3, e4⟩ := itS_some e2
        obtain ⟨g2, R2, G2, B⟩ := itD_ok R1 o e3
        obtain ⟨es, ρ3, e5, hl, q3⟩ := wFA_some q2
        obtain ⟨d', e6, e7⟩ := itS_some e5
        obtain ⟨g3, R3, G3, B'⟩ := itD_ok R2 (o2.mono G2) e6
        obtain ⟨b1, a, xs, rfl, hr, hs⟩ := (B.mono G3.fz).seqB e4
        obtain ⟨b2, a2, ys, rfl, hr', hs'⟩ := B'.seqB e7
        have hlen : (zipD ds es).length = min ds.length es.length := by unfold zipD; rw [List.length_zipWith]
        refine ⟨a, a2, b1, b2, xs, ys, rfl, hs g3 σ H1 ρ3 R3 (Same.refl _), hs' g3 σ H1 ρ3 R3 (Same.refl _), k _ H1 g3 ρ3 _ _ (zipD ds es) R3 ((G1.trans G2).trans G3) (walk_zipB (xs := xs) (ys := ys) ?_ ?_) (itOk_pair (fun i d hd => ?_) fun g2 σ2 H2 ρ2 R2 e => ⟨hs g2 σ2 H2 ρ2 R2 e, hs' g2 σ2 H2 ρ2 R2 e⟩) q3⟩
        · rw [hlen, hr.length, hr'.length]
          cases sf with
          | true => have := hl rfl; exact ⟨by omega, by omega⟩
          | false => exact ⟨by omega, by omega, by omega⟩
        · rw [hlen, hr.length, hr'.length]; exact ⟨by omega, by omega⟩
        · unfold zipD at hd
          rw [List.getElem?_zipWith] at hd
          cases hi : ds[i]? with
          | none => rw [hi] at hd; cases hd
          | some x =>
            rw [hi] at hd
            cases hj : es[i]? with
            | none => rw [hj] at hd; cases hd
            | some y =>
              rw [hj] at hd
              cases hd
              refine ⟨_, _, rfl, fun x e => ?_, fun y e => ?_⟩
              · obtain ⟨w, e1, q⟩ := hr.get hi
                rw [e] at e1; cases e1
                exact q
              · obtain ⟨w, e1, q⟩ := hr'.get hj
                rw [e] at e1; cases e1
                exact q
end
end DL

set_option Elab.async false
set_option linter.all false
set_option maxRecDepth 100000
set_option maxHeartbeats 4000000
set_option autoImplicit false
namespace DL
open PySem L2
/-! ### what repr asks, from bounds -/
theorem reprOk_of {d : D} (h1 : d.showable = true) (h2 : d.hasDict = false ∨ plainD d = true) (h3 : d.leavesShort 25 = true) (h4 : d.weight ≤ 500000) (h5 : d.depth ≤ 60) : reprOkP d := by
  refine ⟨h1, h2, h5, ?_⟩
  have := PyData.shown_le 25 (by decide) d h3
  rw [sizeLine_eq]
  omega
/-- ints of at most 64 bits -/
def small (n : Int) : Prop := n.natAbs < 2 ^ 65
theorem small_log {i : Int} (h : small i) : i.natAbs.log2 < 65 := by
  by_cases e : i.natAbs = 0
  · rw [e]; decide
  · rw [Nat.log2_lt e]; exact h
theorem small_int {i : Int} (h : small i) : PyData.showable (.int i) = true ∧ PyData.leavesShort 25 (.int i) = true ∧ PyData.weight (.int i) ≤ 65 ∧ PyData.depth (.int i) ≤ 1 ∧ PyData.hasDict (.int i) = false := by
  have hl := small_log h
  refine ⟨?_, ?_, ?_, ?_, rfl⟩
  · simp only [PyData.showable, decide_eq_true_eq]; omega
  · simp only [PyData.leavesShort, decide_eq_true_eq]
    have e := int_text_length_le10 (a := i) (k := 20) (by decide) (Nat.lt_trans h (by decide))
    show (Str.ofString (toString i)).length ≤ 25
    rw [ofString_length]; omega
  · simp only [PyData.weight]
    split <;> omega
  · simp [PyData.depth]
theorem small_ints {ns : List Int} (h : ∀ n ∈ ns, small n) : PyData.showableAll (ns.map PyData.int) = true ∧ PyData.leavesShortAll 25 (ns.map PyData.int) = true ∧ PyData.weightAll (ns.map PyData.int) ≤ 66 * ns.length ∧ PyData.depthAll (ns.map PyData.int) ≤ 2 ∧ PyData.hasDictAll (ns.map PyData.int) = false := by
  induction ns with
  | nil => exact ⟨rfl, rfl, Nat.le_refl _, by simp [PyData.depthAll], rfl⟩
  | cons n ns ih =>
    obtain ⟨a1, a2, a3, a4, a5⟩ := ih fun x hx => h x (List.mem_cons_of_mem _ hx)
    obtain ⟨b1, b2, b3, b4, b5⟩ := small_int (h n List.mem_cons_self)
    refine ⟨?_, ?_, ?_, ?_, ?_⟩
    · simp only [List.map_cons, PyData.showableAll, a1, b1, Bool.and_true]
    · simp only [List.map_cons, PyData.leavesShortAll, a2, b2, Bool.and_true]
    · simp only [List.map_cons, PyData.weightAll, List.length_cons]; omega
    · simp only [List.map_cons, PyData.depthAll]; omega
    · simp only [List.map_cons, PyData.hasDictAll, a5, b5, Bool.or_false]
theorem repr_int {i : Int} (h : small i) : reprOkP (.int i) := by
  obtain ⟨b1, b2, b3, b4, b5⟩ := small_int h
  exact reprOk_of b1 (.inl b5) b2 (by omega) (by omega)
theorem repr_ints {ns : List Int} (h : ∀ n ∈ ns, small n) (hl : ns.length ≤ 5000) : reprOkP (.tuple (ns.map PyData.int)) ∧ reprOkP (.list (ns.map PyData.int)) := by
  obtain ⟨a1, a2, a3, a4, a5⟩ := small_ints h
  constructor <;> refine reprOk_of ?_ (.inl ?_) ?_ ?_ ?_ <;> first
    | (simp only [PyData.showable]; exact a1)
    | (simp only [PyData.hasDict]; exact a5)
    | (simp only [PyData.leavesShort]; exact a2)
    | (simp only [PyData.weight]; omega)
    | (simp only [PyData.depth]; omega)
theorem repr_two {ns ms : List Int} (h : ∀ n ∈ ns, small n) (h' : ∀ n ∈ ms, small n) (hl : ns.length ≤ 3000) (hl' : ms.length ≤ 3000) : reprOkP (.list [.tuple (ns.map PyData.int), .tuple (ms.map PyData.int)]) := by
  obtain ⟨a1, a2, a3, a4, a5⟩ := small_ints h
  obtain ⟨b1, b2, b3, b4, b5⟩ := small_ints h'
  refine reprOk_of ?_ (.inl ?_) ?_ ?_ ?_
  · simp only [PyData.showable, PyData.showableAll, a1, b1]; rfl
  · simp only [PyData.hasDict, PyData.hasDictAll, a5, b5]; rfl
  · simp only [PyData.leavesShort, PyData.leavesShortAll, a2, b2]; rfl
  · simp only [PyData.weight, PyData.weightAll]; omega
  · simp only [PyData.depth, PyData.depthAll]; omega
theorem eqv_str (a b : Str) : PyData.eqv (.str a) (.str b) = decide (a = b) := by simp only [PyData.eqv]; by_cases h : a = b <;> simp [h]
theorem eqv_int (a b : Int) : PyData.eqv (.int a) (.int b) = decide (a = b) := by simp only [PyData.eqv]; by_cases h : a = b <;> simp [h]
def isI : D → Bool
  | .int _ => true
  | _ => false
def isS : D → Bool
  | .str _ => true
  | _ => false
theorem mem_int {xs : List D} {x : D} (h : xs.all isI = true) (hx : x ∈ xs) : ∃ i, x = .int i := by
  have := List.all_eq_true.mp h x hx
  cases x <;> first | exact ⟨_, rfl⟩ | cases this
theorem mem_str {xs : List D} {x : D} (h : xs.all isS = true) (hx : x ∈ xs) : ∃ i, x = .str i := by
  have := List.all_eq_true.mp h x hx
  cases x <;> first | exact ⟨_, rfl⟩ | cases this
theorem atI_mem {xs : List D} {k : Int} (h1 : 0 ≤ k) (h2 : k < xs.length) : ∃ x, x ∈ xs ∧ atI xs k = some x := by
  refine ⟨xs[k.toNat]'(by omega), List.getElem_mem _, ?_⟩
  unfold atI ixN
  rw [if_pos h1, if_pos h2]
  show xs[k.toNat]? = _
  rw [List.getElem?_eq_getElem]
theorem huOf {A : Around} {k : Nat} (hr : Room k A) : A.units + 1 < cLine := Nat.lt_of_le_of_lt (Nat.add_le_add_left (by decide : 1 ≤ 64) _) hr.units
end DL

set_option Elab.async false
set_option linter.all false
set_option maxRecDepth 100000
set_option maxHeartbeats 4000000
set_option autoImplicit false
namespace DL
open PySem L2
/-! ### the rules with the fragment told apart (inside a comprehension the frame's K must not hang on the block) -/
section
variable {X : Cx} {K : PySem.W.Frag}
theorem k_add (h : X.K = K) : OpR X (binaryOp .Add) (rAddA K) := by subst h; exact op_addA
theorem k_eq (h : X.K = K) (hu : X.A.units + 64 < cLine) : OpR X (compareOp .Eq) (fun x y H Q => rEq x y H Q ∨ rEqD K x y H Q) := by subst h; exact op_eq.or (op_eqD hu)
theorem k_ne (h : X.K = K) (hu : X.A.units + 64 < cLine) : OpR X (compareOp .NotEq) (fun x y H Q => rNe x y H Q ∨ rNeD K x y H Q) := by subst h; exact op_ne.or (op_neD hu)
theorem k_in (h : X.K = K) : OpR X (compareOp .In) (rIn K false) := by subst h; exact op_in_seq
theorem k_nin (h : X.K = K) : OpR X (compareOp .NotIn) (rIn K true) := by subst h; exact op_notIn_seq
theorem k_ix (h : X.K = K) : IxR X (rIx K) := by subst h; exact ix_seq
theorem k_sl (h : X.K = K) : L2.SlR X (rSlAny K) := by subst h; exact sl_any
theorem k_repr (h : X.K = K) (hA : X.A.guards = some []) (hu : X.A.units + 64 < cLine) : CallR X (.builtin "repr") (rReprP K) := by subst h; exact call_reprP hA hu
theorem k_sum (h : X.K = K) (hc : X.calm = true) : CallR X (.builtin "sum") (rSum K) := by subst h; exact cr_sum hc
theorem k_max (h : X.K = K) (hc : X.calm = true) : CallR X (.builtin "max") (rMax K) := by subst h; exact cr_max hc
theorem k_min (h : X.K = K) (hc : X.calm = true) : CallR X (.builtin "min") (rMin K) := by subst h; exact cr_min hc
theorem k_any (h : X.K = K) (hc : X.calm = true) : CallR X (.builtin "any") (rAny K) := by subst h; exact cr_any hc
theorem k_all (h : X.K = K) (hc : X.calm = true) : CallR X (.builtin "all") (rAll K) := by subst h; exact cr_all hc
theorem k_sorted (h : X.K = K) : CallR X (.builtin "sorted") (rSortedI K) := by subst h; exact cr_sortedI
theorem k_list (h : X.K = K) : CallR X (.type "list") (fun xs H Q => ∃ p ys, xs = [.ref p] ∧ (SqL K H p ys ∨ SqT K H p ys) ∧ ∀ l, H l = none → Q (.ref l) (upd H l (.lst ys))) := by subst h; exact call_list_of
theorem k_tuple (h : X.K = K) : CallR X (.type "tuple") (fun xs H Q => ∃ p ys, xs = [.ref p] ∧ ((SqL K H p ys ∧ ∀ l, H l = none → Q (.ref l) (upd H l (.tup ys))) ∨ (SqT K H p ys ∧ Q (.ref p) H))) := by subst h; exact call_tuple_of
theorem k_len (h : X.K = K) : CallR X (.builtin "len") (fun xs H Q => ∃ x n, xs = [x] ∧ LenV K x H n ∧ Q (.int n) H) := by subst h; exact call_len
theorem k_gtup {es : List Expr} {k : Nat} {t : TGs} {n : Nat} {pos : Pos} (h : X.K = K) (hc : X.calm = true) (hp : PGs X es t) (hn : (assignEach es X.env).length = n := by rfl) (hst : (assignEach es X.env).findIdx? (·.1) = none := by rfl) : PG X (.Tuple es k pos) (gTup K n t) := by subst h; exact pg_tup hc hp hn hst
section
variable {tg : Expr} {tl : TE} {l : Expr} {ta : TA} {e e2 : Expr} {p pos tpos kp kp2 : Pos} {elts : List Expr} {kk k3 : Nat} {sf : Bool}
theorem k_iany (h : X.K = K) (hl : PE X l tl) : PI X tg l (iAny K tl) := by subst h; exact pi_any hl
theorem k_enum (h : X.K = K) (hg : Gl X "enumerate") (hm : X.mg "enumerate" = none) (ha : PA X [e] ta) (hs : starEach [e] X.env = [(false, eval e X.env)] := by rfl) :
    PI X (.Tuple elts kk tpos) (.Call (.Name "enumerate" p) [e] [] pos) (iEnumA K ta) := by subst h; exact pi_enumA hg hm ha hs
theorem k_zip (h : X.K = K) (hg : Gl X "zip") (hm : X.mg "zip" = none) (ha : PA X [e, e2] ta)
    (hs : starEach [e, e2] X.env = (false, eval e X.env) :: starEach [e2] X.env := by rfl) (hpl : (backTo pos (starEach [e2] X.env)).any (·.1) = false := by rfl) :
    PI X (.Tuple elts kk tpos) (.Call (.Name "zip" p) [e, e2] [] pos) (iZipB false K ta) := by subst h; exact pi_zipB hg hm ha hs hpl
theorem k_zips (h : X.K = K) (hg : Gl X "zip") (hm : X.mg "zip" = none) (ha : PA X [e, e2] ta)
    (he : backTo pos (starEach [e, e2] X.env) = (false, eval e X.env) :: backTo pos (starEach [e2] X.env) := by rfl) (hpl : (backTo pos (starEach [e, e2] X.env)).any (·.1) = false := by rfl) :
    PI X (.Tuple elts kk tpos) (.Call (.Name "zip" p) [e, e2] [⟨some "strict", .Constant (.bool sf) k3 kp, kp2⟩] pos) (iZipB sf K ta) := by subst h; exact pi_zipS hg hm ha he hpl
end
end
end DL

set_option Elab.async false
set_option linter.all false
set_option maxRecDepth 100000
set_option maxHeartbeats 4000000
set_option autoImplicit false
namespace DL
open PySem PySem.Spec PyProof.Rows L2
/-! ### tuple(d) -/
section
variable {prog : Program} {w : World} {A : Around} {E : Value → Shared → Prop} {s : Shared} {T : String} {r d : Addr} {n : Nat} {P : Nat → Value → Prop} {OK : Heap → Prop}
theorem code_tuple_new_kdl {Q₁ : Value → Shared → Prop} (K : PySem.W.KdlSrc prog w T r d n P OK) (hh : A.handled = none) (hok : OK s.heap) (hn : n ≤ sizeLine)
    (h : ∀ (h' : Heap) (tk : Nat) (acc : Array Value), (∀ b o, s.heap.get? b = some o → h'.get? b = some o) → ItemsOf P acc n →
      Q₁ (.ref h'.objs.size) { s with heap := h'.push { cls := .type "tuple", data := .seq acc }, toks := tk }) :
    codeAny (model prog w) A (.call (.builtin "tuple.__new__") ⟨[.type "tuple", .ref r], []⟩) (wants Q₁ E) s := by
  refine codeAny_of_tree ?_
  show wpAny _ A.in1 (do checkBuiltinCall "tuple.__new__" ⟨[.type "tuple", .ref r], []⟩; again (.builtin "tuple.__new__" ⟨[.type "tuple", .ref r], []⟩)) _ _ s
  refine wpAny_bind (wpAny_of_eq (F.newCall_tuple_1 _) (wpAny_pure ⟨plainId_quiet F.plain_tuple_new _, codeAny_builtin F.entry_tuple_new ?_⟩))
  rw [Around.under_plainId F.plain_tuple_new _]
  have hsub := sub_tuple_self
  have hinit := init_tuple_lookup
  have hmh := madeHere_tuple
  have hTI : s.TypeIs (.ref r) T := K.type s hok
  have hnt : (Value.type T == Value.type "tuple") = false := K.notTuple
  have hh1 : A.in1.handled = none := hh
  wp_walk using wpAny_typeOf hTI, PySem.W.kdu_collect (A := A.in1) K hh1 hok hn
  intro h' tk acc hk hacc
  show wpAny _ _ (Builtin.Tuple.tupleExact acc.toList.toArray >>= fun v => ret v) _ _ _
  unfold Builtin.Tuple.tupleExact
  refine wpAny_bind (wpAny_newObj_type ?_ (by show acc.toList.toArray.size ≤ sizeLine; simp only [Array.toArray_toList]; rw [hacc.1]; exact hn))
  refine wpAny_pure ?_
  have e : acc.toList.toArray = acc := by simp
  rw [e]
  exact h h' tk acc hk hacc
end

/-! ### tuple(d), list(d), len(d): keys of a dict -/
section
variable {X : Cx}
theorem call_tuple_dT (hc : X.calm = true) : CallR X (.type "tuple") (fun xs H Q => ∃ d kvs, xs = [V.ref d] ∧ Rd H d (.dT kvs) ∧ ∀ p bs, H p = none → IsKeys H kvs bs → Q (.ref p) (upd H p (.tup (bs.map V.ref)))) := by
  intro pins s σ H xs us Q I r h
  obtain ⟨d, kvs, rfl, hd, q⟩ := h
  obtain ⟨u, rfl, rx⟩ := r.one
  cases rx
  obtain ⟨z, hs, ks, pr, o, es, ep, ho, hx, hdt, he, hn⟩ := (show ObjOk X.prog X.w H s.heap d (.dT kvs) from hd.ok I.hok)
  have l1 : es.size = ks.length := size_of_entries he
  have l2 : kvs.length = ks.length := Paired.length pr
  have hz : ((ks.map fun x => x.2.1).map V.ref).length ≤ sizeLine := by rw [List.length_map, List.length_map]; omega
  refine callType_codes (Q₁ := fun obj s₁ => s₁.TypeIs obj "tuple" ∧ EP X pins σ Q obj s₁) F.called_tuple (F.typeCall_tuple_1 _) F.entry_object_init
    (code_tuple_new_kdl (A := X.A.in1) (kdl_raw hs hx hdt) (I.ok.hd hc) ho (by omega) fun h' tk acc hk it => ⟨⟨_, Heap.get?_push_size _ rfl, rfl⟩, ?_⟩) fun obj s₁ h₁ => ?_
  · have ea : acc.toList = ks.map fun x => Value.ref x.2.1 := by
      have hl : acc.toList.length = ks.length := by rw [Array.length_toList, it.1]; exact l1
      apply List.ext_getElem?
      intro j
      rw [List.getElem?_map]
      cases hj : acc.toList[j]? with
      | none =>
        have h1 := List.getElem?_eq_none_iff.mp hj
        rw [List.getElem?_eq_none (by omega)]
        all_goals rfl
      | some v =>
        obtain ⟨en, hen, hv⟩ := it.2 j v (by rw [← Array.getElem?_toList]; exact hj)
        have qe := entry_at he j
        rw [hen] at qe
        cases hb : ks[j]? with
        | none =>
          rw [hb] at qe
          exact nomatch (show some en = none from qe)
        | some b =>
          rw [hb] at qe
          have e2 : en = entryOfKey (tupleKind (mixKind X.prog X.w)) b := Option.some.inj qe
          rw [hv, e2]
          all_goals rfl
    have eb : acc.toList = (ks.map fun x => x.2.1).map Value.ref := by rw [ea, List.map_map]; all_goals rfl
    have rv : Vals ((ks.map fun x => x.2.1).map V.ref) acc.toList := by rw [eb]; exact vals_refs _
    have I1 : Inv X pins σ H { s with heap := h', toks := tk } := I.kept hk
    have ht : ({ cls := .type "tuple", data := .seq acc } : Obj) = { cls := .type "tuple", data := .seq acc.toList.toArray } := by rw [Array.toArray_toList]
    have I2 : Inv X pins σ (upd H h'.objs.size (.tup ((ks.map fun x => x.2.1).map V.ref))) { s with heap := h'.push { cls := .type "tuple", data := .seq acc }, toks := tk } :=
      I1.laid (t' := tk) (fun c o e => Heap.get?_push_of_some _ e) (Nat.le_refl _) (show ObjOk X.prog X.w _ _ _ (.tup ((ks.map fun x => x.2.1).map V.ref)) from ⟨hz, acc.toList, rv, by rw [ht]; exact IsTup.new _ _⟩)
    exact ⟨.ref h'.objs.size, _, I2, rfl, q _ _ (I1.hok.fresh (Nat.le_refl _)) (isKeys_of pr)⟩
  · exact ⟨h₁.1, F.args_object_init_2 obj _, object_init_meets F.called_tuple.init.lookup F.called_tuple.made (by decide) X.prog X.w X.A.in1 _ s₁ ⟨h₁.1, rfl, h₁.2⟩⟩
theorem k_tupleA {K : PySem.W.Frag} (h : X.K = K) (hc : X.calm = true) : CallR X (.type "tuple") (fun xs H Q => (∃ p ys, xs = [.ref p] ∧ ((SqL K H p ys ∧ ∀ l, H l = none → Q (.ref l) (upd H l (.tup ys))) ∨ (SqT K H p ys ∧ Q (.ref p) H))) ∨
    ∃ d kvs, xs = [V.ref d] ∧ Rd H d (.dT kvs) ∧ ∀ p bs, H p = none → IsKeys H kvs bs → Q (.ref p) (upd H p (.tup (bs.map V.ref)))) := (k_tuple h).or (call_tuple_dT hc)
theorem k_listA {K : PySem.W.Frag} (h : X.K = K) (hc : X.calm = true) : CallR X (.type "list") (fun xs H Q => (∃ p ys, xs = [.ref p] ∧ (SqL K H p ys ∨ SqT K H p ys) ∧ ∀ l, H l = none → Q (.ref l) (upd H l (.lst ys))) ∨
    ((∃ d kvs, xs = [V.ref d] ∧ Rd H d (.dT kvs) ∧ ∀ p bs, H p = none → IsKeys H kvs bs → Q (.ref p) (upd H p (.lst (bs.map V.ref)))) ∨ rListD xs H Q)) := (k_list h).or ((call_list_dT hc).or (call_list_dK hc))
def rLenDK : List V → Hp → VK → Prop := fun xs H Q => ∃ d kvs, xs = [.ref d] ∧ H d = some (.dK kvs) ∧ Q (.int ((kvs.length : Nat) : Int)) H
end
/-! ### keys as data -/
theorem rp_key {K : PySem.W.Frag} {F : Hp} (k : Key) : Rp K F (kV k) (keyD k) := by
  cases k with
  | inl i => exact .int i
  | inr x => exact .str x
theorem rpA_key {K : PySem.W.Frag} {F : Hp} (k : List Key) : RpA K F (k.map kV) (k.map keyD) := by
  induction k with
  | nil => exact .nil
  | cons a k ih => exact .cons (rp_key a) ih
/-- the keys of a dict with tuples as keys -/
def keysT (es : List (D × D)) : List D := es.map (·.1)
theorem rpA_keysT {K : PySem.W.Frag} {F H : Hp} {M : AP} (hF : F = Fz H M) (hm : ∀ a, M a → MuO (H a)) {kvs : List (List Key × V)} {es : List (D × D)} (r : RpT K F kvs es) {bs : List Addr} (h : IsKeys H kvs bs) : RpA K F (bs.map V.ref) (keysT es) := by
  induction es generalizing kvs bs with
  | nil => cases r; cases h; exact .nil
  | cons e es ih =>
    cases r with
    | cons r rr =>
      cases h with
      | cons h hh =>
        refine .cons (.tup ?_ (rpA_key _)) (ih rr hh)
        rw [hF]
        refine fz_of h fun m => ?_
        have := hm _ m
        rw [h] at this
        exact this
theorem rpA_keysK {K : PySem.W.Frag} {F : Hp} {kvs : List (Key × V)} {es : List (D × D)} (r : RpK K F kvs es) : RpA K F (kvs.map fun kv => kV kv.1) (es.map (·.1)) := by
  induction es generalizing kvs with
  | nil => cases r; exact .nil
  | cons e es ih => cases r with | cons r rr => exact .cons (rp_key _) (ih rr)
/-- what tuple(x), list(x) walk -/
def itemsD : D → Option (List D)
  | .list ds => some ds
  | .tuple ds => some ds
  | .dict es => match es with
    | (.none, .none) :: r => some (keysT r)
    | es => some (es.map (·.1))
  | _ => none
section
variable {K : PySem.W.Frag}
theorem isT_true {es : List (D × D)} (h : isT es = true) : ∃ r, es = tmark :: r := by
  unfold isT at h
  split at h
  · exact ⟨_, rfl⟩
  · cases h
theorem RpT.length {F : Hp} {kvs : List (List Key × V)} {es : List (D × D)} (h : RpT K F kvs es) : kvs.length = es.length := by
  induction es generalizing kvs with
  | nil => cases h; rfl
  | cons e es ih => cases h with | cons h r => simp [ih r]
def fTupleA : F1 := fun x Q => match x with
  | .list ds => Q (.fz (.tuple ds))
  | .tuple ds => Q (.fz (.tuple ds))
  | .dict es => match es with
    | [] => False
    | e :: r => e = tmark ∧ Q (.fz (.tuple (keysT r)))
  | _ => False
theorem cl_tupleA : CaL K (fun xs H Q => (∃ p ys, xs = [.ref p] ∧ ((SqL K H p ys ∧ ∀ l, H l = none → Q (.ref l) (upd H l (.tup ys))) ∨ (SqT K H p ys ∧ Q (.ref p) H))) ∨
    ∃ d kvs, xs = [V.ref d] ∧ Rd H d (.dT kvs) ∧ ∀ p bs, H p = none → IsKeys H kvs bs → Q (.ref p) (upd H p (.tup (bs.map V.ref)))) (fA1 fTupleA) := by
  intro f g σ H ρ vs ds Q R hK hR hA hF0 k
  subst hK
  obtain ⟨d, rfl, hF⟩ := fA1_some hF0
  obtain ⟨v, rfl, h⟩ := hA.one
  cases d with
  | list ds =>
    obtain ⟨a, xs, rfl, e1, r1⟩ := h.list fz_sub
    exact .inl ⟨a, xs, rfl, .inl ⟨.inl (.inl e1), OEnd.tup k hR r1 hF⟩⟩
  | tuple ds =>
    obtain ⟨a, xs, rfl, e1, r1, z1⟩ := h.tuple fz_sub
    exact .inl ⟨a, xs, rfl, .inr ⟨e1, OEnd.fz k hR (.tup z1 r1) hF⟩⟩
  | dict es =>
    cases es with
    | nil => exact hF.elim
    | cons e es =>
      obtain ⟨rfl, hF⟩ := hF
      obtain ⟨a, kvs, rfl, e1, r1⟩ := h.dictT fz_sub
      exact .inr ⟨a, kvs, rfl, .inl e1, fun p bs hp hb => OEnd.tup k hR (rpA_keysT rfl hR.mU r1 hb) hF p hp⟩
  | none => exact hF.elim
  | bool _ => exact hF.elim
  | int _ => exact hF.elim
  | str _ => exact hF.elim
def fListA : F1 := fun x Q => match x with
  | .list ds => Q (.nw (.list ds))
  | .tuple ds => Q (.nw (.list ds))
  | .dict es => useB (isT es) (Q (.nw (.list (keysT es.tail)))) (Q (.nw (.list (es.map (·.1)))))
  | _ => False
theorem cl_listA : CaL K (fun xs H Q => (∃ p ys, xs = [.ref p] ∧ (SqL K H p ys ∨ SqT K H p ys) ∧ ∀ l, H l = none → Q (.ref l) (upd H l (.lst ys))) ∨
    ((∃ d kvs, xs = [V.ref d] ∧ Rd H d (.dT kvs) ∧ ∀ p bs, H p = none → IsKeys H kvs bs → Q (.ref p) (upd H p (.lst (bs.map V.ref)))) ∨ rListD xs H Q)) (fA1 fListA) := by
  intro f g σ H ρ vs ds Q R hK hR hA hF0 k
  subst hK
  obtain ⟨d, rfl, hF⟩ := fA1_some hF0
  obtain ⟨v, rfl, h⟩ := hA.one
  cases d with
  | list ds =>
    obtain ⟨a, xs, rfl, e1, r1⟩ := h.list fz_sub
    exact .inl ⟨a, xs, rfl, .inl (.inl (.inl e1)), OEnd.lst k hR r1 hF⟩
  | tuple ds =>
    obtain ⟨a, xs, rfl, e1, r1, z1⟩ := h.tuple fz_sub
    exact .inl ⟨a, xs, rfl, .inr e1, OEnd.lst k hR r1 hF⟩
  | dict es =>
    have hF : useB (isT es) (Q (.nw (.list (keysT es.tail)))) (Q (.nw (.list (es.map (·.1))))) := hF
    cases e : isT es with
    | true =>
      rw [e] at hF
      replace hF := useB_t hF
      obtain ⟨r, rfl⟩ := isT_true e
      obtain ⟨a, kvs, rfl, e1, r1⟩ := h.dictT fz_sub
      exact .inr (.inl ⟨a, kvs, rfl, .inl e1, fun p bs hp hb => OEnd.lst k hR (rpA_keysT rfl hR.mU r1 hb) hF p hp⟩)
    | false =>
      rw [e] at hF
      replace hF := useB_f hF
      obtain ⟨a, kvs, rfl, e1, r1⟩ := h.dict fz_sub e
      exact .inr (.inr ⟨a, kvs, rfl, e1, OEnd.lst k hR (rpA_keysK r1) hF⟩)
  | none => exact hF.elim
  | bool _ => exact hF.elim
  | int _ => exact hF.elim
  | str _ => exact hF.elim
/-- len(x), dicts too -/
def lenDA : D → Option Nat
  | .list ds => some ds.length
  | .tuple ds => some ds.length
  | .str z => if z.length ≤ sizeLine then some z.length else none
  | .dict es => if isT es = true then some (es.length - 1) else none
  | _ => none
def fLenA : F1 := fun x Q => match lenDA x with
  | some n => Q (.fz (.int (n : Int)))
  | none => False
theorem cl_lenA : CaL K (fun xs H Q => (∃ x n, xs = [x] ∧ LenV K x H n ∧ Q (.int n) H) ∨ rLenT xs H Q) (fA1 fLenA) := by
  intro f g σ H ρ vs ds Q R hK hR hA hF0 k
  have hF0' := hF0
  obtain ⟨d, rfl, hF⟩ := fA1_some hF0
  cases d with
  | dict es =>
    subst hK
    obtain ⟨v, rfl, h⟩ := hA.one
    unfold fLenA lenDA at hF
    dsimp only at hF
    split at hF
    · rename_i n e
      split at e
      · rename_i ht
        obtain ⟨r, rfl⟩ := isT_true ht
        cases e
        obtain ⟨a, kvs, rfl, e1, r1⟩ := h.dictT fz_sub
        refine .inr ⟨a, kvs, rfl, e1, OEnd.fz k hR (.int _) ?_⟩
        rw [r1.length]
        exact hF
      · cases e
    · exact hF.elim
  | list ds => exact .inl (cl_len f g σ H ρ vs _ Q R hK hR hA (show fA1 fLen [.list ds] Q from hF) k)
  | tuple ds => exact .inl (cl_len f g σ H ρ vs _ Q R hK hR hA (show fA1 fLen [.tuple ds] Q from hF) k)
  | str z => exact .inl (cl_len f g σ H ρ vs _ Q R hK hR hA (show fA1 fLen [.str z] Q from hF) k)
  | none => exact hF.elim
  | bool _ => exact hF.elim
  | int _ => exact hF.elim
theorem k_lenA {X : Cx} (h : X.K = K) : CallR X (.builtin "len") (fun xs H Q => (∃ x n, xs = [x] ∧ LenV K x H n ∧ Q (.int n) H) ∨ rLenT xs H Q) := (k_len h).or call_len_dT
end
end DL

set_option Elab.async false
set_option linter.all false
set_option maxRecDepth 100000
set_option maxHeartbeats 4000000
set_option autoImplicit false
namespace DL
open PySem L2

/-! ### dicts with tuples as keys -/
def keysOf : List D → Option (List Key)
  | [] => some []
  | d :: ds => match keyOf d with
    | some k => match keysOf ds with
      | some ks => some (k :: ks)
      | none => none
    | none => none
def tkOf : D → Option (List Key)
  | .tuple ds => keysOf ds
  | _ => none
theorem keysOf_keyD (ks : List Key) : keysOf (ks.map keyD) = some ks := by
  induction ks with
  | nil => rfl
  | cons k ks ih => simp only [List.map_cons, keysOf, keyOf_keyD, ih]
theorem tkOf_key (ks : List Key) : tkOf (.tuple (ks.map keyD)) = some ks := keysOf_keyD ks
theorem kV_of_keys {K : PySem.W.Frag} {F : Hp} {ks : List Key} {vs : List V} (h : RpA K F vs (ks.map keyD)) : vs = ks.map kV := by
  induction ks generalizing vs with
  | nil => cases h; rfl
  | cons k ks ih =>
    cases h with
    | cons h r => rw [ih r, keyOf_kV h (keyOf_keyD k)]; rfl
def lookT : List (D × D) → List Key → Option D
  | [], _ => none
  | (a, d) :: r, k => if tkOf a = some k then some d else lookT r k
def hasT (es : List (D × D)) (k : List Key) : Bool := es.any fun e => decide (tkOf e.1 = some k)
def putT (es : List (D × D)) (k : List Key) (x : D) : List (D × D) := if hasT es k = true then es.map (fun e => if tkOf e.1 = some k then (e.1, x) else e) else es ++ [(.tuple (k.map keyD), x)]
section
variable {K : PySem.W.Frag} {F : Hp}
theorem RpT.look {kvs : List (List Key × V)} {es : List (D × D)} (h : RpT K F kvs es) (k : List Key) : (valV kvs k = none ∧ lookT es k = none) ∨ ∃ v d, valV kvs k = some v ∧ lookT es k = some d ∧ Rp K F v d := by
  induction es generalizing kvs with
  | nil => cases h; exact .inl ⟨rfl, rfl⟩
  | cons e es ih =>
    cases h with
    | @cons k0 v0 d0 vs ds h r =>
      unfold lookT
      rw [tkOf_key]
      by_cases q : k0 = k
      · subst q
        refine .inr ⟨v0, d0, ?_, by rw [if_pos rfl], h⟩
        simp [valV]
      · rw [if_neg (fun z => q (Option.some.inj z))]
        have e1 : valV ((k0, v0) :: vs) k = valV vs k := by simp [valV, q]
        rw [e1]
        exact ih r
theorem RpT.has {kvs : List (List Key × V)} {es : List (D × D)} (h : RpT K F kvs es) (k : List Key) : (kvs.any fun kv => decide (kv.1 = k)) = hasT es k := by
  induction es generalizing kvs with
  | nil => cases h; rfl
  | cons e es ih =>
    cases h with
    | @cons k0 v0 d0 vs ds h r =>
      show (decide (k0 = k) || _) = (decide (tkOf (.tuple (k0.map keyD)) = some k) || hasT es k)
      rw [ih r, tkOf_key]
      congr 1
      by_cases q : k0 = k
      · rw [q]; simp
      · simp [q]
theorem RpT.append {kvs kvs' : List (List Key × V)} {es es' : List (D × D)} (h : RpT K F kvs es) (h' : RpT K F kvs' es') : RpT K F (kvs ++ kvs') (es ++ es') := by
  induction es generalizing kvs with
  | nil => cases h; exact h'
  | cons e es ih => cases h with | cons h r => exact .cons h (ih r)
theorem RpT.put {kvs : List (List Key × V)} {es : List (D × D)} (h : RpT K F kvs es) (k : List Key) {v : V} {d : D} (hv : Rp K F v d) : RpT K F (putK kvs k v) (putT es k d) := by
  unfold putK putT
  rw [h.has k]
  by_cases q : hasT es k = true
  · rw [if_pos q, if_pos q]
    clear q
    induction es generalizing kvs with
    | nil => cases h; exact .nil
    | cons e es ih =>
      cases h with
      | @cons k0 v0 d0 vs ds h r =>
        rw [List.map_cons, List.map_cons]
        by_cases q : k0 = k
        · rw [if_pos q, if_pos (by rw [tkOf_key, q])]
          exact .cons hv (ih r)
        · rw [if_neg q, if_neg (by rw [tkOf_key]; exact fun z => q (Option.some.inj z))]
          exact .cons h (ih r)
  · rw [if_neg q, if_neg q]
    exact h.append (.cons hv .nil)
theorem RN.keys {H : Hp} {v : V} {ks : List Key} (e : Same F H) (h : RN K F H v (.tuple (ks.map keyD))) : ∃ b, v = .ref b ∧ F b = some (.tup (ks.map kV)) := by
  obtain ⟨a, xs, rfl, _, r, q⟩ := h.tuple e
  rw [kV_of_keys r] at q
  exact ⟨a, rfl, q⟩
end
section
variable {K : PySem.W.Frag} {td ty tv : TE} {dd dk dv : DE} {i : Nat}
def wDT (o : Option D) (k : List (D × D) → Prop) : Prop := match o with
  | some (.dict (e :: es)) => e = tmark ∧ k es
  | _ => False
theorem wDT_some {o : Option D} {k : List (D × D) → Prop} (h : wDT o k) : ∃ es, o = some (.dict (tmark :: es)) ∧ k es := by
  unfold wDT at h
  split at h
  · obtain ⟨rfl, h⟩ := h
    exact ⟨_, rfl, h⟩
  · exact h.elim
/-- d[k], k a tuple -/
def dDGetT (dd dk : DE) : DE := fun ρ Q => dd ρ fun r ρ1 => dk ρ1 fun q ρ2 => wDT (res ρ2 r) fun es => ∃ ks, res ρ2 q = some (.tuple (ks.map keyD)) ∧ ∃ d, lookT es ks = some d ∧ Q (.fz d) ρ2
theorem le_dgetT (h : LE K td dd) (h' : LE K ty dk) : LE K (tDGet td ty) (dDGetT dd dk) := by
  intro f g σ H ρ Q R hK hR hd k
  refine h.opd hK hR hd fun v H1 g1 ρ1 r1 R1 G1 O1 q1 => ?_
  refine h'.opd hK R1 q1 fun u H2 g2 ρ2 r2 R2 G2 O2 q2 => ?_
  obtain ⟨es, e1, ks, e2, d, e3, q2⟩ := wDT_some q2
  obtain ⟨a, kvs, rfl, hd, hr⟩ := ((O1.mono G2).rn R2 e1).dictT fz_sub
  obtain ⟨b, rfl, hb⟩ := (O2.rn R2 e2).keys fz_sub
  rcases hr.look ks with ⟨_, z⟩ | ⟨w, d', z1, z2, z3⟩
  · rw [e3] at z; cases z
  · rw [e3] at z2; cases z2
    refine ⟨a, w, rfl, .inr ⟨kvs, ks, b, .inl hd, rfl, fz_sub _ _ hb, z1.symm⟩, ?_⟩
    exact k w H2 g2 ρ2 (.fz d) R2 (G1.trans G2) z3 q2
/-- k in d, k a tuple -/
def dDInT (neg : Bool) (dk dd : DE) : DE := fun ρ Q => dk ρ fun q ρ1 => dd ρ1 fun r ρ2 => wDT (res ρ2 r) fun es => ∃ ks, res ρ2 q = some (.tuple (ks.map keyD)) ∧ ∃ b, (lookT es ks).isSome = b ∧ Q (.fz (.bool (neg != b))) ρ2
theorem le_dinT (h' : LE K ty dk) (h : LE K td dd) : LE K (tDIn ty td) (dDInT false dk dd) := by
  intro f g σ H ρ Q R hK hR hd k
  refine h'.opd hK hR hd fun u H1 g1 ρ1 r1 R1 G1 O1 q1 => ?_
  refine h.opd hK R1 q1 fun v H2 g2 ρ2 r2 R2 G2 O2 q2 => ?_
  obtain ⟨es, e1, ks, e2, _, rfl, q2⟩ := wDT_some q2
  obtain ⟨a, kvs, rfl, hd, hr⟩ := (O2.rn R2 e1).dictT fz_sub
  obtain ⟨b, rfl, hb⟩ := ((O1.mono G2).rn R2 e2).keys fz_sub
  refine ⟨a, valV kvs ks, rfl, .inr ⟨kvs, ks, b, .inl hd, rfl, fz_sub _ _ hb, rfl⟩, ?_⟩
  have e : (valV kvs ks).isSome = (lookT es ks).isSome := by
    rcases hr.look ks with ⟨z0, z⟩ | ⟨w, d', z1, z2, z3⟩
    · rw [z0, z]; rfl
    · rw [z1, z2]; rfl
  rw [e]
  exact k _ H2 g2 ρ2 (.fz (.bool _)) R2 (G1.trans G2) (Rp.bl _) (by simpa using q2)
theorem le_dninT (h' : LE K ty dk) (h : LE K td dd) : LE K (tDNotIn ty td) (dDInT true dk dd) := by
  intro f g σ H ρ Q R hK hR hd k
  refine h'.opd hK hR hd fun u H1 g1 ρ1 r1 R1 G1 O1 q1 => ?_
  refine h.opd hK R1 q1 fun v H2 g2 ρ2 r2 R2 G2 O2 q2 => ?_
  obtain ⟨es, e1, ks, e2, _, rfl, q2⟩ := wDT_some q2
  obtain ⟨a, kvs, rfl, hd, hr⟩ := (O2.rn R2 e1).dictT fz_sub
  obtain ⟨b, rfl, hb⟩ := ((O1.mono G2).rn R2 e2).keys fz_sub
  refine ⟨a, valV kvs ks, rfl, .inr ⟨kvs, ks, b, .inl hd, rfl, fz_sub _ _ hb, rfl⟩, ?_⟩
  have e : (valV kvs ks).isSome = (lookT es ks).isSome := by
    rcases hr.look ks with ⟨z0, z⟩ | ⟨w, d', z1, z2, z3⟩
    · rw [z0, z]; rfl
    · rw [z1, z2]; rfl
  rw [e]
  exact k _ H2 g2 ρ2 (.fz (.bool _)) R2 (G1.trans G2) (Rp.bl _) (by simpa using q2)
/-- d[k] = v, d one's own, k a tuple -/
def dDPutT (i : Nat) (dk dv : DE) : DS := fun DD ρ => dv ρ fun r ρ1 => wF (frz ρ1 r) fun d ρ2 => (∃ es, ρ2[i]? = some (some (.ow (.dict (tmark :: es))))) ∧ dk ρ2 fun q ρ3 => ∃ es, ρ3[i]? = some (some (.ow (.dict (tmark :: es)))) ∧ ∃ ks, res ρ3 q = some (.tuple (ks.map keyD)) ∧ es.length < sizeLine ∧ DD.nx (ρ3.set i (some (.ow (.dict (tmark :: putT es ks d)))))
theorem ls_dputT (h : LE K ty dk) (h' : LE K tv dv) : LS K (sDPut (tVar i) ty tv) (dDPutT i dk dv) := by
  intro f g σ H ρ DD E hK R hd l
  refine h'.opd hK R hd fun v H1 g1 ρ1 r1 R1 G1 O1 q1 => ?_
  obtain ⟨d, ρ2, e2, q1⟩ := wF_some q1
  obtain ⟨g2, R2, G2, hv⟩ := O1.frz R1 e2
  obtain ⟨⟨es0, e0⟩, q1⟩ := q1
  obtain ⟨w, w1, a, wa, m, h0, ns, rr⟩ := R2.slot i _ e0
  subst wa
  refine ⟨.ref a, w1, ?_⟩
  refine h.opd hK R2 q1 fun u H3 g3 ρ3 r3 R3 G3 O3 q3 => ?_
  obtain ⟨es, s4, ks, e5, hl, q3⟩ := q3
  obtain ⟨w', w2, a', wa', m', h0', ns', r4⟩ := R3.slot i _ s4
  rw [w1] at w2; cases w2; cases wa'
  obtain ⟨b, rfl, hb⟩ := (O3.rn R3 e5).keys fz_sub
  obtain ⟨a2, kvs, ea, hk, hr⟩ := (show RN f.K (Fz H3 g3.M) H3 (.ref a) (.dict (tmark :: es)) from .inr ⟨a, rfl, r4⟩).dictT fz_sub
  cases ea
  refine ⟨a, _, rfl, DPut.t (k := ks) hk (fz_sub _ _ hb) (by rw [hr.length]; exact hl), ?_⟩
  obtain ⟨R5, G5⟩ := R3.mutOwn (o := .dT (putK kvs ks v)) (d' := .dict (tmark :: putT es ks d)) s4 w1 (.dct upd_same (hr.put ks (hv.mono G3.fz)))
  exact l.nx g3 σ _ _ R5 (((G1.trans G2).trans G3).trans G5) q3
end
end DL

set_option Elab.async false
set_option linter.all false
set_option maxRecDepth 100000
set_option maxHeartbeats 4000000
set_option autoImplicit false
namespace L2
open PySem PySem.Spec PyProof.Rows HT
section
variable {prog : Program} {w : World} {A : Around} {E : Value → Shared → Prop} {s : Shared}
theorem dl_sliceRev {sl : Addr} {vs : Value} {n : Nat} {Q : Int × Int × Nat → Shared → Prop} (hs : s.heap.IsSliceOf sl .none .none vs) (ps : IsPart vs (some (-1)))
    (h : Q ((n : Int) - 1, -1, n) s) : wpAny (model prog w) A (Builtin.Slice.sliceApplied (.ref sl) (pure (n : Int))) Q E s := by
  obtain ⟨os, hos, hcs, hds⟩ := id hs
  unfold Builtin.Slice.sliceApplied Builtin.Slice.sliceFields
  refine wpAny_bind (wpAny_bind (wpAny_field hos hds (x := .none) rfl (wpAny_bind (wpAny_field hos hds (x := .none) rfl (wpAny_bind (wpAny_field hos hds (x := vs) rfl (wpAny_pure ?_)))))))
  refine wpAny_bind (slicePart_ ps ?_)
  show wpAny _ _ (if ((-1 : Int) == 0) = true then _ else _) _ _ s
  rw [if_neg (by decide)]
  refine wpAny_bind (slicePart_none (wpAny_bind (slicePart_none (wpAny_bind (wpAny_pure ?_)))))
  have e1 : Builtin.Slice.sliceAdjust none none (-1) (n : Int) = ((n : Int) - 1, -1) := rfl
  have e2 : Builtin.Slice.slicePlaces ((n : Int) - 1) (-1) (-1) = n := by
    unfold Builtin.Slice.slicePlaces
    have h1 : ¬ ((-1 : Int) > 0) := by omega
    simp only [h1, if_false, show (- -1 : Int) = 1 by decide, Int.ediv_one]
    split <;> omega
  show wpAny _ _ (match Builtin.Slice.sliceAdjust none none (-1) (n : Int) with | (lo, hi) => pure (lo, (-1 : Int), Builtin.Slice.slicePlaces lo hi (-1))) _ _ s
  rw [e1]
  show wpAny _ _ (pure ((n : Int) - 1, (-1 : Int), Builtin.Slice.slicePlaces ((n : Int) - 1) (-1) (-1))) _ _ s
  rw [e2]
  exact wpAny_pure h
theorem dl_filterMap {f : Nat → Option Value} {g : Nat → Value} (l : List Nat) (h : ∀ m ∈ l, f m = some (g m)) : l.filterMap f = l.map g := by
  induction l with
  | nil => rfl
  | cons a l ih =>
    rw [List.filterMap_cons, h a List.mem_cons_self, List.map_cons]
    simp only
    rw [ih fun m hm => h m (List.mem_cons_of_mem _ hm)]
theorem dl_pickRev (xs : Array Value) : ((List.range xs.size).filterMap fun (m : Nat) => xs[(((xs.size : Nat) : Int) - 1 + (m : Int) * (-1)).toNat]?).toArray = xs.toList.reverse.toArray := by
  have hs : ∀ m (hm : m < xs.size), xs[(((xs.size : Nat) : Int) - 1 + (m : Int) * (-1)).toNat]? = some (xs.toList.reverse[m]'(by simpa using hm)) := fun m hm => by
    have e : (((xs.size : Nat) : Int) - 1 + (m : Int) * (-1)).toNat = xs.size - 1 - m := by omega
    rw [e, Array.getElem?_eq_getElem (by omega), List.getElem_reverse]
    simp
  rw [dl_filterMap (g := fun m => if hm : m < xs.size then xs.toList.reverse[m]'(by simpa using hm) else .none) _ fun m hm => by
    have hm := List.mem_range.mp hm
    rw [hs m hm, dif_pos hm]]
  congr 1
  apply List.ext_getElem
  · simp
  · intro i h1 h2
    have hi : i < xs.size := by simpa using h2
    rw [List.getElem_map]
    simp only [List.getElem_range]
    rw [dif_pos hi]
theorem dl_getItem_tuple_rev {t sl : Addr} {items : Array Value} {vs : Value} {Q : Value → Shared → Prop} (ht : IsTup s.heap t items) (hs : s.heap.IsSliceOf sl .none .none vs) (ps : IsPart vs (some (-1)))
    (h : Q (.ref s.heap.objs.size) { s with heap := s.heap.push { cls := .type "tuple", data := .seq items.toList.reverse.toArray } })
    (hsz : items.size ≤ sizeLine) : wpAny (model prog w) A (getItem (.ref t) (.ref sl)) Q E s := by
  have htake : sizeOk (.seq items.toList.reverse.toArray) := by
    show items.toList.reverse.toArray.size ≤ sizeLine
    rw [List.size_toArray, List.length_reverse, Array.length_toList]
    exact hsz
  obtain ⟨os, hos, hcs, hds⟩ := id hs
  have hTs : s.TypeIs (.ref sl) "slice" := ⟨os, hos, hcs⟩
  unfold getItem
  try with_reducible refine wpAny_holding ?_
  first | refine wpAny_bind (wpAny_pure ?_) | skip
  refine wpAny_bind (wpAny_sequenceKey ht.typeIs (by decide) ?_)
  refine wpAny_bind (wpAny_callSpecial?_slot (name := Str.ofString "__getitem__") ht.typeIs PyProof.Rows.slot_tuple_getitem
    (wpAny_call_entry PyProof.Rows.slot_tuple_getitem ht.typeIs entry_tuple_getitem ?_ (args_tuple_getitem _ _)))
  show wpAny _ _ (Builtin.Tuple.tupleItemsOf (.ref t) >>= _) _ _ s
  refine wpAny_bind (tupleItemsOf_ ht ?_)
  refine wpAny_bind (wpAny_typeOf hTs ?_)
  rw [if_pos (by decide)]
  refine wpAny_bind (dl_sliceRev hs ps ?_)
  have hno : ¬ ((((items.size : Nat) : Int) - 1 == 0 && (-1 : Int) == 1 && items.size == items.size) = true) := by
    intro q
    rw [Bool.and_eq_true, Bool.and_eq_true] at q
    exact absurd q.1.2 (by decide)
  show wpAny _ _ (if ((((items.size : Nat) : Int) - 1 == 0 && (-1 : Int) == 1 && items.size == items.size) = true) then _ else _) _ _ s
  rw [if_neg hno, dl_pickRev]
  first
    | exact wpAny_bind (m := Builtin.Tuple.tupleExact _) (wpAny_newObj_type (wpAny_pure ⟨_, rfl, wpAny_pure h⟩) htake)
    | exact wpAny_bind (m := Builtin.Tuple.tupleExact _) (wpAny_newObj_type (wpAny_bind (wpAny_pure (wpAny_pure ⟨_, rfl, wpAny_pure h⟩))) htake)
    | exact wpAny_bind (wpAny_bind (m := Builtin.Tuple.tupleExact _) (wpAny_newObj_type (wpAny_pure (wpAny_pure ⟨_, rfl, wpAny_pure h⟩)) htake))
    | exact wpAny_bind (wpAny_bind (m := Builtin.Tuple.tupleExact _) (wpAny_newObj_type (wpAny_pure ⟨_, rfl, wpAny_pure h⟩) htake))
end
/-- x[::-1] of a list or a tuple -/
def tRevA (K : PySem.W.Frag) (te : TE) : TE := fun σ H Q => te σ H fun x H1 => ∃ a xs, x = .ref a ∧
  ((SqL K H1 a xs ∧ ∀ p, H1 p = none → Q (.ref p) (upd H1 p (.lst xs.reverse))) ∨ (SqT K H1 a xs ∧ ∀ p, H1 p = none → Q (.ref p) (upd H1 p (.tup xs.reverse))))
section
variable {X : Cx} {K : PySem.W.Frag}
theorem pe_revA {e : Expr} {te : TE} {k : Nat} {p1 p2 p3 pos : Pos} (hK : X.K = K) (he : PE X e te) : PE X (.Subscript e (.Slice none none (some (.UnaryOp .USub (.Constant (.int 1) k p1) p2)) p3) pos) (tRevA K te) := by
  subst hK
  refine ⟨fun pins s σ H Q I h => ?_⟩
  refine Subscript_ (thn (he.run pins s σ H _ I h) fun v s1 ⟨x, H1, I1, r1, q1⟩ => ?_)
  obtain ⟨a, xs, ex, hx⟩ := q1
  subst ex
  cases r1
  have hst : PO X (some (.UnaryOp .USub (.Constant (.int 1) k p1) p2)) (tPart (tUn (rU fun i => .int (-i)) (tC (.int 1)))) := po_some (pe_un un_neg pe_int)
  refine wpAny_Slice (thn (po_none.run pins s1 σ H1 (fun o H2 => o = none ∧ H2 = H1) I1 ⟨rfl, rfl⟩) fun vl s2 ⟨l, H2, I2, pl, el, e2⟩ => ?_)
  subst el e2
  refine thn (po_none.run pins s2 σ H2 (fun o H3 => o = none ∧ H3 = H2) I2 ⟨rfl, rfl⟩) fun vu s3 ⟨u, H3, I3, pu, eu, e3⟩ => ?_
  subst eu e3
  refine thn (hst.run pins s3 σ H3 (fun o H4 => o = some (-1) ∧ H4 = H3) I3 ⟨1, rfl, -1, rfl, rfl, rfl⟩) fun vs s4 ⟨o, H4, I4, ps, eo, e4⟩ => ?_
  subst eo e4
  have I5 : Inv X pins σ H4 { s4 with heap := s4.heap.push { cls := .type "slice", data := .fields #[vl, vu, vs] } } := I4.kept (t' := s4.toks) fun b ob q => Heap.get?_push_of_some _ q
  show wpAny (model X.prog X.w) X.A (subscriptTail e (.Slice none none (some (.UnaryOp .USub (.Constant (.int 1) k p1) p2)) p3) (.ref a) (.ref s4.heap.objs.size)) (EP X pins σ Q) X.xe { s4 with heap := s4.heap.push { cls := .type "slice", data := .fields #[vl, vu, vs] } }
  rcases hx with ⟨hx, q⟩ | ⟨hx, q⟩
  · obtain ⟨its, r, ht, hz⟩ := I5.list hx
    have hlen := r.length
    refine tail_any (ops := [.ref a, .ref s4.heap.objs.size]) ht.isList.typeIs (PySem.slot_list_getitem.lookup) ?_ (by with_unfolding_all rfl)
    refine wpAny_getItem_list_slice ht.isList (Heap.IsSliceOf.new _ vl vu vs) pl pu ps (by decide) ?_ (by rw [List.size_toArray]; omega)
    rw [PySem.W.krv_pick]
    refine ⟨.ref _, _, I5.laid (t' := s4.toks) (o := .lst xs.reverse) (fun b ob q => Heap.get?_push_of_some _ q) (Nat.le_refl _) ?_, rfl, q _ (I5.hok.fresh (Nat.le_refl _))⟩
    exact ⟨by rw [List.length_reverse]; exact hz, _, 0, r.reverse, Heap.get?_push_size _ rfl⟩
  · cases pl
    cases pu
    obtain ⟨its, r, ht, hz⟩ := I5.tuple hx
    have hlen := r.length
    refine tail_any (ops := [.ref a, .ref s4.heap.objs.size]) ht.typeIs (PyProof.Rows.slot_tuple_getitem.lookup) ?_ (by with_unfolding_all rfl)
    refine dl_getItem_tuple_rev ht (Heap.IsSliceOf.new _ .none .none vs) ps ?_ (by rw [List.size_toArray]; omega)
    refine ⟨.ref _, _, I5.laid (t' := s4.toks) (o := .tup xs.reverse) (fun b ob q => Heap.get?_push_of_some _ q) (Nat.le_refl _) ?_, rfl, q _ (I5.hok.fresh (Nat.le_refl _))⟩
    exact ⟨by rw [List.length_reverse]; exact hz, its.reverse, r.reverse, IsTup.new _ _⟩
end
end L2
namespace DL
open PySem L2
def fRev (x : D) (Q : Rv → Prop) : Prop := match x with
  | .list ds => Q (.nw (.list ds.reverse))
  | .tuple ds => Q (.fz (.tuple ds.reverse))
  | _ => False
def dRev (da : DE) : DE := fun ρ Q => da ρ fun r ρ1 => wD (res ρ1 r) fun x => fRev x fun q => Q q ρ1
theorem le_rev {K : PySem.W.Frag} {ta : TE} {da : DE} (h : LE K ta da) : LE K (tRevA K ta) (dRev da) := by
  intro f g σ H ρ Q R hK hR hd k
  refine h.opd hK hR hd fun v H1 g1 ρ1 r1 R1 G1 O1 q1 => ?_
  obtain ⟨x, e, q⟩ := wD_some q1
  subst hK
  have hx := O1.rn R1 e
  have k' : OEnd f g1 σ H1 ρ1 (fun q => Q q ρ1) R := fun z H' g' r R' G' V' q' => k z H' g' ρ1 r R' (G1.trans G') V' q'
  cases x with
  | list ds =>
    obtain ⟨a, xs, rfl, e1, r1⟩ := hx.list fz_sub
    exact ⟨a, xs, rfl, .inl ⟨.inl (.inl e1), OEnd.lst k' R1 r1.reverse q⟩⟩
  | tuple ds =>
    obtain ⟨a, xs, rfl, e1, r1, z1⟩ := hx.tuple fz_sub
    exact ⟨a, xs, rfl, .inr ⟨e1, OEnd.tup k' R1 r1.reverse q⟩⟩
  | none => exact q.elim
  | bool _ => exact q.elim
  | int _ => exact q.elim
  | dict _ => exact q.elim
  | str _ => exact q.elim
end DL

set_option Elab.async false
set_option linter.all false
set_option maxRecDepth 100000
set_option maxHeartbeats 4000000
set_option autoImplicit false
namespace DL
open PySem L2
open StX (tStar pa_star)

/-! ### stars in a display -/
abbrev DF := Rho → (List D → Rho → Prop) → Prop
/-- elements, frozen -/
def LF (K : PySem.W.Frag) (t : TA) (d : DF) : Prop := ∀ (f : Fr) (g : Gs) (σ : L2.St) (H : Hp) (ρ : Rho) (Q : List D → Rho → Prop) (R : List V → Hp → Prop), f.K = K → Rel f g σ H ρ → d ρ Q →
  (∀ (vs : List V) (H' : Hp) (g' : Gs) (ρ' : Rho) (ds : List D), Rel f g' σ H' ρ' → Gro g H g' H' → RpA f.K (Fz H' g'.M) vs ds → Q ds ρ' → R vs H') → t σ H R
def starOf : D → Option (List D)
  | .list ds => some ds
  | .tuple ds => some ds
  | _ => none
def dFNil : DF := fun ρ Q => Q [] ρ
def dFCons (da : DE) (dr : DF) : DF := fun ρ Q => da ρ fun r ρ1 => wF (frz ρ1 r) fun d ρ2 => dr ρ2 fun ds ρ3 => Q (d :: ds) ρ3
def dFStar (da : DE) (dr : DF) : DF := fun ρ Q => da ρ fun r ρ1 => wD (res ρ1 r) fun x => wA (starOf x) fun ds => dr ρ1 fun es ρ2 => Q (ds ++ es) ρ2
section
variable {K : PySem.W.Frag} {ta : TE} {da : DE} {tr : TA} {dr : DF}
theorem lf_nil : LF K tNil dFNil := fun f g σ H ρ Q R hK hR hd k => k [] H g ρ [] hR Gro.refl .nil hd
theorem lf_cons (h : LE K ta da) (h' : LF K tr dr) : LF K (tCons ta tr) (dFCons da dr) := by
  intro f g σ H ρ Q R hK hR hd k
  refine h.opd hK hR hd fun v H1 g1 ρ1 r1 R1 G1 O1 q1 => ?_
  obtain ⟨d, ρ2, e2, q1⟩ := wF_some q1
  obtain ⟨g2, R2, G2, hv⟩ := O1.frz R1 e2
  subst hK
  exact h' f g2 σ H1 ρ2 _ _ rfl R2 q1 fun vs H3 g3 ρ3 ds R3 G3 O3 q3 => k _ H3 g3 ρ3 _ R3 ((G1.trans G2).trans G3) (.cons (hv.mono G3.fz) O3) q3
theorem lf_star (h : LE K ta da) (h' : LF K tr dr) : LF K (tStar K ta tr) (dFStar da dr) := by
  intro f g σ H ρ Q R hK hR hd k
  refine h.opd hK hR hd fun v H1 g1 ρ1 r1 R1 G1 O1 q1 => ?_
  obtain ⟨x, e, q1⟩ := wD_some q1
  obtain ⟨ds, e', q1⟩ := wA_some q1
  subst hK
  have hx := O1.rn R1 e
  cases x with
  | list es =>
    cases e'
    obtain ⟨a, xs, rfl, e1, r1⟩ := hx.list fz_sub
    refine ⟨a, xs, rfl, .inr (.inl (.inl e1)), ?_⟩
    exact h' f g1 σ H1 ρ1 _ _ rfl R1 q1 fun vs H2 g2 ρ2 rs R2 G2 O2 q2 => k _ H2 g2 ρ2 _ R2 (G1.trans G2) ((r1.mono G2.fz).append O2) q2
  | tuple es =>
    cases e'
    obtain ⟨a, xs, rfl, e1, r1, _⟩ := hx.tuple fz_sub
    refine ⟨a, xs, rfl, .inl e1, ?_⟩
    exact h' f g1 σ H1 ρ1 _ _ rfl R1 q1 fun vs H2 g2 ρ2 rs R2 G2 O2 q2 => k _ H2 g2 ρ2 _ R2 (G1.trans G2) ((r1.mono G2.fz).append O2) q2
  | none => cases e'
  | bool _ => cases e'
  | int _ => cases e'
  | dict _ => cases e'
  | str _ => cases e'
def dLstF (da : DF) : DE := fun ρ Q => da ρ fun ds ρ1 => ds.length ≤ sizeLine ∧ Q (.nw (.list ds)) ρ1
def dTupF (da : DF) : DE := fun ρ Q => da ρ fun ds ρ1 => ds.length ≤ sizeLine ∧ Q (.fz (.tuple ds)) ρ1
theorem le_lstF (h : LF K tr dr) : LE K (tLst tr) (dLstF dr) := by
  intro f g σ H ρ Q R hK hR hd k
  refine h f g σ H ρ _ _ hK hR hd fun vs H1 g1 ρ1 ds R1 G1 q2 q1 => ?_
  obtain ⟨hl, q1⟩ := q1
  refine ⟨by rw [q2.length]; exact hl, fun p hp => ?_⟩
  obtain ⟨R3, G3, V3⟩ := R1.own (o := .lst vs) (d := .list ds) hp (.lst upd_same q2)
  exact k _ _ _ ρ1 _ R3 (G1.trans G3) V3 q1
theorem le_tupF (h : LF K tr dr) : LE K (tTup tr) (dTupF dr) := by
  intro f g σ H ρ Q R hK hR hd k
  refine h f g σ H ρ _ _ hK hR hd fun vs H1 g1 ρ1 ds R1 G1 q2 q1 => ?_
  obtain ⟨hl, q1⟩ := q1
  refine ⟨by rw [q2.length]; exact hl, fun p hp => ?_⟩
  obtain ⟨R3, G3, e3⟩ := R1.new (o := .tup vs) hp
  exact k _ _ g1 ρ1 (.fz (.tuple ds)) R3 (G1.trans G3) (Rp.tup e3 (q2.mono G3.fz)) q1
end
theorem k_star {X : Cx} {K : PySem.W.Frag} {e : Expr} {te : TE} {es : List Expr} {t : TA} {p : Pos} (hK : X.K = K) (he : PE X e te) (hr : PA X es t) (hs : starEach (.Starred e p :: es) X.env = (true, eval e X.env) :: starEach es X.env := by rfl) : PA X (.Starred e p :: es) (tStar K te t) := by
  subst hK; exact pa_star he hr hs
/-! ### a list unpacked -/
def wL (o : Option D) (k : List D → Prop) : Prop := match o with
  | some (.list ds) => k ds
  | _ => False
theorem wL_some {o : Option D} {k : List D → Prop} (h : wL o k) : ∃ b, o = some (.list b) ∧ k b := by
  unfold wL at h
  split at h
  · exact ⟨_, rfl, h⟩
  · exact h.elim
def dgL (n : Nat) (dgs : DGs) : DG := fun r ρ Q => wL (res ρ r) fun ds => ds.length = n ∧ dgs ds ρ Q
theorem lg_lst {K : PySem.W.Frag} {n : Nat} {ts : TGs} {dgs : DGs} (h : LGs K ts dgs) : LG K (gLst K n ts) (dgL n dgs) := by
  intro f g σ H ρ v r Q R hK hR V q k
  obtain ⟨ds, e, hl, q⟩ := wL_some q
  obtain ⟨g1, R1, G1, O1⟩ := V.opd hR
  subst hK
  obtain ⟨a, xs, rfl, hs, hr⟩ := (O1.rn R1 e).list fz_sub
  refine ⟨a, xs, rfl, .inl (.inl hs), by rw [hr.length]; exact hl, ?_⟩
  exact h f g1 σ H ρ xs ds Q R rfl R1 hr q fun g2 σ2 H2 ρ2 R2 G2 q2 => k g2 σ2 H2 ρ2 R2 (G1.trans G2) q2
theorem k_glst {X : Cx} {K : PySem.W.Frag} {es : List Expr} {k : Nat} {t : TGs} {n : Nat} {pos : Pos} (h : X.K = K) (hc : X.calm = true) (hp : PGs X es t) (hn : (assignEach es X.env).length = n := by rfl) (hst : (assignEach es X.env).findIdx? (·.1) = none := by rfl) : PG X (.Tuple es k pos) (gLst K n t) := by
  subst h; exact pg_lst hc hp hn hst
/-! ### repr([..]): the list is made and dropped, its members stay one's own -/
def dReprL (dr : DA) : DE := fun ρ Q => dr ρ fun rs ρ1 => wA (resA ρ1 rs) fun ds => ds.length ≤ sizeLine ∧ reprOkP (.list ds) ∧ Q (.fz (.str (PyData.shown (.list ds)))) ρ1
theorem RNA.rp {K : PySem.W.Frag} {F H : Hp} {vs : List V} {ds : List D} (e : Same F H) (h : RNA K F H vs ds) : RpA K H vs ds := by
  induction h with
  | nil => exact .nil
  | cons h _ ih => exact .cons (h.same e) ih
theorem le_reprL {K : PySem.W.Frag} {tr : TA} {dr : DA} (h : LA K tr dr) : LE K (tCB (rReprP K) (tCons (tLst tr) tNil)) (dReprL dr) := by
  intro f g σ H ρ Q R hK hR hd k
  refine h f g σ H ρ _ _ hK hR hd fun vs H1 g1 ρ1 rs R1 G1 O1 q1 => ?_
  obtain ⟨ds, e1, hl, hr, q1⟩ := wA_some q1
  subst hK
  have ra := RNA.rp fz_sub (O1.rn R1 e1)
  refine ⟨by rw [ra.length]; exact hl, fun p hp => ?_⟩
  obtain ⟨R3, G3, e3⟩ := R1.new (o := .lst vs) hp
  obtain ⟨h1, h2, h3, h4⟩ := hr
  have up : Same H1 (upd H1 p (.lst vs)) := fun a o e => by rw [upd_ne (ne_of_none e hp)]; exact e
  refine ⟨.ref p, .list ds, rfl, ⟨_, Same.refl _, .inl (.lst upd_same (ra.mono up))⟩, h1, h2, h3, h4, ?_⟩
  exact k _ _ g1 ρ1 (.fz (.str _)) R3 (G1.trans G3) (.str _) q1
end DL

set_option Elab.async false
set_option linter.all false
set_option maxRecDepth 100000
set_option maxHeartbeats 4000000
set_option autoImplicit false
namespace DL
open PySem L2
/-! ### what repr asks, built up -/
structure RB (w n : Nat) (d : D) : Prop where
  sh : d.showable = true
  lv : d.leavesShort 25 = true
  wt : d.weight ≤ w
  dp : d.depth ≤ n
  nd : d.hasDict = false
structure RBs (w n : Nat) (ds : List D) : Prop where
  sh : PyData.showableAll ds = true
  lv : PyData.leavesShortAll 25 ds = true
  wt : PyData.weightAll ds ≤ w
  dp : PyData.depthAll ds ≤ n
  nd : PyData.hasDictAll ds = false
theorem RB.mono {w w' n n' : Nat} {d : D} (h : RB w n d) (hw : w ≤ w') (hn : n ≤ n') : RB w' n' d := ⟨h.sh, h.lv, Nat.le_trans h.wt hw, Nat.le_trans h.dp hn, h.nd⟩
theorem RBs.mono {w w' n n' : Nat} {d : List D} (h : RBs w n d) (hw : w ≤ w') (hn : n ≤ n') : RBs w' n' d := ⟨h.sh, h.lv, Nat.le_trans h.wt hw, Nat.le_trans h.dp hn, h.nd⟩
theorem RB.int {i : Int} (h : small i) : RB 65 1 (.int i) := by
  obtain ⟨a, b, c, d, e⟩ := small_int h
  exact ⟨a, b, c, d, e⟩
theorem RB.bool (b : Bool) : RB 0 1 (.bool b) := ⟨rfl, by cases b <;> decide +kernel, Nat.le_refl _, Nat.zero_le _, rfl⟩
theorem RB.none : RB 0 1 .none := ⟨rfl, by decide +kernel, Nat.le_refl _, Nat.zero_le _, rfl⟩
theorem RBs.nil : RBs 0 0 [] := ⟨rfl, rfl, Nat.le_refl _, by simp [PyData.depthAll], rfl⟩
theorem RBs.cons {w w' n : Nat} {d : D} {ds : List D} (h : RB w n d) (h' : RBs w' n ds) : RBs (w + 1 + w') n (d :: ds) := by
  refine ⟨?_, ?_, ?_, ?_, ?_⟩
  · simp only [PyData.showableAll, h.sh, h'.sh, Bool.and_self]
  · simp only [PyData.leavesShortAll, h.lv, h'.lv, Bool.and_self]
  · have := h.wt; have := h'.wt; simp only [PyData.weightAll]; omega
  · have := h.dp; have := h'.dp; simp only [PyData.depthAll]; omega
  · simp only [PyData.hasDictAll, h.nd, h'.nd, Bool.or_self]
theorem RBs.one {w n : Nat} {d : D} (h : RB w n d) : RBs (w + 1 + 0) n [d] := .cons h (RBs.nil.mono (Nat.le_refl _) (Nat.zero_le _))
theorem RBs.all {w n k : Nat} {ds : List D} (h : ∀ d ∈ ds, RB w n d) (hl : ds.length ≤ k) : RBs ((w + 1) * k) n ds := by
  refine RBs.mono (w := (w + 1) * ds.length) ?_ (Nat.mul_le_mul_left _ hl) (Nat.le_refl _)
  clear hl
  induction ds with
  | nil => exact RBs.nil.mono (by simp) (Nat.zero_le _)
  | cons d ds ih =>
    refine (RBs.cons (h d List.mem_cons_self) (ih fun x hx => h x (List.mem_cons_of_mem _ hx))).mono ?_ (Nat.le_refl _)
    rw [List.length_cons, Nat.mul_succ]
    omega
theorem RB.list {w n : Nat} {ds : List D} (h : RBs w n ds) : RB w (n + 1) (.list ds) := ⟨h.sh, h.lv, h.wt, by have := h.dp; simp only [PyData.depth]; omega, h.nd⟩
theorem RB.tuple {w n : Nat} {ds : List D} (h : RBs w n ds) : RB w (n + 1) (.tuple ds) := ⟨h.sh, h.lv, h.wt, by have := h.dp; simp only [PyData.depth]; omega, h.nd⟩
theorem RB.ok {w n : Nat} {d : D} (h : RB w n d) (hw : w ≤ 500000) (hn : n ≤ 60) : reprOkP d := reprOk_of h.sh (.inl h.nd) h.lv (Nat.le_trans h.wt hw) (Nat.le_trans h.dp hn)
theorem RBs.ints {ns : List Int} {k : Nat} (h : ∀ n ∈ ns, small n) (hl : ns.length ≤ k) : RBs (66 * k) 1 (ns.map PyData.int) := .all (fun d hd => by
  obtain ⟨n, hn, rfl⟩ := List.mem_map.mp hd
  exact .int (h n hn)) (by simpa using hl)
/-! ### bits as ints -/
def bit (n : Int) : Prop := n = 0 ∨ n = 1
theorem bit.small {n : Int} (h : bit n) : small n := by rcases h with rfl | rfl <;> (unfold DL.small; decide)
theorem RB.bit {n : Int} (h : bit n) : RB 1 1 (.int n) := by
  have := RB.int h.small
  exact ⟨this.sh, this.lv, by rcases h with rfl | rfl <;> decide, this.dp, this.nd⟩
theorem RBs.bits {ns : List Int} {k : Nat} (h : ∀ n ∈ ns, DL.bit n) (hl : ns.length ≤ k) : RBs (2 * k) 1 (ns.map PyData.int) := .all (fun d hd => by
  obtain ⟨n, hn, rfl⟩ := List.mem_map.mp hd
  exact .bit (h n hn)) (by simpa using hl)
theorem bit_xor {a b : Int} (h : bit a) (h' : bit b) : bit (Builtin.bitXor a b) := by
  rcases h with rfl | rfl <;> rcases h' with rfl | rfl
  · exact .inl (by decide)
  · exact .inr (by decide)
  · exact .inr (by decide)
  · exact .inl (by decide)
theorem bit_and {a b : Int} (h : bit a) (h' : bit b) : bit (Builtin.bitAnd a b) := by
  rcases h with rfl | rfl <;> rcases h' with rfl | rfl
  · exact .inl (by decide)
  · exact .inl (by decide)
  · exact .inl (by decide)
  · exact .inr (by decide)
theorem bit_mod (l : Int) : bit (l.fmod 2) := by
  have h1 := Int.fmod_nonneg_of_pos l (b := 2) (by decide)
  have h2 := Int.fmod_lt_of_pos l (b := 2) (by decide)
  rcases (by omega : l.fmod 2 = 0 ∨ l.fmod 2 = 1) with h | h
  · exact .inl h
  · exact .inr h
/-! ### indices -/
theorem atI_ok {xs : List D} {k : Int} (h1 : 0 ≤ k) (h2 : k < xs.length) : L2.atI xs k = some (xs[k.toNat]'(by omega)) := by
  unfold L2.atI ixN
  rw [if_pos h1, if_pos h2]
  show xs[k.toNat]? = _
  rw [List.getElem?_eq_getElem]
theorem atI_ints {xs : List Int} {k : Int} (h1 : 0 ≤ k) (h2 : k < xs.length) : L2.atI (xs.map PyData.int) k = some (.int (xs.getD k.toNat 0)) := by
  rw [atI_ok h1 (by simpa using h2)]
  simp only [List.getElem_map]
  rw [List.getD_eq_getElem?_getD, List.getElem?_eq_getElem (by omega)]
  rfl
theorem atI_last {xs : List D} {x : D} : L2.atI (xs ++ [x]) (-1) = some x := by
  unfold L2.atI ixN
  rw [if_neg (by omega), if_pos (by simp; omega)]
  have e : (-1 + ((xs ++ [x]).length : Int)).toNat = xs.length := by simp; omega
  show (xs ++ [x])[(-1 + ((xs ++ [x]).length : Int)).toNat]? = _
  rw [e]
  simp
theorem useB_d {p : Prop} [Decidable p] {A B : Prop} (h1 : p → A) (h2 : ¬ p → B) : useB (decide p) A B := by
  by_cases h : p
  · exact useB_y (decide_eq_true h) (h1 h)
  · exact useB_n (decide_eq_false h) (h2 h)
/-! ### a, b = x, y by way of a tuple (one of the names is a cell) -/
section
variable {K : PySem.W.Frag} {ta tb tc : TE} {da db dc : DE} {i j : Nat}
theorem ls_parT (h : LE K ta da) (h' : LE K tb db) : LS K (tAsg (tTup (tCons ta (tCons tb tNil))) (gTup K 2 (gCons (gName i) (gCons (gName j) gNil)))) (dPar i j da db) := by
  intro f g σ H ρ DD E hK R hd l
  refine h f g σ H ρ _ _ hK R hd fun v H1 g1 ρ1 r R1 G1 V1 q1 => ?_
  obtain ⟨r1, ρ2, e1, q1⟩ := wP_some q1
  obtain ⟨g2, R2, G2, V2, p2⟩ := V1.plain R1 e1
  obtain ⟨g3, R3, hh⟩ := V2.held R2
  refine h' f g3 σ H1 ρ2 _ _ hK R3 q1 fun w H4 g4 ρ4 q R4 G4 V4 q4 => ?_
  obtain ⟨qq, ρ5, e5, q5⟩ := wP_some q4
  obtain ⟨g5, R5, G5, V5, p5⟩ := V4.plain R4 e5
  obtain ⟨g6, R6, G6, V6, hh6⟩ := hh g5 H4 ρ5 R5 (G4.trans G5) (fun i z => by rw [z] at p2; exact p2.elim)
  obtain ⟨W6, n6⟩ := hh6 w qq V5
  refine ⟨by show 2 ≤ sizeLine; rw [sizeLine_eq]; decide, fun p hp => ⟨p, [v, w], rfl, .inl (.inl upd_same), rfl, v, [w], rfl, w, [], rfl, rfl, ?_⟩⟩
  have R7 := V6.put R6 p2 i
  have W7 := W6.putO R6 p2 p5 (fun d e z1 z2 => n6 d e z1 z2) i
  obtain ⟨R9, G9, _⟩ := (W7.put R7 p5 j).new (o := .tup [v, w]) hp
  exact l.nx g6 _ _ _ R9 (((G1.trans G2).trans G6).trans G9) q5
theorem ls_par3T {i j l : Nat} (h : LE K ta da) (h' : LE K tb db) (h'' : LE K tc dc) : LS K (tAsg (tTup (tCons ta (tCons tb (tCons tc tNil)))) (gTup K 3 (gCons (gName i) (gCons (gName j) (gCons (gName l) gNil))))) (dPar3 i j l da db dc) := by
  intro f g σ H ρ DD E hK R hd lk
  refine h f g σ H ρ _ _ hK R hd fun v H1 g1 ρ1 r R1 G1 V1 q1 => ?_
  obtain ⟨r1, ρ2, e1, q1⟩ := wP_some q1
  obtain ⟨g2, R2, G2, V2, p2⟩ := V1.plain R1 e1
  obtain ⟨g3, R3, hh⟩ := V2.held R2
  refine h' f g3 σ H1 ρ2 _ _ hK R3 q1 fun w H4 g4 ρ4 q R4 G4 V4 q4 => ?_
  obtain ⟨qq, ρ5, e5, q5⟩ := wP_some q4
  obtain ⟨g5, R5, G5, V5, p5⟩ := V4.plain R4 e5
  obtain ⟨g6, R6, kk⟩ := V5.held R5
  refine h'' f g6 σ H4 ρ5 _ _ hK R6 q5 fun z H7 g7 ρ7 s R7 G7 V7 q7 => ?_
  obtain ⟨ss, ρ8, e8, q8⟩ := wP_some q7
  obtain ⟨g8, R8, G8, V8, p8⟩ := V7.plain R7 e8
  obtain ⟨g9, R9, G9, V9, kk9⟩ := kk g8 H7 ρ8 R8 (G7.trans G8) (fun i z => by rw [z] at p5; exact p5.elim)
  obtain ⟨W9, n9⟩ := kk9 z ss V8
  obtain ⟨g10, R10, G10, V10, hh10⟩ := hh g9 H7 ρ8 R9 ((G4.trans G5).trans G9) (fun i z => by rw [z] at p2; exact p2.elim)
  obtain ⟨Wb, nb⟩ := hh10 w qq V9
  obtain ⟨Wc, nc⟩ := hh10 z ss W9
  refine ⟨by show 3 ≤ sizeLine; rw [sizeLine_eq]; decide, fun p hp => ⟨p, [v, w, z], rfl, .inl (.inl upd_same), rfl, v, [w, z], rfl, w, [z], rfl, z, [], rfl, rfl, ?_⟩⟩
  have R11 := V10.put R10 p2 i
  have B11 := Wb.putO R10 p2 p5 (fun d e z1 z2 => nb d e z1 z2) i
  have C11 := Wc.putO R10 p2 p8 (fun d e z1 z2 => nc d e z1 z2) i
  have R12 := B11.put R11 p5 j
  have C12 := C11.putO R11 p5 p8 (fun d e z1 z2 => n9 d e z1 z2) j
  obtain ⟨Rn, Gn, _⟩ := (C12.put R12 p8 l).new (o := .tup [v, w, z]) hp
  exact lk.nx g10 _ _ _ Rn (((G1.trans G2).trans G10).trans Gn) q8
end
/-- a comprehension within one -/
theorem look_relabel {env : Env} {y : Str} : ∀ {names : List (Str × NameKind)}, (match names.lookup y with | some .cell => true | some .free => true | _ => false) = true →
    (match (names.map fun (n, k) => if (k == NameKind.free && env.scope.kind == .function && env.kindOf n == some .cell) then (n, NameKind.cell) else (n, k)).lookup y with | some .cell => true | some .free => true | _ => false) = true
  | [], h => h
  | (n, k) :: r, h => by
    have ih := @look_relabel env y r
    rw [List.map_cons]
    cases hx : y == n with
    | true =>
      simp only [List.lookup_cons, hx] at h ⊢
      by_cases q : (k == NameKind.free && env.scope.kind == .function && env.kindOf n == some .cell) = true
      · rw [if_pos q]; simp [List.lookup_cons, hx]
      · rw [if_neg q]; simp only [List.lookup_cons, hx]; exact h
    | false =>
      simp only [List.lookup_cons, hx] at h ⊢
      have e : ∀ (z : Str × NameKind) (l : List (Str × NameKind)), z.1 = n → (z :: l).lookup y = l.lookup y := fun z l e => by
        obtain ⟨z1, z2⟩ := z
        have e : z1 = n := e
        subst e
        rw [List.lookup_cons, hx]
      rw [e _ _ (by split <;> rfl)]
      exact ih h
theorem blkC_relabel {N : List Str} {sc scope : Scope} {own : List (Str × Nat)} {env : Env} (h : blkC N sc scope own = true) : blkC N (relabel sc env) scope own = true := by
  unfold blkC at h ⊢
  rw [Bool.and_eq_true] at h ⊢
  refine ⟨h.1, ?_⟩
  have h2 := h.2
  rw [List.all_eq_true] at h2 ⊢
  intro y hy
  have := h2 y hy
  revert this
  cases y.2 with
  | free => exact fun this => look_relabel this
  | _ => exact fun this => this
theorem blkOk_in {X : Cx} {s : Shared} {H : Hp} {cl : List (Str × Addr)} {C : Addr} {env : Env} {fp : List Addr} {N : List Str} {sc scope : Scope} {own : List (Str × Nat)} (h : blkC N sc scope own = true) : BlkOk N (X.blk s H sc (compEnvC sc cl C env) fp).env.scope scope own := blkOk_by (blkC_relabel h)
theorem mem_rng {lo : Int} {n : Nat} {d : D} (h : d ∈ rngD lo n) : ∃ j : Int, d = .int j ∧ lo ≤ j ∧ j < lo + n := by
  obtain ⟨i, hi, rfl⟩ := List.mem_map.mp h
  rw [List.mem_range] at hi
  exact ⟨_, rfl, by omega, by omega⟩
theorem eqv_strs {a : Str} : PyData.eqv (.str a) (.str a) = true := by simp [PyData.eqv]
/-! ### comprehensions of draws -/
theorem dLcGo_eachI {dg : DG} {de : DE} {vs : List Nat} {Q : Rv → Rho → Prop} (ds : List D) (p : Nat → D → Prop) (I : Rho → Prop) {ρ : Rho} (hl : ds.length ≤ sizeLine) (h0 : I ρ)
    (hs : ∀ (i : Nat) (x : D) (ρ : Rho) (k : D → Rho → Prop), ds[i]? = some x → I ρ → (∀ d ρ', p i d → I ρ' → k d ρ') → dg (.fz x) (wipeR ρ vs) fun ρ1 => de ρ1 fun r ρ3 => wF (frz ρ3 r) fun d ρ4 => k d (bckR ρ ρ4 vs))
    (hd : ∀ (acc : List D) (ρ : Rho), I ρ → acc.length = ds.length → (∀ i d, acc[i]? = some d → p i d) → Q (.nw (.list acc)) ρ) : dLcGo dg dYes de vs Q ds [] ρ := by
  have hu : ∀ (A B : Prop), useB true A B = A := fun A B => propext ⟨useB_t, useB_y rfl⟩
  refine dLcGo_of ds (fun i acc ρ => I ρ ∧ acc.length = i ∧ ∀ j d, acc[j]? = some d → p j d) ⟨h0, rfl, fun j d h => by simp at h⟩ ?_ ?_
  · rintro i x acc ρ k hx ⟨hI, hal, hap⟩ next
    have hi : i < ds.length := (List.getElem?_eq_some_iff.mp hx).1
    have := hs i x ρ (fun d ρ' => acc.length < sizeLine ∧ k (acc ++ [d]) ρ') hx hI fun d ρ' hd hI' => ⟨by omega, next _ _ ⟨hI', by simp; omega, fun j e he => ?_⟩⟩
    · show dg (.fz x) (wipeR ρ vs) fun ρ1 => useB true _ _
      simp only [hu]
      exact this
    · by_cases hj : j < acc.length
      · rw [List.getElem?_append_left hj] at he; exact hap j e he
      · have hlt := (List.getElem?_eq_some_iff.mp he).1
        rw [List.length_append, List.length_singleton] at hlt
        have e1 : j = acc.length := by omega
        subst e1
        rw [List.getElem?_append_right (Nat.le_refl _), Nat.sub_self] at he
        cases he
        rw [hal]; exact hd
  · rintro acc ρ ⟨hI, hal, hap⟩
    exact hd acc ρ hI hal hap
theorem dLcGo_each {dg : DG} {de : DE} {vs : List Nat} {Q : Rv → Rho → Prop} (ds : List D) (p : Nat → D → Prop) {ρ : Rho} (hl : ds.length ≤ sizeLine)
    (hs : ∀ (i : Nat) (x : D) (k : D → Rho → Prop), ds[i]? = some x → (∀ d, p i d → k d ρ) → dg (.fz x) (wipeR ρ vs) fun ρ1 => de ρ1 fun r ρ3 => wF (frz ρ3 r) fun d ρ4 => k d (bckR ρ ρ4 vs))
    (hd : ∀ acc : List D, acc.length = ds.length → (∀ i d, acc[i]? = some d → p i d) → Q (.nw (.list acc)) ρ) : dLcGo dg dYes de vs Q ds [] ρ :=
  dLcGo_eachI ds p (fun ρ' => ρ' = ρ) hl rfl (fun i x ρ' k hx e q => by subst e; exact hs i x k hx fun d hp => q d _ hp rfl) (fun acc ρ' e h1 h2 => by subst e; exact hd acc h1 h2)
theorem maps_of {α : Type} {f : α → D} {p : α → Prop} {acc : List D} (h : ∀ (i : Nat) (d : D), acc[i]? = some d → ∃ b, d = f b ∧ p b) : ∃ bs : List α, acc = bs.map f ∧ bs.length = acc.length ∧ ∀ b ∈ bs, p b := by
  induction acc with
  | nil => exact ⟨[], rfl, rfl, fun _ h => nomatch h⟩
  | cons d acc ih =>
    obtain ⟨b, rfl, hb⟩ := h 0 d rfl
    obtain ⟨bs, rfl, hl, hp⟩ := ih fun i e he => h (i + 1) e (by simpa using he)
    refine ⟨b :: bs, rfl, by simp, fun x hx => ?_⟩
    rcases List.mem_cons.mp hx with rfl | hx
    · exact hb
    · exact hp x hx
theorem bit_of {b : Int} (h1 : 0 ≤ b) (h2 : b < 2) : bit b := by unfold bit; omega
theorem rngLe {n : Nat} (h : n ≤ 16777216) {lo : Int} : (rngD lo n).length ≤ sizeLine := by rw [rngD_length, sizeLine_eq]; exact h
theorem ne_same {a b : Str} (h : a = b) : (true != PyData.eqv (.str a) (.str b)) = false := by rw [h, eqv_strs]; rfl
end DL

set_option Elab.async false
set_option linter.all false
set_option maxRecDepth 100000
set_option maxHeartbeats 4000000
set_option autoImplicit false
namespace DL
open PySem L2
section
variable {K : PySem.W.Frag} {ta tb te : TE} {da db de : DE} {i : Nat}
/-! ### n += e, ints -/
theorem slD_some {ρ : Rho} {d : D} (h : slD ρ[i]? = some d) : ∃ s, ρ[i]? = some (some s) ∧ (s = .sh d ∨ s = .bo d ∨ s = .ow d) := by
  unfold slD at h
  split at h
  · rename_i e; cases h; exact ⟨_, e, .inl rfl⟩
  · rename_i e; cases h; exact ⟨_, e, .inr (.inl rfl)⟩
  · rename_i e; cases h; exact ⟨_, e, .inr (.inr rfl)⟩
  · cases h
def dAugI (i : Nat) (G : Int → Int → Int) (de : DE) : DS := fun DD ρ => wI (slD ρ[i]?) fun n => de ρ fun r ρ1 => wI (res ρ1 r) fun m => DD.nx (ρ1.set i (some (.sh (.int (G n m)))))
theorem ls_augI {G : Int → Int → Int} (h : LE K te de) : LS K (tAug i te (rI0 fun a b => .int (G a b))) (dAugI i G de) := by
  intro f g σ H ρ DD E hK R hd l
  obtain ⟨n, e0, hd⟩ := wI_some hd
  obtain ⟨s, e1, hs⟩ := slD_some e0
  obtain ⟨v, e2, hv⟩ := R.slot i s e1
  have ev := (hv.rn R _ hs).int
  subst ev
  refine ⟨_, e2, ?_⟩
  refine h.opd hK R hd fun u H1 g1 ρ1 r1 R1 G1 O1 q1 => ?_
  obtain ⟨m, e3, q1⟩ := wI_some q1
  have eu := (O1.rn R1 e3).int
  subst eu
  refine ⟨n, m, rfl, rfl, ?_⟩
  exact l.nx g1 _ H1 _ (R1.set (i := i) (v := .int (G n m)) (s := .sh (.int (G n m))) (.int _) (fun d z => nomatch z)) G1 q1
/-! ### xs.pop(j), xs one's own -/
def dPopAt (i : Nat) (de : DE) : DE := fun ρ Q => wA (ownL ρ i) fun _ => de ρ fun r ρ1 => wI (res ρ1 r) fun j => ∃ xs, ρ1[i]? = some (some (.ow (.list xs))) ∧ 0 ≤ j ∧ j < xs.length ∧ xs.length ≤ sizeLine ∧ ∃ d, xs[j.toNat]? = some d ∧ Q (.fz d) (ρ1.set i (some (.ow (.list (xs.eraseIdx j.toNat)))))
theorem RpA.erase {F : Hp} {vs : List V} {ds : List D} (h : RpA K F vs ds) : ∀ n, RpA K F (vs.eraseIdx n) (ds.eraseIdx n) := by
  induction ds generalizing vs with
  | nil => cases h; intro n; exact .nil
  | cons x ds ih =>
    cases h with
    | cons h r =>
      intro n
      cases n with
      | zero => exact r
      | succ n => exact .cons h (ih r n)
theorem le_popAt (h : LE K te de) : LE K (tBM K "list" rPopAt (tVar i) (tCons te tNil)) (dPopAt i de) := by
  intro f g σ H ρ Q R hK hR hd k
  obtain ⟨xs0, e0, hd⟩ := wA_some hd
  obtain ⟨w, e1, a, e2, m, h0, ns, r⟩ := hR.slot i _ (ownL_some e0)
  subst e2
  refine ⟨.ref a, e1, ?_, ?_⟩
  · cases r with | lst h r => exact .inl ⟨rfl, _, .inl (.inl h)⟩
  · refine h.opd hK hR hd fun v H1 g1 ρ1 r1 R1 G1 O1 q1 => ?_
    obtain ⟨j, e3, xs, s2, j0, j1, hl, d, hd, q1⟩ := wI_some q1
    have ev := (O1.rn R1 e3).int
    subst ev
    obtain ⟨w2, e5, a2, e6, m2, h02, ns2, r2⟩ := R1.slot i _ s2
    rw [e1] at e5; cases e5; cases e6
    cases r2 with
    | lst hh rr =>
      obtain ⟨y, ey, ry⟩ := rr.get hd
      have hlen := rr.length
      refine ⟨a, _, j, j.toNat, y, rfl, rfl, hh, by omega, by rw [sizeLine_eq] at hl; omega, ?_, ey, ?_⟩
      · rw [hlen]
        unfold seqIndex?
        rw [if_neg (show ¬ j < 0 by omega)]
        dsimp only
        rw [if_pos (by simp only [Bool.and_eq_true, decide_eq_true_eq]; exact ⟨j0, j1⟩)]
      · obtain ⟨R3, G3⟩ := R1.mutOwn (o := .lst (_)) (d' := .list (xs.eraseIdx j.toNat)) s2 e1 (.lst upd_same (rr.erase j.toNat))
        exact k y _ g1 _ (.fz d) R3 (G1.trans G3) (ry.mono G3.fz) q1
/-! ### list(range(a, b)) -/
theorem rp_rg {F : Hp} (a b : Int) : RpA K F (rgV a b) (rngD a (b - a).toNat) := by
  have e1 : rgV a b = ((List.range (b - a).toNat).map fun (k : Nat) => a + (k : Int)).map V.int := by unfold rgV; rw [List.map_map]; rfl
  have e2 : rngD a (b - a).toNat = ((List.range (b - a).toNat).map fun (k : Nat) => a + (k : Int)).map PyData.int := by unfold rngD; rw [List.map_map]; rfl
  rw [e1, e2]
  exact RpA.of_ints _
def dLstRg (da db : DE) : DE := fun ρ Q => da ρ fun r ρ1 => db ρ1 fun q ρ2 => wI (res ρ2 r) fun a => wI (res ρ2 q) fun b => RgOk a b ∧ Q (.nw (.list (rngD a (b - a).toNat))) ρ2
theorem le_listRg (h : LE K ta da) (h' : LE K tb db) : LE K (tLstRg (tRg2 ta tb)) (dLstRg da db) := by
  intro f g σ H ρ Q R hK hR hd k
  refine h.opd hK hR hd fun v H1 g1 ρ1 r1 R1 G1 O1 q1 => ?_
  refine h'.opd hK R1 q1 fun u H2 g2 ρ2 r2 R2 G2 O2 q2 => ?_
  obtain ⟨a, e1, q2⟩ := wI_some q2
  obtain ⟨b, e2, ok, q2⟩ := wI_some q2
  refine ⟨a, b, ((O1.mono G2).rn R2 e1).int, (O2.rn R2 e2).int, ok, fun p hp => ?_⟩
  obtain ⟨R3, G3, V3⟩ := R2.own (o := .lst (rgV a b)) (d := .list (rngD a (b - a).toNat)) hp (.lst upd_same (rp_rg a b))
  exact k _ _ _ ρ2 _ R3 ((G1.trans G2).trans G3) V3 q2
def dLstRg1 (da : DE) : DE := fun ρ Q => da ρ fun r ρ1 => wI (res ρ1 r) fun b => RgOk 0 b ∧ Q (.nw (.list (rngD 0 (b - 0).toNat))) ρ1
theorem le_listRg1 (h : LE K ta da) : LE K (tLstRg (tRg1 ta)) (dLstRg1 da) := by
  intro f g σ H ρ Q R hK hR hd k
  refine h.opd hK hR hd fun v H1 g1 ρ1 r1 R1 G1 O1 q1 => ?_
  obtain ⟨b, e1, ok, q2⟩ := wI_some q1
  refine ⟨b, (O1.rn R1 e1).int, ok, fun p hp => ?_⟩
  obtain ⟨R3, G3, V3⟩ := R1.own (o := .lst (rgV 0 b)) (d := .list (rngD 0 (b - 0).toNat)) hp (.lst upd_same (rp_rg 0 b))
  exact k _ _ _ ρ1 _ R3 (G1.trans G3) V3 q2
/-! ### isinstance(x, T), T a built-in type -/
def tyN : D → String
  | .none => "NoneType"
  | .bool _ => "bool"
  | .int _ => "int"
  | .str _ => "str"
  | .list _ => "list"
  | .tuple _ => "tuple"
  | .dict _ => "dict"
def isInt' : D → Bool
  | .int _ => true
  | .bool _ => true
  | _ => false
def isBool : D → Bool
  | .bool _ => true
  | _ => false
def isStr : D → Bool
  | .str _ => true
  | _ => false
def isList : D → Bool
  | .list _ => true
  | _ => false
def isTuple : D → Bool
  | .tuple _ => true
  | _ => false
def isDict : D → Bool
  | .dict _ => true
  | _ => false
theorem ki_int (x : D) : kitB (tyN x) "int" = some (isInt' x) := by cases x <;> (simp only [tyN, isInt']; decide +kernel)
theorem ki_bool (x : D) : kitB (tyN x) "bool" = some (isBool x) := by cases x <;> (simp only [tyN, isBool]; decide +kernel)
theorem ki_str (x : D) : kitB (tyN x) "str" = some (isStr x) := by cases x <;> (simp only [tyN, isStr]; decide +kernel)
theorem ki_list (x : D) : kitB (tyN x) "list" = some (isList x) := by cases x <;> (simp only [tyN, isList]; decide +kernel)
theorem ki_tuple (x : D) : kitB (tyN x) "tuple" = some (isTuple x) := by cases x <;> (simp only [tyN, isTuple]; decide +kernel)
theorem ki_dict (x : D) : kitB (tyN x) "dict" = some (isDict x) := by cases x <;> (simp only [tyN, isDict]; decide +kernel)
theorem RN.tyX {F H : Hp} {v : V} {d : D} (e : Same F H) (h : RN K F H v d) : TyX K H v (.type (tyN d)) := by
  cases d with
  | none => have ev := h.non; subst ev; exact .base .non
  | bool b => have ev := h.bool; subst ev; exact .base (.bl b)
  | int b => have ev := h.int; subst ev; exact .base (.int b)
  | str b => have ev := h.str; subst ev; exact .base (.str b)
  | list ds => obtain ⟨a, xs, rfl, e1, _⟩ := h.list e; exact .base (.lst e1)
  | tuple ds => obtain ⟨a, xs, rfl, _, _, e1⟩ := h.tuple e; exact .base (.tup (e _ _ e1))
  | dict es =>
    cases q : isT es with
    | true =>
      obtain ⟨r, rfl⟩ := isT_true q
      obtain ⟨a, kvs, rfl, e1, _⟩ := h.dictT e
      exact .base (.dT e1)
    | false =>
      obtain ⟨a, kvs, rfl, e1, _⟩ := h.dict e q
      exact .base (.dK e1)
def dIsi (p : D → Bool) (da : DE) : DE := fun ρ Q => da ρ fun r ρ1 => wD (res ρ1 r) fun x => Q (.fz (.bool (p x))) ρ1
theorem le_isi {T : String} {p : D → Bool} (hp : ∀ x : D, kitB (tyN x) T = some (p x)) (h : LE K ta da) : LE K (tCB (rIsi K) (tCons ta (tCons (tC (.ty T)) tNil))) (dIsi p da) := by
  intro f g σ H ρ Q R hK hR hd k
  refine h.opd hK hR hd fun v H1 g1 ρ1 r1 R1 G1 O1 q1 => ?_
  obtain ⟨x, e1, q1⟩ := wD_some q1
  subst hK
  exact ⟨v, .ty T, _, _, p x, rfl, .ty T, (O1.rn R1 e1).tyX fz_sub, kit_ty (hp x), k _ H1 g1 ρ1 (.fz (.bool _)) R1 G1 (.bl _) q1⟩
theorem k_isi {X : Cx} (h : X.K = K) : CallR X (.builtin "isinstance") (rIsi K) := by subst h; exact call_isi
end
section
variable {X : Cx} {K : PySem.W.Frag} {o e : Expr} {es : List Expr} {to : TE} {t : TA} {name : Str} {apos cpos : Pos} {T id : String} {r : V → List V → Hp → VK → Prop}
theorem k_bm (h : X.K = K) (pa : PlainAttrs T) (slot : Slot T name id) (hty : typeOf (.builtin id) = pure (.type "method_descriptor")) (hm : MtR X id r) (ho : PE X o to) (ha : PA X (e :: es) t)
    (hbase : attributeBase o name X.env (eval o X.env) = eval o X.env := by rfl)
    (hfew : ((backTo cpos (starEach (e :: es) X.env)).all (fun x => !x.1) && (backToKw cpos (keywordEach [] X.env)).all (fun x => x.1.isSome)
      && decide ((e :: es).length + ([] : List Keyword).length + (if ([] : List Keyword).isEmpty then 0 else 1) < 30)) = true := by rfl)
    (hline : (apos.endLine == cpos.line) = true := by rfl) (hs : starEach (e :: es) X.env = (false, eval e X.env) :: starEach es X.env := by rfl) (hplain : (backTo cpos (starEach es X.env)).any (·.1) = false := by rfl) :
    PE X (.Call (.Attribute o name apos) (e :: es) [] cpos) (tBM K T r to t) := by
  subst h
  exact pe_bm pa slot hty hm ho ha hbase hfew hline hs hplain
end
/-- an element by element list, the slots by an invariant -/
theorem dLcGo_mapI {dg : DG} {de : DE} {vs : List Nat} {Q : Rv → Rho → Prop} (ds : List D) (f : D → D) (I : Rho → Prop) {ρ : Rho} (hl : ds.length ≤ sizeLine) (h0 : I ρ)
    (hs : ∀ (x : D) (ρ : Rho) (k : D → Rho → Prop), x ∈ ds → I ρ → (∀ ρ', I ρ' → k (f x) ρ') → dg (.fz x) (wipeR ρ vs) fun ρ1 => de ρ1 fun r ρ3 => wF (frz ρ3 r) fun d ρ4 => k d (bckR ρ ρ4 vs))
    (hd : ∀ ρ : Rho, I ρ → Q (.nw (.list (ds.map f))) ρ) : dLcGo dg dYes de vs Q ds [] ρ := by
  refine dLcGo_eachI ds (fun i d => ∃ x, ds[i]? = some x ∧ d = f x) I hl h0 (fun i x ρ k hx hI q => hs x ρ k (List.mem_of_getElem? hx) hI fun ρ' h => q _ _ ⟨x, hx, rfl⟩ h) fun acc ρ hI hal hap => ?_
  have e : acc = ds.map f := by
    apply List.ext_getElem?
    intro i
    rw [List.getElem?_map]
    by_cases hi : i < acc.length
    · obtain ⟨x, hx, e⟩ := hap i acc[i] (List.getElem?_eq_getElem hi)
      rw [List.getElem?_eq_getElem hi, hx, e]; rfl
    · rw [List.getElem?_eq_none (by omega), List.getElem?_eq_none (by omega)]; rfl
  rw [e]
  exact hd ρ hI
end DL

set_option Elab.async false
set_option linter.all false
set_option maxRecDepth 100000
set_option maxHeartbeats 4000000
set_option autoImplicit false
namespace DL
open PySem L2
section
variable {K : PySem.W.Frag} {ta tb te tk tv : TE} {da db de dk dv : DE} {i : Nat}
theorem set_same {σ : L2.St} {v : Option V} (h : σ[i]? = some v) : σ.set i v = σ := by
  apply List.ext_getElem?
  intro j
  by_cases e : i = j
  · subst e
    have hl := (List.getElem?_eq_some_iff.mp h).1
    rw [List.getElem?_set_self hl, h]
  · rw [List.getElem?_set_ne e]
/-! ### xs += e, xs.extend(e), xs one's own list -/
def dAugL (i : Nat) (de : DE) : DS := fun DD ρ => wA (ownL ρ i) fun _ => de ρ fun r ρ1 => wA ((res ρ1 r).bind listOf) fun ds => ∃ xs, ρ1[i]? = some (some (.ow (.list xs))) ∧ xs.length + ds.length ≤ sizeLine ∧ DD.nx (ρ1.set i (some (.ow (.list (xs ++ ds)))))
theorem listOf_some {d : D} {ds : List D} (h : listOf d = some ds) : d = .list ds := by
  cases d with
  | list xs => cases h; rfl
  | _ => cases h
theorem bind_list {ρ : Rho} {r : Rv} {ds : List D} (h : (res ρ r).bind listOf = some ds) : res ρ r = some (.list ds) := by
  cases e : res ρ r with
  | none => rw [e] at h; cases h
  | some d => rw [e] at h; rw [listOf_some h]
theorem ls_augL (h : LE K te de) : LS K (tAug i te rExt2) (dAugL i de) := by
  intro f g σ H ρ DD E hK R hd l
  obtain ⟨xs0, e0, hd⟩ := wA_some hd
  obtain ⟨w, e1, a, e2, m, h0, ns, r⟩ := R.slot i _ (ownL_some e0)
  subst e2
  refine ⟨.ref a, e1, ?_⟩
  refine h.opd hK R hd fun v H1 g1 ρ1 r1 R1 G1 O1 q1 => ?_
  obtain ⟨ds, e3, xs, s2, hl, q1⟩ := wA_some q1
  subst hK
  obtain ⟨b, zs, rfl, hb, rz⟩ := (O1.rn R1 (bind_list e3)).list fz_sub
  obtain ⟨w2, e5, a2, e6, m2, h02, ns2, r2⟩ := R1.slot i _ s2
  rw [e1] at e5; cases e5; cases e6
  cases r2 with
  | lst hh rr =>
    refine ⟨a, b, _, zs, rfl, rfl, hh, hb, by rw [rr.length, rz.length]; exact hl, ?_⟩
    obtain ⟨R3, G3⟩ := R1.mutOwn (o := .lst (_ ++ zs)) (d' := .list (xs ++ ds)) s2 e1 (.lst upd_same (rr.append rz))
    rw [set_same e1]
    exact l.nx g1 σ _ _ R3 (G1.trans G3) q1
theorem ls_extL (h : LE K te de) : LS K (tDrop (tBM K "list" rExtend (tVar i) (tCons te tNil))) (dAugL i de) := by
  intro f g σ H ρ DD E hK R hd l
  obtain ⟨xs0, e0, hd⟩ := wA_some hd
  obtain ⟨w, e1, a, e2, m, h0, ns, r⟩ := R.slot i _ (ownL_some e0)
  subst e2
  refine ⟨.ref a, e1, ?_, ?_⟩
  · cases r with | lst h r => exact .inl ⟨rfl, _, .inl (.inl h)⟩
  refine h.opd hK R hd fun v H1 g1 ρ1 r1 R1 G1 O1 q1 => ?_
  obtain ⟨ds, e3, xs, s2, hl, q1⟩ := wA_some q1
  subst hK
  obtain ⟨b, zs, rfl, hb, rz⟩ := (O1.rn R1 (bind_list e3)).list fz_sub
  obtain ⟨w2, e5, a2, e6, m2, h02, ns2, r2⟩ := R1.slot i _ s2
  rw [e1] at e5; cases e5; cases e6
  cases r2 with
  | lst hh rr =>
    refine ⟨a, b, _, zs, rfl, rfl, hh, hb, by rw [rr.length, rz.length]; exact hl, ?_⟩
    obtain ⟨R3, G3⟩ := R1.mutOwn (o := .lst (_ ++ zs)) (d' := .list (xs ++ ds)) s2 e1 (.lst upd_same (rr.append rz))
    exact l.nx g1 σ _ _ R3 (G1.trans G3) q1
/-! ### xs[k] = v, xs one's own list -/
def dSetL (i : Nat) (dk dv : DE) : DS := fun DD ρ => dv ρ fun r ρ1 => wF (frz ρ1 r) fun d ρ2 => (∃ xs, ρ2[i]? = some (some (.ow (.list xs)))) ∧ dk ρ2 fun q ρ3 => wI (res ρ3 q) fun k => ∃ xs, ρ3[i]? = some (some (.ow (.list xs))) ∧ 0 ≤ k ∧ k < xs.length ∧ DD.nx (ρ3.set i (some (.ow (.list (xs.set k.toNat d)))))
theorem ls_setL (h : LE K tk dk) (h' : LE K tv dv) : LS K (tAsg tv (gSub (tVar i) tk rSetL)) (dSetL i dk dv) := by
  intro f g σ H ρ DD E hK R hd l
  refine h'.opd hK R hd fun v H1 g1 ρ1 r1 R1 G1 O1 q1 => ?_
  obtain ⟨d, ρ2, e2, q1⟩ := wF_some q1
  obtain ⟨g2, R2, G2, hv⟩ := O1.frz R1 e2
  obtain ⟨⟨xs0, e0⟩, q1⟩ := q1
  obtain ⟨w, w1, a, wa, m, h0, ns, rr⟩ := R2.slot i _ e0
  subst wa
  refine ⟨.ref a, w1, ?_⟩
  refine h.opd hK R2 q1 fun u H3 g3 ρ3 r3 R3 G3 O3 q3 => ?_
  obtain ⟨k, e3, xs, s4, k0, k1, q3⟩ := wI_some q3
  have eu := (O3.rn R3 e3).int
  subst eu
  obtain ⟨w', w2, a', wa', m', h0', ns', r4⟩ := R3.slot i _ s4
  rw [w1] at w2; cases w2; cases wa'
  cases r4 with
  | lst hh rr =>
    have hlen := rr.length
    refine ⟨a, _, k, k.toNat, rfl, rfl, hh, ?_, ?_⟩
    · unfold ixN
      rw [if_pos k0, if_pos (by omega)]
    · obtain ⟨R5, G5⟩ := R3.mutOwn (o := .lst (_)) (d' := .list (xs.set k.toNat d)) s4 w1 (.lst upd_same (rr.set (hv.mono G3.fz) k.toNat))
      exact l.nx g3 σ _ _ R5 (((G1.trans G2).trans G3).trans G5) q3
/-! ### xs.index(e), flat items -/
def dIndex (da de : DE) : DE := fun ρ Q => da ρ fun r ρ1 => wA ((res ρ1 r).bind listOf) fun _ => de ρ1 fun q ρ2 => wA ((res ρ2 r).bind listOf) fun ds => wD (res ρ2 q) fun e => flatP e = true ∧ ds.all flatP = true ∧ ∃ (j : Nat) (z : D), ds[j]? = some z ∧ PyData.eqv z e = true ∧ (∀ (m : Nat) (z' : D), m < j → ds[m]? = some z' → PyData.eqv z' e = false) ∧ Q (.fz (.int (j : Int))) ρ2
theorem le_index (h : LE K ta da) (h' : LE K te de) : LE K (tBM K "list" (rIndex K) ta (tCons te tNil)) (dIndex da de) := by
  intro f g σ H ρ Q R hK hR hd k
  refine h.opd hK hR hd fun v H1 g1 ρ1 r1 R1 G1 O1 q1 => ?_
  obtain ⟨ds0, e0, q1⟩ := wA_some q1
  subst hK
  obtain ⟨a, ys0, rfl, ha0, _⟩ := (O1.rn R1 (bind_list e0)).list fz_sub
  refine ⟨.inl ⟨rfl, _, .inl (.inl ha0)⟩, ?_⟩
  refine h'.opd rfl R1 q1 fun u H2 g2 ρ2 r2 R2 G2 O2 q2 => ?_
  obtain ⟨ds, e1, q2⟩ := wA_some q2
  obtain ⟨e, e2, fe, fd, j, z, hz, hze, hno, q2⟩ := wD_some q2
  obtain ⟨a', ys, ea, ha, ry⟩ := ((O1.mono G2).rn R2 (bind_list e1)).list fz_sub
  cases ea
  have re := (O2.rn R2 e2).flat fe
  obtain ⟨y, hy, rz⟩ := ry.get hz
  have fz : flatP z = true := List.all_eq_true.mp fd z (List.mem_of_getElem? hz)
  refine ⟨a, ys, u, j, y, rfl, rfl, .inl (.inl ha), flat_of re fe, flatA_of ry fd, hy, by rw [eqV_of rz re fz fe]; exact hze, fun m y' hm hy' => ?_, k _ H2 g2 ρ2 (.fz (.int _)) R2 (G1.trans G2) (.int _) q2⟩
  obtain ⟨z', hz', rz'⟩ := ry.getV hy'
  rw [eqV_of rz' re (List.all_eq_true.mp fd z' (List.mem_of_getElem? hz')) fe]
  exact hno m z' hm hz'
/-! ### sorted(d) of a dict of ints -/
def keysI (es : List (D × D)) : Option (List Int) := intsOf (es.map (·.1))
theorem RpK.keysI {F : Hp} {kvs : List (Key × V)} {es : List (D × D)} (h : RpK K F kvs es) {ns : List Int} (e : keysI es = some ns) : kvs.map (·.1) = ns.map Sum.inl := by
  unfold DL.keysI at e
  induction es generalizing kvs ns with
  | nil => cases h; cases e; rfl
  | cons x es ih =>
    cases h with
    | @cons k0 v0 d0 vs ds h r =>
      cases k0 with
      | inl n =>
        have e : (match intsOf (es.map (·.1)) with | some ms => some (n :: ms) | none => none) = some ns := e
        split at e
        · rename_i ms e2
          cases e
          rw [List.map_cons, List.map_cons, ih r e2]
        · cases e
      | inr x => cases e
def fSortedD : F1 := fun x Q => match x with
  | .list _ => fSorted x Q
  | .dict es => isT es = false ∧ wN (keysI es) fun ns => ns.length < 64 ∧ ∀ ms : List Int, ms.Perm ns → ms.Pairwise (· ≤ ·) → Q (.nw (.list (ms.map PyData.int)))
  | _ => False
def rSortedD (K : PySem.W.Frag) : List V → Hp → VK → Prop := fun xs H Q => rSortedI K xs H Q ∨ ∃ (a : Addr) (kvs : List (Key × V)) (ks : List Int), xs = [.ref a] ∧ Rd H a (.dK kvs) ∧ kvs.map (·.1) = ks.map Sum.inl ∧ ks.length < 64 ∧
    ∀ (ys : List Int) (p : Addr), ys.Perm ks → ys.Pairwise (· ≤ ·) → H p = none → Q (.ref p) (upd H p (.lst (ys.map V.int)))
theorem k_sortedD {X : Cx} (h : X.K = K) (hc : X.calm = true) : CallR X (.builtin "sorted") (rSortedD K) := (k_sorted h).or (call_sortedDI hc)
theorem cl_sortedD : CaL K (rSortedD K) (fA1 fSortedD) := by
  intro f g σ H ρ vs ds Q R hK hR hA hF0 k
  obtain ⟨d, rfl, hF⟩ := fA1_some hF0
  cases d with
  | list xs => exact .inl (cl_sorted f g σ H ρ vs _ Q R hK hR hA (show fA1 fSorted [.list xs] Q from hF) k)
  | dict es =>
    subst hK
    obtain ⟨v, rfl, h⟩ := hA.one
    obtain ⟨nt, hF⟩ := hF
    obtain ⟨ns, e, hl, q⟩ := wN_some hF
    obtain ⟨a, kvs, rfl, e1, r1⟩ := h.dict fz_sub nt
    exact .inr ⟨a, kvs, ns, rfl, .inl e1, r1.keysI e, hl, fun ys p hp hs hn => OEnd.lst k hR (RpA.of_ints ys) (q ys hp hs) p hn⟩
  | none => exact hF.elim
  | bool _ => exact hF.elim
  | int _ => exact hF.elim
  | str _ => exact hF.elim
  | tuple _ => exact hF.elim
end
/-! ### a, b, c, d = .. by way of a tuple -/
section
variable {K : PySem.W.Frag} {ta tb tc td : TE} {da db dc dd : DE}
def dPar4 (i j l m : Nat) (da db dc dd : DE) : DS := fun DD ρ => da ρ fun r ρ1 => wP (plainV ρ1 r) fun r1 ρ2 => db ρ2 fun q ρ3 => wP (plainV ρ3 q) fun q1 ρ4 => dc ρ4 fun s ρ5 => wP (plainV ρ5 s) fun s1 ρ6 => dd ρ6 fun y ρ7 => wP (plainV ρ7 y) fun y1 ρ8 => DD.nx (setR (setR (setR (setR ρ8 i r1) j q1) l s1) m y1)
theorem ls_par4T {i j l m : Nat} (h : LE K ta da) (h' : LE K tb db) (h'' : LE K tc dc) (h4 : LE K td dd) : LS K (tAsg (tTup (tCons ta (tCons tb (tCons tc (tCons td tNil))))) (gTup K 4 (gCons (gName i) (gCons (gName j) (gCons (gName l) (gCons (gName m) gNil)))))) (dPar4 i j l m da db dc dd) := by
  intro f g σ H ρ DD E hK R hd lk
  refine h f g σ H ρ _ _ hK R hd fun v H1 g1 ρ1 r R1 G1 V1 q1 => ?_
  obtain ⟨r1, ρ2, e1, q1⟩ := wP_some q1
  obtain ⟨g2, R2, G2, V2, p2⟩ := V1.plain R1 e1
  obtain ⟨g3, R3, hh⟩ := V2.held R2
  refine h' f g3 σ H1 ρ2 _ _ hK R3 q1 fun w H4 g4 ρ4 q R4 G4 V4 q4 => ?_
  obtain ⟨qq, ρ5, e5, q5⟩ := wP_some q4
  obtain ⟨g5, R5, G5, V5, p5⟩ := V4.plain R4 e5
  obtain ⟨g6, R6, kk⟩ := V5.held R5
  refine h'' f g6 σ H4 ρ5 _ _ hK R6 q5 fun z H7 g7 ρ7 s R7 G7 V7 q7 => ?_
  obtain ⟨ss, ρ8, e8, q8⟩ := wP_some q7
  obtain ⟨g8, R8, G8, V8, p8⟩ := V7.plain R7 e8
  obtain ⟨g9, R9, ll⟩ := V8.held R8
  refine h4 f g9 σ H7 ρ8 _ _ hK R9 q8 fun y Ha ga ρa b Ra Ga Va qa => ?_
  obtain ⟨bb, ρb, eb, qb⟩ := wP_some qa
  obtain ⟨gb, Rb, Gb, Vb, pb⟩ := Va.plain Ra eb
  obtain ⟨gc, Rc, Gc, Vc, ll2⟩ := ll gb Ha ρb Rb (Ga.trans Gb) (fun i z => by rw [z] at p8; exact p8.elim)
  obtain ⟨Wc, nc⟩ := ll2 y bb Vb
  obtain ⟨gd, Rd, Gd, Vd, kk2⟩ := kk gc Ha ρb Rc ((G7.trans G8).trans Gc) (fun i z => by rw [z] at p5; exact p5.elim)
  obtain ⟨Wd, nd1⟩ := kk2 z ss Vc
  obtain ⟨Xd, nd2⟩ := kk2 y bb Wc
  obtain ⟨ge, Re, Ge, Ve, hh2⟩ := hh gd Ha ρb Rd ((G4.trans G5).trans Gd) (fun i z => by rw [z] at p2; exact p2.elim)
  obtain ⟨We, ne1⟩ := hh2 w qq Vd
  obtain ⟨Xe, ne2⟩ := hh2 z ss Wd
  obtain ⟨Ye, ne3⟩ := hh2 y bb Xd
  refine ⟨by show 4 ≤ sizeLine; rw [sizeLine_eq]; decide, fun p hp => ⟨p, [v, w, z, y], rfl, .inl (.inl upd_same), rfl, v, [w, z, y], rfl, w, [z, y], rfl, z, [y], rfl, y, [], rfl, rfl, ?_⟩⟩
  have S1 := Ve.put Re p2 i
  have B1 := We.putO Re p2 p5 (fun d e z1 z2 => ne1 d e z1 z2) i
  have C1 := Xe.putO Re p2 p8 (fun d e z1 z2 => ne2 d e z1 z2) i
  have D1 := Ye.putO Re p2 pb (fun d e z1 z2 => ne3 d e z1 z2) i
  have S2 := B1.put S1 p5 j
  have C2 := C1.putO S1 p5 p8 (fun d e z1 z2 => nd1 d e z1 z2) j
  have D2 := D1.putO S1 p5 pb (fun d e z1 z2 => nd2 d e z1 z2) j
  have S3 := C2.put S2 p8 l
  have D3 := D2.putO S2 p8 pb (fun d e z1 z2 => nc d e z1 z2) l
  obtain ⟨Rn, Gn, _⟩ := (D3.put S3 pb m).new (o := .tup [v, w, z, y]) hp
  exact lk.nx ge _ _ _ Rn (((G1.trans G2).trans Ge).trans Gn) qb
end
/-! ### xs.pop() -/
def dPop (i : Nat) : DE := fun ρ Q => ∃ xs d, ρ[i]? = some (some (.ow (.list (xs ++ [d])))) ∧ Q (.fz d) (ρ.set i (some (.ow (.list xs))))
theorem le_pop {K : PySem.W.Frag} {i : Nat} : LE K (tBM0 K "list" rPop (tVar i)) (dPop i) := by
  intro f g σ H ρ Q R hK hR hd k
  obtain ⟨xs, d, e0, hd⟩ := hd
  obtain ⟨w, e1, a, e2, m, h0, ns, r⟩ := hR.slot i _ e0
  subst e2
  cases r with
  | lst hh rr =>
    rename_i vs
    have hlen := rr.length
    rw [List.length_append, List.length_singleton] at hlen
    obtain ⟨y, ey, ry⟩ := rr.get (i := xs.length) (d := d) (by simp)
    have hdl : RpA f.K (Fz H g.M) vs.dropLast xs := by
      have h1 := rr.take xs.length
      rw [List.take_left] at h1
      rw [List.dropLast_eq_take, show vs.length - 1 = xs.length by omega]
      exact h1
    refine ⟨.ref a, e1, .inl ⟨rfl, _, .inl (.inl hh)⟩, a, _, y, rfl, rfl, hh, by rw [show vs.length - 1 = xs.length by omega]; exact ey, ?_⟩
    obtain ⟨R3, G3⟩ := hR.mutOwn (o := .lst vs.dropLast) (d' := .list xs) e0 e1 (.lst upd_same hdl)
    exact k y _ g _ (.fz d) R3 G3 (ry.mono G3.fz) hd
/-! ### shapes for == -/
structure SH (n : Nat) (d : D) : Prop where
  nd : d.hasDict = false
  cl : PyData.canLay0 d = true
  dp : d.depth ≤ n
structure SHs (n : Nat) (ds : List D) : Prop where
  nd : PyData.hasDictAll ds = false
  cl : PyData.canLayAll0 ds = true
  dp : PyData.depthAll ds ≤ n
theorem SH.int (i : Int) : SH 0 (.int i) := ⟨rfl, rfl, Nat.le_refl _⟩
theorem SH.mono {n m : Nat} {d : D} (h : SH n d) (e : n ≤ m) : SH m d := ⟨h.nd, h.cl, Nat.le_trans h.dp e⟩
theorem SHs.all {n : Nat} {ds : List D} (h : ∀ d ∈ ds, SH n d) : SHs n ds := by
  induction ds with
  | nil => exact ⟨rfl, rfl, by simp [PyData.depthAll]⟩
  | cons d ds ih =>
    have h1 := h d List.mem_cons_self
    have h2 := ih fun x hx => h x (List.mem_cons_of_mem _ hx)
    refine ⟨?_, ?_, ?_⟩
    · simp only [PyData.hasDictAll, h1.nd, h2.nd, Bool.or_self]
    · simp only [PyData.canLayAll0, h1.cl, h2.cl, Bool.and_self]
    · have := h1.dp; have := h2.dp; simp only [PyData.depthAll]; omega
theorem SH.list {n : Nat} {ds : List D} (h : SHs n ds) : SH (n + 1) (.list ds) := ⟨h.nd, h.cl, by have := h.dp; simp only [PyData.depth]; omega⟩
theorem SH.tuple {n : Nat} {ds : List D} (h : SHs n ds) : SH (n + 1) (.tuple ds) := ⟨h.nd, h.cl, by have := h.dp; simp only [PyData.depth]; omega⟩
theorem SHs.ints (ns : List Int) : SHs 0 (ns.map PyData.int) := .all fun d hd => by
  obtain ⟨n, _, rfl⟩ := List.mem_map.mp hd
  exact .int n
theorem SHs.cons {n : Nat} {d : D} {ds : List D} (h1 : SH n d) (h2 : SHs n ds) : SHs n (d :: ds) := by
  refine ⟨?_, ?_, ?_⟩
  · simp only [PyData.hasDictAll, h1.nd, h2.nd, Bool.or_self]
  · simp only [PyData.canLayAll0, h1.cl, h2.cl, Bool.and_self]
  · have := h1.dp; have := h2.dp; simp only [PyData.depthAll]; omega
theorem SHs.nil {n : Nat} : SHs n [] := ⟨rfl, rfl, by simp [PyData.depthAll]⟩
theorem SH.ok {n : Nat} {d : D} (h : SH n d) (hn : n ≤ 64) : eqOk d = true := by
  have h1 := h.nd
  have h2 := h.cl
  have h3 := h.dp
  simp only [eqOk, h1, SeqAt.shaped, h2, Bool.not_false, Bool.true_and, decide_eq_true_eq]
  omega
theorem SH.ok2 {n m : Nat} {d e : D} (h : SH n d) (h' : SH m e) (hn : n ≤ 64) (hm : m ≤ 64) : eqOk2 d e = true := by
  unfold eqOk2
  rw [h.ok hn, h'.ok hm]
  simp
end DL

set_option Elab.async false
set_option linter.all false
set_option maxRecDepth 100000
set_option maxHeartbeats 4000000
set_option autoImplicit false
namespace DL
open PySem L2
/-! ### two new lists told in a list, compared, then changed there -/
section
variable {f : Fr} {g g2 : Gs} {σ : L2.St} {H H2 : Hp} {ρ ρ2 : Rho} {a : Addr} {v : V} {i : Nat} {o : HO} {d : D}
theorem Rel.push (R : Rel f g σ H ρ) (m : g.M a) (ns : NoSrc g a) (u : ∀ (i : Nat) (e : D), ρ[i]? = some (some (.ow e)) → σ[i]? ≠ some (some (.ref a))) : Rel f (g.push a) σ H ρ := by
  refine ⟨R.keep, R.dom, R.m0, R.m00, R.mU, R.src, R.len, R.slot, R.uq, fun b hb => ?_⟩
  rcases List.mem_cons.mp hb with rfl | hb
  · exact ⟨m, ns, u⟩
  · exact R.tmp b hb
theorem Rel.pop2 (R : Rel f g2 σ H2 ρ2) (G : Gro (g.push a) H g2 H2) : Rel f ⟨g2.M, g2.src, g.T⟩ σ H2 ρ2 ∧ Gro g H ⟨g2.M, g2.src, g.T⟩ H2 :=
  ⟨⟨R.keep, R.dom, R.m0, R.m00, R.mU, R.src, R.len, R.slot, R.uq, fun b hb => R.tmp b (by rw [G.tm]; exact List.mem_cons_of_mem _ hb)⟩, G.fz, G.src, rfl, fun b hb => G.th b (List.mem_cons_of_mem _ hb)⟩
theorem Rel.hide (R : Rel f g σ H ρ) : Rel f g (σ.set i (some v)) H (ρ.set i none) := by
  have ow : ∀ (j : Nat) (e : D), (ρ.set i none)[j]? = some (some (.ow e)) → j ≠ i ∧ ρ[j]? = some (some (.ow e)) := fun j e h => by
    rcases getset h with ⟨rfl, z⟩ | ⟨ne, z⟩
    · cases z
    · exact ⟨ne.symm, z⟩
  refine ⟨R.keep, R.dom, R.m0, R.m00, R.mU, R.src, by rw [List.length_set, List.length_set]; exact R.len, fun j s e => ?_, fun j k l d e h1 h2 h3 h4 => ?_, fun b hb => ⟨(R.tmp b hb).1, (R.tmp b hb).2.1, fun j e h1 h2 => ?_⟩⟩
  · rcases getset e with ⟨rfl, z⟩ | ⟨ne, z⟩
    · cases z
    · obtain ⟨w, e1, h⟩ := R.slot j s z
      exact ⟨w, by rw [List.getElem?_set_ne ne]; exact e1, h⟩
  · obtain ⟨n1, h1⟩ := ow j d h1
    obtain ⟨n2, h2⟩ := ow k e h2
    rw [List.getElem?_set_ne n1.symm] at h3
    rw [List.getElem?_set_ne n2.symm] at h4
    exact R.uq j k l d e h1 h2 h3 h4
  · obtain ⟨n1, h1⟩ := ow j e h1
    rw [List.getElem?_set_ne n1.symm] at h2
    exact (R.tmp b hb).2.2 j e h1 h2
/-- a thing that nothing tells of is changed -/
theorem Rel.mutFree (R : Rel f g σ H ρ) (m : g.M a) (h0 : f.H0 a = none) (ns : NoSrc g a) (ht : a ∉ g.T) (u : ∀ (i : Nat) (e : D), ρ[i]? = some (some (.ow e)) → σ[i]? ≠ some (some (.ref a))) (ho : MuO (some o)) :
    Rel f g σ (upd H a o) ρ ∧ Gro g H g (upd H a o) := by
  have hk : ∀ b o', H b = some o' → b ≠ a → upd H a o b = some o' := fun b o' e n => by rw [upd_ne n]; exact e
  have hG : Same (Fz H g.M) (Fz (upd H a o) g.M) := fz_mono fun b o' e n => ⟨hk b o' e fun q => n (q ▸ m), n⟩
  have hd : ∀ b, upd H a o b = none → H b = none := fun b e => by
    by_cases q : b = a
    · rw [q, upd_same] at e; cases e
    · rw [upd_ne q] at e; exact e
  refine ⟨⟨fun b o' e n => hk b o' (R.keep b o' e n) (fun q => by rw [q, h0] at e; cases e), fun b e => R.dom b (hd b e), R.m0, R.m00, fun b m => by
    by_cases q : b = a
    · rw [q, upd_same]; exact ho
    · rw [upd_ne q]; exact R.mU b m, fun p c e => ?_, R.len, fun j s e => ?_, R.uq, R.tmp⟩, ⟨hG, fun _ h => h, rfl, fun b hb => upd_ne fun q => ht (q ▸ hb)⟩⟩
  · obtain ⟨h1, h2, h3, h4, h5, h6⟩ := R.src p c e
    exact ⟨h1, h2, h3, h4, h5, srcOk_upd h6 (Ne.symm (ns p c e).1) (Ne.symm (ns p c e).2)⟩
  · obtain ⟨w, e1, q1⟩ := R.slot j s e
    refine ⟨w, e1, ?_⟩
    cases s with
    | sh d => exact Rp.mono hG q1
    | bo d => exact BoV.mono hG q1
    | ow d =>
      obtain ⟨b, e2, m', h0', ns', r⟩ := q1
      refine ⟨b, e2, m', h0', ns', r.mono hG fun o' e' => hk b o' e' fun z => u j d e ?_⟩
      rw [e1, e2, z]
    | src => exact q1
    | scr => exact q1
end
def nwL (r : Rv) (k : List D → Prop) : Prop := ∃ xs, r = .nw (.list xs) ∧ k xs
def dTold2 (i : Nat) (da db : DE) (dr : DF) (de dt : DE) : DS := fun DD ρ => da ρ fun r1 ρ1 => nwL r1 fun d1 => db ρ1 fun r2 ρ2 => nwL r2 fun d2 => dr ρ2 fun ds ρ3 =>
  i < ρ3.length ∧ ds.length + 2 ≤ sizeLine ∧ reprOkP (.list (.list d1 :: .list d2 :: ds)) ∧ de (ρ3.set i none) fun r ρ4 => wD (res ρ4 r) fun y =>
    eqOk2 (.str (PyData.shown (.list (.list d1 :: .list d2 :: ds)))) y = true ∧ useB (true != PyData.eqv (.str (PyData.shown (.list (.list d1 :: .list d2 :: ds)))) y) (dt ρ4 DD.rt) (d1.length < sizeLine ∧ d2.length < sizeLine ∧ DD.nx ρ4)
theorem Rt.lstOf {K : PySem.W.Frag} {F G : Hp} {a : Addr} {ds : List D} (h : Rt K F G a (.list ds)) : ∃ xs, G a = some (.lst xs) ∧ RpA K F xs ds := by
  cases h with
  | lst h r => exact ⟨_, h, r⟩
theorem ls_told2 {K : PySem.W.Frag} {i : Nat} {ta tb te t : TE} {da db de dt : DE} {tr : TA} {dr : DF} (h1 : LE K ta da) (h2 : LE K tb db) (h3 : LF K tr dr) (h4 : LE K te de) (h5 : LE K t dt) :
    LS K (tSeq (tAsg (tLst (tCons ta (tCons tb tr))) (gName i)) (tSeq (tIfS (tTest (tOp (fun x y H Q => rNe x y H Q ∨ rNeD K x y H Q) (tCB (rReprP K) (tCons (tVar i) tNil)) te)) (tRet t) tNext)
      (tSeq (tDrop (tBM K "list" rAppend (tOp (rIx K) (tVar i) (tC (.int 0))) (tCons (tC .non) tNil))) (tDrop (tBM K "list" rAppend (tOp (rIx K) (tVar i) (tC (.int 1))) (tCons (tC .non) tNil)))))) (dTold2 i da db dr de dt) := by
  intro f g σ H ρ DD E hK hR hd l
  subst hK
  refine h1 f g σ H ρ _ _ rfl hR hd fun v1 H1 g1 ρ1 r1 R1 G1 V1 q1 => ?_
  obtain ⟨d1, rfl, q1⟩ := q1
  obtain ⟨a1, rfl, m1, z1, n1, t1, nt1, u1⟩ := V1
  have P1 := R1.push m1 n1 u1
  refine h2 f _ σ H1 ρ1 _ _ rfl P1 q1 fun v2 H2 g2 ρ2 r2 R2 G2 V2 q2 => ?_
  obtain ⟨d2, rfl, q2⟩ := q2
  obtain ⟨a2, rfl, m2, z2, n2, t2, nt2, u2⟩ := V2
  have P2 := R2.push m2 n2 u2
  refine h3 f _ σ H2 ρ2 _ _ rfl P2 q2 fun vs H3 g3 ρ3 ds R3 G3 O3 q3 => ?_
  obtain ⟨hi, hl, hr, q3⟩ := q3
  refine ⟨by show vs.length + 2 ≤ sizeLine; rw [O3.length]; exact hl, fun p hp => ?_⟩
  obtain ⟨R4, G4, e4⟩ := R3.new (o := .lst (.ref a1 :: .ref a2 :: vs)) hp
  have G24 := G3.trans G4
  have R5 := R4.hide (i := i) (v := .ref p)
  have hi' : i < σ.length := by rw [← R3.len]; exact hi
  have hσ : (σ.set i (some (.ref p)))[i]? = some (some (.ref p)) := List.getElem?_set_self hi'
  -- the lists are where they were
  have w1 : upd H3 p (.lst (.ref a1 :: .ref a2 :: vs)) a1 = H1 a1 := by
    rw [← G2.th a1 List.mem_cons_self]
    exact G24.th a1 (List.mem_cons_of_mem _ (by rw [G2.tm]; exact List.mem_cons_self))
  have w2 : upd H3 p (.lst (.ref a1 :: .ref a2 :: vs)) a2 = H2 a2 := G24.th a2 List.mem_cons_self
  have f12 : Same (Fz H1 g1.M) (Fz H2 g2.M) := G2.fz
  have f24 : Same (Fz H2 g2.M) (Fz (upd H3 p (.lst (.ref a1 :: .ref a2 :: vs))) g3.M) := G24.fz
  have rp : Rp f.K (upd H3 p (.lst (.ref a1 :: .ref a2 :: vs))) (.ref p) (.list (.list d1 :: .list d2 :: ds)) := by
    refine .lst (xs := .ref a1 :: .ref a2 :: vs) upd_same (.cons ?_ (.cons ?_ (O3.mono (G4.fz.trans fz_sub))))
    · exact t1.rp ((f12.trans f24).trans fz_sub) fun o e => w1.trans e
    · exact t2.rp (f24.trans fz_sub) fun o e => w2.trans e
  obtain ⟨s1, s2, s3, s4⟩ := hr
  refine ⟨.ref p, hσ, .ref p, .list (.list d1 :: .list d2 :: ds), rfl, ⟨_, Same.refl _, .inl rp⟩, s1, s2, s3, s4, ?_⟩
  refine h4.opd rfl R5 q3 fun v6 H6 g6 ρ6 r6 R6 G6 O6 q6 => ?_
  obtain ⟨y, e6, hq, q6⟩ := wD_some q6
  have G26 := G24.trans G6
  refine ol_ne f g6 _ H6 ρ6 _ v6 _ y (fun r => r = .fz (.bool (true != PyData.eqv (.str (PyData.shown (.list (.list d1 :: .list d2 :: ds)))) y))) _ rfl R6 (.inl (.str _)) (O6.rn R6 e6) ⟨hq, rfl⟩ ?_
  rintro z H7 g7 _ R7 G7 V7 rfl
  obtain rfl := RN.bool (K := f.K) (F := Fz H7 g7.M) (H := H7) (.inl V7)
  refine ⟨_, rfl, ?_⟩
  have G27 := G26.trans G7
  obtain ⟨R8, G8⟩ := R7.pop2 G27
  obtain ⟨R9, G9⟩ := R8.pop2 (g := g1) (a := a1) (G2.trans G8)
  have l9 := l.mono (G1.trans G9)
  cases hb : (true != PyData.eqv (.str (PyData.shown (.list (.list d1 :: .list d2 :: ds)))) y) with
  | true =>
    rw [hb] at q6
    exact h5 f _ _ H7 ρ6 _ _ rfl R9 (useB_t q6) fun v8 H8 g8 ρ8 r8 R8 G8 V8 q8 => l9.rt g8 _ H8 ρ8 v8 r8 R8 G8 V8 q8
  | false =>
    rw [hb] at q6
    obtain ⟨hl1, hl2, q6⟩ := useB_f q6
    have hp7 : H7 p = some (.lst (.ref a1 :: .ref a2 :: vs)) := (of_fz ((G6.trans G7).fz _ _ e4)).1
    obtain ⟨xs1, b1, c1⟩ := t1.lstOf
    obtain ⟨xs2, b2, c2⟩ := t2.lstOf
    have k1 : H7 a1 = some (.lst xs1) := ((G27.th a1 (List.mem_cons_of_mem _ (by rw [G2.tm]; exact List.mem_cons_self))).trans (G2.th a1 List.mem_cons_self)).trans b1
    have k2 : H7 a2 = some (.lst xs2) := (G27.th a2 List.mem_cons_self).trans b2
    have ne12 : a2 ≠ a1 := fun e => nt2 (by rw [G2.tm, e]; exact List.mem_cons_self)
    have hT2 : g7.T = a2 :: g2.T := G27.tm
    have hT1 : g2.T = a1 :: g1.T := G2.tm
    have tm1 := R7.tmp a1 (by rw [hT2, hT1]; exact List.mem_cons_of_mem _ List.mem_cons_self)
    have tm2 := R7.tmp a2 (by rw [hT2]; exact List.mem_cons_self)
    obtain ⟨RA, GA⟩ := R9.mutFree (a := a1) (o := .lst (xs1 ++ [.non])) tm1.1 z1 tm1.2.1 nt1 tm1.2.2 trivial
    obtain ⟨RB, GB⟩ := RA.mutFree (a := a2) (o := .lst (xs2 ++ [.non])) tm2.1 z2 tm2.2.1 (fun z => nt2 (by rw [hT1]; exact List.mem_cons_of_mem _ z)) tm2.2.2 trivial
    have npa1 : p ≠ a1 := fun e => by
      have := (of_fz e4).2
      rw [e] at this
      exact this (R4.tmp a1 (by rw [G3.tm]; exact List.mem_cons_of_mem _ (by rw [hT1]; exact List.mem_cons_self))).1
    refine ⟨.ref p, hσ, ?_⟩
    refine .inl ⟨p, _, 0, .ref a1, rfl, rfl, .inl (.inl hp7), (by simp [atI, ixN, show (0 : Int) < (vs.length : Int) + 1 + 1 by omega]), ?_⟩
    refine ⟨.inl ⟨rfl, _, .inl (.inl k1)⟩, a1, xs1, .non, rfl, rfl, k1, by rw [c1.length]; exact hl1, ?_⟩
    refine ⟨.ref p, hσ, ?_⟩
    refine .inl ⟨p, _, 1, .ref a2, rfl, rfl, .inl (.inl (by rw [upd_ne npa1]; exact hp7)), (by simp [atI, ixN, show (1 : Int) < (vs.length : Int) + 1 + 1 by omega]), ?_⟩
    have k2' : upd H7 a1 (.lst (xs1 ++ [.non])) a2 = some (.lst xs2) := by rw [upd_ne ne12]; exact k2
    refine ⟨.inl ⟨rfl, _, .inl (.inl k2')⟩, a2, xs2, .non, rfl, rfl, k2', by rw [c2.length]; exact hl2, ?_⟩
    exact l9.nx _ _ _ ρ6 RB (GA.trans GB) q6
end DL

set_option Elab.async false
set_option linter.all false
set_option maxRecDepth 100000
set_option maxHeartbeats 4000000
set_option autoImplicit false
namespace DL
open PySem L2
/-! ### graphs -/
structure Gr where
  ins : Nat
  regs : List (Int × Int)
  ands : List (Int × Int)
  outs : List Int
def pD (p : Int × Int) : D := .tuple [.int p.1, .int p.2]
def Gr.toD (g : Gr) : D := .tuple [.int g.ins, .tuple (g.regs.map pD), .tuple (g.ands.map pD), .tuple (g.outs.map PyData.int)]
def Gr.first (g : Gr) : Nat := 1 + g.ins + g.regs.length
def Gr.many (g : Gr) : Nat := g.first + g.ands.length
def inL (l : Int) (n : Nat) : Prop := 0 ≤ l ∧ l < 2 * (n : Int)
structure Gr.ok (g : Gr) : Prop where
  ins : g.ins ≤ 10
  rl : g.regs.length ≤ 10
  al : g.ands.length ≤ 300
  ol : g.outs.length ≤ 10
  regs : ∀ p ∈ g.regs, bit p.1 ∧ inL p.2 g.many
  ands : ∀ k (h : k < g.ands.length), inL (g.ands[k]).1 (g.first + k) ∧ inL (g.ands[k]).2 (g.first + k)
  outs : ∀ l ∈ g.outs, inL l g.many
def litV (vs : List Int) (l : Int) : Int := Builtin.bitXor (vs.getD (l.fdiv 2).toNat 0) (l.fmod 2)
def nodesV (vs : List Int) (ps : List (Int × Int)) : List Int := ps.foldl (fun acc p => acc ++ [Builtin.bitAnd (litV acc p.1) (litV acc p.2)]) vs
def Gr.nodes (g : Gr) (st lot : List Int) : List Int := nodesV (0 :: (lot ++ st)) g.ands
def Gr.outV (g : Gr) (vs : List Int) : List Int := g.outs.map (litV vs)
def Gr.nxtV (g : Gr) (vs : List Int) : List Int := g.regs.map fun p => litV vs p.2
def Gr.st0 (g : Gr) : List Int := g.regs.map (·.1)
def Gr.stF (g : Gr) (lots : List (List Int)) : List Int := lots.foldl (fun s lot => g.nxtV (g.nodes s lot)) g.st0
def Gr.due (g : Gr) (lots : List (List Int)) (n : Nat) : List (List Int) := (List.range n).map fun j => g.outV (g.nodes (g.stF (lots.take j)) (lots.getD j []))
def Gr.sts (g : Gr) (lots : List (List Int)) (n : Nat) : List (List Int) := (List.range (n + 1)).map fun j => g.stF (lots.take j)
def lotD (l : List Int) : D := .tuple (l.map PyData.int)
def bits (l : List Int) : Prop := ∀ b ∈ l, bit b
theorem bits_app {a b : List Int} (h : bits a) (h' : bits b) : bits (a ++ b) := fun x hx => (List.mem_append.mp hx).elim (h x) (h' x)
theorem bits_one {a : Int} (h : bit a) : bits [a] := fun x hx => by rw [List.mem_singleton.mp hx]; exact h
theorem getD_bit {vs : List Int} (h : bits vs) (i : Nat) : bit (vs.getD i 0) := by
  rw [List.getD_eq_getElem?_getD]
  cases e : vs[i]? with
  | none => exact .inl rfl
  | some b => exact h b (List.mem_of_getElem? e)
theorem litV_bit {vs : List Int} (h : bits vs) (l : Int) : bit (litV vs l) := bit_xor (getD_bit h _) (bit_mod l)
theorem and1 (l : Int) : Builtin.bitAnd l 1 = l.fmod 2 := by rw [PyProof.Rows.bitAnd_m1, Int.fmod_eq_emod_of_nonneg _ (by decide)]
theorem inL_div {l : Int} {n : Nat} (h : inL l n) : 0 ≤ l.fdiv 2 ∧ l.fdiv 2 < n := by
  obtain ⟨h1, h2⟩ := h
  rw [Int.fdiv_eq_ediv_of_nonneg _ (by decide)]
  omega
theorem nodesV_succ (vs : List Int) (ps : List (Int × Int)) (i : Nat) (h : i < ps.length) : nodesV vs (ps.take (i + 1)) = nodesV vs (ps.take i) ++ [Builtin.bitAnd (litV (nodesV vs (ps.take i)) (ps[i]).1) (litV (nodesV vs (ps.take i)) (ps[i]).2)] := by
  unfold nodesV
  rw [List.take_succ, List.getElem?_eq_getElem h, List.foldl_append]
  rfl
theorem nodesV_len (ps : List (Int × Int)) : ∀ vs : List Int, (nodesV vs ps).length = vs.length + ps.length := by
  induction ps with
  | nil => intro vs; rfl
  | cons p ps ih =>
    intro vs
    show (nodesV (vs ++ [_]) ps).length = _
    rw [ih]
    simp
    omega
theorem nodesV_bits (ps : List (Int × Int)) : ∀ vs : List Int, bits vs → bits (nodesV vs ps) := by
  induction ps with
  | nil => intro vs h; exact h
  | cons p ps ih =>
    intro vs h
    exact ih _ (bits_app h (bits_one (bit_and (litV_bit h _) (litV_bit h _))))
section
variable {g : Gr}
theorem Gr.nodes_len (st lot : List Int) : (g.nodes st lot).length = 1 + lot.length + st.length + g.ands.length := by
  unfold Gr.nodes; rw [nodesV_len]; simp; omega
theorem Gr.nodes_bits {st lot : List Int} (h : bits st) (h' : bits lot) : bits (g.nodes st lot) := nodesV_bits _ _ fun x hx => by
  rcases List.mem_cons.mp hx with rfl | hx
  · exact .inl rfl
  · exact bits_app h' h x hx
theorem Gr.outV_bits {vs : List Int} (h : bits vs) : bits (g.outV vs) := fun x hx => by
  obtain ⟨l, _, rfl⟩ := List.mem_map.mp hx
  exact litV_bit h l
theorem Gr.nxtV_bits {vs : List Int} (h : bits vs) : bits (g.nxtV vs) := fun x hx => by
  obtain ⟨l, _, rfl⟩ := List.mem_map.mp hx
  exact litV_bit h l.2
theorem Gr.st0_bits (h : g.ok) : bits g.st0 := fun x hx => by
  obtain ⟨p, hp, rfl⟩ := List.mem_map.mp hx
  exact (h.regs p hp).1
theorem Gr.stF_succ (lots : List (List Int)) (i : Nat) (h : i < lots.length) : g.stF (lots.take (i + 1)) = g.nxtV (g.nodes (g.stF (lots.take i)) (lots[i])) := by
  unfold Gr.stF
  rw [List.take_succ, List.getElem?_eq_getElem h, List.foldl_append]
  rfl
theorem Gr.stF_len (lots : List (List Int)) : (g.stF lots).length = g.regs.length := by
  unfold Gr.stF
  have : ∀ (lots : List (List Int)) (s : List Int), s.length = g.regs.length → (lots.foldl (fun s lot => g.nxtV (g.nodes s lot)) s).length = g.regs.length := by
    intro lots
    induction lots with
    | nil => intro s h; exact h
    | cons l lots ih => intro s h; exact ih _ (by simp [Gr.nxtV])
  exact this lots _ (by simp [Gr.st0])
theorem Gr.stF_bits (h : g.ok) (lots : List (List Int)) (hb : ∀ l ∈ lots, bits l) : bits (g.stF lots) := by
  unfold Gr.stF
  have : ∀ (lots : List (List Int)) (s : List Int), (∀ l ∈ lots, bits l) → bits s → bits (lots.foldl (fun s lot => g.nxtV (g.nodes s lot)) s) := by
    intro lots
    induction lots with
    | nil => intro s _ h; exact h
    | cons l lots ih => intro s hl h; exact ih _ (fun x hx => hl x (List.mem_cons_of_mem _ hx)) (Gr.nxtV_bits (Gr.nodes_bits h (hl l List.mem_cons_self)))
  exact this lots _ hb (Gr.st0_bits h)
theorem Gr.due_succ (lots : List (List Int)) (i : Nat) (h : i < lots.length) : g.due lots (i + 1) = g.due lots i ++ [g.outV (g.nodes (g.stF (lots.take i)) (lots[i]))] := by
  unfold Gr.due
  rw [List.range_succ, List.map_append, List.map_singleton, List.getD_eq_getElem?_getD, List.getElem?_eq_getElem h]
  rfl
theorem Gr.sts_succ (lots : List (List Int)) (i : Nat) : g.sts lots (i + 1) = g.sts lots i ++ [g.stF (lots.take (i + 1))] := by
  unfold Gr.sts
  rw [List.range_succ, List.map_append, List.map_singleton]
theorem Gr.due_len (lots : List (List Int)) (n : Nat) : (g.due lots n).length = n := by simp [Gr.due]
theorem Gr.sts_len (lots : List (List Int)) (n : Nat) : (g.sts lots n).length = n + 1 := by simp [Gr.sts]
theorem Gr.outV_len (vs : List Int) : (g.outV vs).length = g.outs.length := by simp [Gr.outV]
theorem Gr.nxtV_len (vs : List Int) : (g.nxtV vs).length = g.regs.length := by simp [Gr.nxtV]
theorem Gr.many_nodes (st lot : List Int) (h : lot.length = g.ins) (h' : st.length = g.regs.length) : (g.nodes st lot).length = g.many := by
  rw [Gr.nodes_len]; unfold Gr.many Gr.first; omega
end
/-- lots for a graph -/
structure LotsOk (g : Gr) (lots : List (List Int)) : Prop where
  len : ∀ l ∈ lots, l.length = g.ins
  bit : ∀ l ∈ lots, bits l
/-! ### what is asked of the defs -/
def Clit : Con := fun ds Q => ∃ (vs : List Int) (l : Int), ds = [.list (vs.map PyData.int), .int l] ∧ inL l vs.length ∧ Q (.fz (.int (litV vs l)))
def Clit1 : Con := fun ds Q => ∃ (vs : List Int) (l : Int), ds = [.list (vs.map PyData.int), .int l, .int 1] ∧ inL l vs.length ∧ Q (.fz (.int (litV vs l)))
def Cst0 : Con := fun ds Q => ∃ g : Gr, ds = [g.toD] ∧ g.ok ∧ Q (.fz (lotD g.st0))
def Cnodes : Con := fun ds Q => ∃ (g : Gr) (st lot : List Int), ds = [g.toD, lotD st, lotD lot] ∧ g.ok ∧ st.length = g.regs.length ∧ lot.length = g.ins ∧ Q (.nw (.list ((g.nodes st lot).map PyData.int)))
def Cnodes1 : Con := fun ds Q => ∃ (g : Gr) (st lot : List Int), ds = [g.toD, lotD st, lotD lot, .int 1] ∧ g.ok ∧ st.length = g.regs.length ∧ lot.length = g.ins ∧ Q (.nw (.list ((g.nodes st lot).map PyData.int)))
def Cstep : Con := fun ds Q => ∃ (g : Gr) (st lot : List Int), ds = [g.toD, lotD st, lotD lot] ∧ g.ok ∧ st.length = g.regs.length ∧ lot.length = g.ins ∧ Q (.fz (.tuple [lotD (g.outV (g.nodes st lot)), lotD (g.nxtV (g.nodes st lot))]))
def seqD (d : D) (ds : List D) : Prop := d = .list ds ∨ d = .tuple ds
def Crun : Con := fun ds Q => ∃ (g : Gr) (lots : List (List Int)) (d : D), ds = [g.toD, d] ∧ seqD d (lots.map lotD) ∧ g.ok ∧ LotsOk g lots ∧ lots.length ≤ 1000 ∧ Q (.nw (.list ((g.due lots lots.length).map lotD)))
def Crun1 : Con := fun ds Q => ∃ (g : Gr) (lots : List (List Int)) (d : D), ds = [g.toD, d, .int 1] ∧ seqD d (lots.map lotD) ∧ g.ok ∧ LotsOk g lots ∧ lots.length ≤ 1000 ∧ Q (.fz (.tuple [.list ((g.due lots lots.length).map lotD), .list ((g.sts lots lots.length).map lotD)]))
def Cdlit : Con := fun ds Q => ∃ n : Nat, ds = [.none, .int (n : Int)] ∧ 1 ≤ n ∧ n ≤ 10000 ∧ ∀ l, inL l n → Q (.fz (.int l))
def Cdraw : Con := fun ds Q => ∃ a b c : Int, ds = [.none, .int a, .int b, .int c] ∧ (0 ≤ a ∧ a ≤ 10) ∧ (0 ≤ b ∧ b ≤ 10) ∧ (0 ≤ c ∧ c ≤ 250) ∧ ∀ g : Gr, g.ok → g.ins ≤ a → g.regs.length ≤ b → g.ands.length ≤ c → g.outs.length ≤ 4 → Q (.fz g.toD)
def Cloose : Con := fun ds Q => ∃ g : Gr, ds = [.none, g.toD] ∧ g.ok ∧ g.ands.length ≤ 250 ∧ g.outs.length ≤ 4 ∧ ∀ g' : Gr, g'.ok → g'.ins = g.ins → g'.regs.length = g.regs.length → g'.outs.length ≤ 6 → Q (.fz g'.toD)
theorem map_mem_pD {ps : List (Int × Int)} {x : D} (h : x ∈ ps.map pD) : ∃ p ∈ ps, x = pD p := by
  obtain ⟨p, hp, rfl⟩ := List.mem_map.mp h
  exact ⟨p, hp, rfl⟩
theorem get_pD {ps : List (Int × Int)} {i : Nat} {x : D} (h : (ps.map pD)[i]? = some x) : ∃ (hi : i < ps.length), x = pD ps[i] := by
  rw [List.getElem?_map] at h
  cases e : ps[i]? with
  | none => rw [e] at h; cases h
  | some p =>
    rw [e] at h; cases h
    obtain ⟨hi, e⟩ := List.getElem?_eq_some_iff.mp e
    exact ⟨hi, by rw [e]⟩
theorem get_map {α : Type} {f : α → D} {ps : List α} {i : Nat} {x : D} (h : (ps.map f)[i]? = some x) : ∃ (hi : i < ps.length), x = f ps[i] := by
  rw [List.getElem?_map] at h
  cases e : ps[i]? with
  | none => rw [e] at h; cases h
  | some p =>
    rw [e] at h; cases h
    obtain ⟨hi, e⟩ := List.getElem?_eq_some_iff.mp e
    exact ⟨hi, by rw [e]⟩
theorem rb_lots {ls : List (List Int)} {n k : Nat} (hb : ∀ l ∈ ls, bits l) (hl : ∀ l ∈ ls, l.length ≤ k) (hn : ls.length ≤ n) : RBs ((2 * k + 1) * n) 2 (ls.map lotD) := .all (fun d hd => by
  obtain ⟨l, h, rfl⟩ := List.mem_map.mp hd
  exact .tuple (.bits (hb l h) (hl l h))) (by simpa using hn)
def d1 : D → D
  | .tuple [a, _] => a
  | _ => .none
def d2 (f : Int → Int) : D → D
  | .tuple [_, .int l] => .int (f l)
  | _ => .none
def dI (f : Int → Int) : D → D
  | .int l => .int (f l)
  | _ => .none
theorem map_d1 (ps : List (Int × Int)) : (ps.map pD).map d1 = (ps.map (·.1)).map PyData.int := by rw [List.map_map, List.map_map]; rfl
theorem map_d2 (f : Int → Int) (ps : List (Int × Int)) : (ps.map pD).map (d2 f) = (ps.map fun p => f p.2).map PyData.int := by rw [List.map_map, List.map_map]; rfl
theorem map_dI (f : Int → Int) (ps : List Int) : (ps.map PyData.int).map (dI f) = (ps.map f).map PyData.int := by rw [List.map_map, List.map_map]; rfl
def Gr.v0 (st lot : List Int) : List Int := 0 :: (lot ++ st)
theorem Gr.nodes_eq {g : Gr} (st lot : List Int) : g.nodes st lot = nodesV (Gr.v0 st lot) g.ands := rfl
theorem Gr.pre_len {g : Gr} (st lot : List Int) (hs : st.length = g.regs.length) (hl : lot.length = g.ins) (i : Nat) (hi : i ≤ g.ands.length) : (nodesV (Gr.v0 st lot) (g.ands.take i)).length = g.first + i := by
  rw [nodesV_len, List.length_take, Nat.min_eq_left hi]
  unfold Gr.v0 Gr.first
  simp
  omega
theorem map_v0 (st lot : List Int) : PyData.int 0 :: (lot.map PyData.int ++ st.map PyData.int) = (nodesV (Gr.v0 st lot) ([] : List (Int × Int))).map PyData.int := by
  show _ = (Gr.v0 st lot).map PyData.int
  simp [Gr.v0]
theorem of_eq {p q : Prop} (e : p = q) (h : q) : p := e ▸ h
def d1i (f : Int → Int) : D → D
  | .tuple [.int l, _] => .int (f l)
  | _ => .none
theorem map_d1i (f : Int → Int) (ps : List (Int × Int)) : (ps.map pD).map (d1i f) = (ps.map fun p => f p.1).map PyData.int := by rw [List.map_map, List.map_map]; rfl
theorem st0_mul (g : Gr) : (g.regs.map fun p => 1 * p.1) = g.st0 := by unfold Gr.st0; congr 1; funext p; exact Int.one_mul _
def Gr.pre (g : Gr) (lots : List (List Int)) (n : Nat) : List (List Int) := (List.range n).map fun j => g.stF (lots.take j)
theorem Gr.sts_eq (g : Gr) (lots : List (List Int)) (n : Nat) : (g.sts lots n).map lotD = (g.pre lots n).map lotD ++ [lotD (g.stF (lots.take n))] := by
  unfold Gr.sts Gr.pre
  rw [List.range_succ, List.map_append, List.map_append]
  rfl
/-! ### drawing -/
def AndsOk (first : Nat) (ps : List (Int × Int)) : Prop := ∀ k (h : k < ps.length), inL (ps[k]).1 (first + k) ∧ inL (ps[k]).2 (first + k)
def entT (p : Int × Int) : D × D := (pD p, .bool true)
theorem AndsOk.snoc {first : Nat} {ps : List (Int × Int)} {x y : Int} (h : AndsOk first ps) (hx : inL x (first + ps.length)) (hy : inL y (first + ps.length)) : AndsOk first (ps ++ [(x, y)]) := by
  intro k hk
  by_cases e : k < ps.length
  · rw [List.getElem_append_left e]; exact h k e
  · have e : k = ps.length := by simp at hk; omega
    subst e
    rw [List.getElem_append_right (Nat.le_refl _)]
    simp only [Nat.sub_self, List.getElem_cons_zero]
    exact ⟨hx, hy⟩
theorem putT_ent {first : Nat} {ps : List (Int × Int)} {x y : Int} (h : AndsOk first ps) (hx : inL x (first + ps.length)) (hy : inL y (first + ps.length)) :
    ∃ ps', putT (ps.map entT) [.inl x, .inl y] (.bool true) = ps'.map entT ∧ AndsOk first ps' ∧ ps'.length ≤ ps.length + 1 := by
  unfold putT
  by_cases q : hasT (ps.map entT) [.inl x, .inl y] = true
  · rw [if_pos q]
    refine ⟨ps, ?_, h, by omega⟩
    rw [List.map_map]
    apply List.map_congr_left
    intro p _
    show (if _ then ((entT p).1, PyData.bool true) else entT p) = entT p
    split <;> rfl
  · rw [if_neg q]
    exact ⟨ps ++ [(x, y)], by rw [List.map_append]; rfl, h.snoc hx hy, by simp⟩
theorem keysT_ent (ps : List (Int × Int)) : keysT (ps.map entT) = ps.map pD := by unfold keysT; rw [List.map_map]; rfl
theorem two_of {ms ns : List Int} (h : ms.Perm ns) (hl : ns.length = 2) {p : Int → Prop} (hp : ∀ n ∈ ns, p n) : ∃ x y, ms = [x, y] ∧ p x ∧ p y := by
  have e := h.length_eq
  rw [hl] at e
  match ms, e with
  | [x, y], _ => exact ⟨x, y, rfl, hp x (h.subset (by simp)), hp y (h.subset (by simp))⟩
/-- for x in range(a draw if .. else 0) -/
theorem useB_lp {b : Bool} {A : Prop} {dg : DG} {db : DS} {DD : DEnds} {ρ : Rho} {c : Int} (hc : 0 ≤ c) (h : (∀ n : Int, 0 ≤ n → n ≤ c → dLoop dg db DD (rngD 0 n.toNat) ρ) → A) (loop : ∀ n : Int, 0 ≤ n → n ≤ c → dLoop dg db DD (rngD 0 n.toNat) ρ) :
    useB b A ((-(2 ^ 62) ≤ (0 : Int) ∧ (0 : Int) < 2 ^ 62) ∧ dLoop dg db DD (rngD 0 (0 : Int).toNat) ρ) := useB_b (fun _ => h loop) (fun _ => ⟨⟨by decide, by decide⟩, loop 0 (Int.le_refl _) hc⟩)
theorem xor1 {l : Int} {n : Nat} (h : inL l n) : inL (Builtin.bitXor l 1) n := by
  obtain ⟨h1, h2⟩ := h
  rw [PyProof.Rows.bitXor_and, PyProof.Rows.bitAnd_m1]
  unfold inL
  omega
theorem inL.mono {l : Int} {n m : Nat} (h : inL l n) (e : n ≤ m) : inL l m := by
  unfold inL at h ⊢; omega
theorem cutD_mem {xs : List D} {lo hi : Option Int} {x : D} (h : x ∈ cutD xs lo hi) : x ∈ xs := List.mem_of_mem_drop (List.mem_of_mem_take h)
theorem cutD_len (xs : List D) (lo hi : Option Int) : (cutD xs lo hi).length ≤ xs.length := by
  unfold cutD
  rw [List.length_take, List.length_drop]
  omega
/-- a pair of literals -/
def PairD (n : Nat) (x : D) : Prop := ∃ u v : Int, x = pD (u, v) ∧ inL u n ∧ inL v n
theorem AndsOk.pair {F : Nat} {ps : List (Int × Int)} (h : AndsOk F ps) {x : D} (hx : x ∈ ps.map pD) : PairD (F + ps.length) x := by
  obtain ⟨p, hp, rfl⟩ := List.mem_map.mp hx
  obtain ⟨i, hi, rfl⟩ := List.mem_iff_getElem.mp hp
  have := h i hi
  exact ⟨_, _, rfl, this.1.mono (by omega), this.2.mono (by omega)⟩
def revP : D → D
  | .tuple ds => .tuple ds.reverse
  | _ => .none
theorem PairD.rev {n : Nat} {x : D} (h : PairD n x) : PairD n (revP x) := by
  obtain ⟨u, v, rfl, hu, hv⟩ := h
  exact ⟨v, u, rfl, hv, hu⟩
theorem atI_map {α : Type} {f : α → D} {xs : List α} {k : Int} (h1 : 0 ≤ k) (h2 : k < xs.length) : L2.atI (xs.map f) k = some (f (xs[k.toNat]'(by omega))) := by
  rw [atI_ok h1 (by simpa using h2)]
  simp
section
variable {g : Gr} {lots : List (List Int)}
theorem Gr.due_bits (hg : g.ok) (hl : LotsOk g lots) {n : Nat} (hn : n ≤ lots.length) : ∀ l ∈ g.due lots n, bits l := fun l h => by
  obtain ⟨j, hj, rfl⟩ := List.mem_map.mp h
  have hj := List.mem_range.mp hj
  refine Gr.outV_bits (Gr.nodes_bits (Gr.stF_bits hg _ fun x hx => hl.bit x (List.mem_of_mem_take hx)) ?_)
  rw [List.getD_eq_getElem?_getD, List.getElem?_eq_getElem (by omega)]
  exact hl.bit _ (List.getElem_mem _)
theorem Gr.due_each {n : Nat} : ∀ l ∈ g.due lots n, l.length = g.outs.length := fun l h => by
  obtain ⟨j, hj, rfl⟩ := List.mem_map.mp h
  exact Gr.outV_len _
theorem Gr.okDue (hg : g.ok) (hl : LotsOk g lots) (hn : lots.length ≤ 100) : reprOkP (.list ((g.due lots lots.length).map lotD)) :=
  RB.ok (.list (rb_lots (k := 10) (n := 100) (Gr.due_bits hg hl (Nat.le_refl _)) (fun l h => by rw [Gr.due_each l h]; exact hg.ol) (by rw [Gr.due_len]; exact hn))) (by decide) (by decide)
theorem rb_lot {l : List Int} (h : bits l) {k : Nat} (hl : l.length ≤ k) : RB (2 * k) 2 (lotD l) := .tuple (.bits h hl)
theorem Gr.okSt0 (hg : g.ok) : reprOkP (lotD g.st0) := RB.ok (rb_lot (k := 10) (Gr.st0_bits hg) (by unfold Gr.st0; rw [List.length_map]; exact hg.rl)) (by decide) (by decide)
theorem Gr.rbStep (hg : g.ok) {st lot : List Int} (hs : bits st) (hl : bits lot) : RB 42 3 (.tuple [lotD (g.outV (g.nodes st lot)), lotD (g.nxtV (g.nodes st lot))]) :=
  .tuple (.cons (rb_lot (k := 10) (Gr.outV_bits (Gr.nodes_bits hs hl)) (by rw [Gr.outV_len]; exact hg.ol)) (.one (rb_lot (k := 10) (Gr.nxtV_bits (Gr.nodes_bits hs hl)) (by rw [Gr.nxtV_len]; exact hg.rl))))
theorem Gr.okStep (hg : g.ok) {st lot : List Int} (hs : bits st) (hl : bits lot) : reprOkP (.tuple [lotD (g.outV (g.nodes st lot)), lotD (g.nxtV (g.nodes st lot))]) := RB.ok (Gr.rbStep hg hs hl) (by decide) (by decide)
theorem Gr.rbNodes (hg : g.ok) {st lot : List Int} (hs : bits st) (hl : bits lot) (h : lot.length = g.ins) (h' : st.length = g.regs.length) : RB 700 2 (.list ((g.nodes st lot).map PyData.int)) :=
  .list (.bits (k := 350) (Gr.nodes_bits hs hl) (by rw [Gr.many_nodes st lot h h']; have := hg.ins; have := hg.rl; have := hg.al; unfold Gr.many Gr.first; omega))
theorem Gr.okNodes (hg : g.ok) {st lot : List Int} (hs : bits st) (hl : bits lot) (h : lot.length = g.ins) (h' : st.length = g.regs.length) : reprOkP (.list ((g.nodes st lot).map PyData.int)) := RB.ok (Gr.rbNodes hg hs hl h h') (by decide) (by decide)
theorem Gr.okBoth (hg : g.ok) {st lot : List Int} (hs : bits st) (hl : bits lot) (h : lot.length = g.ins) (h' : st.length = g.regs.length) : reprOkP (.list [.list ((g.nodes st lot).map PyData.int), .tuple [lotD (g.outV (g.nodes st lot)), lotD (g.nxtV (g.nodes st lot))]]) :=
  RB.ok (.list (.cons ((Gr.rbNodes hg hs hl h h').mono (Nat.le_refl _) (by decide : 2 ≤ 3)) (.one (Gr.rbStep hg hs hl)))) (by decide) (by decide)
theorem Gr.due_at {k : Int} (h1 : 0 ≤ k) (h2 : k < lots.length) : L2.atI ((g.due lots lots.length).map lotD) k = some (lotD (g.outV (g.nodes (g.stF (lots.take k.toNat)) (lots[k.toNat]'(by omega))))) := by
  rw [atI_map h1 (by rw [Gr.due_len]; exact h2)]
  unfold Gr.due
  rw [List.getElem_map, List.getElem_range, List.getD_eq_getElem?_getD, List.getElem?_eq_getElem (by omega)]
  rfl
theorem Gr.sts_at {k : Int} (h1 : 0 ≤ k) (h2 : k ≤ lots.length) : L2.atI ((g.sts lots lots.length).map lotD) k = some (lotD (g.stF (lots.take k.toNat))) := by
  rw [atI_map h1 (by rw [Gr.sts_len]; omega)]
  unfold Gr.sts
  rw [List.getElem_map, List.getElem_range]
end
theorem mem_lotI {xs : List D} {x : D} {lo hi : Int} (hm : x ∈ xs) (h : xs.all (fun d => match d with | .int i => decide (lo ≤ i) && decide (i ≤ hi) | _ => false) = true) : ∃ i, x = .int i ∧ lo ≤ i ∧ i ≤ hi := by
  have := List.all_eq_true.mp h x hm
  cases x with
  | int i =>
    simp only [Bool.and_eq_true, decide_eq_true_eq] at this
    exact ⟨i, rfl, this.1, this.2⟩
  | _ => cases this
end DL

set_option Elab.async false
set_option linter.all false
set_option maxRecDepth 100000
set_option maxHeartbeats 4000000
set_option autoImplicit false
namespace DL
open PySem L2
/-! ### sources -/
def isReg (g : Gr) (n : Int) : Prop := (g.ins : Int) < n ∧ n ≤ g.ins + g.regs.length
instance (g : Gr) (n : Int) : Decidable (isReg g n) := by unfold isReg; exact inferInstance
def tk (g : Gr) (n : Int) : Int := (g.regs.getD (n - g.ins - 1).toNat (0, 0)).2
def nd (g : Gr) (n : Int) : Nat → Int
  | 0 => n
  | i + 1 => (tk g (nd g n i)).fdiv 2
def tn (g : Gr) (n u : Int) : Nat → Int
  | 0 => u
  | i + 1 => (tn g n u i + tk g (nd g n i)).fmod 2
theorem nd_add (g : Gr) (n : Int) (i : Nat) : ∀ j, nd g n (i + j) = nd g (nd g n i) j := by
  intro j
  induction j with
  | zero => rfl
  | succ j ih => show (tk g (nd g n (i + j))).fdiv 2 = _; rw [ih]; rfl
/-- walked t registers, none twice -/
structure Pre (g : Gr) (n : Int) (t : Nat) : Prop where
  reg : ∀ i, i < t → isReg g (nd g n i)
  inj : ∀ i j, i < j → j < t → nd g n i ≠ nd g n j
structure SrcR (g : Gr) (l s u : Int) (ch : List Int) : Prop where
  ex : ∃ t, Pre g (l.fdiv 2) t ∧ ((¬ isReg g (nd g (l.fdiv 2) t) ∧ s = nd g (l.fdiv 2) t ∧ u = tn g (l.fdiv 2) (l.fmod 2) t ∧ ch = (List.range t).map (nd g (l.fdiv 2))) ∨
    ∃ p, p < t ∧ nd g (l.fdiv 2) p = nd g (l.fdiv 2) t ∧ s = nd g (l.fdiv 2) t ∧ u = tn g (l.fdiv 2) (l.fmod 2) p ∧ ch = (List.range p).map (nd g (l.fdiv 2)))
theorem Pre.exit_le {g : Gr} {n : Int} {t t' : Nat} (h' : Pre g n t') (e : ¬ isReg g (nd g n t) ∨ ∃ p, p < t ∧ nd g n p = nd g n t) : t' ≤ t := by
  rcases Nat.lt_or_ge t t' with h | h
  · rcases e with e | ⟨p, hp, e⟩
    · exact absurd (h'.reg t h) e
    · exact absurd e (h'.inj p t hp h)
  · exact h
theorem SrcR.unique {g : Gr} {l s u s' u' : Int} {ch ch' : List Int} (h : SrcR g l s u ch) (h' : SrcR g l s' u' ch') : s = s' ∧ u = u' ∧ ch = ch' := by
  obtain ⟨t, P, e⟩ := h.ex
  obtain ⟨t', P', e'⟩ := h'.ex
  have x : ¬ isReg g (nd g (l.fdiv 2) t) ∨ ∃ p, p < t ∧ nd g (l.fdiv 2) p = nd g (l.fdiv 2) t := e.imp (fun h => h.1) fun ⟨p, h1, h2, _⟩ => ⟨p, h1, h2⟩
  have x' : ¬ isReg g (nd g (l.fdiv 2) t') ∨ ∃ p, p < t' ∧ nd g (l.fdiv 2) p = nd g (l.fdiv 2) t' := e'.imp (fun h => h.1) fun ⟨p, h1, h2, _⟩ => ⟨p, h1, h2⟩
  have ht : t = t' := Nat.le_antisymm (P.exit_le x') (P'.exit_le x)
  subst ht
  rcases e with ⟨e1, rfl, rfl, rfl⟩ | ⟨p, p1, p2, rfl, rfl, rfl⟩
  · rcases e' with ⟨_, rfl, rfl, rfl⟩ | ⟨q, q1, q2, _⟩
    · exact ⟨rfl, rfl, rfl⟩
    · exact absurd (q2 ▸ P.reg q q1) e1
  · rcases e' with ⟨e1, _⟩ | ⟨q, q1, q2, rfl, rfl, rfl⟩
    · exact absurd (p2 ▸ P.reg p p1) e1
    · have : p = q := by
        rcases Nat.lt_trichotomy p q with h | h | h
        · exact absurd (p2.trans q2.symm) (P.inj p q h q1)
        · exact h
        · exact absurd (q2.trans p2.symm) (P.inj q p h p1)
      subst this
      exact ⟨rfl, rfl, rfl⟩
/-! ### as many as there are -/
theorem nodup_le : ∀ (R : Nat) (a : Int) (l : List Int), l.Nodup → (∀ x ∈ l, a < x ∧ x ≤ a + R) → l.length ≤ R := by
  intro R
  induction R with
  | zero =>
    intro a l _ h
    cases l with
    | nil => exact Nat.le_refl _
    | cons x l => have := h x List.mem_cons_self; omega
  | succ R ih =>
    intro a l hn h
    by_cases hm : a + (R + 1 : Nat) ∈ l
    · have h1 := ih a (l.erase (a + (R + 1 : Nat))) (hn.erase _) fun x hx => by
        obtain ⟨h1, h2⟩ := (List.Nodup.mem_erase_iff hn).mp hx
        have := h x h2
        omega
      rw [List.length_erase_of_mem hm] at h1
      omega
    · have := ih a l hn fun x hx => by
        have := h x hx
        have : x ≠ a + (R + 1 : Nat) := fun e => hm (e ▸ hx)
        omega
      omega
theorem range_map_succ {α : Type} (f : Nat → α) (t : Nat) : (List.range (t + 1)).map f = (List.range t).map f ++ [f t] := by rw [List.range_succ, List.map_append]; rfl
theorem Pre.pre {g : Gr} {n : Int} {t : Nat} (h : Pre g n (t + 1)) : Pre g n t := ⟨fun i hi => h.reg i (Nat.lt_succ_of_lt hi), fun i j hij hj => h.inj i j hij (Nat.lt_succ_of_lt hj)⟩
theorem Pre.nodup {g : Gr} {n : Int} {t : Nat} (h : Pre g n t) : ((List.range t).map (nd g n)).Nodup := by
  induction t with
  | zero => exact List.nodup_nil
  | succ t ih =>
    rw [range_map_succ, List.nodup_append]
    refine ⟨ih h.pre, List.nodup_cons.mpr ⟨List.not_mem_nil, List.nodup_nil⟩, fun a ha b hb => ?_⟩
    obtain ⟨i, hi, rfl⟩ := List.mem_map.mp ha
    rw [List.mem_singleton.mp hb]
    exact h.inj i t (List.mem_range.mp hi) (Nat.lt_succ_self _)
theorem Pre.le {g : Gr} {n : Int} {t : Nat} (h : Pre g n t) : t ≤ g.regs.length := by
  have := nodup_le g.regs.length g.ins _ h.nodup fun x hx => by
    obtain ⟨i, hi, rfl⟩ := List.mem_map.mp hx
    exact h.reg i (List.mem_range.mp hi)
  simpa using this
theorem Pre.succ {g : Gr} {n : Int} {t : Nat} (h : Pre g n t) (hr : isReg g (nd g n t)) (hn : nd g n t ∉ (List.range t).map (nd g n)) : Pre g n (t + 1) := by
  refine ⟨fun i hi => ?_, fun i j hij hj => ?_⟩
  · rcases Nat.lt_succ_iff_lt_or_eq.mp hi with h1 | rfl
    · exact h.reg i h1
    · exact hr
  · rcases Nat.lt_succ_iff_lt_or_eq.mp hj with h1 | rfl
    · exact h.inj i j hij h1
    · exact fun e => hn (List.mem_map.mpr ⟨i, List.mem_range.mpr hij, e⟩)
theorem Pre.nil {g : Gr} {n : Int} : Pre g n 0 := ⟨fun i h => absurd h (Nat.not_lt_zero _), fun i j _ h => absurd h (Nat.not_lt_zero _)⟩
theorem tk_ok {g : Gr} (hg : g.ok) {n : Int} (h : isReg g n) : inL (tk g n) g.many := by
  unfold isReg at h
  have hi : (n - g.ins - 1).toNat < g.regs.length := by omega
  unfold tk
  rw [List.getD_eq_getElem?_getD, List.getElem?_eq_getElem hi]
  exact (hg.regs _ (List.getElem_mem hi)).2
def inR (n : Int) (m : Nat) : Prop := 0 ≤ n ∧ n < (m : Int)
theorem inL_node {l : Int} {n : Nat} (h : inL l n) : inR (l.fdiv 2) n := inL_div h
theorem nd_ok {g : Gr} (hg : g.ok) {n : Int} (hn : inR n g.many) {t : Nat} (h : Pre g n t) : inR (nd g n t) g.many := by
  cases t with
  | zero => exact hn
  | succ t => exact inL_node (tk_ok hg (h.reg t (Nat.lt_succ_self _)))
/-! ### what is asked -/
def Cisreg : Con := fun ds Q => ∃ (g : Gr) (n : Int), ds = [g.toD, .int n] ∧ Q (.fz (.bool (decide (isReg g n))))
def Cisand : Con := fun ds Q => ∃ (g : Gr) (n : Int), ds = [g.toD, .int n] ∧ Q (.fz (.bool (decide ((g.ins + g.regs.length : Int) < n))))
def Ctaken : Con := fun ds Q => ∃ (g : Gr) (n : Int), ds = [g.toD, .int n] ∧ isReg g n ∧ Q (.fz (.int (tk g n)))
def prD (g : Gr) (n : Int) : Int × Int := g.ands.getD (n - g.ins - g.regs.length - 1).toNat (0, 0)
def Cpair : Con := fun ds Q => ∃ (g : Gr) (n : Int), ds = [g.toD, .int n] ∧ (g.first : Int) ≤ n ∧ n < g.many ∧ Q (.fz (pD (prD g n)))
def srcD (s u : Int) (ch : List Int) : D := .tuple [.int s, .int u, .tuple (ch.map PyData.int)]
def Csrc : Con := fun ds Q => ∃ (g : Gr) (l : Int), ds = [g.toD, .int l] ∧ g.ok ∧ inL l g.many ∧ ∀ s u ch, SrcR g l s u ch → Q (.fz (srcD s u ch))
theorem atI_pD {ps : List (Int × Int)} {k : Int} (h1 : 0 ≤ k) (h2 : k < ps.length) : L2.atI (ps.map pD) k = some (pD (ps.getD k.toNat (0, 0))) := by
  rw [atI_map h1 h2]
  rw [List.getD_eq_getElem?_getD, List.getElem?_eq_getElem (by omega)]
  rfl
theorem flat_ints (ns : List Int) : (ns.map PyData.int).all flatP = true := by
  rw [List.all_eq_true]
  intro x hx
  obtain ⟨n, _, rfl⟩ := List.mem_map.mp hx
  rfl
theorem any_int (ns : List Int) (n : Int) : ((ns.map PyData.int).any fun z => PyData.eqv z (.int n)) = decide (n ∈ ns) := by
  induction ns with
  | nil => simp
  | cons a ns ih =>
    rw [List.map_cons, List.any_cons, ih, eqv_int]
    by_cases h : a = n
    · simp [h]
    · have : n ≠ a := fun e => h e.symm
      simp [h, this]
theorem cut_to {xs : List D} {p : Nat} (h : p ≤ xs.length) : cutD xs none (some (p : Int)) = xs.take p := by
  unfold cutD
  have e1 : HT.sIx xs.length 0 none = 0 := rfl
  have e2 : HT.sIx xs.length xs.length (some (p : Int)) = p := by
    unfold HT.sIx
    dsimp only
    rw [if_neg (by omega)]
    rw [Int.toNat_natCast]
    exact Nat.min_eq_left h
  rw [e1, e2, List.drop_zero, Nat.sub_zero]
theorem take_range {f : Nat → D} {p t : Nat} (h : p ≤ t) : ((List.range t).map f).take p = (List.range p).map f := by
  rw [← List.map_take, List.take_range, Nat.min_eq_left h]
def ndL (g : Gr) (n : Int) (t : Nat) : List D := ((List.range t).map (nd g n)).map PyData.int
def tnL (g : Gr) (n u : Int) (t : Nat) : List D := ((List.range t).map (tn g n u)).map PyData.int
theorem ndL_succ (g : Gr) (n : Int) (t : Nat) : ndL g n (t + 1) = ndL g n t ++ [.int (nd g n t)] := by unfold ndL; rw [range_map_succ, List.map_append]; rfl
theorem tnL_succ (g : Gr) (n u : Int) (t : Nat) : tnL g n u (t + 1) = tnL g n u t ++ [.int (tn g n u t)] := by unfold tnL; rw [range_map_succ, List.map_append]; rfl
theorem ndL_len (g : Gr) (n : Int) (t : Nat) : (ndL g n t).length = t := by simp [ndL]
theorem tnL_len (g : Gr) (n u : Int) (t : Nat) : (tnL g n u t).length = t := by simp [tnL]
theorem ndL_at (g : Gr) (n : Int) {p t : Nat} (h : p < t) : (ndL g n t)[p]? = some (.int (nd g n p)) := by
  unfold ndL
  rw [List.getElem?_map, List.getElem?_map, List.getElem?_range h]
  rfl
theorem tnL_at (g : Gr) (n u : Int) {p t : Nat} (h : p < t) : (tnL g n u t)[p]? = some (.int (tn g n u p)) := by
  unfold tnL
  rw [List.getElem?_map, List.getElem?_map, List.getElem?_range h]
  rfl
theorem ndL_cut (g : Gr) (n : Int) {p t : Nat} (h : p ≤ t) : cutD (ndL g n t) none (some (p : Int)) = ndL g n p := by
  rw [cut_to (by rw [ndL_len]; exact h)]
  unfold ndL
  rw [List.map_map, List.map_map, take_range h]
theorem atI_get {xs : List D} {p : Nat} {d : D} (h : xs[p]? = some d) : L2.atI xs (p : Int) = some d := by
  have hp := (List.getElem?_eq_some_iff.mp h).1
  unfold L2.atI ixN
  rw [if_pos (by omega), if_pos (by omega)]
  show xs[(p : Int).toNat]? = _
  rw [Int.toNat_natCast]
  exact h
theorem mem_range_map {f : Nat → Int} {t : Nat} {x : Int} (h : x ∈ (List.range t).map f) : ∃ p, p < t ∧ f p = x := by
  obtain ⟨p, hp, e⟩ := List.mem_map.mp h
  exact ⟨p, List.mem_range.mp hp, e⟩
/-- (in), as a test -/
theorem nin_dec (ns : List Int) (n : Int) : (true != ((ns.map PyData.int).any fun z => PyData.eqv z (.int n))) = decide (n ∉ ns) := by
  rw [any_int]
  by_cases h : n ∈ ns <;> simp [h]
theorem in_dec (ns : List Int) (n : Int) : (false != ((ns.map PyData.int).any fun z => PyData.eqv z (.int n))) = decide (n ∈ ns) := by
  rw [any_int]
  by_cases h : n ∈ ns <;> simp [h]
theorem exit_ex (g : Gr) (n : Int) : ∃ t, Pre g n t ∧ (¬ isReg g (nd g n t) ∨ ∃ p, p < t ∧ nd g n p = nd g n t) := by
  suffices h : ∀ k t, t + k = g.regs.length + 1 → Pre g n t → ∃ t, Pre g n t ∧ (¬ isReg g (nd g n t) ∨ ∃ p, p < t ∧ nd g n p = nd g n t) from h (g.regs.length + 1) 0 (by omega) Pre.nil
  intro k
  induction k with
  | zero => intro t e P; have := P.le; omega
  | succ k ih =>
    intro t e P
    by_cases hr : isReg g (nd g n t)
    · by_cases hm : nd g n t ∈ (List.range t).map (nd g n)
      · obtain ⟨p, hp, e⟩ := mem_range_map hm
        exact ⟨t, P, .inr ⟨p, hp, e⟩⟩
      · exact ih (t + 1) (by omega) (P.succ hr hm)
    · exact ⟨t, P, .inl hr⟩
/-- on a cycle all is met ahead of t -/
theorem cyc {g : Gr} {n : Int} {p t : Nat} (hp : p < t) (e : nd g n p = nd g n t) : ∀ j, ∃ q, q < t ∧ nd g n j = nd g n q ∧ (p ≤ j → p ≤ q) := by
  intro j
  induction j using Nat.strongRecOn with
  | _ j ih =>
    by_cases hj : j < t
    · exact ⟨j, hj, rfl, id⟩
    · have e2 : nd g n j = nd g n (p + (j - t)) := by
        have h1 := nd_add g n t (j - t)
        have h2 := nd_add g n p (j - t)
        rw [← e] at h1
        rw [h2, ← h1]
        congr 1
        omega
      obtain ⟨q, q1, q2, q3⟩ := ih (p + (j - t)) (by omega)
      exact ⟨q, q1, e2.trans q2, fun _ => q3 (by omega)⟩
/-- k is met again behind, among the first m -/
def Agn (g : Gr) (n : Int) (m k : Nat) : Prop := ∃ j, k < j ∧ j < m ∧ nd g n j = nd g n k
/-- the law's own answer, told by the first that is met again -/
theorem SrcR.of_law {g : Gr} {l : Int} {L a : Nat} (h1 : ∀ j, j < L → isReg g (nd g (l.fdiv 2) j)) (h2 : L < g.regs.length + 1 → ¬ isReg g (nd g (l.fdiv 2) L)) (hL : L ≤ g.regs.length + 1)
    (ha : (Agn g (l.fdiv 2) (L + 1) a ∧ a < L + 1 ∧ ∀ k, k < a → ¬ Agn g (l.fdiv 2) (L + 1) k) ∨ (a = L ∧ ∀ k, k < L + 1 → ¬ Agn g (l.fdiv 2) (L + 1) k)) :
    SrcR g l (nd g (l.fdiv 2) a) (tn g (l.fdiv 2) (l.fmod 2) a) ((List.range a).map (nd g (l.fdiv 2))) := by
  obtain ⟨t, P, e⟩ := exit_ex g (l.fdiv 2)
  have htl := P.le
  rcases e with e | ⟨p, hp, e⟩
  · have hLt : L = t := by
      rcases Nat.lt_trichotomy L t with h | h | h
      · exact absurd (P.reg L h) (h2 (by omega))
      · exact h
      · exact absurd (h1 t h) e
    subst hLt
    have no : ∀ k, k < L + 1 → ¬ Agn g (l.fdiv 2) (L + 1) k := fun k _ ⟨j, j1, j2, j3⟩ => by
      rcases Nat.lt_succ_iff_lt_or_eq.mp j2 with h | rfl
      · exact P.inj k j j1 h j3.symm
      · exact e (j3 ▸ P.reg k j1)
    rcases ha with ⟨ha1, ha2, _⟩ | ⟨rfl, _⟩
    · exact absurd ha1 (no a ha2)
    · exact ⟨a, P, .inl ⟨e, rfl, rfl, rfl⟩⟩
  · have all : ∀ j, isReg g (nd g (l.fdiv 2) j) := fun j => by
      obtain ⟨q, q1, q2, _⟩ := cyc hp e j
      rw [q2]; exact P.reg q q1
    have hLR : L = g.regs.length + 1 := by
      rcases Nat.lt_or_ge L (g.regs.length + 1) with h | h
      · exact absurd (all L) (h2 h)
      · omega
    have hAp : Agn g (l.fdiv 2) (L + 1) p := ⟨t, hp, by omega, e.symm⟩
    rcases ha with ⟨ha1, ha2, ha3⟩ | ⟨_, ha2⟩
    · have hap : a = p := by
        rcases Nat.lt_trichotomy a p with h | h | h
        · obtain ⟨j, j1, j2, j3⟩ := ha1
          by_cases hj : j < t
          · exact absurd j3.symm (P.inj a j j1 hj)
          · obtain ⟨q, q1, q2, q3⟩ := cyc hp e j
            have := q3 (by omega)
            exact absurd (j3.symm.trans q2) (P.inj a q (by omega) q1)
        · exact h
        · exact absurd hAp (ha3 p h)
      subst hap
      exact ⟨t, P, .inr ⟨a, hp, e, e, rfl, rfl⟩⟩
    · exact absurd hAp (ha2 p (by omega))
theorem drop_of {xs : List D} {k : Nat} : cutD xs (some ((k : Int) + 1)) none = xs.drop (k + 1) := by
  unfold cutD
  have e2 : HT.sIx xs.length xs.length none = xs.length := rfl
  have e1 : HT.sIx xs.length 0 (some ((k : Int) + 1)) = min (k + 1) xs.length := by
    unfold HT.sIx
    dsimp only
    rw [if_neg (by omega)]
    congr 1
  rw [e1, e2]
  by_cases h : k + 1 ≤ xs.length
  · rw [Nat.min_eq_left h, List.take_of_length_le (by rw [List.length_drop]; omega)]
  · rw [Nat.min_eq_right (by omega), List.drop_length, List.drop_eq_nil_of_le (by omega)]
    simp
theorem ndL_drop (g : Gr) (n : Int) (m k : Nat) : ∃ ns : List Int, (ndL g n m).drop k = ns.map PyData.int ∧ ∀ x, x ∈ ns ↔ ∃ j, k ≤ j ∧ j < m ∧ nd g n j = x := by
  refine ⟨((List.range m).map (nd g n)).drop k, by unfold ndL; rw [List.map_drop], fun x => ?_⟩
  rw [List.mem_iff_getElem?]
  constructor
  · rintro ⟨i, hi⟩
    rw [List.getElem?_drop, List.getElem?_map] at hi
    have hlt : k + i < m := by
      rcases Nat.lt_or_ge (k + i) m with h | h
      · exact h
      · rw [List.getElem?_eq_none (by simpa using h)] at hi; cases hi
    rw [List.getElem?_range hlt] at hi
    exact ⟨k + i, by omega, hlt, Option.some.inj hi⟩
  · rintro ⟨j, j1, j2, rfl⟩
    refine ⟨j - k, ?_⟩
    rw [List.getElem?_drop, show k + (j - k) = j by omega, List.getElem?_map, List.getElem?_range j2]
    rfl
/-! ### what is needed -/
inductive Reach (g : Gr) : Int → Prop
  | out {l : Int} : l ∈ g.outs → Reach g (l.fdiv 2)
  | reg {n : Int} : Reach g n → isReg g n → Reach g ((tk g n).fdiv 2)
  | one {n : Int} : Reach g n → (g.first : Int) ≤ n → n < g.many → Reach g ((prD g n).1.fdiv 2)
  | two {n : Int} : Reach g n → (g.first : Int) ≤ n → n < g.many → Reach g ((prD g n).2.fdiv 2)
theorem prD_ok {g : Gr} (hg : g.ok) {n : Int} (h1 : (g.first : Int) ≤ n) (h2 : n < g.many) : inL (prD g n).1 g.many ∧ inL (prD g n).2 g.many := by
  unfold Gr.many at h2
  have hf : (g.first : Int) = 1 + g.ins + g.regs.length := by unfold Gr.first; simp
  have hi : (n - g.ins - g.regs.length - 1).toNat < g.ands.length := by omega
  have := hg.ands _ hi
  unfold prD
  rw [List.getD_eq_getElem?_getD, List.getElem?_eq_getElem hi]
  exact ⟨this.1.mono (by unfold Gr.many; omega), this.2.mono (by unfold Gr.many; omega)⟩
theorem Reach.ok {g : Gr} (hg : g.ok) {n : Int} (h : Reach g n) : inR n g.many := by
  induction h with
  | out h => exact inL_node (hg.outs _ h)
  | reg h hr ih => exact inL_node (tk_ok hg hr)
  | one h h1 h2 ih => exact inL_node (prD_ok hg h1 h2).1
  | two h h1 h2 ih => exact inL_node (prD_ok hg h1 h2).2
theorem Reach.nd {g : Gr} {n : Int} (h : Reach g n) : ∀ t, (∀ i, i < t → isReg g (nd g n i)) → Reach g (DL.nd g n t) := by
  intro t
  induction t with
  | zero => intro _; exact h
  | succ t ih => intro hr; exact .reg (ih fun i hi => hr i (Nat.lt_succ_of_lt hi)) (hr t (Nat.lt_succ_self _))
theorem Reach.src {g : Gr} {l s u : Int} {ch : List Int} (h : Reach g (l.fdiv 2)) (hs : SrcR g l s u ch) : Reach g s := by
  obtain ⟨t, P, ⟨_, rfl, _⟩ | ⟨p, _, _, rfl, _⟩⟩ := hs.ex
  · exact h.nd t P.reg
  · exact h.nd t P.reg
def Ends (g : Gr) (n s : Int) : Prop := ∃ k, (∀ j, j < k → isReg g (nd g n j)) ∧ nd g n k = s ∧ ¬ isReg g s
theorem Ends.src {g : Gr} {l s : Int} (h : Ends g (l.fdiv 2) s) : ∃ u ch, SrcR g l s u ch := by
  obtain ⟨k, h1, rfl, h3⟩ := h
  obtain ⟨t, P, e | ⟨p, hp, e⟩⟩ := exit_ex g (l.fdiv 2)
  · have : k = t := by
      rcases Nat.lt_trichotomy k t with h | h | h
      · exact absurd (P.reg k h) h3
      · exact h
      · exact absurd (h1 t h) e
    subst this
    exact ⟨_, _, ⟨k, P, .inl ⟨e, rfl, rfl, rfl⟩⟩⟩
  · obtain ⟨q, q1, q2, _⟩ := cyc hp e k
    exact absurd (q2 ▸ P.reg q q1) h3
def isAnd (g : Gr) (n : Int) : Prop := (g.ins + g.regs.length : Int) < n
theorem complete {g : Gr} (hg : g.ok) {F : Int → Prop} (h0 : ∀ l ∈ g.outs, ∀ s u ch, SrcR g l s u ch → isAnd g s → F s)
    (h1 : ∀ n, F n → isAnd g n → n < g.many → ∀ s u ch, (SrcR g (prD g n).1 s u ch ∨ SrcR g (prD g n).2 s u ch) → isAnd g s → F s) {n : Int} (h : Reach g n) : ∀ s, Ends g n s → isAnd g s → F s := by
  have nr : ∀ n, (g.first : Int) ≤ n → ¬ isReg g n ∧ isAnd g n := fun n h => by
    have hf : (g.first : Int) = 1 + g.ins + g.regs.length := by unfold Gr.first; simp
    unfold isReg isAnd
    omega
  induction h with
  | out h => intro s e ha; obtain ⟨u, ch, hs⟩ := e.src; exact h0 _ h s u ch hs ha
  | @reg n h hr ih =>
    rintro s ⟨k, k1, k2, k3⟩ ha
    refine ih s ⟨k + 1, fun j hj => ?_, ?_, k3⟩ ha
    · cases j with
      | zero => exact hr
      | succ j =>
        have := k1 j (by omega)
        have e := nd_add g n 1 j
        rw [show 1 + j = j + 1 by omega] at e
        rw [e]; exact this
    · have e := nd_add g n 1 k
      rw [show 1 + k = k + 1 by omega] at e
      rw [e]; exact k2
  | @one n h h1' h2' ih =>
    intro s e ha
    obtain ⟨q1, q2⟩ := nr n h1'
    have hF := ih n ⟨0, fun j hj => absurd hj (Nat.not_lt_zero _), rfl, q1⟩ q2
    obtain ⟨u, ch, hs⟩ := e.src
    exact h1 n hF q2 h2' s u ch (.inl hs) ha
  | @two n h h1' h2' ih =>
    intro s e ha
    obtain ⟨q1, q2⟩ := nr n h1'
    have hF := ih n ⟨0, fun j hj => absurd hj (Nat.not_lt_zero _), rfl, q1⟩ q2
    obtain ⟨u, ch, hs⟩ := e.src
    exact h1 n hF q2 h2' s u ch (.inr hs) ha
/-! ### sorted lists -/
theorem sorted_unique : ∀ {a b : List Int}, a.Pairwise (· ≤ ·) → b.Pairwise (· ≤ ·) → a.Nodup → b.Nodup → (∀ x, x ∈ a ↔ x ∈ b) → a = b
  | [], [], _, _, _, _, _ => rfl
  | [], y :: b, _, _, _, _, h => absurd ((h y).mpr List.mem_cons_self) List.not_mem_nil
  | x :: a, [], _, _, _, _, h => absurd ((h x).mp List.mem_cons_self) List.not_mem_nil
  | x :: a, y :: b, ha, hb, na, nb, h => by
    have ha' := List.pairwise_cons.mp ha
    have hb' := List.pairwise_cons.mp hb
    have na' := List.nodup_cons.mp na
    have nb' := List.nodup_cons.mp nb
    have e : x = y := by
      have h1 : x ∈ y :: b := (h x).mp List.mem_cons_self
      have h2 : y ∈ x :: a := (h y).mpr List.mem_cons_self
      rcases List.mem_cons.mp h1 with h1 | h1
      · exact h1
      · rcases List.mem_cons.mp h2 with h2 | h2
        · exact h2.symm
        · have := hb'.1 x h1
          have := ha'.1 y h2
          omega
    subst e
    rw [sorted_unique ha'.2 hb'.2 na'.2 nb'.2 fun z => ⟨fun hz => ?_, fun hz => ?_⟩]
    · rcases List.mem_cons.mp ((h z).mp (List.mem_cons_of_mem _ hz)) with e | hz'
      · exact absurd (e ▸ hz) na'.1
      · exact hz'
    · rcases List.mem_cons.mp ((h z).mpr (List.mem_cons_of_mem _ hz)) with e | hz'
      · exact absurd (e ▸ hz) nb'.1
      · exact hz'
/-- a sorted list of what has a property -/
structure SL (p : Int → Prop) (ms : List Int) : Prop where
  so : ms.Pairwise (· ≤ ·)
  nd : ms.Nodup
  mem : ∀ n, n ∈ ms ↔ p n
theorem SL.unique {p : Int → Prop} {a b : List Int} (h : SL p a) (h' : SL p b) : a = b := sorted_unique h.so h'.so h.nd h'.nd fun x => (h.mem x).trans (h'.mem x).symm
/-! ### dicts of ints -/
def entI (n : Int) : D × D := (.int n, .bool true)
theorem entI_T (ns : List Int) : isT (ns.map entI) = false := by cases ns <;> rfl
theorem hasE_ent (ns : List Int) (n : Int) : hasE (ns.map entI) (.inl n) = decide (n ∈ ns) := by
  induction ns with
  | nil => rfl
  | cons a ns ih =>
    show (decide (keyOf (.int a) = some (.inl n)) || hasE (ns.map entI) (.inl n)) = _
    rw [ih]
    by_cases h : a = n
    · subst h; simp [keyOf]
    · have h2 : n ≠ a := fun e => h e.symm
      simp [keyOf, h, h2]
theorem putE_ent (ns : List Int) (n : Int) : putE (ns.map entI) (.inl n) (.bool true) = (if n ∈ ns then ns else ns ++ [n]).map entI := by
  unfold putE
  rw [hasE_ent]
  by_cases h : n ∈ ns
  · rw [if_pos (decide_eq_true h), if_pos h, List.map_map]
    apply List.map_congr_left
    intro a _
    show (if _ then ((entI a).1, PyData.bool true) else entI a) = entI a
    split <;> rfl
  · rw [if_neg (by simpa using h), if_neg h, List.map_append]
    rfl
theorem lookE_ent (ns : List Int) (n : Int) : (lookE (ns.map entI) (.inl n)).isSome = decide (n ∈ ns) := by
  induction ns with
  | nil => rfl
  | cons a ns ih =>
    show (if keyOf (.int a) = some (.inl n) then some (PyData.bool true) else lookE (ns.map entI) (.inl n)).isSome = _
    by_cases h : a = n
    · subst h; simp [keyOf]
    · have h2 : n ≠ a := fun e => h e.symm
      rw [if_neg (by simp [keyOf, h]), ih]
      simp [h2]
theorem keysI_ent (ns : List Int) : keysI (ns.map entI) = some ns := by
  unfold keysI
  rw [List.map_map]
  exact intsOf_map ns
theorem ndp_le {ns : List Int} {m : Nat} (h : ns.Nodup) (hb : ∀ n ∈ ns, inR n m) : ns.length ≤ m := nodup_le m (-1) ns h fun x hx => by have := hb x hx; unfold inR at this; omega
theorem eqv_nil_ints (ws : List Int) : (true != PyData.eqv (.list (ws.map PyData.int)) (.list [])) = !ws.isEmpty := by
  cases ws <;> simp [PyData.eqv, PyData.eqvAll]
theorem perm_nodup {a b : List Int} (h : a.Perm b) (n : b.Nodup) : a.Nodup := h.nodup_iff.mpr n
/-! ### what is asked -/
def Cneed : Con := fun ds Q => ∃ g : Gr, ds = [g.toD] ∧ g.ok ∧ g.many < 64 ∧ ∀ ms, SL (Reach g) ms → Q (.nw (.list (ms.map PyData.int)))
def Cands : Con := fun ds Q => ∃ g : Gr, ds = [g.toD] ∧ g.ok ∧ g.many < 64 ∧ ∀ ms, SL (fun n => Reach g n ∧ isAnd g n) ms → Q (.nw (.list (ms.map PyData.int)))
/-- the sources of some literals -/
theorem srcs_of {g : Gr} {ls : List Int} {acc : List D} (hl : acc.length = ls.length) (h : ∀ (i : Nat) (d : D), acc[i]? = some d → ∃ (l s u : Int) (ch : List Int), ls[i]? = some l ∧ d = .int s ∧ SrcR g l s u ch) :
    ∃ ws : List Int, acc = ws.map PyData.int ∧ ws.length = ls.length ∧ (∀ w ∈ ws, ∃ l, l ∈ ls ∧ ∃ u ch, SrcR g l w u ch) ∧ ∀ l ∈ ls, ∀ s u ch, SrcR g l s u ch → s ∈ ws := by
  obtain ⟨ws, rfl, hw, _⟩ := maps_of (f := PyData.int) (p := fun _ => True) (acc := acc) fun i d hd => by
    obtain ⟨l, s, u, ch, _, e, _⟩ := h i d hd
    exact ⟨s, e, trivial⟩
  rw [List.length_map] at hl
  refine ⟨ws, rfl, hl, fun w hw' => ?_, fun l hl' s u ch hs => ?_⟩
  · obtain ⟨i, hi, e⟩ := List.mem_iff_getElem.mp hw'
    obtain ⟨l, s, u, ch, e1, e2, e3⟩ := h i (.int w) (by rw [List.getElem?_map, List.getElem?_eq_getElem hi, e]; rfl)
    cases e2
    exact ⟨l, List.mem_of_getElem? e1, u, ch, e3⟩
  · obtain ⟨i, hi, e⟩ := List.mem_iff_getElem.mp hl'
    have hi2 : i < ws.length := by omega
    obtain ⟨l2, s2, u2, ch2, e1, e2, e3⟩ := h i (.int ws[i]) (by rw [List.getElem?_map, List.getElem?_eq_getElem hi2]; rfl)
    rw [List.getElem?_eq_getElem hi] at e1
    cases e1
    cases e2
    rw [e] at e3
    rw [(hs.unique e3).1]
    exact List.getElem_mem _
theorem isAnd_first {g : Gr} {n : Int} : isAnd g n ↔ (g.first : Int) ≤ n := by
  have hff : (g.first : Int) = 1 + g.ins + g.regs.length := by unfold Gr.first; simp
  unfold isAnd; omega
theorem tru_ints (ws : List Int) : truD (.list (ws.map PyData.int)) = !ws.isEmpty := by cases ws <;> rfl
theorem SL.filter {p q : Int → Prop} [DecidablePred q] {ms : List Int} (h : SL p ms) : SL (fun n => p n ∧ q n) (ms.filter fun n => decide (q n)) :=
  ⟨h.so.filter _, h.nd.filter _, fun n => by rw [List.mem_filter, decide_eq_true_eq, h.mem]⟩
instance (g : Gr) : DecidablePred (isAnd g) := fun n => by unfold isAnd; exact inferInstance
theorem filter_succ {q : Int → Bool} {ms : List Int} {i : Nat} (h : i < ms.length) : (ms.take (i + 1)).filter q = if q ms[i] = true then (ms.take i).filter q ++ [ms[i]] else (ms.take i).filter q := by
  rw [List.take_succ, List.getElem?_eq_getElem h, List.filter_append]
  by_cases e : q ms[i] = true
  · rw [if_pos e]; simp [e]
  · rw [if_neg e]; simp [e]
/-! ### still registers -/
def Still (g : Gr) (n : Int) : Prop := isReg g n ∧ SrcR g (2 * n) n 0 []
def Cstill : Con := fun ds Q => ∃ g : Gr, ds = [g.toD] ∧ g.ok ∧ ∀ ms, SL (Still g) ms → ms.length ≤ 10 → Q (.nw (.list (ms.map PyData.int)))
theorem sh_src (s u : Int) (ch : List Int) : SH 2 (srcD s u ch) := .tuple (.cons ((SH.int _).mono (by decide)) (.cons ((SH.int _).mono (by decide)) (.cons (.tuple (.ints _)) .nil)))
theorem eqv_src (s u n : Int) (ch : List Int) : PyData.eqv (srcD s u ch) (srcD n 0 []) = decide (s = n ∧ u = 0 ∧ ch = []) := by
  unfold srcD
  cases ch with
  | nil =>
    by_cases h : s = n <;> by_cases h2 : u = 0 <;> simp [PyData.eqv, PyData.eqvAll, h, h2]
  | cons c ch => simp [PyData.eqv, PyData.eqvAll]
/-! ### edges, graphs that may be moved -/
def lastI (d : D) : Prop := ∃ (ns : List Int) (k : Int), d = .tuple (ns.map PyData.int ++ [.int k])
def Cedges : Con := fun ds Q => ∃ g : Gr, ds = [g.toD] ∧ g.ok ∧ g.many < 64 ∧ ∀ A B : List D, A.length ≤ 200 → B.length ≤ 200 → (∀ d ∈ A, lastI d) → (∀ d ∈ B, lastI d) → Q (.fz (.tuple [.list A, .list B]))
def Cgraph (o : Nat) : Con := fun ds Q => ∃ a b c : Int, ds = [.none, .int a, .int b, .int c] ∧ (0 ≤ a ∧ a ≤ 10) ∧ (0 ≤ b ∧ b ≤ 10) ∧ (0 ≤ c ∧ c ≤ 40) ∧ a + b + c ≤ 60 ∧ ∀ g : Gr, g.ok → g.ins ≤ a → g.regs.length ≤ b → g.ands.length ≤ c → g.outs.length ≤ o → Q (.fz g.toD)
/-- registers that are right -/
def RegsOk (n : Nat) (rs : List (Int × Int)) : Prop := ∀ p ∈ rs, bit p.1 ∧ inL p.2 n
theorem RegsOk.set {n : Nat} {rs : List (Int × Int)} (h : RegsOk n rs) {p : Int × Int} (hp : bit p.1 ∧ inL p.2 n) (k : Nat) : RegsOk n (rs.set k p) := fun x hx => by
  rcases List.mem_or_eq_of_mem_set hx with h1 | h1
  · exact h x h1
  · rw [h1]; exact hp
theorem xor01 {l t : Int} {n : Nat} (h : inL l n) (h0 : 0 ≤ t) (h1 : t < 2) : inL (Builtin.bitXor l t) n := by
  rcases (by omega : t = 0 ∨ t = 1) with rfl | rfl
  · rw [PyProof.Rows.bitXor_zero]; exact h
  · exact xor1 h
theorem bit_inL {b : Int} {n : Nat} (h : bit b) (hn : 1 ≤ n) : inL b n := by unfold bit at h; unfold inL; omega
theorem setP (rs : List (Int × Int)) (k : Nat) (p : Int × Int) : (rs.set k p).map pD = (rs.map pD).set k (pD p) := List.map_set
theorem SL.snoc {p p' : Int → Prop} {ms : List Int} {n : Int} (h : SL p ms) (hlt : ∀ x, p x → x < n) (hp : ∀ x, p' x ↔ p x ∨ x = n) : SL p' (ms ++ [n]) := by
  refine ⟨List.pairwise_append.mpr ⟨h.so, List.pairwise_cons.mpr ⟨(fun _ h => nomatch h), List.Pairwise.nil⟩, fun a ha b hb => ?_⟩, List.nodup_append.mpr ⟨h.nd, List.nodup_cons.mpr ⟨List.not_mem_nil, List.nodup_nil⟩, fun a ha b hb e => ?_⟩, fun x => ?_⟩
  · rw [List.mem_singleton.mp hb]
    exact Int.le_of_lt (hlt a ((h.mem a).mp ha))
  · have := hlt a ((h.mem a).mp ha)
    rw [e, List.mem_singleton.mp hb] at this
    omega
  · rw [List.mem_append, List.mem_singleton, h.mem, hp]
theorem SL.congr {p p' : Int → Prop} {ms : List Int} (h : SL p ms) (hp : ∀ x, p' x ↔ p x) : SL p' ms := ⟨h.so, h.nd, fun x => (h.mem x).trans (hp x).symm⟩
def StillTo (g : Gr) (i : Nat) (n : Int) : Prop := ((g.ins : Int) < n ∧ n ≤ g.ins + i) ∧ SrcR g (2 * n) n 0 []
theorem stillTo_all {g : Gr} {ms : List Int} (h : SL (StillTo g g.regs.length) ms) : SL (Still g) ms := h.congr fun x => Iff.rfl
theorem stillTo_step {g : Gr} {i : Nat} {ms : List Int} {s u : Int} {ch : List Int} (h : SL (StillTo g i) ms) (hs : SrcR g (2 * ((g.ins : Int) + 1 + i)) s u ch) :
    SL (StillTo g (i + 1)) (if decide (s = (g.ins : Int) + 1 + i ∧ u = 0 ∧ ch = []) = true then ms ++ [(g.ins : Int) + 1 + i] else ms) := by
  by_cases e : s = (g.ins : Int) + 1 + i ∧ u = 0 ∧ ch = []
  · rw [if_pos (decide_eq_true e)]
    obtain ⟨e1, rfl, rfl⟩ := e
    refine h.snoc (fun x hx => by have := hx.1; omega) fun x => ⟨fun hx => ?_, fun hx => ?_⟩
    · by_cases hxe : x = (g.ins : Int) + 1 + i
      · exact .inr hxe
      · exact .inl ⟨by have := hx.1; omega, hx.2⟩
    · rcases hx with hx | rfl
      · exact ⟨by have := hx.1; omega, hx.2⟩
      · exact ⟨by omega, e1 ▸ hs⟩
  · rw [if_neg (by simpa using e)]
    refine h.congr fun x => ⟨fun hx => ?_, fun hx => ⟨by have := hx.1; omega, hx.2⟩⟩
    by_cases hxe : x = (g.ins : Int) + 1 + i
    · subst hxe
      have := hx.2.unique hs
      exact absurd ⟨this.1.symm, this.2.1.symm, this.2.2.symm⟩ e
    · exact ⟨by have := hx.1; omega, hx.2⟩
theorem still_tst (s u n : Int) (ch : List Int) : (false != PyData.eqv (srcD s u ch) (.tuple [.int n, .int 0, .tuple []])) = decide (s = n ∧ u = 0 ∧ ch = []) := by
  have := eqv_src s u n ch
  unfold srcD at this
  rw [show (PyData.tuple [.int n, .int 0, .tuple []]) = PyData.tuple [.int n, .int 0, .tuple (([] : List Int).map PyData.int)] from rfl]
  unfold srcD
  rw [this]
  cases decide (s = n ∧ u = 0 ∧ ch = []) <;> rfl
theorem stillTo_zero (g : Gr) : SL (StillTo g 0) [] := ⟨List.Pairwise.nil, List.nodup_nil, fun x => ⟨(fun h => nomatch h), fun h => by have := h.1; omega⟩⟩
/-- one graph or another, the rest alike -/
theorem useB_gr {b : Bool} {A : Prop} {C : Gr → Prop} (P : Gr → Prop) (g0 : Gr) (h0 : P g0) (h1 : (∀ g, P g → C g) → A) (hC : ∀ g, P g → C g) : useB b A (C g0) := useB_b (fun _ => h1 hC) (fun _ => hC g0 h0)
theorem lastI.sh {d : D} (h : lastI d) : SH 1 d := by
  obtain ⟨ns, k, rfl⟩ := h
  have e : ns.map PyData.int ++ [.int k] = (ns ++ [k]).map PyData.int := by simp
  rw [e]
  exact .tuple (.ints _)
theorem useB_lpd {p : Prop} [Decidable p] {A : Prop} {dg : DG} {db : DS} {DD : DEnds} {ρ : Rho} {c : Int} (hc : 0 ≤ c) (h : p → (∀ n : Int, 0 ≤ n → n ≤ c → dLoop dg db DD (rngD 0 n.toNat) ρ) → A) (loop : ∀ n : Int, 0 ≤ n → n ≤ c → (0 < n → p) → dLoop dg db DD (rngD 0 n.toNat) ρ) :
    useB (decide p) A ((-(2 ^ 62) ≤ (0 : Int) ∧ (0 : Int) < 2 ^ 62) ∧ dLoop dg db DD (rngD 0 (0 : Int).toNat) ρ) := useB_d (fun hp => h hp fun n n1 n2 => loop n n1 n2 fun _ => hp) (fun _ => ⟨⟨by decide, by decide⟩, loop 0 (Int.le_refl _) hc fun z => absurd z (Int.lt_irrefl _)⟩)
theorem bit_fmod (x : Int) : bit (x.fmod 2) := by
  have h1 := Int.fmod_nonneg_of_pos x (by decide : (0 : Int) < 2)
  have h2 := Int.fmod_lt_of_pos x (by decide : (0 : Int) < 2)
  unfold bit
  omega
theorem tn_bit (g : Gr) (n : Int) {u : Int} (h : bit u) : ∀ t, bit (tn g n u t)
  | 0 => h
  | _ + 1 => bit_fmod _
theorem small_of {n : Int} (h1 : 0 ≤ n) (h2 : n < 1000000) : small n := by unfold small; omega
theorem inR_small {n : Int} {m : Nat} (h : inR n m) (hm : m ≤ 1000) : small n := small_of h.1 (by have := h.2; omega)
theorem SrcR.bnd {g : Gr} (hg : g.ok) {l s u : Int} {ch : List Int} (h : SrcR g l s u ch) (hl : inL l g.many) : inR s g.many ∧ bit u ∧ ch.length ≤ 10 ∧ ∀ c ∈ ch, isReg g c := by
  obtain ⟨t, P, e⟩ := h.ex
  have hn := inL_node hl
  have hb := bit_fmod l
  have hle := P.le
  have hr := hg.rl
  rcases e with ⟨_, rfl, rfl, rfl⟩ | ⟨p, hp, _, rfl, rfl, rfl⟩
  · refine ⟨nd_ok hg hn P, tn_bit g _ hb t, by simp; omega, fun c hc => ?_⟩
    obtain ⟨q, hq, rfl⟩ := mem_range_map hc
    exact P.reg q hq
  · refine ⟨nd_ok hg hn P, tn_bit g _ hb p, by simp; omega, fun c hc => ?_⟩
    obtain ⟨q, hq, rfl⟩ := mem_range_map hc
    exact P.reg q (Nat.lt_trans hq hp)
theorem Gr.many_le {g : Gr} (hg : g.ok) : g.many ≤ 321 := by have := hg.ins; have := hg.rl; have := hg.al; unfold Gr.many Gr.first; omega
theorem SrcR.rb {g : Gr} (hg : g.ok) {l s u : Int} {ch : List Int} (h : SrcR g l s u ch) (hl : inL l g.many) : RB 2000 3 (srcD s u ch) := by
  obtain ⟨h1, h2, h3, h4⟩ := h.bnd hg hl
  have hm := Gr.many_le hg
  refine (RB.tuple (.cons (w := 65) (n := 2) ((RB.int (inR_small h1 (by omega))).mono (Nat.le_refl _) (by decide)) (.cons (w := 65) (n := 2) ((RB.int h2.small).mono (Nat.le_refl _) (by decide)) (.one (w := 660) (n := 2) (.tuple (RBs.ints (k := 10) (fun c hc => ?_) h3)))))).mono (by decide) (by decide)
  have := h4 c hc
  unfold isReg at this
  have := hg.ins
  have := hg.rl
  exact small_of (by omega) (by omega)
theorem SrcR.okR {g : Gr} (hg : g.ok) {l s u : Int} {ch : List Int} (h : SrcR g l s u ch) (hl : inL l g.many) : reprOkP (srcD s u ch) := (h.rb hg hl).ok (by decide) (by decide)
theorem SL.rb {g : Gr} (hg : g.ok) {p : Int → Prop} {ms : List Int} (h : SL p ms) (hp : ∀ n, p n → inR n g.many) : RB 22000 2 (.list (ms.map PyData.int)) := by
  have hm := Gr.many_le hg
  refine (RB.list (RBs.ints (k := 321) (fun c hc => inR_small (hp c ((h.mem c).mp hc)) (by omega)) ?_)).mono (by decide) (by decide)
  have := ndp_le h.nd (m := g.many) fun n hn => hp n ((h.mem n).mp hn)
  omega
/-! ### the ring told by hand -/
def ring : Gr := ⟨1, [(0, 6), (1, 5), (1, 4), (0, 9)], [], [8, 3]⟩
theorem ring_ok : ring.ok := by
  refine ⟨by decide, by decide, by decide, by decide, ?_, fun k hk => absurd hk (Nat.not_lt_zero _), ?_⟩
  · intro p hp
    simp only [ring, List.mem_cons, List.mem_nil_iff, or_false] at hp
    rcases hp with rfl | rfl | rfl | rfl <;> exact ⟨by unfold bit; omega, by unfold inL; decide⟩
  · intro l hl
    simp only [ring, List.mem_cons, List.mem_nil_iff, or_false] at hl
    rcases hl with rfl | rfl <;> (unfold inL; decide)
theorem pre_by {g : Gr} {n : Int} (t : Nat) (h1 : ∀ i, i < t → isReg g (nd g n i)) (h2 : ∀ j, j < t → ∀ i, i < j → nd g n i ≠ nd g n j) : Pre g n t := ⟨h1, fun i j hij hj => h2 j hj i hij⟩
theorem ring8 : SrcR ring 8 2 0 [4] := ⟨3, pre_by 3 (by decide +kernel) (by decide +kernel), .inr ⟨1, by decide, by decide +kernel, by decide +kernel, by decide +kernel, by decide +kernel⟩⟩
theorem ring9 : SrcR ring 9 2 1 [4] := ⟨3, pre_by 3 (by decide +kernel) (by decide +kernel), .inr ⟨1, by decide, by decide +kernel, by decide +kernel, by decide +kernel, by decide +kernel⟩⟩
theorem ring10 : SrcR ring 10 2 1 [5, 4] := ⟨4, pre_by 4 (by decide +kernel) (by decide +kernel), .inr ⟨2, by decide, by decide +kernel, by decide +kernel, by decide +kernel, by decide +kernel⟩⟩
theorem ring4 : SrcR ring 4 2 0 [] := ⟨2, pre_by 2 (by decide +kernel) (by decide +kernel), .inr ⟨0, by decide, by decide +kernel, by decide +kernel, by decide +kernel, by decide +kernel⟩⟩
theorem ring6 : SrcR ring 6 3 0 [] := ⟨2, pre_by 2 (by decide +kernel) (by decide +kernel), .inr ⟨0, by decide, by decide +kernel, by decide +kernel, by decide +kernel, by decide +kernel⟩⟩
theorem ring3 : SrcR ring 3 1 1 [] := ⟨0, .nil, .inl ⟨by decide +kernel, by decide +kernel, by decide +kernel, by decide +kernel⟩⟩
theorem ring_still : SL (Still ring) [2, 3] := by
  refine ⟨by decide, by decide, fun x => ⟨fun h => ?_, fun h => ?_⟩⟩
  · simp only [List.mem_cons, List.mem_nil_iff, or_false] at h
    rcases h with rfl | rfl
    · exact ⟨by decide +kernel, ring4⟩
    · exact ⟨by decide +kernel, ring6⟩
  · obtain ⟨h1, h2⟩ := h
    have h3 : (1 : Int) < x ∧ x ≤ 1 + 4 := h1
    have h4 : x = 2 ∨ x = 3 ∨ x = 4 ∨ x = 5 := by omega
    rcases h4 with rfl | rfl | rfl | rfl
    · simp
    · simp
    · exact absurd (h2.unique ring8).1 (by decide)
    · exact absurd (h2.unique ring10).1 (by decide)
def rgF : D → D
  | .int l => if l = 8 then srcD 2 0 [4] else if l = 9 then srcD 2 1 [4] else if l = 10 then srcD 2 1 [5, 4] else if l = 4 then srcD 2 0 [] else srcD 1 1 []
  | _ => .none
def rgL : List D := [.int 8, .int 9, .int 10, .int 4, .int 3]
theorem ring_rp : reprOkP (.list (rgL.map rgF)) := reprOk_of (by decide +kernel) (.inl (by decide +kernel)) (by decide +kernel) (by decide +kernel) (by decide +kernel)
end DL

set_option Elab.async false
set_option linter.all false
set_option maxRecDepth 100000
set_option maxHeartbeats 4000000
set_option autoImplicit false
set_option pp.maxSteps 1000
namespace K41
open PySem L2 DL
def topS (i : Nat) : Stmt := PySem.Challenge.pw_bitloom_k41_whole_sources.main.body.getD i (.Pass ⟨0, 0, 0, 0⟩)
structure Txt (mg : Str → Option Value) : Prop where
  abs : mg "abs" = none
  int : mg "int" = none
  len : mg "len" = none
  list : mg "list" = none
  max : mg "max" = none
  min : mg "min" = none
  range : mg "range" = none
  repr : mg "repr" = none
  sorted : mg "sorted" = none
  tuple : mg "tuple" = none
section
variable {P : Program} {w : World} {K : PySem.W.Frag} {mg : Str → Option Value} {base : Heap}
abbrev s_is_register : Stmt := topS 1
abbrev n_is_register : List Str := ["graph", "node"]
theorem sc_is_register : FnScope n_is_register ["graph", "node"] (C8.fnScope s_is_register) := C8.fnScope_by (by decide +kernel)
theorem ok_is_register {a : Addr} {fd : FuncData} (F : C8.Def K mg "is_register" s_is_register a fd) (b : Binds K fd ["graph", "node"] []) (T : Txt mg) : CalG P w K mg base (1) "is_register" (spD K [.bo, .bo] (Cisreg)) := by
  refine calG F b sc_is_register rfl (fun cdv A outer s H E hA hr => ?_)
  have hu := huOf hr
  have hu64 := hr.units
  refine ⟨_, _, (pss_one (ps_ret (pe_chain op_lt op_le (pe_ix (k_ix (K := K) rfl) (pv 0) pe_int (fun _ _ => rfl)) (pv 1) (pe_op (k_add (K := K) rfl) (pe_ix (k_ix (K := K) rfl) (pv 0) pe_int (fun _ _ => rfl)) (pe_callB (k_lenA (K := K) rfl) (by rfl) T.len (by decide +kernel) (pa_cons (pe_ix (k_ix (K := K) rfl) (pv 0) pe_int (fun _ _ => rfl)) pa_nil)))))),
   (ls_ret (le_chain (le_op le_var le_int ol_ix) le_var (le_op (le_op le_var le_int ol_ix) (le_cb (la_cons (le_op le_var le_int ol_ix) la_nil) cl_lenA) ol_add) ol_lt ol_le)), ?_⟩
  intro ds Qc h
  obtain ⟨g, n, rfl, hq⟩ := h
  refine ⟨trivial, _, rfl, useB_d (fun h1 => ⟨trivial, _, rfl, trivial, _, rfl, ?_⟩) (fun h1 => ?_)⟩
  · show Qc (.fz (.bool (decide (n ≤ (g.ins : Int) + ((g.regs.map pD).length : Nat)))))
    have e : decide (n ≤ (g.ins : Int) + ((g.regs.map pD).length : Nat)) = decide (isReg g n) := by
      rw [List.length_map]
      apply decide_eq_decide.mpr
      unfold isReg
      exact ⟨fun h => ⟨h1, h⟩, fun h => h.2⟩
    rw [e]
    exact hq
  · show Qc (.fz (.bool false))
    have e : decide (isReg g n) = false := decide_eq_false fun h => h1 h.1
    rw [e] at hq
    exact hq
abbrev s_is_and : Stmt := topS 2
abbrev n_is_and : List Str := ["graph", "node"]
theorem sc_is_and : FnScope n_is_and ["graph", "node"] (C8.fnScope s_is_and) := C8.fnScope_by (by decide +kernel)
theorem ok_is_and {a : Addr} {fd : FuncData} (F : C8.Def K mg "is_and" s_is_and a fd) (b : Binds K fd ["graph", "node"] []) (T : Txt mg) : CalG P w K mg base (1) "is_and" (spD K [.bo, .bo] (Cisand)) := by
  refine calG F b sc_is_and rfl (fun cdv A outer s H E hA hr => ?_)
  have hu := huOf hr
  have hu64 := hr.units
  refine ⟨_, _, (pss_one (ps_ret (pe_cmpR op_gt (pv 1) (pe_op (k_add (K := K) rfl) (pe_ix (k_ix (K := K) rfl) (pv 0) pe_int (fun _ _ => rfl)) (pe_callB (k_lenA (K := K) rfl) (by rfl) T.len (by decide +kernel) (pa_cons (pe_ix (k_ix (K := K) rfl) (pv 0) pe_int (fun _ _ => rfl)) pa_nil))) (nomark _)))),
   (ls_ret (le_op le_var (le_op (le_op le_var le_int ol_ix) (le_cb (la_cons (le_op le_var le_int ol_ix) la_nil) cl_lenA) ol_add) ol_gt)), ?_⟩
  intro ds Qc h
  obtain ⟨g, n, rfl, hq⟩ := h
  refine ⟨trivial, _, rfl, trivial, _, rfl, ?_⟩
  show Qc (.fz (.bool (decide ((g.ins : Int) + ((g.regs.map pD).length : Nat) < n))))
  rw [List.length_map]
  exact hq
abbrev s_taken : Stmt := topS 3
abbrev n_taken : List Str := ["graph", "node"]
theorem sc_taken : FnScope n_taken ["graph", "node"] (C8.fnScope s_taken) := C8.fnScope_by (by decide +kernel)
theorem ok_taken {a : Addr} {fd : FuncData} (F : C8.Def K mg "taken" s_taken a fd) (b : Binds K fd ["graph", "node"] []) (T : Txt mg) : CalG P w K mg base (1) "taken" (spD K [.bo, .bo] (Ctaken)) := by
  refine calG F b sc_taken rfl (fun cdv A outer s H E hA hr => ?_)
  have hu := huOf hr
  have hu64 := hr.units
  refine ⟨_, _, (pss_one (ps_ret (pe_ix (k_ix (K := K) rfl) (pe_ix (k_ix (K := K) rfl) (pe_ix (k_ix (K := K) rfl) (pv 0) pe_int (fun _ _ => rfl)) (pe_op op_sub (pe_op op_sub (pv 1) (pe_ix (k_ix (K := K) rfl) (pv 0) pe_int (fun _ _ => rfl))) pe_int) (fun _ _ => rfl)) pe_int (fun _ _ => rfl)))),
   (ls_ret (le_op (le_op (le_op le_var le_int ol_ix) (le_op (le_op le_var (le_op le_var le_int ol_ix) ol_sub) le_int ol_sub) ol_ix) le_int ol_ix)), ?_⟩
  intro ds Qc h
  obtain ⟨g, n, rfl, hr, hq⟩ := h
  have hr' := hr
  unfold isReg at hr'
  refine ⟨trivial, _, rfl, trivial, _, rfl, trivial, _, atI_pD (by omega) (by omega), trivial, _, rfl, hq⟩
abbrev s_law_taken : Stmt := topS 16
abbrev n_law_taken : List Str := ["_law_graph", "_law_node"]
theorem sc_law_taken : FnScope n_law_taken ["_law_graph", "_law_node"] (C8.fnScope s_law_taken) := C8.fnScope_by (by decide +kernel)
theorem ok_law_taken {a : Addr} {fd : FuncData} (F : C8.Def K mg "_law_taken" s_law_taken a fd) (b : Binds K fd ["_law_graph", "_law_node"] []) (T : Txt mg) : CalG P w K mg base (1) "_law_taken" (spD K [.bo, .bo] (Ctaken)) := by
  refine calG F b sc_law_taken rfl (fun cdv A outer s H E hA hr => ?_)
  have hu := huOf hr
  have hu64 := hr.units
  refine ⟨_, _, (pss_one (ps_ret (pe_ix (k_ix (K := K) rfl) (pe_ix (k_ix (K := K) rfl) (pe_ix (k_ix (K := K) rfl) (pv 0) pe_int (fun _ _ => rfl)) (pe_op op_sub (pe_op op_sub (pv 1) (pe_ix (k_ix (K := K) rfl) (pv 0) pe_int (fun _ _ => rfl))) pe_int) (fun _ _ => rfl)) pe_int (fun _ _ => rfl)))),
   (ls_ret (le_op (le_op (le_op le_var le_int ol_ix) (le_op (le_op le_var (le_op le_var le_int ol_ix) ol_sub) le_int ol_sub) ol_ix) le_int ol_ix)), ?_⟩
  intro ds Qc h
  obtain ⟨g, n, rfl, hr, hq⟩ := h
  have hr' := hr
  unfold isReg at hr'
  refine ⟨trivial, _, rfl, trivial, _, rfl, trivial, _, atI_pD (by omega) (by omega), trivial, _, rfl, hq⟩
abbrev s_pair_of : Stmt := topS 4
abbrev n_pair_of : List Str := ["graph", "node"]
theorem sc_pair_of : FnScope n_pair_of ["graph", "node"] (C8.fnScope s_pair_of) := C8.fnScope_by (by decide +kernel)
theorem ok_pair_of {a : Addr} {fd : FuncData} (F : C8.Def K mg "pair_of" s_pair_of a fd) (b : Binds K fd ["graph", "node"] []) (T : Txt mg) : CalG P w K mg base (1) "pair_of" (spD K [.bo, .sh] (Cpair)) := by
  refine calG F b sc_pair_of rfl (fun cdv A outer s H E hA hr => ?_)
  have hu := huOf hr
  have hu64 := hr.units
  refine ⟨_, _, (pss_one (ps_ret (pe_ix (k_ix (K := K) rfl) (pe_ix (k_ix (K := K) rfl) (pv 0) pe_int (fun _ _ => rfl)) (pe_op op_sub (pe_op op_sub (pe_op op_sub (pv 1) (pe_ix (k_ix (K := K) rfl) (pv 0) pe_int (fun _ _ => rfl))) (pe_callB (k_lenA (K := K) rfl) (by rfl) T.len (by decide +kernel) (pa_cons (pe_ix (k_ix (K := K) rfl) (pv 0) pe_int (fun _ _ => rfl)) pa_nil))) pe_int) (fun _ _ => rfl)))),
   (ls_ret (le_op (le_op le_var le_int ol_ix) (le_op (le_op (le_op le_var (le_op le_var le_int ol_ix) ol_sub) (le_cb (la_cons (le_op le_var le_int ol_ix) la_nil) cl_lenA) ol_sub) le_int ol_sub) ol_ix)), ?_⟩
  intro ds Qc h
  obtain ⟨g, n, rfl, h1, h2, hq⟩ := h
  unfold Gr.many at h2
  unfold Gr.first at h1 h2
  have e : (n - g.ins - ((g.regs.map pD).length : Nat) - 1) = n - g.ins - g.regs.length - 1 := by rw [List.length_map]
  refine ⟨trivial, _, rfl, trivial, _, rfl, trivial, _, rfl, trivial, _, ?_, hq⟩
  show atI (g.ands.map pD) (n - g.ins - ((g.regs.map pD).length : Nat) - 1) = _
  rw [e]
  exact atI_pD (by omega) (by omega)
abbrev s_source_of : Stmt := topS 5
abbrev n_source_of : List Str := ["graph", "literal", "chain", "turned", "node", "turns", "place"]
theorem sc_source_of : FnScope n_source_of ["graph", "literal"] (C8.fnScope s_source_of) := C8.fnScope_by (by decide +kernel)
theorem ok_source_of {a : Addr} {fd : FuncData} (F : C8.Def K mg "source_of" s_source_of a fd) (b : Binds K fd ["graph", "literal"] []) (T : Txt mg) (c_is_register : CalG P w K mg base 1 "is_register" (spD K [.bo, .bo] (Cisreg))) (c_taken : CalG P w K mg base 1 "taken" (spD K [.bo, .bo] (Ctaken))) : CalG P w K mg base (2) "source_of" (spD K [.bo, .bo] (Csrc)) := by
  refine calG F b sc_source_of rfl (fun cdv A outer s H E hA hr => ?_)
  have hu := huOf hr
  have hu64 := hr.units
  refine ⟨_, _, (pss_cons (ps_asg (pe_tup (pa_cons (pe_lst pa_nil) (pa_cons (pe_lst pa_nil) (pa_cons (pe_op op_fdivL (pv 1) pe_int) (pa_cons (pe_op op_modN (pv 1) pe_int) pa_nil))))) (k_gtup (n := 4) (K := K) rfl (by rfl) (pgs_cons (pg_name (i := 2) sc_source_of.nd rfl (by first | exact Or.inl rfl | exact Or.inr rfl)) (pgs_cons (pg_name (i := 3) sc_source_of.nd rfl (by first | exact Or.inl rfl | exact Or.inr rfl)) (pgs_cons (pg_name (i := 4) sc_source_of.nd rfl (by first | exact Or.inl rfl | exact Or.inr rfl)) (pgs_cons (pg_name (i := 5) sc_source_of.nd rfl (by first | exact Or.inl rfl | exact Or.inr rfl)) pgs_nil))))))
      (pss_cons (ps_while PassesOwn.never (PW.pt (pw_and (pt_truth (pe_cG c_is_register hA hr (by first | decide | omega) rfl (pa_cons (pv 0) (pa_cons (pv 4) pa_nil))) (by intro _; rfl)) (pw_and1 (pt_cmpR (k_nin (K := K) rfl) (pv 4) (pv 2) (by with_unfolding_all rfl)))))
      (pss_cons (ps_expr (pe_bm PySem.F.plainAttrs_list PySem.F.slot_list_append PySem.F.type_list_append mt_append (pv 2) (pa_cons (pv 4) pa_nil)))
      (pss_cons (ps_expr (pe_bm PySem.F.plainAttrs_list PySem.F.slot_list_append PySem.F.type_list_append mt_append (pv 3) (pa_cons (pv 5) pa_nil)))
      (pss_cons (ps_asg (pe_op op_modN (pe_op (k_add (K := K) rfl) (pv 5) (pe_cG c_taken hA hr (by first | decide | omega) rfl (pa_cons (pv 0) (pa_cons (pv 4) pa_nil)))) pe_int) (pg_name (i := 5) sc_source_of.nd rfl (by first | exact Or.inl rfl | exact Or.inr rfl)))
      (pss_one (ps_asg (pe_op op_fdivL (pe_cG c_taken hA hr (by first | decide | omega) rfl (pa_cons (pv 0) (pa_cons (pv 4) pa_nil))) pe_int) (pg_name (i := 4) sc_source_of.nd rfl (by first | exact Or.inl rfl | exact Or.inr rfl))))))))
      (pss_cons (ps_if (pt_cmpR (k_nin (K := K) rfl) (pv 4) (pv 2) (by with_unfolding_all rfl)) (pss_one (ps_ret (pe_tup (pa_cons (pv 4) (pa_cons (pv 5) (pa_cons (pe_callTy (k_tupleA (K := K) rfl rfl) (by rfl) T.tuple (by decide +kernel) (pa_cons (pv 2) pa_nil)) pa_nil)))))) pss_nil)
      (pss_cons (ps_asg (k_bm (K := K) rfl PySem.F.plainAttrs_list PySem.F.slot_list_index PySem.F.type_list_index mt_index (pv 2) (pa_cons (pv 4) pa_nil)) (pg_name (i := 6) sc_source_of.nd rfl (by first | exact Or.inl rfl | exact Or.inr rfl)))
      (pss_one (ps_ret (pe_tup (pa_cons (pv 4) (pa_cons (pe_ix (k_ix (K := K) rfl) (pv 3) (pv 6) (fun _ _ => rfl)) (pa_cons (pe_callTy (k_tupleA (K := K) rfl rfl) (by rfl) T.tuple (by decide +kernel) (pa_cons (pe_slice (k_sl (K := K) rfl) (pv 2) po_none (po_some (pv 6))) pa_nil)) pa_nil)))))))))),
   (ls_seq (ls_par4T (i := 2) (j := 3) (l := 4) (m := 5) (le_lst la_nil) (le_lst la_nil) (le_op le_var le_int ol_fdv) (le_op le_var le_int ol_mod))
      (ls_seq (ls_while (lt_and (lt_truth (le_call (la_cons le_var (la_cons le_var la_nil)))) (lt_test (le_op le_var le_var ol_nin)))
      (ls_seq (ls_app le_var)
      (ls_seq (ls_app le_var)
      (ls_seq (ls_asg (le_op (le_op le_var (le_call (la_cons le_var (la_cons le_var la_nil))) ol_add) le_int ol_mod) lg_name)
      (ls_asg (le_op (le_call (la_cons le_var (la_cons le_var la_nil))) le_int ol_fdv) lg_name)))))
      (ls_seq (ls_if (lt_test (le_op le_var le_var ol_nin)) (ls_ret (le_tup (la_cons le_var (la_cons le_var (la_cons (le_cb (la_cons le_var la_nil) cl_tupleA) la_nil))))) ls_next)
      (ls_seq (ls_asg (le_index le_var le_var) lg_name)
      (ls_ret (le_tup (la_cons le_var (la_cons (le_op le_var le_var ol_ix) (la_cons (le_cb (la_cons (le_sl le_var lo_none (lo_some le_var)) la_nil) cl_tupleA) la_nil))))))))), ?_⟩
  intro ds Qc h
  obtain ⟨g, l, rfl, hg, hl, hq⟩ := h
  have hrl := hg.rl
  refine ⟨Nat.le_of_ble_eq_true rfl, Nat.le_of_ble_eq_true rfl, ⟨(by intro z; cases z), Nat.le_of_ble_eq_true rfl⟩, (by intro z; cases z), fun m ρ => ∃ t ds es, ds = ndL g (l.fdiv 2) t ∧ es = tnL g (l.fdiv 2) (l.fmod 2) t ∧ m = g.regs.length + 1 - t ∧ Pre g (l.fdiv 2) t ∧ ρ = [some (.bo g.toD), some (.bo (.int l)), some (.ow (.list ds)), some (.ow (.list es)), some (.sh (.int (nd g (l.fdiv 2) t))), some (.sh (.int (tn g (l.fdiv 2) (l.fmod 2) t))), none], ⟨_, 0, _, _, rfl, rfl, rfl, Pre.nil, rfl⟩, ?_⟩
  rintro m ρ ⟨t, _, _, rfl, rfl, rfl, hP, rfl⟩
  have htl := hP.le
  generalize hNN : l.fdiv 2 = N at *
  generalize hUU : l.fmod 2 = U at *
  have hfl : (ndL g N t).all flatP = true := flat_ints _
  refine ⟨g, nd g N t, rfl, ⟨trivial, trivial⟩, useB_d (fun hr => ⟨⟨rfl, hfl⟩, useB_b (fun h => ?_) (fun h => ?exit)⟩) (fun hr => useB_n rfl ?exit2)⟩
  · have hni : nd g N t ∉ (List.range t).map (nd g N) := of_decide_eq_true ((nin_dec _ _).symm.trans h)
    have hS := hP.succ hr hni
    have hSl := hS.le
    refine ⟨by rw [ndL_len, sizeLine_eq]; omega, by rw [tnL_len, sizeLine_eq]; omega, g, _, rfl, hr, (by intro z; cases z), g, _, rfl, hr, ⟨(by intro z; cases z), Nat.le_of_ble_eq_true rfl⟩, _, ?_, t + 1, _, _, (ndL_succ g N t).symm, (tnL_succ g N U t).symm, rfl, hS, rfl⟩
    omega
  case exit =>
    have hin : nd g N t ∈ (List.range t).map (nd g N) := Decidable.byContradiction fun z => absurd ((nin_dec _ _).symm.trans h) (by rw [decide_eq_true z]; intro z; cases z)
    obtain ⟨p, hp, hpe⟩ := mem_range_map hin
    refine ⟨⟨rfl, hfl⟩, useB_n h ⟨rfl, hfl, p, _, ndL_at g N hp, by rw [hpe, eqv_int]; simp, fun m z' hm hz => ?_, trivial, _, atI_get (tnL_at g N U hp), Nat.le_of_ble_eq_true rfl, ?_⟩⟩
    · rw [ndL_at g N (Nat.lt_trans hm hp)] at hz
      cases hz
      rw [eqv_int, ← hpe]
      exact decide_eq_false (hP.inj m p hm hp)
    · show Qc (.fz (.tuple [.int (nd g N t), .int (tn g N U p), .tuple (cutD (ndL g N t) none (some (p : Int)))]))
      rw [ndL_cut g N (Nat.le_of_lt hp)]
      exact hq _ _ _ ⟨t, by rw [hNN]; exact hP, .inr ⟨p, hp, by rw [hNN]; exact hpe, by rw [hNN], by rw [hNN, hUU], by rw [hNN]⟩⟩
  case exit2 =>
    have hni : nd g N t ∉ (List.range t).map (nd g N) := fun z => by
      obtain ⟨p, hp, e⟩ := mem_range_map z
      exact hr (e ▸ hP.reg p hp)
    refine ⟨⟨rfl, hfl⟩, useB_y ((nin_dec _ _).trans (decide_eq_true hni)) ⟨Nat.le_of_ble_eq_true rfl, ?_⟩⟩
    exact hq _ _ _ ⟨t, by rw [hNN]; exact hP, .inl ⟨by rw [hNN]; exact hr, by rw [hNN], by rw [hNN, hUU], by rw [hNN]⟩⟩
abbrev s_law_origin : Stmt := topS 17
abbrev n_law_origin : List Str := ["_law_graph", "_law_literal", "_law_nodes", "_law_turns", "_law_lap", "_law_late", "_law_again", "_law_k"]
theorem sc_law_origin : FnScope n_law_origin ["_law_graph", "_law_literal"] (C8.fnScope s_law_origin) := C8.fnScope_by (by decide +kernel)
theorem ok_law_origin {a : Addr} {fd : FuncData} (F : C8.Def K mg "_law_origin" s_law_origin a fd) (b : Binds K fd ["_law_graph", "_law_literal"] []) (T : Txt mg) (c_law_taken : CalG P w K mg base 1 "_law_taken" (spD K [.bo, .bo] (Ctaken))) : CalG P w K mg base (2) "_law_origin" (spD K [.bo, .bo] (Csrc)) := by
  refine calG F b sc_law_origin rfl (fun cdv A outer s H E hA hr => ?_)
  have hu := huOf hr
  have hu64 := hr.units
  refine ⟨_, _, (pss_cons (ps_asg (pe_tup (pa_cons (pe_lst (pa_cons (pe_op op_fdivL (pv 1) pe_int) pa_nil)) (pa_cons (pe_lst (pa_cons (pe_op op_modN (pe_callTy call_int1 (by rfl) T.int (by decide +kernel) (pa_cons (pv 1) pa_nil)) pe_int) pa_nil)) pa_nil))) (k_gtup (n := 2) (K := K) rfl (by rfl) (pgs_cons (pg_name (i := 2) sc_law_origin.nd rfl (by first | exact Or.inl rfl | exact Or.inr rfl)) (pgs_cons (pg_name (i := 3) sc_law_origin.nd rfl (by first | exact Or.inl rfl | exact Or.inr rfl)) pgs_nil))))
      (pss_cons (ps_for PassesOwn.never rfl (pi_range1 (by rfl) T.range (pa_cons (pe_op (k_add (K := K) rfl) (pe_callB (k_lenA (K := K) rfl) (by rfl) T.len (by decide +kernel) (pa_cons (pe_ix (k_ix (K := K) rfl) (pv 0) pe_int (fun _ _ => rfl)) pa_nil)) pe_int) pa_nil)) (pg_name (i := 4) sc_law_origin.nd rfl (by first | exact Or.inl rfl | exact Or.inr rfl))
      (pss_one (ps_if (pt_chain op_lt op_le (pe_ix (k_ix (K := K) rfl) (pv 0) pe_int (fun _ _ => rfl)) (pe_ix (k_ix (K := K) rfl) (pv 2) (pe_un un_neg pe_int) (fun _ _ => rfl)) (pe_op (k_add (K := K) rfl) (pe_ix (k_ix (K := K) rfl) (pv 0) pe_int (fun _ _ => rfl)) (pe_callB (k_lenA (K := K) rfl) (by rfl) T.len (by decide +kernel) (pa_cons (pe_ix (k_ix (K := K) rfl) (pv 0) pe_int (fun _ _ => rfl)) pa_nil)))) (pss_cons (ps_asg (pe_cG c_law_taken hA hr (by first | decide | omega) rfl (pa_cons (pv 0) (pa_cons (pe_ix (k_ix (K := K) rfl) (pv 2) (pe_un un_neg pe_int) (fun _ _ => rfl)) pa_nil))) (pg_name (i := 5) sc_law_origin.nd rfl (by first | exact Or.inl rfl | exact Or.inr rfl)))
      (pss_one (ps_asg (pe_tup (pa_cons (pe_op (k_add (K := K) rfl) (pv 2) (pe_lst (pa_cons (pe_op op_fdivL (pv 5) pe_int) pa_nil))) (pa_cons (pe_op (k_add (K := K) rfl) (pv 3) (pe_lst (pa_cons (pe_op op_modN (pe_callTy call_int1 (by rfl) T.int (by decide +kernel) (pa_cons (pe_op (k_add (K := K) rfl) (pe_ix (k_ix (K := K) rfl) (pv 3) (pe_un un_neg pe_int) (fun _ _ => rfl)) (pv 5)) pa_nil)) pe_int) pa_nil))) pa_nil))) (k_gtup (n := 2) (K := K) rfl (by rfl) (pgs_cons (pg_name (i := 2) sc_law_origin.nd rfl (by first | exact Or.inl rfl | exact Or.inr rfl)) (pgs_cons (pg_name (i := 3) sc_law_origin.nd rfl (by first | exact Or.inl rfl | exact Or.inr rfl)) pgs_nil)))))) pss_nil)))
      (pss_cons (ps_asg (pe_op (k_add (K := K) rfl) (pe_lc rfl sc_law_origin.nd (pi_range1 (by rfl) T.range (pa_cons (pe_callB (k_lenA (K := K) rfl) (by rfl) T.len (by decide +kernel) (pa_cons (pv 2) pa_nil)) pa_nil)) (blkOk_by (own := [("_law_k", 7)]) (N := n_law_origin) (sc := C8.fnScope s_law_origin) (by decide +kernel)) (fun _ _ _ _ _ => (pg_name (i := 7) sc_law_origin.nd rfl (by first | exact Or.inl rfl | exact Or.inr rfl))) (fun _ _ _ _ _ => (pts_one (pt_cmpR (k_in (K := K) rfl) (pe_ix (k_ix (K := K) rfl) (pv 2) (pv 7) (fun _ _ => rfl)) (pe_slice (k_sl (K := K) rfl) (pv 2) (po_some (pe_op (k_add (K := K) rfl) (pv 7) pe_int)) po_none) (by with_unfolding_all rfl)))) (fun _ _ _ _ _ => (pv 7))) (pe_lst (pa_cons (pe_op op_sub (pe_callB (k_lenA (K := K) rfl) (by rfl) T.len (by decide +kernel) (pa_cons (pv 2) pa_nil)) pe_int) pa_nil))) (pg_name (i := 6) sc_law_origin.nd rfl (by first | exact Or.inl rfl | exact Or.inr rfl)))
      (pss_one (ps_ret (pe_tup (pa_cons (pe_ix (k_ix (K := K) rfl) (pv 2) (pe_ix (k_ix (K := K) rfl) (pv 6) pe_int (fun _ _ => rfl)) (fun _ _ => rfl)) (pa_cons (pe_ix (k_ix (K := K) rfl) (pv 3) (pe_ix (k_ix (K := K) rfl) (pv 6) pe_int (fun _ _ => rfl)) (fun _ _ => rfl)) (pa_cons (pe_callTy (k_tupleA (K := K) rfl rfl) (by rfl) T.tuple (by decide +kernel) (pa_cons (pe_slice (k_sl (K := K) rfl) (pv 2) po_none (po_some (pe_ix (k_ix (K := K) rfl) (pv 6) pe_int (fun _ _ => rfl)))) pa_nil)) pa_nil))))))))),
   (ls_seq (ls_parT (i := 2) (j := 3) (le_lst (la_cons (le_op le_var le_int ol_fdv) la_nil)) (le_lst (la_cons (le_op (le_cb (la_cons le_var la_nil) cl_int) le_int ol_mod) la_nil)))
      (ls_seq (ls_for (li_rng1 (la_cons (le_op (le_cb (la_cons (le_op le_var le_int ol_ix) la_nil) cl_lenA) le_int ol_add) la_nil)) lg_name
      (ls_if (lt_test (le_chain (le_op le_var le_int ol_ix) (le_op le_var (le_un le_int ul_neg) ol_ix) (le_op (le_op le_var le_int ol_ix) (le_cb (la_cons (le_op le_var le_int ol_ix) la_nil) cl_lenA) ol_add) ol_lt ol_le)) (ls_seq (ls_asg (le_call (la_cons le_var (la_cons (le_op le_var (le_un le_int ul_neg) ol_ix) la_nil))) lg_name)
      (ls_parT (i := 2) (j := 3) (le_op le_var (le_lst (la_cons (le_op le_var le_int ol_fdv) la_nil)) ol_add) (le_op le_var (le_lst (la_cons (le_op (le_cb (la_cons (le_op (le_op le_var (le_un le_int ul_neg) ol_ix) le_var ol_add) la_nil) cl_int) le_int ol_mod) la_nil)) ol_add))) ls_next))
      (ls_seq (ls_asg (le_op (le_lc (li_rng1 (la_cons (le_cb (la_cons le_var la_nil) cl_lenA) la_nil)) lg_name (lgw_name (by decide)) (lt_test (le_op (le_op le_var le_var ol_ix) (le_sl le_var (lo_some (le_op le_var le_int ol_add)) lo_none) ol_in)) le_var) (le_lst (la_cons (le_op (le_cb (la_cons le_var la_nil) cl_lenA) le_int ol_sub) la_nil)) ol_add) lg_name)
      (ls_ret (le_tup (la_cons (le_op le_var (le_op le_var le_int ol_ix) ol_ix) (la_cons (le_op le_var (le_op le_var le_int ol_ix) ol_ix) (la_cons (le_cb (la_cons (le_sl le_var lo_none (lo_some (le_op le_var le_int ol_ix))) la_nil) cl_tupleA) la_nil)))))))), ?_⟩
  intro ds Qc h
  obtain ⟨g, l, rfl, hg, hl, hq⟩ := h
  have hrl := hg.rl
  have e0 : ∀ N : Int, [PyData.int N] = ndL g N 1 := fun N => rfl
  have e1 : ∀ N U : Int, [PyData.int U] = tnL g N U 1 := fun N U => rfl
  have eR : ((g.regs.map pD).length : Nat) = g.regs.length := List.length_map ..
  refine ⟨⟨(by intro z; cases z), Nat.le_of_ble_eq_true rfl⟩, Nat.le_of_ble_eq_true rfl, (by intro z; cases z), Nat.le_of_ble_eq_true rfl, trivial, _, rfl, ⟨by omega, by omega⟩, dLoop_of _ (fun i ρ => ∃ L ds es o4 o5, ds = ndL g (l.fdiv 2) (L + 1) ∧ es = tnL g (l.fdiv 2) (l.fmod 2) (L + 1) ∧ L ≤ i ∧ (∀ j, j < L → isReg g (nd g (l.fdiv 2) j)) ∧ (L < i → ¬ isReg g (nd g (l.fdiv 2) L)) ∧ ρ = [some (.bo g.toD), some (.bo (.int l)), some (.ow (.list ds)), some (.ow (.list es)), o4, o5, none, none]) ⟨0, _, _, none, none, rfl, rfl, Nat.le_refl _, (fun j h => absurd h (Nat.not_lt_zero _)), (fun h => absurd h (Nat.lt_irrefl _)), rfl⟩ ?_ ?_⟩
  · rintro i x ρ k hx ⟨L, _, _, o4, o5, rfl, rfl, hLi, h1, h2, rfl⟩ next
    have hi : i < (rngD 0 (((g.regs.map pD).length : Nat) + 1 : Int).toNat).length := (List.getElem?_eq_some_iff.mp hx).1
    rw [rngD_length, eR] at hi
    have hi : i < g.regs.length + 1 := by omega
    have hla : atI (ndL g (l.fdiv 2) (L + 1)) (-1) = some (.int (nd g (l.fdiv 2) L)) := by rw [ndL_succ]; exact atI_last
    have hlt : atI (tnL g (l.fdiv 2) (l.fmod 2) (L + 1)) (-1) = some (.int (tn g (l.fdiv 2) (l.fmod 2) L)) := by rw [tnL_succ]; exact atI_last
    have no : ¬ isReg g (nd g (l.fdiv 2) L) → k [some (.bo g.toD), some (.bo (.int l)), some (.ow (.list (ndL g (l.fdiv 2) (L + 1)))), some (.ow (.list (tnL g (l.fdiv 2) (l.fmod 2) (L + 1)))), some (.sh x), o5, none, none] := fun h => next _ ⟨L, _, _, _, _, rfl, rfl, by omega, h1, fun _ => h, rfl⟩
    refine ⟨trivial, _, rfl, trivial, _, hla, useB_d (fun g1 => ⟨trivial, _, rfl, trivial, _, rfl, useB_d (fun g2 => ?_) (fun g2 => no fun h => g2 (by rw [eR]; exact h.2))⟩) (fun g1 => useB_n rfl (no fun h => g1 h.1))⟩
    have hr : isReg g (nd g (l.fdiv 2) L) := ⟨g1, by rw [eR] at g2; exact g2⟩
    have hLe : L = i := Nat.le_antisymm hLi (Nat.le_of_not_lt fun h => h2 h hr)
    refine ⟨trivial, _, hla, g, _, rfl, hr, ⟨(by intro z; cases z), Nat.le_of_ble_eq_true rfl⟩, Nat.le_of_ble_eq_true rfl, ?_, trivial, _, hlt, (by intro z; cases z), Nat.le_of_ble_eq_true rfl, ?_, next _ ⟨L + 1, _, _, _, _, (ndL_succ g (l.fdiv 2) (L + 1)).symm, (tnL_succ g (l.fdiv 2) (l.fmod 2) (L + 1)).symm, by omega, fun j hj => ?_, fun h => absurd h (by omega), rfl⟩⟩
    · rw [ndL_len, sizeLine_eq]; show L + 1 + 1 ≤ 16777216; omega
    · rw [tnL_len, sizeLine_eq]; show L + 1 + 1 ≤ 16777216; omega
    · rcases Nat.lt_succ_iff_lt_or_eq.mp hj with h | rfl
      · exact h1 j h
      · exact hr
  · rintro ρ ⟨L, _, _, o4, o5, rfl, rfl, hLi, h1, h2, rfl⟩
    rw [rngD_length, eR] at hLi h2
    have hLi : L ≤ g.regs.length + 1 := by omega
    have h2 : L < g.regs.length + 1 → ¬ isReg g (nd g (l.fdiv 2) L) := fun h => h2 (by omega)
    have hlen := ndL_len g (l.fdiv 2) (L + 1)
    have hend : ∀ (a : Nat) (again : List D), a ≤ L → again[0]? = some (.int (a : Int)) → SrcR g l (nd g (l.fdiv 2) a) (tn g (l.fdiv 2) (l.fmod 2) a) ((List.range a).map (nd g (l.fdiv 2))) →
        (dRet (dTup (dCons (dOp fIx (dVar 2) (dOp fIx (dVar 6) (dC (PyData.int 0)))) (dCons (dOp fIx (dVar 3) (dOp fIx (dVar 6) (dC (PyData.int 0)))) (dCons (dCB (fA1 fTupleA) (dCons (dSl (dVar 2) dNoP (dPart (dOp fIx (dVar 6) (dC (PyData.int 0))))) dNil)) dNil)))))
          { nx := fun x => Qc (Re.fz PyData.none), rt := retC Qc } [some (.bo g.toD), some (.bo (.int l)), some (.ow (.list (ndL g (l.fdiv 2) (L + 1)))), some (.ow (.list (tnL g (l.fdiv 2) (l.fmod 2) (L + 1)))), o4, o5, some (.ow (.list again)), none] := fun a again haL h0 hS => by
      have h0 : atI again 0 = some (.int (a : Int)) := atI_get (p := 0) h0
      refine ⟨trivial, _, h0, trivial, _, atI_get (ndL_at g (l.fdiv 2) (Nat.lt_succ_of_le haL)), trivial, _, h0, trivial, _, atI_get (tnL_at g (l.fdiv 2) (l.fmod 2) (Nat.lt_succ_of_le haL)), trivial, _, h0, Nat.le_of_ble_eq_true rfl, ?_⟩
      show Qc (.fz (.tuple [.int _, .int _, .tuple (cutD (ndL g (l.fdiv 2) (L + 1)) none (some (a : Int)))]))
      rw [ndL_cut g (l.fdiv 2) (Nat.le_succ_of_le haL)]
      exact hq _ _ _ hS
    refine ⟨⟨by rw [hlen]; omega, by rw [hlen]; omega⟩, ?_⟩
    refine dLcGo_of _ (fun j acc ρ => ρ = [some (.bo g.toD), some (.bo (.int l)), some (.ow (.list (ndL g (l.fdiv 2) (L + 1)))), some (.ow (.list (tnL g (l.fdiv 2) (l.fmod 2) (L + 1)))), o4, o5, none, none] ∧ acc.length ≤ j ∧ ((acc = [] ∧ ∀ k, k < j → ¬ Agn g (l.fdiv 2) (L + 1) k) ∨ ∃ (a : Nat) (rest : List D), acc = .int (a : Int) :: rest ∧ Agn g (l.fdiv 2) (L + 1) a ∧ a < j ∧ ∀ k, k < a → ¬ Agn g (l.fdiv 2) (L + 1) k)) ⟨rfl, Nat.le_refl _, .inl ⟨rfl, fun k h => absurd h (Nat.not_lt_zero _)⟩⟩ ?_ ?_
    · rintro j x acc ρ k hx ⟨rfl, hal, hacc⟩ next
      have hj : j < (rngD 0 (((ndL g (l.fdiv 2) (L + 1)).length : Nat) : Int).toNat).length := (List.getElem?_eq_some_iff.mp hx).1
      rw [rngD_length, hlen] at hj
      have hj : j < L + 1 := by omega
      obtain ⟨hj2, rfl⟩ := get_map hx
      simp only [List.getElem_range, Int.zero_add]
      obtain ⟨ns, hns, hmem⟩ := ndL_drop g (l.fdiv 2) (L + 1) (j + 1)
      have hcut : cutD (ndL g (l.fdiv 2) (L + 1)) (some ((j : Int) + 1)) none = ns.map PyData.int := drop_of.trans hns
      have hAg : nd g (l.fdiv 2) j ∈ ns ↔ Agn g (l.fdiv 2) (L + 1) j := hmem _
      have tst : (false != ((cutD (ndL g (l.fdiv 2) (L + 1)) (some ((j : Int) + 1)) none).any fun z => PyData.eqv z (.int (nd g (l.fdiv 2) j)))) = decide (nd g (l.fdiv 2) j ∈ ns) := by rw [hcut, in_dec]
      refine ⟨trivial, _, atI_get (ndL_at g (l.fdiv 2) hj), ⟨rfl, by rw [hcut]; exact flat_ints ns⟩, useB_b (fun h => ⟨by rw [sizeLine_eq]; omega, next _ _ ⟨rfl, by simp; omega, ?_⟩⟩) (fun h => next _ _ ⟨rfl, by omega, ?_⟩)⟩
      · have hA : Agn g (l.fdiv 2) (L + 1) j := hAg.mp (of_decide_eq_true (tst.symm.trans h))
        rcases hacc with ⟨rfl, hno⟩ | ⟨a, rest, rfl, h1', h2', h3'⟩
        · exact .inr ⟨j, [], rfl, hA, Nat.lt_succ_self _, hno⟩
        · exact .inr ⟨a, rest ++ [.int (j : Int)], rfl, h1', by omega, h3'⟩
      · have hA : ¬ Agn g (l.fdiv 2) (L + 1) j := fun z => of_decide_eq_false (tst.symm.trans h) (hAg.mpr z)
        rcases hacc with ⟨rfl, hno⟩ | ⟨a, rest, rfl, h1', h2', h3'⟩
        · refine .inl ⟨rfl, fun k hk => ?_⟩
          rcases Nat.lt_succ_iff_lt_or_eq.mp hk with h | rfl
          · exact hno k h
          · exact hA
        · exact .inr ⟨a, rest, rfl, h1', by omega, h3'⟩
    · rintro acc ρ ⟨rfl, hal, hacc⟩
      rw [rngD_length, hlen] at hal hacc
      have eL : (((L + 1 : Nat) : Int)).toNat = L + 1 := by simp
      rw [eL] at hal hacc
      refine ⟨Nat.le_of_ble_eq_true rfl, by show acc.length + 1 ≤ sizeLine; rw [sizeLine_eq]; omega, ?_⟩
      rcases hacc with ⟨rfl, hno⟩ | ⟨a, rest, rfl, h1', h2', h3'⟩
      · refine hend L _ (Nat.le_refl _) ?_ (SrcR.of_law h1 h2 hLi (.inr ⟨rfl, hno⟩))
        show some (PyData.int (((ndL g (l.fdiv 2) (L + 1)).length : Nat) - 1 : Int)) = _
        rw [hlen]
        congr 2
        omega
      · exact hend a _ (by omega) rfl (SrcR.of_law h1 h2 hLi (.inl ⟨h1', h2', h3'⟩))
abbrev s_law_needed : Stmt := topS 14
abbrev n_law_needed : List Str := ["_law_graph", "_law_first", "_law_waiting", "_law_found", "_law_node", "_law_l"]
theorem sc_law_needed : FnScope n_law_needed ["_law_graph"] (C8.fnScope s_law_needed) := C8.fnScope_by (by decide +kernel)
theorem ok_law_needed {a : Addr} {fd : FuncData} (F : C8.Def K mg "_law_needed" s_law_needed a fd) (b : Binds K fd ["_law_graph"] []) (T : Txt mg) : CalG P w K mg base (1) "_law_needed" (spD K [.bo] (Cneed)) := by
  refine calG F b sc_law_needed rfl (fun cdv A outer s H E hA hr => ?_)
  have hu := huOf hr
  have hu64 := hr.units
  refine ⟨_, _, (pss_cons (ps_par3 (i := 1) (j := 2) (l := 3) (by rfl) sc_law_needed.nd rfl rfl rfl (by decide) (by decide) (by decide) rfl rfl rfl (pa_cons (pe_op (k_add (K := K) rfl) (pe_op (k_add (K := K) rfl) pe_int (pe_ix (k_ix (K := K) rfl) (pv 0) pe_int (fun _ _ => rfl))) (pe_callB (k_lenA (K := K) rfl) (by rfl) T.len (by decide +kernel) (pa_cons (pe_ix (k_ix (K := K) rfl) (pv 0) pe_int (fun _ _ => rfl)) pa_nil))) (pa_cons (pe_lc rfl sc_law_needed.nd (k_iany (K := K) rfl (pe_ix (k_ix (K := K) rfl) (pv 0) pe_int (fun _ _ => rfl))) (blkOk_by (own := [("_law_l", 5)]) (N := n_law_needed) (sc := C8.fnScope s_law_needed) (by decide +kernel)) (fun _ _ _ _ _ => (pg_name (i := 5) sc_law_needed.nd rfl (by first | exact Or.inl rfl | exact Or.inr rfl))) (fun _ _ _ _ _ => pts_nil) (fun _ _ _ _ _ => (pe_op op_fdivL (pv 5) pe_int))) (pa_cons pe_dnewK pa_nil))) (by rfl))
      (pss_cons (ps_while PassesOwn.never (pt_cmpR (k_ne (K := K) rfl hu64) (pv 2) (pe_lst pa_nil) (nomark _))
      (pss_cons (ps_asg (pe_bm0 PySem.F.plainAttrs_list PySem.F.slot_list_pop PySem.F.type_list_pop mt_pop (pv 2)) (pg_name (i := 4) sc_law_needed.nd rfl (by first | exact Or.inl rfl | exact Or.inr rfl)))
      (pss_cons (ps_if (PW.pt (pw_and (pt_cmp (pc_dnotin hu (pv 4) (pv 3))) (pw_and1 (pt_cmpR op_ge (pv 4) (pv 1) (nomark _))))) (pss_one (ps_expr (pe_bm PySem.F.plainAttrs_list PySem.F.slot_list_extend PySem.F.type_list_extend mt_extend (pv 2) (pa_cons (pe_lc rfl sc_law_needed.nd (k_iany (K := K) rfl (pe_ix (k_ix (K := K) rfl) (pe_ix (k_ix (K := K) rfl) (pv 0) pe_int (fun _ _ => rfl)) (pe_op op_sub (pv 4) (pv 1)) (fun _ _ => rfl))) (blkOk_by (own := [("_law_l", 5)]) (N := n_law_needed) (sc := C8.fnScope s_law_needed) (by decide +kernel)) (fun _ _ _ _ _ => (pg_name (i := 5) sc_law_needed.nd rfl (by first | exact Or.inl rfl | exact Or.inr rfl))) (fun _ _ _ _ _ => pts_nil) (fun _ _ _ _ _ => (pe_op op_fdivL (pv 5) pe_int))) pa_nil)))) (pss_one (ps_if (PW.pt (pw_and (pt_cmp (pc_dnotin hu (pv 4) (pv 3))) (pw_and1 (pt_cmpR op_gt (pv 4) (pe_ix (k_ix (K := K) rfl) (pv 0) pe_int (fun _ _ => rfl)) (nomark _))))) (pss_one (ps_expr (pe_bm PySem.F.plainAttrs_list PySem.F.slot_list_append PySem.F.type_list_append mt_append (pv 2) (pa_cons (pe_op op_fdivL (pe_ix (k_ix (K := K) rfl) (pe_ix (k_ix (K := K) rfl) (pe_ix (k_ix (K := K) rfl) (pv 0) pe_int (fun _ _ => rfl)) (pe_op op_sub (pe_op op_sub (pv 4) (pe_ix (k_ix (K := K) rfl) (pv 0) pe_int (fun _ _ => rfl))) pe_int) (fun _ _ => rfl)) pe_int (fun _ _ => rfl)) pe_int) pa_nil)))) pss_nil)))
      (pss_one (ps_dput hu (pv 3) (pv 4) pe_bl rfl)))))
      (pss_one (ps_ret (pe_callB (k_sortedD (K := K) rfl rfl) (by rfl) T.sorted (by decide +kernel) (pa_cons (pv 3) pa_nil)))))),
   (ls_seq (ls_par3 (le_op (le_op le_int (le_op le_var le_int ol_ix) ol_add) (le_cb (la_cons (le_op le_var le_int ol_ix) la_nil) cl_lenA) ol_add) (le_lc (li_any (le_op le_var le_int ol_ix)) lg_name (lgw_name (by decide)) lt_yes (le_op le_var le_int ol_fdv)) le_dnew)
      (ls_seq (ls_while (lt_test (le_op le_var (le_lst la_nil) ol_ne))
      (ls_seq (ls_asg le_pop lg_name)
      (ls_seq (ls_if (lt_and (lt_B (le_dnin le_var le_var)) (lt_test (le_op le_var le_var ol_ge))) (ls_extL (i := 2) (le_lc (li_any (le_op (le_op le_var le_int ol_ix) (le_op le_var le_var ol_sub) ol_ix)) lg_name (lgw_name (by decide)) lt_yes (le_op le_var le_int ol_fdv))) (ls_if (lt_and (lt_B (le_dnin le_var le_var)) (lt_test (le_op le_var (le_op le_var le_int ol_ix) ol_gt))) (ls_app (le_op (le_op (le_op (le_op le_var le_int ol_ix) (le_op (le_op le_var (le_op le_var le_int ol_ix) ol_sub) le_int ol_sub) ol_ix) le_int ol_ix) le_int ol_fdv)) ls_next))
      (ls_dput le_var le_bl))))
      (ls_ret (le_cb (la_cons le_var la_nil) cl_sortedD)))), ?_⟩
  intro ds Qc h
  obtain ⟨g, rfl, hg, hm, hq⟩ := h
  have hol := hg.ol
  have hal := hg.al
  have hrl := hg.rl
  have hf : (1 : Int) + g.ins + ((g.regs.map pD).length : Nat) = (g.first : Int) := by unfold Gr.first; rw [List.length_map]; simp
  have hff : (g.first : Int) = 1 + g.ins + g.regs.length := by unfold Gr.first; simp
  refine ⟨trivial, _, rfl, trivial, _, rfl, trivial, _, rfl, dLcGo_map _ (DL.dI fun l => l.fdiv 2) (by rw [List.length_map, sizeLine_eq]; omega) (fun x k hx q => ?_) ?_⟩
  · obtain ⟨l, hl, rfl⟩ := List.mem_map.mp hx
    exact ⟨⟨(by intro z; cases z), Nat.le_of_ble_eq_true rfl⟩, q⟩
  rw [map_dI]
  let INV : Nat → Rho → Prop := fun m ρ => ∃ (ns ws : List Int) (es ds : List _) (o4 : Option Sl), es = ns.map entI ∧ ds = ws.map PyData.int ∧ m = 3 * (g.many - ns.length) + ws.length ∧ ns.Nodup ∧ (∀ n ∈ ns, Reach g n) ∧ (∀ n ∈ ws, Reach g n) ∧ (∀ l ∈ g.outs, l.fdiv 2 ∈ ns ∨ l.fdiv 2 ∈ ws) ∧
    (∀ n ∈ ns, (isReg g n → (tk g n).fdiv 2 ∈ ns ∨ (tk g n).fdiv 2 ∈ ws) ∧ ((g.first : Int) ≤ n → ((prD g n).1.fdiv 2 ∈ ns ∨ (prD g n).1.fdiv 2 ∈ ws) ∧ ((prD g n).2.fdiv 2 ∈ ns ∨ (prD g n).2.fdiv 2 ∈ ws))) ∧ ws.length ≤ 10 + 2 * ns.length ∧
    ρ = [some (.bo g.toD), some (.sh (.int (g.first : Int))), some (.ow (.list ds)), some (.ow (.dict es)), o4, none]
  refine ⟨INV, ⟨_, [], g.outs.map fun l => l.fdiv 2, _, _, none, rfl, rfl, rfl, List.nodup_nil, (fun _ h => nomatch h), (fun n h => ?_), (fun l h => .inr (List.mem_map.mpr ⟨l, h, rfl⟩)), (fun _ h => nomatch h), by rw [List.length_map]; simpa using hol, by rw [← hf]; rfl⟩, ?_⟩
  · obtain ⟨l, hl, rfl⟩ := List.mem_map.mp h
    exact .out hl
  rintro m ρ ⟨ns, ws, _, _, o4, rfl, rfl, rfl, hnd, hnR, hwR', hroot, hcl, hwl, rfl⟩
  have hnl : ns.length ≤ g.many := ndp_le hnd fun n h => (hnR n h).ok hg
  have e1 : SH 1 (.list (ws.map PyData.int)) := .list (.ints ws)
  have e2 : SH 1 (.list []) := .list .nil
  refine ⟨Nat.le_of_ble_eq_true rfl, e1.ok2 e2 (by decide) (by decide), useB_b (fun hb => ?_) (fun hb => ?_)⟩
  · have hb := (eqv_nil_ints ws).symm.trans hb
    obtain ⟨ws', w, rfl⟩ : ∃ ws' w, ws = ws' ++ [w] := by
      cases ws with
      | nil => simp at hb
      | cons x xs => exact ⟨(x :: xs).dropLast, (x :: xs).getLast (by simp), (List.dropLast_concat_getLast _).symm⟩
    clear hb e1
    have hwR : Reach g w := hwR' w (by simp)
    have hw'R : ∀ n ∈ ws', Reach g n := fun n h => hwR' n (by simp [h])
    have hwm := hwR.ok hg
    have hwm1 : 0 ≤ w := hwm.1
    have hwm2 : w < g.many := hwm.2
    have hlen : (ws' ++ [w]).length = ws'.length + 1 := by simp
    rw [hlen] at hwl
    rw [List.map_append]
    have put : ∀ (ns2 ws2 : List Int) (ds : List D), ds = ws2.map PyData.int → (if w ∈ ns then ns else ns ++ [w]) = ns2 → ns2.Nodup → (∀ n ∈ ns2, Reach g n) → (∀ n ∈ ws2, Reach g n) → (∀ l ∈ g.outs, l.fdiv 2 ∈ ns2 ∨ l.fdiv 2 ∈ ws2) →
        (∀ n ∈ ns2, (isReg g n → (tk g n).fdiv 2 ∈ ns2 ∨ (tk g n).fdiv 2 ∈ ws2) ∧ ((g.first : Int) ≤ n → ((prD g n).1.fdiv 2 ∈ ns2 ∨ (prD g n).1.fdiv 2 ∈ ws2) ∧ ((prD g n).2.fdiv 2 ∈ ns2 ∨ (prD g n).2.fdiv 2 ∈ ws2))) → ws2.length ≤ 10 + 2 * ns2.length →
        3 * (g.many - ns2.length) + ws2.length < 3 * (g.many - ns.length) + (ws' ++ [w]).length →
        (dDPut 3 (dVar 4) (dC (.bool true))) { nx := fun ρ' => ∃ m', m' < 3 * (g.many - ns.length) + (ws' ++ [w]).length ∧ INV m' ρ', rt := retC Qc } [some (.bo g.toD), some (.sh (.int (g.first : Int))), some (.ow (.list ds)), some (.ow (.dict (ns.map entI))), some (.sh (.int w)), none] := by
      intro ns2 ws2 ds ed e1 h1 h2 h3 h4 h5 h6 h7
      refine ⟨⟨_, rfl, entI_T ns⟩, _, rfl, entI_T ns, by rw [List.length_map, sizeLine_eq]; omega, _, h7, ns2, ws2, _, _, some (.sh (.int w)), ?_, ed, rfl, h1, h2, h3, h4, h5, h6, rfl⟩
      rw [← e1]
      exact putE_ent ns w
    have old : w ∈ ns → _ := fun hw => put ns ws' _ rfl (if_pos hw) hnd hnR hw'R (fun l h => by
      rcases hroot l h with h | h
      · exact .inl h
      · rcases List.mem_append.mp h with h | h
        · exact .inr h
        · exact .inl (List.mem_singleton.mp h ▸ hw)) (fun n h => by
      have cv : ∀ x : Int, (x ∈ ns ∨ x ∈ ws' ++ [w]) → (x ∈ ns ∨ x ∈ ws') := fun x hx => by
        rcases hx with h | h
        · exact .inl h
        · rcases List.mem_append.mp h with h | h
          · exact .inr h
          · exact .inl (List.mem_singleton.mp h ▸ hw)
      exact ⟨fun hr => cv _ ((hcl n h).1 hr), fun hf => ⟨cv _ ((hcl n h).2 hf).1, cv _ ((hcl n h).2 hf).2⟩⟩) (by omega) (by simp)
    have new : w ∉ ns → ∀ (cs : List Int) (ds : List D), ds = (ws' ++ cs).map PyData.int → cs.length ≤ 2 → (∀ c ∈ cs, Reach g c) → (isReg g w → (tk g w).fdiv 2 ∈ cs) → ((g.first : Int) ≤ w → (prD g w).1.fdiv 2 ∈ cs ∧ (prD g w).2.fdiv 2 ∈ cs) → _ := fun hw cs ds ed c1 c2 c3 c4 => put (ns ++ [w]) (ws' ++ cs) ds ed (if_neg hw)
      (List.nodup_append.mpr ⟨hnd, List.nodup_cons.mpr ⟨List.not_mem_nil, List.nodup_nil⟩, fun a ha b hb e => hw (by rw [← List.mem_singleton.mp hb, ← e]; exact ha)⟩)
      (fun n h => by
        rcases List.mem_append.mp h with h | h
        · exact hnR n h
        · rw [List.mem_singleton.mp h]; exact hwR)
      (fun n h => (List.mem_append.mp h).elim (hw'R n) (c2 n))
      (fun l h => by
        rcases hroot l h with h | h
        · exact .inl (List.mem_append_left _ h)
        · rcases List.mem_append.mp h with h | h
          · exact .inr (List.mem_append_left _ h)
          · exact .inl (List.mem_append_right _ h))
      (fun n h => by
        have cv : ∀ x : Int, (x ∈ ns ∨ x ∈ ws' ++ [w]) → (x ∈ ns ++ [w] ∨ x ∈ ws' ++ cs) := fun x hx => by
          rcases hx with h | h
          · exact .inl (List.mem_append_left _ h)
          · rcases List.mem_append.mp h with h | h
            · exact .inr (List.mem_append_left _ h)
            · exact .inl (List.mem_append_right _ h)
        rcases List.mem_append.mp h with h | h
        · exact ⟨fun hr => cv _ ((hcl n h).1 hr), fun hf => ⟨cv _ ((hcl n h).2 hf).1, cv _ ((hcl n h).2 hf).2⟩⟩
        · rw [List.mem_singleton.mp h]
          exact ⟨fun hr => .inr (List.mem_append_right _ (c3 hr)), fun hf => ⟨.inr (List.mem_append_right _ (c4 hf).1), .inr (List.mem_append_right _ (c4 hf).2)⟩⟩)
      (by simp only [List.length_append, List.length_singleton]; omega)
      (by
        have h1 : (ns ++ [w]).length ≤ g.many := ndp_le (List.nodup_append.mpr ⟨hnd, List.nodup_cons.mpr ⟨List.not_mem_nil, List.nodup_nil⟩, fun a ha b hb e => hw (by rw [← List.mem_singleton.mp hb, ← e]; exact ha)⟩) fun n h => by
          rcases List.mem_append.mp h with h | h
          · exact (hnR n h).ok hg
          · rw [List.mem_singleton.mp h]; exact hwm
        simp only [List.length_append, List.length_singleton] at h1 ⊢
        omega)
    have nin : (true != decide (w ∈ ns)) = true → w ∉ ns := fun h z => by rw [decide_eq_true z] at h; cases h
    have inn : (true != decide (w ∈ ns)) = false → w ∈ ns := fun h => Decidable.byContradiction fun z => by rw [decide_eq_false z] at h; cases h
    have hl0 : (ws'.map PyData.int).length = ws'.length := List.length_map ..
    refine ⟨ws'.map PyData.int, .int w, rfl, entI_T ns, _, lookE_ent ns w, useB_b (fun h1 => useB_d (fun h2 => ?and) (fun h2 => ?els)) (fun h1 => useB_n rfl ⟨entI_T ns, _, lookE_ent ns w, useB_b (fun h1' => absurd (inn h1) (nin h1')) (fun _ => useB_n rfl (old (inn h1)))⟩)⟩
    case and =>
      have e : w - (g.first : Int) = w - g.ins - g.regs.length - 1 := by omega
      have hmany : (g.many : Int) = g.first + g.ands.length := by unfold Gr.many; simp
      have hat : atI (g.ands.map pD) (w - (g.first : Int)) = some (pD (prD g w)) := by
        rw [e]
        exact atI_pD (by omega) (by omega)
      refine ⟨trivial, _, rfl, trivial, _, hat, dLcGo_map _ (DL.dI fun l => l.fdiv 2) (Nat.le_of_ble_eq_true rfl) (fun x k hx q => ?_) ?_⟩
      · have hx : x = .int (prD g w).1 ∨ x = .int (prD g w).2 := by
          have hx : x ∈ [PyData.int (prD g w).1, PyData.int (prD g w).2] := hx
          simpa using hx
        rcases hx with rfl | rfl
        · exact ⟨⟨(by intro z; cases z), Nat.le_of_ble_eq_true rfl⟩, q⟩
        · exact ⟨⟨(by intro z; cases z), Nat.le_of_ble_eq_true rfl⟩, q⟩
      refine ⟨_, rfl, by show (ws'.map PyData.int).length + 2 ≤ sizeLine; rw [hl0, sizeLine_eq]; have := hnl; omega, new (nin h1) [(prD g w).1.fdiv 2, (prD g w).2.fdiv 2] _ (by rw [List.map_append]; rfl) (Nat.le_refl _) (fun c hc => ?_) (fun hr => ?_) (fun _ => ⟨by simp, by simp⟩)⟩
      · rcases List.mem_cons.mp hc with rfl | hc
        · exact .one hwR h2 hwm2
        · rw [List.mem_singleton.mp hc]; exact .two hwR h2 hwm2
      · have hr2 := hr.2
        omega
    case els =>
      refine ⟨entI_T ns, _, lookE_ent ns w, useB_b (fun _ => ⟨trivial, _, rfl, useB_d (fun h3 => ?_) (fun h3 => new (nin h1) [] _ (by rw [List.append_nil]) (Nat.zero_le _) (fun _ h => nomatch h) (fun hr => absurd hr.1 h3) (fun h => absurd h h2))⟩) (fun h => absurd (inn h) (nin h1))⟩
      have hr : isReg g w := ⟨h3, by omega⟩
      have hat : atI (g.regs.map pD) (w - g.ins - 1) = some (pD (g.regs.getD (w - g.ins - 1).toNat (0, 0))) := atI_pD (by omega) (by omega)
      refine ⟨trivial, _, rfl, trivial, _, rfl, trivial, _, hat, trivial, _, rfl, ⟨(by intro z; cases z), Nat.le_of_ble_eq_true rfl⟩, by rw [hl0, sizeLine_eq]; omega, new (nin h1) [(tk g w).fdiv 2] _ (by rw [List.map_append]; rfl) (Nat.le_of_ble_eq_true rfl) (fun c hc => ?_) (fun _ => by simp) (fun h => absurd h h2)⟩
      rw [List.mem_singleton.mp hc]
      exact .reg hwR hr
  · have hb := (eqv_nil_ints ws).symm.trans hb
    have hws : ws = [] := by simpa using hb
    subst hws
    refine ⟨entI_T ns, ?_⟩
    show wN (keysI _) _
    rw [keysI_ent]
    refine ⟨by omega, fun ms hp hs => hq ms ⟨hs, perm_nodup hp hnd, fun n => ⟨fun h => hnR n (hp.subset h), fun h => hp.symm.subset ?_⟩⟩⟩
    induction h with
    | out h => exact (hroot _ h).elim id fun h => nomatch h
    | @reg n h hr ih => exact ((hcl n ih).1 hr).elim id fun h => nomatch h
    | @one n h h1 h2 ih => exact ((hcl n ih).2 h1).1.elim id fun h => nomatch h
    | @two n h h1 h2 ih => exact ((hcl n ih).2 h1).2.elim id fun h => nomatch h
end
end K41

set_option Elab.async false
set_option linter.all false
set_option maxRecDepth 100000
set_option maxHeartbeats 4000000
set_option autoImplicit false
set_option pp.maxSteps 1000
namespace K41
open PySem L2 DL
section
variable {P : Program} {w : World} {K : PySem.W.Frag} {mg : Str → Option Value} {base : Heap}
abbrev s_needed_ands : Stmt := topS 6
abbrev n_needed_ands : List Str := ["graph", "found", "waiting", "node", "literal"]
theorem sc_needed_ands : FnScope n_needed_ands ["graph"] (C8.fnScope s_needed_ands) := C8.fnScope_by (by decide +kernel)
theorem ok_needed_ands {a : Addr} {fd : FuncData} (F : C8.Def K mg "needed_ands" s_needed_ands a fd) (b : Binds K fd ["graph"] []) (T : Txt mg) (c_source_of : CalG P w K mg base 2 "source_of" (spD K [.bo, .bo] (Csrc))) (c_is_and : CalG P w K mg base 1 "is_and" (spD K [.bo, .bo] (Cisand))) (c_pair_of : CalG P w K mg base 1 "pair_of" (spD K [.bo, .sh] (Cpair))) : CalG P w K mg base (3) "needed_ands" (spD K [.bo] (Cands)) := by
  refine calG F b sc_needed_ands rfl (fun cdv A outer s H E hA hr => ?_)
  have hu := huOf hr
  have hu64 := hr.units
  refine ⟨_, _, (pss_cons (ps_par (i := 1) (j := 2) (by rfl) sc_needed_ands.nd rfl rfl (by decide) rfl rfl (pa_cons pe_dnewK (pa_cons (pe_lc rfl sc_needed_ands.nd (k_iany (K := K) rfl (pe_ix (k_ix (K := K) rfl) (pv 0) pe_int (fun _ _ => rfl))) (blkOk_by (own := [("literal", 4)]) (N := n_needed_ands) (sc := C8.fnScope s_needed_ands) (by decide +kernel)) (fun _ _ _ _ _ => (pg_name (i := 4) sc_needed_ands.nd rfl (by first | exact Or.inl rfl | exact Or.inr rfl))) (fun _ _ _ _ _ => pts_nil) (fun _ _ _ _ _ => (pe_ix (k_ix (K := K) rfl) (pe_cG c_source_of hA hr (by first | decide | omega) rfl (pa_cons (pv 0) (pa_cons (pv 4) pa_nil))) pe_int (fun _ _ => rfl)))) pa_nil)) (by rfl))
      (pss_cons (ps_while PassesOwn.never (pt_truth (pv 2) (by intro _; rfl))
      (pss_cons (ps_asg (pe_bm0 PySem.F.plainAttrs_list PySem.F.slot_list_pop PySem.F.type_list_pop mt_pop (pv 2)) (pg_name (i := 3) sc_needed_ands.nd rfl (by first | exact Or.inl rfl | exact Or.inr rfl)))
      (pss_one (ps_if (PW.pt (pw_and (pt_truth (pe_cG c_is_and hA hr (by first | decide | omega) rfl (pa_cons (pv 0) (pa_cons (pv 3) pa_nil))) (by intro _; rfl)) (pw_and1 (pt_cmp (pc_dnotin hu (pv 3) (pv 1)))))) (pss_cons (ps_dput hu (pv 1) (pv 3) pe_bl rfl)
      (pss_one (ps_aug (i := 2) sc_needed_ands.nd rfl (by first | exact Or.inl rfl | exact Or.inr rfl) (pe_lc rfl sc_needed_ands.nd (k_iany (K := K) rfl (pe_cG c_pair_of hA hr (by first | decide | omega) rfl (pa_cons (pv 0) (pa_cons (pv 3) pa_nil)))) (blkOk_by (own := [("literal", 4)]) (N := n_needed_ands) (sc := C8.fnScope s_needed_ands) (by decide +kernel)) (fun _ _ _ _ _ => (pg_name (i := 4) sc_needed_ands.nd rfl (by first | exact Or.inl rfl | exact Or.inr rfl))) (fun _ _ _ _ _ => pts_nil) (fun _ _ _ _ _ => (pe_ix (k_ix (K := K) rfl) (pe_cG c_source_of hA hr (by first | decide | omega) rfl (pa_cons (pv 0) (pa_cons (pv 4) pa_nil))) pe_int (fun _ _ => rfl)))) iop_ext))) pss_nil))))
      (pss_one (ps_ret (pe_callB (k_sortedD (K := K) rfl rfl) (by rfl) T.sorted (by decide +kernel) (pa_cons (pv 1) pa_nil)))))),
   (ls_seq (ls_par le_dnew (le_lc (li_any (le_op le_var le_int ol_ix)) lg_name (lgw_name (by decide)) lt_yes (le_op (le_call (la_cons le_var (la_cons le_var la_nil))) le_int ol_ix)))
      (ls_seq (ls_while (lt_truth le_var)
      (ls_seq (ls_asg le_pop lg_name)
      (ls_if (lt_and (lt_truth (le_call (la_cons le_var (la_cons le_var la_nil)))) (lt_B (le_dnin le_var le_var))) (ls_seq (ls_dput le_var le_bl)
      (ls_augL (i := 2) (le_lc (li_any (le_call (la_cons le_var (la_cons le_var la_nil)))) lg_name (lgw_name (by decide)) lt_yes (le_op (le_call (la_cons le_var (la_cons le_var la_nil))) le_int ol_ix)))) ls_next)))
      (ls_ret (le_cb (la_cons le_var la_nil) cl_sortedD)))), ?_⟩
  intro ds Qc h
  obtain ⟨g, rfl, hg, hm, hq⟩ := h
  have hol := hg.ol
  have srcs : ∀ (ls : List Int) (i : Nat) (x : D), (ls.map PyData.int)[i]? = some x → ∃ l, ls[i]? = some l ∧ x = .int l := fun ls i x hx => by
    obtain ⟨hi, e⟩ := get_map hx
    exact ⟨ls[i], List.getElem?_eq_getElem hi, e⟩
  let INV : Nat → Rho → Prop := fun m ρ => ∃ (ns ws : List Int) (es ds : List _) (o3 : Option Sl), es = ns.map entI ∧ ds = ws.map PyData.int ∧ m = 3 * (g.many - ns.length) + ws.length ∧ ns.Nodup ∧ (∀ n ∈ ns, Reach g n ∧ isAnd g n) ∧ (∀ n ∈ ws, Reach g n) ∧ (∀ l ∈ g.outs, ∀ s u ch, SrcR g l s u ch → isAnd g s → s ∈ ns ∨ s ∈ ws) ∧
    (∀ n ∈ ns, ∀ s u ch, (SrcR g (prD g n).1 s u ch ∨ SrcR g (prD g n).2 s u ch) → isAnd g s → s ∈ ns ∨ s ∈ ws) ∧ ws.length ≤ 10 + 2 * ns.length ∧
    ρ = [some (.bo g.toD), some (.ow (.dict es)), some (.ow (.list ds)), o3, none]
  refine ⟨trivial, _, rfl, dLcGo_each _ (fun i d => ∃ (l s u : Int) (ch : List Int), g.outs[i]? = some l ∧ d = .int s ∧ SrcR g l s u ch) (by rw [List.length_map, sizeLine_eq]; omega) (fun i x k hx q => ?_) (fun acc hal ha => ?_)⟩
  · obtain ⟨l, hl, rfl⟩ := srcs _ i x hx
    exact ⟨g, l, rfl, hg, hg.outs l (List.mem_of_getElem? hl), fun s u ch hs => ⟨trivial, _, rfl, q _ ⟨l, s, u, ch, hl, rfl, hs⟩⟩⟩
  rw [List.length_map] at hal
  obtain ⟨ws, rfl, hwl, hw1, hw2⟩ := srcs_of hal ha
  refine ⟨INV, ⟨_, [], ws, _, _, none, rfl, rfl, rfl, List.nodup_nil, (fun _ h => nomatch h), (fun n h => ?_), (fun l h s u ch hs _ => .inr (hw2 l h s u ch hs)), (fun _ h => nomatch h), by simp; omega, rfl⟩, ?_⟩
  · obtain ⟨l, hl, u, ch, hs⟩ := hw1 n h
    exact (Reach.out hl).src hs
  clear hwl hw1 hw2 ha hal ws
  rintro m ρ ⟨ns, ws, _, _, o3, rfl, rfl, rfl, hnd, hnR, hwR', hroot, hcl, hwl, rfl⟩
  have hnl : ns.length ≤ g.many := ndp_le hnd fun n h => (hnR n h).1.ok hg
  refine ⟨⟨trivial, trivial⟩, useB_b (fun hb => ?_) (fun hb => ?_)⟩
  · have hb := (tru_ints ws).symm.trans hb
    obtain ⟨ws', w, rfl⟩ : ∃ ws' w, ws = ws' ++ [w] := by
      cases ws with
      | nil => simp at hb
      | cons x xs => exact ⟨(x :: xs).dropLast, (x :: xs).getLast (by simp), (List.dropLast_concat_getLast _).symm⟩
    clear hb
    have hwR : Reach g w := hwR' w (by simp)
    have hw'R : ∀ n ∈ ws', Reach g n := fun n h => hwR' n (by simp [h])
    have hwm := hwR.ok hg
    have hlen : (ws' ++ [w]).length = ws'.length + 1 := by simp
    rw [hlen] at hwl
    rw [List.map_append]
    have nin : (true != decide (w ∈ ns)) = true → w ∉ ns := fun h z => by rw [decide_eq_true z] at h; cases h
    have inn : (true != decide (w ∈ ns)) = false → w ∈ ns := fun h => Decidable.byContradiction fun z => by rw [decide_eq_false z] at h; cases h
    have old : (isAnd g w → w ∈ ns) → ∃ m', m' < 3 * (g.many - ns.length) + (ws' ++ [w]).length ∧ INV m' [some (.bo g.toD), some (.ow (.dict (ns.map entI))), some (.ow (.list (ws'.map PyData.int))), some (.sh (.int w)), none] := fun hw => by
      have cv : ∀ s, isAnd g s → (s ∈ ns ∨ s ∈ ws' ++ [w]) → (s ∈ ns ∨ s ∈ ws') := fun s hs hx => by
        rcases hx with h | h
        · exact .inl h
        · rcases List.mem_append.mp h with h | h
          · exact .inr h
          · have e := List.mem_singleton.mp h
            exact .inl (e ▸ hw (e ▸ hs))
      exact ⟨_, by simp, ns, ws', _, _, _, rfl, rfl, rfl, hnd, hnR, hw'R, fun l h s u ch hs ha => cv s ha (hroot l h s u ch hs ha), fun n h s u ch hs ha => cv s ha (hcl n h s u ch hs ha), by omega, rfl⟩
    refine ⟨ws'.map PyData.int, .int w, rfl, g, w, rfl, ⟨trivial, trivial⟩, useB_d (fun h1 => ⟨entI_T ns, _, lookE_ent ns w, useB_b (fun h2 => ?_) (fun h2 => old fun _ => inn h2)⟩) (fun h1 => useB_n rfl (old fun h => absurd h h1))⟩
    have hw : w ∉ ns := nin h2
    have hwA : isAnd g w := h1
    have hwF := isAnd_first.mp hwA
    refine ⟨⟨_, rfl, entI_T ns⟩, _, rfl, entI_T ns, by rw [List.length_map, sizeLine_eq]; omega, g, w, rfl, hwF, hwm.2, dLcGo_each _ (fun i d => ∃ (l s u : Int) (ch : List Int), [(prD g w).1, (prD g w).2][i]? = some l ∧ d = .int s ∧ SrcR g l s u ch) (Nat.le_of_ble_eq_true rfl) (fun i x k hx q => ?_) (fun acc hal ha => ?_)⟩
    · obtain ⟨l, hl, rfl⟩ := srcs [(prD g w).1, (prD g w).2] i x hx
      have hlm : inL l g.many := by
        have := List.mem_of_getElem? hl
        rcases List.mem_cons.mp this with rfl | h
        · exact (prD_ok hg hwF hwm.2).1
        · rw [List.mem_singleton.mp h]; exact (prD_ok hg hwF hwm.2).2
      exact ⟨g, l, rfl, hg, hlm, fun s u ch hs => ⟨trivial, _, rfl, q _ ⟨l, s, u, ch, hl, rfl, hs⟩⟩⟩
    obtain ⟨cs, rfl, hcsl, hc1, hc2⟩ := srcs_of (ls := [(prD g w).1, (prD g w).2]) hal ha
    have hcsl : cs.length = 2 := hcsl
    have hnd2 : (ns ++ [w]).Nodup := List.nodup_append.mpr ⟨hnd, List.nodup_cons.mpr ⟨List.not_mem_nil, List.nodup_nil⟩, fun a ha b hb e => hw (by rw [← List.mem_singleton.mp hb, ← e]; exact ha)⟩
    have hnR2 : ∀ n ∈ ns ++ [w], Reach g n ∧ isAnd g n := fun n h => by
      rcases List.mem_append.mp h with h | h
      · exact hnR n h
      · rw [List.mem_singleton.mp h]; exact ⟨hwR, hwA⟩
    have h1 : (ns ++ [w]).length ≤ g.many := ndp_le hnd2 fun n h => (hnR2 n h).1.ok hg
    have cv : ∀ s, (s ∈ ns ∨ s ∈ ws' ++ [w]) → (s ∈ ns ++ [w] ∨ s ∈ ws' ++ cs) := fun s hx => by
      rcases hx with h | h
      · exact .inl (List.mem_append_left _ h)
      · rcases List.mem_append.mp h with h | h
        · exact .inr (List.mem_append_left _ h)
        · exact .inl (List.mem_append_right _ h)
    refine ⟨_, rfl, by simp only [List.length_map]; rw [sizeLine_eq]; omega, _, ?_, ns ++ [w], ws' ++ cs, _, _, _, ?_, ?_, rfl, hnd2, hnR2, fun n h => ?_, fun l h s u ch hs ha => cv s (hroot l h s u ch hs ha), fun n h s u ch hs ha => ?_, ?_, rfl⟩
    · simp only [List.length_append, List.length_singleton] at h1 ⊢
      omega
    · show putE (ns.map entI) (.inl w) (.bool true) = _
      rw [putE_ent, if_neg hw]
    · rw [List.map_append]
    · rcases List.mem_append.mp h with h | h
      · exact hw'R n h
      · obtain ⟨l, hl, u, ch, hs⟩ := hc1 n h
        rcases List.mem_cons.mp hl with rfl | hl
        · exact (Reach.one hwR hwF hwm.2).src hs
        · rw [List.mem_singleton.mp hl] at hs; exact (Reach.two hwR hwF hwm.2).src hs
    · rcases List.mem_append.mp h with h | h
      · exact cv s (hcl n h s u ch hs ha)
      · rw [List.mem_singleton.mp h] at hs
        rcases hs with hs | hs
        · exact .inr (List.mem_append_right _ (hc2 _ (by simp) s u ch hs))
        · exact .inr (List.mem_append_right _ (hc2 _ (by simp) s u ch hs))
    · simp only [List.length_append, List.length_singleton]
      omega
  · have hb := (tru_ints ws).symm.trans hb
    have hws : ws = [] := by simpa using hb
    subst hws
    refine ⟨entI_T ns, ?_⟩
    show wN (keysI _) _
    rw [keysI_ent]
    refine ⟨by omega, fun ms hp hs => hq ms ⟨hs, perm_nodup hp hnd, fun n => ⟨fun h => hnR n (hp.subset h), fun ⟨h, ha⟩ => hp.symm.subset ?_⟩⟩⟩
    refine complete hg (F := fun n => n ∈ ns) (fun l h s u ch hs ha => (hroot l h s u ch hs ha).elim id fun h => nomatch h) (fun n h _ _ s u ch hs ha => (hcl n h s u ch hs ha).elim id fun h => nomatch h) h n ⟨0, fun j hj => absurd hj (Nat.not_lt_zero _), rfl, fun hr => ?_⟩ ha
    have h2 := hr.2
    unfold isAnd at ha
    omega
abbrev s_law_ands : Stmt := topS 18
abbrev n_law_ands : List Str := ["_law_graph", "_law_node"]
theorem sc_law_ands : FnScope n_law_ands ["_law_graph"] (C8.fnScope s_law_ands) := C8.fnScope_by (by decide +kernel)
theorem ok_law_ands {a : Addr} {fd : FuncData} (F : C8.Def K mg "_law_ands" s_law_ands a fd) (b : Binds K fd ["_law_graph"] []) (T : Txt mg) (c_law_needed : CalG P w K mg base 1 "_law_needed" (spD K [.bo] (Cneed))) : CalG P w K mg base (2) "_law_ands" (spD K [.bo] (Cands)) := by
  refine calG F b sc_law_ands rfl (fun cdv A outer s H E hA hr => ?_)
  have hu := huOf hr
  have hu64 := hr.units
  refine ⟨_, _, (pss_one (ps_ret (pe_lc rfl sc_law_ands.nd (k_iany (K := K) rfl (pe_cG c_law_needed hA hr (by first | decide | omega) rfl (pa_cons (pv 0) pa_nil))) (blkOk_by (own := [("_law_node", 1)]) (N := n_law_ands) (sc := C8.fnScope s_law_ands) (by decide +kernel)) (fun _ _ _ _ _ => (pg_name (i := 1) sc_law_ands.nd rfl (by first | exact Or.inl rfl | exact Or.inr rfl))) (fun _ _ _ _ _ => (pts_one (pt_cmpR op_gt (pv 1) (pe_op (k_add (K := K) rfl) (pe_ix (k_ix (K := K) rfl) (pv 0) pe_int (fun _ _ => rfl)) (pe_callB (k_lenA (K := K) rfl) (by rfl) T.len (by decide +kernel) (pa_cons (pe_ix (k_ix (K := K) rfl) (pv 0) pe_int (fun _ _ => rfl)) pa_nil))) (nomark _)))) (fun _ _ _ _ _ => (pv 1))))),
   (ls_ret (le_lc (li_any (le_call (la_cons le_var la_nil))) lg_name (lgw_name (by decide)) (lt_test (le_op le_var (le_op (le_op le_var le_int ol_ix) (le_cb (la_cons (le_op le_var le_int ol_ix) la_nil) cl_lenA) ol_add) ol_gt)) le_var)), ?_⟩
  intro ds Qc h
  obtain ⟨g, rfl, hg, hm, hq⟩ := h
  refine ⟨g, rfl, hg, hm, fun ms hms => ?_⟩
  have hml : ms.length ≤ g.many := ndp_le hms.nd fun n h => ((hms.mem n).mp h).ok hg
  refine dLcGo_of _ (fun i acc ρ => ∃ ds, ds = acc ∧ acc = ((ms.take i).filter fun n => decide (isAnd g n)).map PyData.int ∧ ρ = [some (.bo g.toD), none]) ⟨_, rfl, rfl, rfl⟩ ?_ ?_
  · rintro i x acc ρ k hx ⟨_, rfl, rfl, rfl⟩ next
    obtain ⟨hi, rfl⟩ := get_map hx
    have hlen := List.length_filter_le (fun n => decide (isAnd g n)) (ms.take i)
    rw [List.length_take] at hlen
    have tst : decide ((g.ins : Int) + ((g.regs.map pD).length : Nat) < ms[i]) = decide (isAnd g ms[i]) := by rw [List.length_map]; rfl
    refine ⟨trivial, _, rfl, trivial, _, rfl, useB_b (fun h => ⟨by rw [List.length_map, sizeLine_eq]; omega, next _ _ ⟨_, rfl, ?_, rfl⟩⟩) (fun h => next _ _ ⟨_, rfl, ?_, rfl⟩)⟩
    · rw [filter_succ hi, if_pos (tst.symm.trans h), List.map_append]; rfl
    · rw [filter_succ hi, if_neg (by rw [tst.symm.trans h]; exact Bool.false_ne_true)]
  · rintro acc ρ ⟨_, rfl, rfl, rfl⟩
    rw [List.length_map, List.take_length]
    exact hq _ hms.filter
abbrev s_still_registers : Stmt := topS 7
abbrev n_still_registers : List Str := ["graph", "first", "node"]
theorem sc_still_registers : FnScope n_still_registers ["graph"] (C8.fnScope s_still_registers) := C8.fnScope_by (by decide +kernel)
theorem ok_still_registers {a : Addr} {fd : FuncData} (F : C8.Def K mg "still_registers" s_still_registers a fd) (b : Binds K fd ["graph"] []) (T : Txt mg) (c_source_of : CalG P w K mg base 2 "source_of" (spD K [.bo, .bo] (Csrc))) : CalG P w K mg base (3) "still_registers" (spD K [.bo] (Cstill)) := by
  refine calG F b sc_still_registers rfl (fun cdv A outer s H E hA hr => ?_)
  have hu := huOf hr
  have hu64 := hr.units
  refine ⟨_, _, (pss_cons (ps_asg (pe_op (k_add (K := K) rfl) (pe_ix (k_ix (K := K) rfl) (pv 0) pe_int (fun _ _ => rfl)) pe_int) (pg_name (i := 1) sc_still_registers.nd rfl (by first | exact Or.inl rfl | exact Or.inr rfl)))
      (pss_one (ps_ret (pe_lc rfl sc_still_registers.nd (pi_range2 (by rfl) T.range (pa_cons (pv 1) (pa_cons (pe_op (k_add (K := K) rfl) (pv 1) (pe_callB (k_lenA (K := K) rfl) (by rfl) T.len (by decide +kernel) (pa_cons (pe_ix (k_ix (K := K) rfl) (pv 0) pe_int (fun _ _ => rfl)) pa_nil))) pa_nil))) (blkOk_by (own := [("node", 2)]) (N := n_still_registers) (sc := C8.fnScope s_still_registers) (by decide +kernel)) (fun _ _ _ _ _ => (pg_name (i := 2) sc_still_registers.nd rfl (by first | exact Or.inl rfl | exact Or.inr rfl))) (fun _ _ _ _ _ => (pts_one (pt_cmpR (k_eq (K := K) rfl hu64) (pe_cG c_source_of hA hr (by first | decide | omega) rfl (pa_cons (pv 0) (pa_cons (pe_op op_mulA pe_int (pv 2)) pa_nil))) (pe_tup (pa_cons (pv 2) (pa_cons pe_int (pa_cons (pe_tup pa_nil) pa_nil)))) (nomark _)))) (fun _ _ _ _ _ => (pv 2)))))),
   (ls_seq (ls_asg (le_op (le_op le_var le_int ol_ix) le_int ol_add) lg_name)
      (ls_ret (le_lc (li_rng2 (la_cons le_var (la_cons (le_op le_var (le_cb (la_cons (le_op le_var le_int ol_ix) la_nil) cl_lenA) ol_add) la_nil))) lg_name (lgw_name (by decide)) (lt_test (le_op (le_call (la_cons le_var (la_cons (le_op le_int le_var ol_mul) la_nil))) (le_tup (la_cons le_var (la_cons le_int (la_cons (le_tup la_nil) la_nil)))) ol_eq)) le_var))), ?_⟩
  intro ds Qc h
  obtain ⟨g, rfl, hg, hq⟩ := h
  have hrl := hg.rl
  have hin := hg.ins
  have eR : ((g.regs.map pD).length : Nat) = g.regs.length := List.length_map ..
  refine ⟨trivial, _, rfl, trivial, _, rfl, ⟨by omega, by omega, by omega, by omega⟩, dLcGo_of _ (fun i acc ρ => ∃ ms, acc = ms.map PyData.int ∧ SL (StillTo g i) ms ∧ ms.length ≤ i ∧ ρ = [some (.bo g.toD), some (.sh (.int ((g.ins : Int) + 1))), none]) ⟨[], rfl, stillTo_zero g, Nat.le_refl _, rfl⟩ ?_ ?_⟩
  · skip
    rintro i x acc ρ k hx ⟨ms, rfl, hms, hml, rfl⟩ next
    have hi : i < (rngD ((g.ins : Int) + 1) ((g.ins : Int) + 1 + ((g.regs.map pD).length : Nat) - ((g.ins : Int) + 1)).toNat).length := (List.getElem?_eq_some_iff.mp hx).1
    rw [rngD_length, eR] at hi
    have hi : i < g.regs.length := by omega
    obtain ⟨hj2, rfl⟩ := get_map hx
    simp only [List.getElem_range]
    refine ⟨.inl ⟨by decide, by decide⟩, g, 2 * ((g.ins : Int) + 1 + i), rfl, hg, by unfold inL Gr.many Gr.first; omega, fun s u ch hs => ⟨Nat.le_of_ble_eq_true rfl, Nat.le_of_ble_eq_true rfl, (sh_src s u ch).ok2 (.tuple (.cons ((SH.int _).mono (by decide : 0 ≤ 1)) (.cons ((SH.int _).mono (by decide)) (.cons (.tuple .nil) .nil)))) (by decide) (by decide), ?_⟩⟩
    have hstep := stillTo_step hms hs
    refine useB_b (fun h => ⟨by rw [List.length_map, sizeLine_eq]; omega, next _ _ ⟨ms ++ [(g.ins : Int) + 1 + i], by simp, ?_, by simp; omega, rfl⟩⟩) (fun h => next _ _ ⟨ms, rfl, ?_, by omega, rfl⟩)
    · rw [if_pos ((still_tst s u _ ch).symm.trans h)] at hstep
      exact hstep
    · rw [if_neg (by rw [(still_tst s u ((g.ins : Int) + 1 + i) ch).symm.trans h]; exact Bool.false_ne_true)] at hstep
      exact hstep
  · rintro acc ρ ⟨ms, rfl, hms, hml, rfl⟩
    rw [rngD_length, eR] at hms hml
    have e : ((g.ins : Int) + 1 + (g.regs.length : Nat) - ((g.ins : Int) + 1)).toNat = g.regs.length := by omega
    rw [e] at hms hml
    exact hq _ (stillTo_all hms) (by omega)
abbrev s_law_edges : Stmt := topS 19
abbrev n_law_edges : List Str := ["_law_graph", "_law_first", "_law_inner", "_law_outer", "_law_node", "_law_side", "_law_start", "_law_turns", "_law_chain", "_law_number"]
theorem sc_law_edges : FnScope n_law_edges ["_law_graph"] (C8.fnScope s_law_edges) := C8.fnScope_by (by decide +kernel)
theorem ok_law_edges {a : Addr} {fd : FuncData} (F : C8.Def K mg "_law_edges" s_law_edges a fd) (b : Binds K fd ["_law_graph"] []) (T : Txt mg) (c_law_ands : CalG P w K mg base 2 "_law_ands" (spD K [.bo] (Cands))) (c_law_origin : CalG P w K mg base 2 "_law_origin" (spD K [.bo, .bo] (Csrc))) : CalG P w K mg base (3) "_law_edges" (spD K [.bo] (Cedges)) := by
  refine calG F b sc_law_edges rfl (fun cdv A outer s H E hA hr => ?_)
  have hu := huOf hr
  have hu64 := hr.units
  refine ⟨_, _, (pss_cons (ps_par3 (i := 1) (j := 2) (l := 3) (by rfl) sc_law_edges.nd rfl rfl rfl (by decide) (by decide) (by decide) rfl rfl rfl (pa_cons (pe_op (k_add (K := K) rfl) (pe_op (k_add (K := K) rfl) pe_int (pe_ix (k_ix (K := K) rfl) (pv 0) pe_int (fun _ _ => rfl))) (pe_callB (k_lenA (K := K) rfl) (by rfl) T.len (by decide +kernel) (pa_cons (pe_ix (k_ix (K := K) rfl) (pv 0) pe_int (fun _ _ => rfl)) pa_nil))) (pa_cons (pe_lst pa_nil) (pa_cons (pe_lst pa_nil) pa_nil))) (by rfl))
      (pss_cons (ps_for PassesOwn.never rfl (k_iany (K := K) rfl (pe_cG c_law_ands hA hr (by first | decide | omega) rfl (pa_cons (pv 0) pa_nil))) (pg_name (i := 4) sc_law_edges.nd rfl (by first | exact Or.inl rfl | exact Or.inr rfl))
      (pss_one (ps_for PassesOwn.never rfl (pi_range1 (by rfl) T.range (pa_cons pe_int pa_nil)) (pg_name (i := 5) sc_law_edges.nd rfl (by first | exact Or.inl rfl | exact Or.inr rfl))
      (pss_cons (ps_asg (pe_cG c_law_origin hA hr (by first | decide | omega) rfl (pa_cons (pv 0) (pa_cons (pe_ix (k_ix (K := K) rfl) (pe_ix (k_ix (K := K) rfl) (pe_ix (k_ix (K := K) rfl) (pv 0) pe_int (fun _ _ => rfl)) (pe_op op_sub (pv 4) (pv 1)) (fun _ _ => rfl)) (pv 5) (fun _ _ => rfl)) pa_nil))) (k_gtup (n := 3) (K := K) rfl (by rfl) (pgs_cons (pg_name (i := 6) sc_law_edges.nd rfl (by first | exact Or.inl rfl | exact Or.inr rfl)) (pgs_cons (pg_name (i := 7) sc_law_edges.nd rfl (by first | exact Or.inl rfl | exact Or.inr rfl)) (pgs_cons (pg_name (i := 8) sc_law_edges.nd rfl (by first | exact Or.inl rfl | exact Or.inr rfl)) pgs_nil)))))
      (pss_one (ps_expr (pe_bm PySem.F.plainAttrs_list PySem.F.slot_list_append PySem.F.type_list_append mt_append (pv 2) (pa_cons (pe_tup (pa_cons (pv 6) (pa_cons (pv 4) (pa_cons (pv 5) (pa_cons (pe_callB (k_lenA (K := K) rfl) (by rfl) T.len (by decide +kernel) (pa_cons (pv 8) pa_nil)) pa_nil))))) pa_nil))))))))
      (pss_cons (ps_for PassesOwn.never rfl (pi_range1 (by rfl) T.range (pa_cons (pe_callB (k_lenA (K := K) rfl) (by rfl) T.len (by decide +kernel) (pa_cons (pe_ix (k_ix (K := K) rfl) (pv 0) pe_int (fun _ _ => rfl)) pa_nil)) pa_nil)) (pg_name (i := 9) sc_law_edges.nd rfl (by first | exact Or.inl rfl | exact Or.inr rfl))
      (pss_cons (ps_asg (pe_cG c_law_origin hA hr (by first | decide | omega) rfl (pa_cons (pv 0) (pa_cons (pe_ix (k_ix (K := K) rfl) (pe_ix (k_ix (K := K) rfl) (pv 0) pe_int (fun _ _ => rfl)) (pv 9) (fun _ _ => rfl)) pa_nil))) (k_gtup (n := 3) (K := K) rfl (by rfl) (pgs_cons (pg_name (i := 6) sc_law_edges.nd rfl (by first | exact Or.inl rfl | exact Or.inr rfl)) (pgs_cons (pg_name (i := 7) sc_law_edges.nd rfl (by first | exact Or.inl rfl | exact Or.inr rfl)) (pgs_cons (pg_name (i := 8) sc_law_edges.nd rfl (by first | exact Or.inl rfl | exact Or.inr rfl)) pgs_nil)))))
      (pss_one (ps_expr (pe_bm PySem.F.plainAttrs_list PySem.F.slot_list_append PySem.F.type_list_append mt_append (pv 3) (pa_cons (pe_tup (pa_cons (pv 6) (pa_cons (pv 9) (pa_cons (pe_callB (k_lenA (K := K) rfl) (by rfl) T.len (by decide +kernel) (pa_cons (pv 8) pa_nil)) pa_nil)))) pa_nil))))))
      (pss_one (ps_ret (pe_tup (pa_cons (pv 2) (pa_cons (pv 3) pa_nil)))))))),
   (ls_seq (ls_par3 (le_op (le_op le_int (le_op le_var le_int ol_ix) ol_add) (le_cb (la_cons (le_op le_var le_int ol_ix) la_nil) cl_lenA) ol_add) (le_lst la_nil) (le_lst la_nil))
      (ls_seq (ls_for (li_any (le_call (la_cons le_var la_nil))) lg_name
      (ls_for (li_rng1 (la_cons le_int la_nil)) lg_name
      (ls_seq (ls_asg (le_call (la_cons le_var (la_cons (le_op (le_op (le_op le_var le_int ol_ix) (le_op le_var le_var ol_sub) ol_ix) le_var ol_ix) la_nil))) (lg_tup (lgs_cons lg_name (lgs_cons lg_name (lgs_cons lg_name lgs_nil)))))
      (ls_app (le_tup (la_cons le_var (la_cons le_var (la_cons le_var (la_cons (le_cb (la_cons le_var la_nil) cl_lenA) la_nil)))))))))
      (ls_seq (ls_for (li_rng1 (la_cons (le_cb (la_cons (le_op le_var le_int ol_ix) la_nil) cl_lenA) la_nil)) lg_name
      (ls_seq (ls_asg (le_call (la_cons le_var (la_cons (le_op (le_op le_var le_int ol_ix) le_var ol_ix) la_nil))) (lg_tup (lgs_cons lg_name (lgs_cons lg_name (lgs_cons lg_name lgs_nil)))))
      (ls_app (le_tup (la_cons le_var (la_cons le_var (la_cons (le_cb (la_cons le_var la_nil) cl_lenA) la_nil)))))))
      (ls_ret (le_tup (la_cons le_var (la_cons le_var la_nil))))))), ?_⟩
  intro ds Qc h
  obtain ⟨g, rfl, hg, hm, hq⟩ := h
  have hol := hg.ol
  have hf : (1 : Int) + g.ins + ((g.regs.map pD).length : Nat) = (g.first : Int) := by unfold Gr.first; rw [List.length_map]; simp
  have hff : (g.first : Int) = 1 + g.ins + g.regs.length := by unfold Gr.first; simp
  have hmany : (g.many : Int) = g.first + g.ands.length := by unfold Gr.many; simp
  refine ⟨trivial, _, rfl, trivial, _, rfl, Nat.le_of_ble_eq_true rfl, Nat.le_of_ble_eq_true rfl, g, rfl, hg, hm, fun ms hms => ?_⟩
  have hml : ms.length ≤ g.many := ndp_le hms.nd fun n h => ((hms.mem n).mp h).1.ok hg
  have lasts : ∀ {A : List D} {d : D}, (∀ d ∈ A, lastI d) → lastI d → ∀ d' ∈ A ++ [d], lastI d' := fun hA hd d' h' => (List.mem_append.mp h').elim (hA d') fun h => List.mem_singleton.mp h ▸ hd
  refine dLoop_of (ms.map PyData.int) (fun i ρ => ∃ (A : List D) (o4 o5 o6 o7 o8 : Option Sl), A.length ≤ 2 * i ∧ (∀ d ∈ A, lastI d) ∧ ρ = [some (.bo g.toD), some (.sh (.int (g.first : Int))), some (.ow (.list A)), some (.ow (.list [])), o4, o5, o6, o7, o8, none]) ⟨[], _, _, _, _, _, Nat.le_refl _, (fun _ h => nomatch h), by rw [← hf]; rfl⟩ ?_ ?_
  · rintro i x ρ k hx ⟨A, o4, o5, o6, o7, o8, hAl, hA, rfl⟩ next
    obtain ⟨hi, rfl⟩ := get_map hx
    obtain ⟨hR, hAnd⟩ := (hms.mem _).mp (List.getElem_mem hi)
    have hwF := isAnd_first.mp hAnd
    have hwm := hR.ok hg
    have hwm2 : ms[i] < g.many := hwm.2
    generalize ms[i] = w at *
    refine ⟨⟨by decide, by decide⟩, dLoop_of _ (fun j ρ => ∃ (A : List D) (o5 o6 o7 o8 : Option Sl), A.length ≤ 2 * i + j ∧ (∀ d ∈ A, lastI d) ∧ ρ = [some (.bo g.toD), some (.sh (.int (g.first : Int))), some (.ow (.list A)), some (.ow (.list [])), some (.sh (.int w)), o5, o6, o7, o8, none]) ⟨A, _, _, _, _, hAl, hA, rfl⟩ ?_ ?_⟩
    · rintro j y ρ k hy ⟨A, o5, o6, o7, o8, hAl, hA, rfl⟩ next
      obtain ⟨s, rfl, s1, s2⟩ := mem_rng (List.mem_of_getElem? hy)
      have s2 : s < 2 := s2
      have e : w - (g.first : Int) = w - g.ins - g.regs.length - 1 := by omega
      have hat : atI (g.ands.map pD) (w - (g.first : Int)) = some (pD (prD g w)) := by
        rw [e]
        exact atI_pD (by omega) (by omega)
      have hlit : ∃ l, atI [PyData.int (prD g w).1, PyData.int (prD g w).2] s = some (.int l) ∧ inL l g.many := by
        rcases (by omega : s = 0 ∨ s = 1) with rfl | rfl
        · exact ⟨_, atI0, (prD_ok hg hwF hwm2).1⟩
        · exact ⟨_, atI1, (prD_ok hg hwF hwm2).2⟩
      obtain ⟨l, hl1, hl2⟩ := hlit
      have hj : j < (rngD 0 (2 : Int).toNat).length := (List.getElem?_eq_some_iff.mp hy).1
      rw [rngD_length] at hj
      have hj : j < 2 := hj
      exact ⟨trivial, _, rfl, trivial, _, hat, trivial, _, hl1, g, l, rfl, hg, hl2, fun s' u ch hs => ⟨rfl, rfl, Nat.le_of_ble_eq_true rfl, by rw [sizeLine_eq]; omega, next _ ⟨A ++ [.tuple [.int s', .int w, .int s, .int ((ch.map PyData.int).length : Nat)]], _, _, _, _, by simp; omega, lasts hA ⟨[s', w, s], _, rfl⟩, rfl⟩⟩⟩
    · rintro ρ ⟨A, o5, o6, o7, o8, hAl, hA, rfl⟩
      rw [rngD_length] at hAl
      have hAl : A.length ≤ 2 * i + 2 := hAl
      exact next _ ⟨A, _, _, _, _, _, by omega, hA, rfl⟩
  · rintro ρ ⟨A, o4, o5, o6, o7, o8, hAl, hA, rfl⟩
    rw [List.length_map] at hAl
    have eo : ((g.outs.map PyData.int).length : Nat) = g.outs.length := List.length_map ..
    refine ⟨trivial, _, rfl, ⟨by omega, by omega⟩, dLoop_of _ (fun j ρ => ∃ (B : List D) (o4 o5 o6 o7 o8 o9 : Option Sl), B.length ≤ j ∧ (∀ d ∈ B, lastI d) ∧ ρ = [some (.bo g.toD), some (.sh (.int (g.first : Int))), some (.ow (.list A)), some (.ow (.list B)), o4, o5, o6, o7, o8, o9]) ⟨[], _, _, _, _, _, _, Nat.le_refl _, (fun _ h => nomatch h), rfl⟩ ?_ ?_⟩
    · rintro j y ρ k hy ⟨B, o4, o5, o6, o7, o8, o9, hBl, hB, rfl⟩ next
      obtain ⟨n, rfl, n1, n2⟩ := mem_rng (List.mem_of_getElem? hy)
      rw [eo] at n2
      have n2 : n < g.outs.length := by omega
      have hj : j < (rngD 0 (((g.outs.map PyData.int).length : Nat) : Int).toNat).length := (List.getElem?_eq_some_iff.mp hy).1
      rw [rngD_length, eo] at hj
      have hj : j < g.outs.length := by omega
      refine ⟨trivial, _, rfl, trivial, _, atI_map n1 n2, g, _, rfl, hg, hg.outs _ (List.getElem_mem _), fun s' u ch hs => ⟨rfl, rfl, Nat.le_of_ble_eq_true rfl, by rw [sizeLine_eq]; omega, next _ ⟨B ++ [.tuple [.int s', .int n, .int ((ch.map PyData.int).length : Nat)]], _, _, _, _, _, _, by simp; omega, lasts hB ⟨[s', n], _, rfl⟩, rfl⟩⟩⟩
    · rintro ρ ⟨B, o4, o5, o6, o7, o8, o9, hBl, hB, rfl⟩
      rw [rngD_length, eo] at hBl
      exact ⟨Nat.le_of_ble_eq_true rfl, hq A B (by omega) (by omega) hA hB⟩
abbrev s_law_pick : Stmt := topS 10
abbrev n_law_pick : List Str := ["_law_source_here", "_law_many", "_law_left", "_law_mixed"]
theorem sc_law_pick : FnScope n_law_pick ["_law_source_here", "_law_many"] (C8.fnScope s_law_pick) := C8.fnScope_by (by decide +kernel)
theorem ok_law_pick {a : Addr} {fd : FuncData} (F : C8.Def K mg "_law_pick" s_law_pick a fd) (b : Binds K fd ["_law_source_here", "_law_many"] []) (T : Txt mg) : CalG P w K mg base 1 "_law_pick" (spD K [.src, .bo] Cpick) := by
  refine ⟨a, fd, _, fnG_of F.fn sc_law_pick (fun vs H Q E h => ?_) (fun cdv A outer s H vs Q E hA hr h => ?_), F.mgf, F.kp, b⟩
  · obtain ⟨M0, src, ds, P, _⟩ := h
    exact P.args.length.1.symm
  obtain ⟨M0, src, ds, P, Qc, ⟨m, rfl, hm, hQc⟩, hQ⟩ := h
  obtain ⟨p, c, rfl, rfl, hpc, hsrc⟩ := pre_src2 P
  have fin : ∀ (k : Int) (H' : Hp), 0 ≤ k → k < m → Fm H p c H' → SrcOk H' p c → Q (.int k) H' := fun k H' h1 h2 f s => hQ _ (hQc k h1 h2) _ _ (f.post s fun _ => .int k)
  have hcp : c ≠ p := Ne.symm hpc
  have hu : _ + 1 < cLine := Nat.lt_of_le_of_lt (Nat.add_le_add_left (by decide : 1 ≤ 64) _) hr.units
  have hu64 := hr.units
  refine ⟨_, PSs.nox (pss_cons (ps_while PassesOwn.never (PW.pt (pw_and (pt_cmpR op_gt (pv 1) pe_int (nomark _)) (pw_and (pt_cmpR op_lt (pe_dget hu (pv 0) pe_str (fun _ _ => rfl)) pe_int (nomark _)) (pw_and1 (pt_cmpR op_gt (pe_callB call_len (by rfl) T.len (by decide +kernel) (pa_cons (pe_dget hu (pv 0) pe_str (fun _ _ => rfl)) pa_nil)) pe_int (nomark _))))))
      (pss_one (ps_dput hu (pv 0) pe_str (pe_bm0 PySem.F.plainAttrs_list PySem.F.slot_list_pop PySem.F.type_list_pop mt_pop (pe_dget hu (pv 0) pe_str (fun _ _ => rfl))) rfl)))
      (pss_cons (ps_asg (pe_dget hu (pv 0) pe_str (fun _ _ => rfl)) (pg_name (i := 2) sc_law_pick.nd rfl (by first | exact Or.inl rfl | exact Or.inr rfl)))
      (pss_cons (ps_if (PW.pt (pw_or (pt_cmpR op_lt (pv 1) pe_int (nomark _)) (pw_or1 (pt_cmpR op_gt (pv 2) pe_int (nomark _))))) (pss_cons (ps_dput hu (pv 0) pe_str (pe_op op_fdivL (pv 2) (pe_callB (call_max2 rfl) (by rfl) T.max (by decide +kernel) (pa_cons pe_int (pa_cons (pv 1) pa_nil)))) rfl)
      (pss_one (ps_ret (pe_op op_modN (pe_callTy call_int1 (by rfl) T.int (by decide +kernel) (pa_cons (pv 2) pa_nil)) (pe_callB (call_max2 rfl) (by rfl) T.max (by decide +kernel) (pa_cons pe_int (pa_cons (pv 1) pa_nil))))))) pss_nil)
      (pss_cons (ps_dput hu (pv 0) pe_str (pe_op op_add (pe_dget hu (pv 0) pe_str (fun _ _ => rfl)) pe_int) rfl)
      (pss_cons (ps_asg (pe_op op_modN (pe_callTy call_int1 (by rfl) T.int (by decide +kernel) (pa_cons (pe_op op_add (pe_dget hu (pv 0) pe_str (fun _ _ => rfl)) (pe_op op_mul (pe_dget hu (pv 0) pe_str (fun _ _ => rfl)) pe_int)) pa_nil)) pe_int) (pg_name (i := 3) sc_law_pick.nd rfl (by first | exact Or.inl rfl | exact Or.inr rfl)))
      (pss_cons (ps_asg (pe_op op_modN (pe_callTy call_int1 (by rfl) T.int (by decide +kernel) (pa_cons (pe_op op_add (pe_op op_mul (pv 3) (pv 3)) (pe_op op_mul (pe_dget hu (pv 0) pe_str (fun _ _ => rfl)) pe_int)) pa_nil)) pe_int) (pg_name (i := 3) sc_law_pick.nd rfl (by first | exact Or.inl rfl | exact Or.inr rfl)))
      (pss_cons (ps_dput hu (pv 0) pe_str (pv 3) rfl)
      (pss_one (ps_ret (pe_op op_modN (pe_callTy call_int1 (by rfl) T.int (by decide +kernel) (pa_cons (pe_op op_fdivL (pv 3) pe_int) pa_nil)) (pv 1))))))))))), ?_⟩
  obtain ⟨ns0, l0, m0, t0, mo0, S0⟩ := hsrc.sx
  refine ⟨fun n σ' H' => σ' = [some (.ref p), some (.int m), none, none] ∧ Fm H p c H' ∧ ∃ ns l mi t more, Sx c H' p ns l mi t more ∧ n = ns.length, ⟨_, rfl, Fm.refl, ns0, l0, m0, t0, mo0, S0, rfl⟩, ?_⟩
  rintro n σ' H' ⟨rfl, f, ns, l, mi, t, more, S, rfl⟩
  refine ⟨_, rfl, _, _, rfl, rfl, _, rfl, ite_b (fun h1 => ⟨_, rfl, p, .int l, rfl, S.gL, _, _, rfl, rfl, _, rfl, ite_b (fun h2 => ⟨_, rfl, p, .ref c, rfl, S.gC, _, _, rfl, .inl ⟨_, .inl (.inl S.hc), rfl⟩, _, _, rfl, rfl, _, rfl, ite_b (fun h3 => ?turn) (fun h3 => ?t1)⟩) (fun h2 => ?t2)⟩) (fun h1 => ?t3)⟩
  case turn =>
    have hne : 0 < ns.length := by simpa using h3
    refine ⟨fun σ'' H'' => ∃ k, k < ns.length ∧ (σ'' = [some (.ref p), some (.int m), none, none] ∧ Fm H p c H'' ∧ ∃ ns l mi t more, Sx c H'' p ns l mi t more ∧ k = ns.length), fun _ _ h => h, ?_⟩
    obtain ⟨ms, q, rfl⟩ : ∃ ms q, ns = ms ++ [q] := ⟨ns.dropLast, ns.getLast (by intro z; simp [z] at hne), (List.dropLast_concat_getLast _).symm⟩
    have hq : 0 ≤ q := S.nn q (by simp)
    refine ⟨_, rfl, p, .ref c, rfl, S.gC, .inl ⟨rfl, _, .inl (.inl S.hc)⟩, c, _, .int q, rfl, rfl, S.hc, by simp, ?_⟩
    have e1 : ((ms ++ [q]).map V.int).dropLast = ms.map V.int := by simp
    rw [e1]
    have S1 := S.setC hcp (ms := ms) fun n hn => S.nn n (by simp [hn])
    exact ⟨_, rfl, p, _, rfl, S1.pL (x := q), ms.length, by simp, rfl, f.updC.updP, ms, q, mi, t, more, S1.setL hcp hq, rfl⟩
  all_goals
    first | rw [if_neg Bool.false_ne_true] | skip
    have hmx : (if m > 1 then m else 1) = m := by split <;> omega
    have l0 := S.l0
    refine ⟨_, rfl, p, .int l, rfl, S.gL, ?_⟩
    refine ⟨_, rfl, _, _, rfl, rfl, _, rfl, ite_b (fun g1 => ?_) (fun g1 => ⟨_, rfl, _, _, rfl, rfl, _, rfl, ite_b (fun g2 => ?_) (fun g2 => ?_)⟩)⟩
    rotate_right 1
    ·
      have g1 : ¬ m < 2 := by simpa using g1
      have S1 := S.setT (x := t + 1) hcp
      have m1 : 0 ≤ (mi + (t + 1) * 104729).fmod 998244353 ∧ (mi + (t + 1) * 104729).fmod 998244353 < 998244353 := ⟨Int.fmod_nonneg_of_pos _ (by decide), Int.fmod_lt_of_pos _ (by decide)⟩
      generalize hm1 : (mi + (t + 1) * 104729).fmod 998244353 = M1 at m1
      have m2 : 0 ≤ (M1 * M1 + (t + 1) * 17).fmod 2147483647 ∧ (M1 * M1 + (t + 1) * 17).fmod 2147483647 < 2147483647 := ⟨Int.fmod_nonneg_of_pos _ (by decide), Int.fmod_lt_of_pos _ (by decide)⟩
      generalize hm2 : (M1 * M1 + (t + 1) * 17).fmod 2147483647 = M2 at m2
      have S2 := S1.setM (x := M2) hcp m2.1 m2.2
      refine ⟨_, rfl, p, _, rfl, S.gT, _, _, rfl, rfl, _, rfl, p, _, rfl, S.pT, ?_⟩
      refine ⟨_, rfl, p, _, rfl, S1.gM, _, rfl, p, _, rfl, S1.gT, _, _, rfl, rfl, .inr ⟨by decide, by decide⟩, _, _, rfl, rfl, .inl ⟨_, rfl, _, _, rfl, rfl, (by intro z; cases z), ?_⟩⟩
      dsimp only []
      rw [hm1]
      refine ⟨_, rfl, _, rfl, _, _, rfl, rfl, .inl ⟨by omega, by omega⟩, _, rfl, p, _, rfl, S1.gT, _, _, rfl, rfl, .inr ⟨by decide, by decide⟩, _, _, rfl, rfl, .inl ⟨_, rfl, _, _, rfl, rfl, (by intro z; cases z), ?_⟩⟩
      dsimp only []
      rw [hm2]
      refine ⟨_, rfl, _, rfl, p, _, rfl, S1.pM, _, rfl, _, _, rfl, rfl, ⟨by decide, by decide⟩, .inl ⟨_, rfl, _, rfl, _, _, rfl, rfl, by omega, ?_⟩⟩
      exact fin _ _ (Int.fmod_nonneg_of_pos _ (by omega)) (Int.fmod_lt_of_pos _ (by omega)) f.updP.updP S2.ok
    all_goals
      refine ⟨_, rfl, _, rfl, _, _, rfl, ?_⟩
      rw [hmx]
      refine ⟨_, _, rfl, rfl, ⟨by omega, log_pick hm.1 hm.2⟩, _, rfl, p, _, rfl, S.pL, _, rfl, .inl ⟨_, rfl, _, rfl, _, _, rfl, ?_⟩⟩
      rw [hmx]
      exact ⟨_, _, rfl, rfl, by omega, fin _ _ (Int.fmod_nonneg_of_pos _ (by omega)) (Int.fmod_lt_of_pos _ (by omega)) f.updP (S.setL hcp (Int.fdiv_nonneg l0 (by omega))).ok⟩
abbrev s_law_source : Stmt := topS 9
abbrev n_law_source : List Str := ["_law_script", "_law_mixed", "_law_cell"]
theorem sc_law_source : FnScope n_law_source ["_law_script"] (C8.fnScope s_law_source) := C8.fnScope_by (by decide +kernel)
theorem ok_law_source {a : Addr} {fd : FuncData} (F : C8.Def K mg "_law_source" s_law_source a fd) (b : Binds K fd ["_law_script"] []) (T : Txt mg) : CalG P w K mg base 1 "_law_source" (spSrc K) := by
  refine ⟨a, fd, _, fnG_of F.fn sc_law_source (fun vs H Q E h => ?_) (fun cdv A outer s H vs Q E hA hr h => ?_), F.mgf, F.kp, b⟩
  · obtain ⟨_, _, rfl, _⟩ := h; rfl
  obtain ⟨a, ns, rfl, hs, hl, hQ⟩ := h
  refine ⟨_, PSs.nox (pss_cons (ps_asg pe_int (pg_name (i := 1) sc_law_source.nd rfl (by first | exact Or.inl rfl | exact Or.inr rfl)))
      (pss_cons (ps_for PassesOwn.never rfl (pi_any (pv 0)) (pg_name (i := 2) sc_law_source.nd rfl (by first | exact Or.inl rfl | exact Or.inr rfl)) (pss_one (ps_asg (pe_op op_modN (pe_callTy call_int1 (by rfl) T.int (by decide +kernel) (pa_cons (pe_op op_add (pe_op op_add (pe_op op_mul (pv 1) pe_int) (pe_op op_mul (pv 2) pe_int)) pe_int) pa_nil)) pe_int) (pg_name (i := 1) sc_law_source.nd rfl (by first | exact Or.inl rfl | exact Or.inr rfl)))))
      (pss_one (ps_ret (pe_disp (pps_cons pe_str (pe_revL (pe_lc rfl sc_law_source.nd (pi_any (pv 0)) (blkOk_by (own := [("_law_cell", 2)]) (N := n_law_source) (sc := C8.fnScope s_law_source) (by decide +kernel)) (fun _ _ _ _ _ => (pg_name (i := 2) sc_law_source.nd rfl (by first | exact Or.inl rfl | exact Or.inr rfl))) (fun _ _ _ _ _ => pts_nil) (fun _ _ _ _ _ => (pe_callB call_abs (by rfl) T.abs (by decide +kernel) (pa_cons (pv 2) pa_nil))))) (pps_cons pe_str pe_int (pps_cons pe_str (pv 1) (pps_cons pe_str pe_int pps_nil)))) (by rfl) (by rfl) (fun z => by cases z) (by decide)))))), ?_⟩
  refine ⟨_, rfl, .inl ⟨a, rfl, ⟨_, hs⟩, fun i m σ H' => H' = H ∧ i + m = ns.length ∧ ∃ x o, σ = [some (.ref a), some (.int x), o] ∧ 0 ≤ x ∧ x < 2147483629, ⟨ns.length, rfl, by simp, 11, none, rfl, by decide, by decide⟩, ?_⟩⟩
  rintro i m σ H' ⟨rfl, e, x, o, rfl, hx⟩
  by_cases hi : i < ns.length
  · right
    refine ⟨⟨_, .int ns[i], hs, by simp [hi]⟩, fun σ' H'' => H'' = H' ∧ ∃ x o, σ' = [some (.ref a), some (.int x), o] ∧ 0 ≤ x ∧ x < 2147483629, fun σ' H'' h => ⟨m - 1, by omega, h.1, by omega, h.2⟩, ?_⟩
    rintro y H'' ⟨rfl, hy⟩
    have hy := hy _ hs
    have hy : y = .int ns[i] := by simpa [hi] using hy.symm
    subst hy
    refine ⟨_, rfl, _, _, rfl, rfl, .inr ⟨by decide, by decide⟩, _, rfl, _, _, rfl, rfl, .inr ⟨by decide, by decide⟩, _, _, rfl, rfl, _, _, rfl, rfl, .inl ⟨_, rfl, _, _, rfl, rfl, (by intro z; cases z), ?_⟩⟩
    exact ⟨rfl, _, _, rfl, Int.fmod_nonneg_of_pos _ (by decide), Int.fmod_lt_of_pos _ (by decide)⟩
  · left
    refine ⟨⟨_, hs, by simp; omega⟩, fun p hp => ?_⟩
    have ext : ∀ {G : Hp}, (∀ x o, H' x = some o → G x = some o) → SqL K G a (ns.map V.int) := fun h => hs.elim (fun h1 => .inl (h1.elim (fun h2 => .inl (h _ _ h2)) fun ⟨o, h2⟩ => .inr ⟨o, h _ _ h2⟩)) fun h1 => .inr h1
    have e1 : ∀ x o, H' x = some o → upd H' p (.dK []) x = some o := fun x o h => by rw [upd_ne (by rintro rfl; rw [hp] at h; cases h)]; exact h
    refine ⟨_, rfl, .inl ⟨a, rfl, ⟨_, ext e1⟩, fun q hq => ?_⟩⟩
    have hqp : q ≠ p := by rintro rfl; rw [upd_same] at hq; cases hq
    have hq' : H' q = none := by rw [upd_ne hqp] at hq; exact hq
    refine ⟨fun i m G => i + m = ns.length ∧ G = upd (upd H' p (.dK [])) q (.lst ((ns.take i).map fun n => .int (if n < 0 then -n else n))), ⟨ns.length, by simp, by simp⟩, ?_⟩
    rintro i m G ⟨e2, rfl⟩
    have e3 : ∀ {z : List V} x o, H' x = some o → upd (upd H' p (.dK [])) q (.lst z) x = some o := fun x o h => by rw [upd_ne (by rintro rfl; rw [hq'] at h; cases h)]; exact e1 x o h
    by_cases hi : i < ns.length
    · right
      refine ⟨⟨_, .int ns[i], ext e3, by simp [hi]⟩, fun G => G = upd (upd H' p (.dK [])) q (.lst ((ns.take (i + 1)).map fun n => .int (if n < 0 then -n else n))), fun G h => ⟨m - 1, by omega, by omega, h⟩, ?_⟩
      rintro y G ⟨rfl, hy⟩
      have hy := hy _ (ext e3)
      have hy : y = .int ns[i] := by simpa [hi] using hy.symm
      subst hy
      refine ⟨rfl, ?_⟩
      refine ⟨_, rfl, _, rfl, _, upd_same, by simp [sizeLine_eq]; omega, ?_⟩
      have e4 : ((ns.take i).map fun n => V.int (if n < 0 then -n else n)) ++ [.int (if ns[i] < 0 then -ns[i] else ns[i])] = (ns.take (i + 1)).map fun n => V.int (if n < 0 then -n else n) := by
        rw [List.take_succ, List.map_append, List.getElem?_eq_getElem hi]; rfl
      rw [upd_upd]
      exact congrArg (fun z => upd (upd H' p (.dK [])) q (.lst z)) e4
    · left
      have ht : ns.take i = ns := List.take_of_length_le (by omega)
      rw [ht]
      refine ⟨⟨_, ext e3, by simp; omega⟩, q, _, rfl, .inl (.inl upd_same), fun c hc => ?_⟩
      have hcq : c ≠ q := by rintro rfl; rw [upd_same] at hc; cases hc
      rw [upd_ne hcq] at hc
      have hcp : c ≠ p := by rintro rfl; rw [upd_same] at hc; cases hc
      rw [upd_ne hcp] at hc
      refine ⟨_, rfl, ?_⟩
      refine ⟨by rw [upd_ne (Ne.symm hcp), upd_ne (Ne.symm hqp), upd_same], [(.inr "cells", .ref c), (.inr "left", .int 1), (.inr "mixed", .int x), (.inr "turn", .int 0)], rfl, by simp, ?_⟩
      refine hQ p c _ (Ne.symm hcp) hp hc (fun y o h => ?_) (fun y h => ?_) ⟨(ns.map fun n => if n < 0 then -n else n).reverse, 1, x, 0, [], upd_same, ?_, ?_, (by omega : (0 : Int) ≤ 1), hx.1, by omega, .inl rfl⟩
      · have n1 : y ≠ p := by rintro rfl; rw [hp] at h; cases h
        have n2 : y ≠ q := by rintro rfl; rw [hq'] at h; cases h
        have n3 : y ≠ c := by rintro rfl; rw [hc] at h; cases h
        rw [upd_ne n1, upd_ne n3, upd_ne n2, upd_ne n1]; exact h
      · by_cases n1 : y = p
        · rw [n1, upd_same] at h; cases h
        by_cases n2 : y = q
        · rw [n2]; exact hq'
        by_cases n3 : y = c
        · rw [n3]; exact hc
        rw [upd_ne n1, upd_ne n3, upd_ne n2, upd_ne n1] at h; exact h
      · rw [upd_ne hcp, upd_same]
        simp [List.map_reverse, Function.comp_def]
      · intro n hn
        simp only [List.mem_reverse, List.mem_map] at hn
        obtain ⟨k, _, rfl⟩ := hn
        split <;> omega
abbrev s_law_of : Stmt := topS 11
abbrev n_law_of : List Str := ["_law_source_here", "_law_some"]
theorem sc_law_of : FnScope n_law_of ["_law_source_here", "_law_some"] (C8.fnScope s_law_of) := C8.fnScope_by (by decide +kernel)
theorem ok_law_of {a : Addr} {fd : FuncData} (F : C8.Def K mg "_law_of" s_law_of a fd) (b : Binds K fd ["_law_source_here", "_law_some"] []) (T : Txt mg) (c_law_pick : CalG P w K mg base 1 "_law_pick" (spD K [.src, .bo] Cpick)) : CalG P w K mg base (2) "_law_of" (spD K [.src, .bo] (Cof)) := by
  refine calG F b sc_law_of rfl (fun cdv A outer s H E hA hr => ?_)
  have hu := huOf hr
  have hu64 := hr.units
  refine ⟨_, _, (pss_one (ps_ret (pe_ix (k_ix (K := K) rfl) (pv 1) (pe_cG c_law_pick hA hr (by first | decide | omega) rfl (pa_cons (pv 0) (pa_cons (pe_callB (k_lenA (K := K) rfl) (by rfl) T.len (by decide +kernel) (pa_cons (pv 1) pa_nil)) pa_nil))) (fun _ _ => rfl)))),
   (ls_ret (le_op le_var (le_call (la_cons le_var (la_cons (le_cb (la_cons le_var la_nil) cl_lenA) la_nil))) ol_ix)), ?_⟩
  intro ds Qc h
  obtain ⟨xs, hd, hl, hq⟩ := h
  rcases hd with rfl | rfl
  all_goals
    refine ⟨xs.length, rfl, ⟨by omega, by omega⟩, fun k h1 h2 => ?_⟩
    obtain ⟨x, hx, e⟩ := atI_mem (xs := xs) h1 h2
    exact ⟨trivial, x, e, hq x hx⟩
abbrev s_law_draw_literal : Stmt := topS 12
abbrev n_law_draw_literal : List Str := ["_law_source_here", "_law_many", "_law_node"]
theorem sc_law_draw_literal : FnScope n_law_draw_literal ["_law_source_here", "_law_many"] (C8.fnScope s_law_draw_literal) := C8.fnScope_by (by decide +kernel)
theorem ok_law_draw_literal {a : Addr} {fd : FuncData} (F : C8.Def K mg "_law_draw_literal" s_law_draw_literal a fd) (b : Binds K fd ["_law_source_here", "_law_many"] []) (T : Txt mg) (c_law_pick : CalG P w K mg base 1 "_law_pick" (spD K [.src, .bo] (Cpick))) : CalG P w K mg base (2) "_law_draw_literal" (spD K [.src, .bo] (Cdlit)) := by
  refine calG F b sc_law_draw_literal rfl (fun cdv A outer s H E hA hr => ?_)
  have hu := huOf hr
  have hu64 := hr.units
  refine ⟨_, _, (pss_cons (ps_asg (pe_ifExp (pt_cmpR op_gt (pe_cG c_law_pick hA hr (by first | decide | omega) rfl (pa_cons (pv 0) (pa_cons pe_int pa_nil))) pe_int (nomark _)) (pe_op op_sub (pe_op op_sub (pv 1) pe_int) (pe_cG c_law_pick hA hr (by first | decide | omega) rfl (pa_cons (pv 0) (pa_cons (pe_callB (call_min2 rfl) (by rfl) T.min (by decide +kernel) (pa_cons (pv 1) (pa_cons pe_int pa_nil))) pa_nil)))) (pe_cG c_law_pick hA hr (by first | decide | omega) rfl (pa_cons (pv 0) (pa_cons (pv 1) pa_nil)))) (pg_name (i := 2) sc_law_draw_literal.nd rfl (by first | exact Or.inl rfl | exact Or.inr rfl)))
      (pss_one (ps_ret (pe_op (k_add (K := K) rfl) (pe_op op_mulA pe_int (pv 2)) (pe_cG c_law_pick hA hr (by first | decide | omega) rfl (pa_cons (pv 0) (pa_cons pe_int pa_nil))))))),
   (ls_seq (ls_asg (le_if (lt_test (le_op (le_call (la_cons le_var (la_cons le_int la_nil))) le_int ol_gt)) (le_op (le_op le_var le_int ol_sub) (le_call (la_cons le_var (la_cons (le_cb (la_cons le_var (la_cons le_int la_nil)) cl_min2) la_nil))) ol_sub) (le_call (la_cons le_var (la_cons le_var la_nil)))) lg_name)
      (ls_ret (le_op (le_op le_int le_var ol_mul) (le_call (la_cons le_var (la_cons le_int la_nil))) ol_add))), ?_⟩
  intro ds Qc h
  obtain ⟨n, rfl, h1, h2, hq⟩ := h
  refine ⟨3, rfl, ⟨by omega, by omega⟩, fun a a1 a2 => useB_d (fun _ => ?_) (fun _ => ?_)⟩
  · refine ⟨min (n : Int) 10, rfl, ⟨by omega, by omega⟩, fun c c1 c2 => ⟨.inl ⟨by decide, by decide⟩, 2, rfl, ⟨by omega, by omega⟩, fun e e1 e2 => hq _ ⟨by omega, by omega⟩⟩⟩
  · refine ⟨(n : Int), rfl, ⟨by omega, by omega⟩, fun c c1 c2 => ⟨.inl ⟨by decide, by decide⟩, 2, rfl, ⟨by omega, by omega⟩, fun e e1 e2 => hq _ ⟨by omega, by omega⟩⟩⟩
abbrev s_law_draw_graph : Stmt := topS 13
abbrev n_law_draw_graph : List Str := ["_law_source_here", "_law_many_ins", "_law_many_regs", "_law_most", "_law_ins", "_law_regs", "_law_known", "_law_first", "_law_lap", "_law_pair", "_law_many", "_law_told", "_law_outs", "_law_side", "_law_k"]
theorem sc_law_draw_graph : FnScope n_law_draw_graph ["_law_source_here", "_law_many_ins", "_law_many_regs", "_law_most"] (C8.fnScope s_law_draw_graph) := C8.fnScope_by (by decide +kernel)
theorem ok_law_draw_graph {a : Addr} {fd : FuncData} (F : C8.Def K mg "_law_draw_graph" s_law_draw_graph a fd) (b : Binds K fd ["_law_source_here", "_law_many_ins", "_law_many_regs", "_law_most"] []) (T : Txt mg) (c_law_pick : CalG P w K mg base 1 "_law_pick" (spD K [.src, .bo] (Cpick))) (c_law_draw_literal : CalG P w K mg base 2 "_law_draw_literal" (spD K [.src, .bo] (Cdlit))) : CalG P w K mg base (3) "_law_draw_graph" (spD K [.src, .bo, .bo, .bo] (Cdraw)) := by
  refine calG F b sc_law_draw_graph rfl (fun cdv A outer s H E hA hr => ?_)
  have hu := huOf hr
  have hu64 := hr.units
  refine ⟨_, _, (pss_cons (ps_asg (pe_tup (pa_cons (pe_cG c_law_pick hA hr (by first | decide | omega) rfl (pa_cons (pv 0) (pa_cons (pe_op (k_add (K := K) rfl) (pv 1) pe_int) pa_nil))) (pa_cons (pe_cG c_law_pick hA hr (by first | decide | omega) rfl (pa_cons (pv 0) (pa_cons (pe_op (k_add (K := K) rfl) (pv 2) pe_int) pa_nil))) (pa_cons pe_dnewT pa_nil)))) (k_gtup (n := 3) (K := K) rfl (by rfl) (pgs_cons (pg_name (i := 4) sc_law_draw_graph.nd rfl (by first | exact Or.inl rfl | exact Or.inr rfl)) (pgs_cons (pg_name (i := 5) sc_law_draw_graph.nd rfl (by first | exact Or.inl rfl | exact Or.inr rfl)) (pgs_cons (pg_name (i := 6) sc_law_draw_graph.nd rfl (by first | exact Or.inl rfl | exact Or.inr rfl)) pgs_nil)))))
      (pss_cons (ps_asg (pe_op (k_add (K := K) rfl) (pe_op (k_add (K := K) rfl) pe_int (pv 4)) (pv 5)) (pg_name (i := 7) sc_law_draw_graph.nd rfl (by first | exact Or.inl rfl | exact Or.inr rfl)))
      (pss_cons (ps_for PassesOwn.never rfl (pi_range1 (by rfl) T.range (pa_cons (pe_ifExp (pt_cmpR op_gt (pv 7) pe_int (nomark _)) (pe_cG c_law_pick hA hr (by first | decide | omega) rfl (pa_cons (pv 0) (pa_cons (pe_op (k_add (K := K) rfl) (pv 3) pe_int) pa_nil))) pe_int) pa_nil)) (pg_name (i := 8) sc_law_draw_graph.nd rfl (by first | exact Or.inl rfl | exact Or.inr rfl))
      (pss_cons (ps_asg (pe_callTy (k_tupleA (K := K) rfl rfl) (by rfl) T.tuple (by decide +kernel) (pa_cons (pe_callB (k_sortedD (K := K) rfl rfl) (by rfl) T.sorted (by decide +kernel) (pa_cons (pe_lc rfl sc_law_draw_graph.nd (pi_range1 (by rfl) T.range (pa_cons pe_int pa_nil)) (blkOk_by (own := [("_law_side", 13)]) (N := n_law_draw_graph) (sc := C8.fnScope s_law_draw_graph) (by decide +kernel)) (fun _ _ _ _ _ => (pg_name (i := 13) sc_law_draw_graph.nd rfl (by first | exact Or.inl rfl | exact Or.inr rfl))) (fun _ _ _ _ _ => pts_nil) (fun _ _ _ _ _ => (pe_cG c_law_draw_literal hA hr (by first | decide | omega) rfl (pa_cons (pv 0) (pa_cons (pe_op (k_add (K := K) rfl) (pv 7) (pe_callB (k_lenA (K := K) rfl) (by rfl) T.len (by decide +kernel) (pa_cons (pv 6) pa_nil))) pa_nil))))) pa_nil)) pa_nil)) (pg_name (i := 9) sc_law_draw_graph.nd rfl (by first | exact Or.inl rfl | exact Or.inr rfl)))
      (pss_one (ps_if (PW.pt (pw_and (pt_cmpR op_gt (pe_ix (k_ix (K := K) rfl) (pv 9) pe_int (fun _ _ => rfl)) pe_int (nomark _)) (pw_and1 (pt_cmpR (k_ne (K := K) rfl hu64) (pe_op op_fdivL (pe_ix (k_ix (K := K) rfl) (pv 9) pe_int (fun _ _ => rfl)) pe_int) (pe_op op_fdivL (pe_ix (k_ix (K := K) rfl) (pv 9) pe_int (fun _ _ => rfl)) pe_int) (nomark _))))) (pss_one (ps_dput hu (pv 6) (pv 9) pe_bl rfl)) pss_nil))))
      (pss_cons (ps_asg (pe_op (k_add (K := K) rfl) (pv 7) (pe_callB (k_lenA (K := K) rfl) (by rfl) T.len (by decide +kernel) (pa_cons (pv 6) pa_nil))) (pg_name (i := 10) sc_law_draw_graph.nd rfl (by first | exact Or.inl rfl | exact Or.inr rfl)))
      (pss_cons (ps_asg (pe_callTy (k_tupleA (K := K) rfl rfl) (by rfl) T.tuple (by decide +kernel) (pa_cons (pe_lc rfl sc_law_draw_graph.nd (pi_range1 (by rfl) T.range (pa_cons (pv 5) pa_nil)) (blkOk_by (own := [("_law_k", 14)]) (N := n_law_draw_graph) (sc := C8.fnScope s_law_draw_graph) (by decide +kernel)) (fun _ _ _ _ _ => (pg_name (i := 14) sc_law_draw_graph.nd rfl (by first | exact Or.inl rfl | exact Or.inr rfl))) (fun _ _ _ _ _ => pts_nil) (fun _ _ _ _ _ => (pe_tup (pa_cons (pe_cG c_law_pick hA hr (by first | decide | omega) rfl (pa_cons (pv 0) (pa_cons pe_int pa_nil))) (pa_cons (pe_cG c_law_draw_literal hA hr (by first | decide | omega) rfl (pa_cons (pv 0) (pa_cons (pv 10) pa_nil))) pa_nil))))) pa_nil)) (pg_name (i := 11) sc_law_draw_graph.nd rfl (by first | exact Or.inl rfl | exact Or.inr rfl)))
      (pss_cons (ps_asg (pe_callTy (k_tupleA (K := K) rfl rfl) (by rfl) T.tuple (by decide +kernel) (pa_cons (pe_lc rfl sc_law_draw_graph.nd (pi_range1 (by rfl) T.range (pa_cons (pe_op (k_add (K := K) rfl) pe_int (pe_cG c_law_pick hA hr (by first | decide | omega) rfl (pa_cons (pv 0) (pa_cons pe_int pa_nil)))) pa_nil)) (blkOk_by (own := [("_law_k", 14)]) (N := n_law_draw_graph) (sc := C8.fnScope s_law_draw_graph) (by decide +kernel)) (fun _ _ _ _ _ => (pg_name (i := 14) sc_law_draw_graph.nd rfl (by first | exact Or.inl rfl | exact Or.inr rfl))) (fun _ _ _ _ _ => pts_nil) (fun _ _ _ _ _ => (pe_cG c_law_draw_literal hA hr (by first | decide | omega) rfl (pa_cons (pv 0) (pa_cons (pv 10) pa_nil))))) pa_nil)) (pg_name (i := 12) sc_law_draw_graph.nd rfl (by first | exact Or.inl rfl | exact Or.inr rfl)))
      (pss_one (ps_ret (pe_tup (pa_cons (pv 4) (pa_cons (pv 11) (pa_cons (pe_callTy (k_tupleA (K := K) rfl rfl) (by rfl) T.tuple (by decide +kernel) (pa_cons (pv 6) pa_nil)) (pa_cons (pv 12) pa_nil))))))))))))),
   (ls_seq (ls_par3T (i := 4) (j := 5) (l := 6) (le_call (la_cons le_var (la_cons (le_op le_var le_int ol_add) la_nil))) (le_call (la_cons le_var (la_cons (le_op le_var le_int ol_add) la_nil))) le_dnewT)
      (ls_seq (ls_asg (le_op (le_op le_int le_var ol_add) le_var ol_add) lg_name)
      (ls_seq (ls_for (li_rng1 (la_cons (le_if (lt_test (le_op le_var le_int ol_gt)) (le_call (la_cons le_var (la_cons (le_op le_var le_int ol_add) la_nil))) le_int) la_nil)) lg_name
      (ls_seq (ls_asg (le_cb (la_cons (le_cb (la_cons (le_lc (li_rng1 (la_cons le_int la_nil)) lg_name (lgw_name (by decide)) lt_yes (le_call (la_cons le_var (la_cons (le_op le_var (le_cb (la_cons le_var la_nil) cl_lenA) ol_add) la_nil)))) la_nil) cl_sortedD) la_nil) cl_tupleA) lg_name)
      (ls_if (lt_and (lt_test (le_op (le_op le_var le_int ol_ix) le_int ol_gt)) (lt_test (le_op (le_op (le_op le_var le_int ol_ix) le_int ol_fdv) (le_op (le_op le_var le_int ol_ix) le_int ol_fdv) ol_ne))) (ls_dputT le_var le_bl) ls_next)))
      (ls_seq (ls_asg (le_op le_var (le_cb (la_cons le_var la_nil) cl_lenA) ol_add) lg_name)
      (ls_seq (ls_asg (le_cb (la_cons (le_lc (li_rng1 (la_cons le_var la_nil)) lg_name (lgw_name (by decide)) lt_yes (le_tup (la_cons (le_call (la_cons le_var (la_cons le_int la_nil))) (la_cons (le_call (la_cons le_var (la_cons le_var la_nil))) la_nil)))) la_nil) cl_tupleA) lg_name)
      (ls_seq (ls_asg (le_cb (la_cons (le_lc (li_rng1 (la_cons (le_op le_int (le_call (la_cons le_var (la_cons le_int la_nil))) ol_add) la_nil)) lg_name (lgw_name (by decide)) lt_yes (le_call (la_cons le_var (la_cons le_var la_nil)))) la_nil) cl_tupleA) lg_name)
      (ls_ret (le_tup (la_cons le_var (la_cons le_var (la_cons (le_cb (la_cons le_var la_nil) cl_tupleA) (la_cons le_var la_nil)))))))))))), ?_⟩
  intro ds Qc h
  obtain ⟨a, b', c, rfl, ha, hb, hc, hq⟩ := h
  refine ⟨a + 1, rfl, ⟨by omega, by omega⟩, fun i i1 i2 => ⟨b' + 1, rfl, ⟨by omega, by omega⟩, fun r r1 r2 => ?_⟩⟩
  obtain ⟨i, rfl⟩ := Int.eq_ofNat_of_zero_le i1
  obtain ⟨r, rfl⟩ := Int.eq_ofNat_of_zero_le r1
  refine useB_lp (c := c) hc.1 (fun loop => ⟨c + 1, rfl, ⟨by omega, by omega⟩, fun n n1 n2 => ⟨⟨by omega, by omega⟩, loop n n1 (by omega)⟩⟩) ?_
  intro n n1 n2
  refine dLoop_of _ (fun t ρ => ∃ (ps : List (Int × Int)) (o1 o2 : Option Sl), AndsOk (1 + i + r) ps ∧ ps.length ≤ t ∧ ρ = [some .src, some (.bo (.int a)), some (.bo (.int b')), some (.bo (.int c)), some (.sh (.int i)), some (.sh (.int r)), some (.ow (.dict (tmark :: ps.map entT))), some (.sh (.int (1 + i + r))), o1, o2, none, none, none, none, none]) ⟨[], none, none, (fun _ h => nomatch h), Nat.le_refl _, rfl⟩ ?_ ?_
  · rintro t x ρ k hx ⟨ps, o1, o2, hps, hl, rfl⟩ next
    have ht : t < (rngD 0 n.toNat).length := (List.getElem?_eq_some_iff.mp hx).1
    rw [rngD_length] at ht
    refine ⟨⟨by decide, by decide⟩, dLcGo_of _ (fun j acc ρ => ∃ (ns : List Int), acc = ns.map PyData.int ∧ ns.length = j ∧ (∀ z ∈ ns, inL z (1 + i + r + ps.length)) ∧ ρ = [some .src, some (.bo (.int a)), some (.bo (.int b')), some (.bo (.int c)), some (.sh (.int i)), some (.sh (.int r)), some (.ow (.dict (tmark :: ps.map entT))), some (.sh (.int (1 + i + r))), some (.sh x), o2, none, none, none, none, none]) ⟨[], rfl, rfl, (fun _ h => nomatch h), rfl⟩ ?_ ?_⟩
    · rintro j y acc ρ k hy ⟨ns, rfl, hnl, hns, rfl⟩ next
      have hj : j < (rngD 0 (2 : Int).toNat).length := (List.getElem?_eq_some_iff.mp hy).1
      rw [rngD_length] at hj
      refine useB_y rfl ⟨1 + i + r + ps.length, ?_, by omega, by omega, fun l hl => ⟨by rw [List.length_map, sizeLine_eq]; have : j < 2 := hj; omega, next _ _ ⟨ns ++ [l], by simp, by simp; omega, ?_, rfl⟩⟩⟩
      · show [PyData.none, PyData.int (1 + (i : Int) + r + ((ps.map entT).length + 1 - 1 : Nat))] = _
        rw [List.length_map, Nat.add_sub_cancel]
        simp
      · intro z hz
        rcases List.mem_append.mp hz with hz | hz
        · exact hns z hz
        · rw [List.mem_singleton.mp hz]; exact hl
    · rintro acc ρ ⟨ns, rfl, hnl, hns, rfl⟩
      rw [rngD_length] at hnl
      show wN (intsOf _) _
      rw [intsOf_map]
      intro ms hp _
      obtain ⟨u, v, rfl, hu1, hv1⟩ := two_of hp hnl hns
      refine ⟨trivial, _, atI0, useB_d (fun _ => ⟨trivial, _, atI0, ⟨(by intro z; cases z), Nat.le_of_ble_eq_true rfl⟩, trivial, _, atI1, ⟨(by intro z; cases z), Nat.le_of_ble_eq_true rfl⟩, rfl, useB_b (fun _ => ?_) (fun _ => next _ ⟨ps, _, _, hps, by omega, rfl⟩)⟩) (fun _ => useB_n rfl (next _ ⟨ps, _, _, hps, by omega, rfl⟩))⟩
      obtain ⟨ps', e, h1, h2⟩ := putT_ent hps hu1 hv1
      refine ⟨⟨_, rfl⟩, _, rfl, [.inl u, .inl v], rfl, ?_, next _ ⟨ps', some (.sh x), some (.sh (.tuple ([u, v].map PyData.int))), h1, by omega, ?_⟩⟩
      · rw [List.length_map, sizeLine_eq]; omega
      · rw [← e]; rfl
  · rintro ρ ⟨ps, o1, o2, hps, hl, rfl⟩
    rw [rngD_length] at hl
    have hN : 1 + (i : Int) + r + ((ps.map entT).length + 1 - 1 : Nat) = ((1 + i + r + ps.length : Nat) : Int) := by rw [List.length_map, Nat.add_sub_cancel]; simp
    refine ⟨⟨by omega, by omega⟩, dLcGo_of _ (fun j acc ρ => ∃ (rs : List (Int × Int)), acc = rs.map pD ∧ rs.length = j ∧ (∀ z ∈ rs, bit z.1 ∧ inL z.2 (1 + i + r + ps.length)) ∧ ρ = [some .src, some (.bo (.int a)), some (.bo (.int b')), some (.bo (.int c)), some (.sh (.int i)), some (.sh (.int r)), some (.ow (.dict (tmark :: ps.map entT))), some (.sh (.int (1 + i + r))), o1, o2, some (.sh (.int ((1 + i + r + ps.length : Nat) : Int))), none, none, none, none]) ⟨[], rfl, rfl, (fun _ h => nomatch h), ?_⟩ ?_ ?_⟩
    · rw [← hN]; rfl
    · rintro j y acc ρ k hy ⟨rs, rfl, hrl, hrs, rfl⟩ next
      have hj : j < (rngD 0 ((r : Int)).toNat).length := (List.getElem?_eq_some_iff.mp hy).1
      rw [rngD_length] at hj
      refine useB_y rfl ⟨2, rfl, ⟨by omega, by omega⟩, fun q q1 q2 => ⟨_, rfl, by omega, by omega, fun l hl => ⟨Nat.le_of_ble_eq_true rfl, by rw [List.length_map, sizeLine_eq]; omega, next _ _ ⟨rs ++ [(q, l)], by simp [pD], by simp; omega, ?_, rfl⟩⟩⟩⟩
      intro z hz
      rcases List.mem_append.mp hz with hz | hz
      · exact hrs z hz
      · rw [List.mem_singleton.mp hz]
        exact ⟨by unfold bit; show q = 0 ∨ q = 1; omega, hl⟩
    · rintro acc ρ ⟨rs, rfl, hrl, hrs, rfl⟩
      rw [rngD_length] at hrl
      refine ⟨4, rfl, ⟨by omega, by omega⟩, fun q q1 q2 => ⟨⟨by omega, by omega⟩, dLcGo_of _ (fun j acc ρ => ∃ (os : List Int), acc = os.map PyData.int ∧ os.length = j ∧ (∀ z ∈ os, inL z (1 + i + r + ps.length)) ∧ ρ = [some .src, some (.bo (.int a)), some (.bo (.int b')), some (.bo (.int c)), some (.sh (.int i)), some (.sh (.int r)), some (.ow (.dict (tmark :: ps.map entT))), some (.sh (.int (1 + i + r))), o1, o2, some (.sh (.int ((1 + i + r + ps.length : Nat) : Int))), some (.sh (.tuple (rs.map pD))), none, none, none]) ⟨[], rfl, rfl, (fun _ h => nomatch h), rfl⟩ ?_ ?_⟩⟩
      · rintro j y acc ρ k hy ⟨os, rfl, hol, hos, rfl⟩ next
        have hj : j < (rngD 0 (1 + q).toNat).length := (List.getElem?_eq_some_iff.mp hy).1
        rw [rngD_length] at hj
        refine useB_y rfl ⟨_, rfl, by omega, by omega, fun l hl => ⟨by rw [List.length_map, sizeLine_eq]; omega, next _ _ ⟨os ++ [l], by simp, by simp; omega, ?_, rfl⟩⟩⟩
        intro z hz
        rcases List.mem_append.mp hz with hz | hz
        · exact hos z hz
        · rw [List.mem_singleton.mp hz]; exact hl
      · rintro acc ρ ⟨os, rfl, hol, hos, rfl⟩
        rw [rngD_length] at hol
        refine ⟨rfl, Nat.le_of_ble_eq_true rfl, ?_⟩
        have hrl' : rs.length = r := by omega
        have := hq ⟨i, rs, ps, os⟩ ⟨by show i ≤ 10; omega, by show rs.length ≤ 10; omega, by show ps.length ≤ 300; omega, by show os.length ≤ 10; omega, ?_, ?_, ?_⟩ (by show (i : Int) ≤ a; omega) (by show (rs.length : Int) ≤ b'; omega) (by show (ps.length : Int) ≤ c; omega) (by show os.length ≤ 4; omega)
        · show Qc (.fz (.tuple [.int i, .tuple (rs.map pD), .tuple (keysT (ps.map entT)), .tuple (os.map PyData.int)]))
          rw [keysT_ent]
          exact this
        · intro p hp
          have := hrs p hp
          refine ⟨this.1, ?_⟩
          show inL p.2 (1 + i + rs.length + ps.length)
          rw [hrl']; exact this.2
        · show AndsOk (1 + i + rs.length) ps
          rw [hrl']; exact hps
        · intro l hl
          show inL l (1 + i + rs.length + ps.length)
          rw [hrl']; exact hos l hl
end
end K41

set_option Elab.async false
set_option linter.all false
set_option maxRecDepth 100000
set_option maxHeartbeats 4000000
set_option autoImplicit false
set_option pp.maxSteps 1000
namespace K41
open PySem L2 DL
section
variable {P : Program} {w : World} {K : PySem.W.Frag} {mg : Str → Option Value} {base : Heap}
abbrev s_law_still_graph : Stmt := topS 15
abbrev n_law_still_graph : List Str := ["_law_source_here", "_law_many_ins", "_law_many_regs", "_law_most", "_law_graph", "_law_regs", "_law_first", "_law_lap", "_law_k", "_law_j", "_law_turn", "_law_way"]
theorem sc_law_still_graph : FnScope n_law_still_graph ["_law_source_here", "_law_many_ins", "_law_many_regs", "_law_most"] (C8.fnScope s_law_still_graph) := C8.fnScope_by (by decide +kernel)
theorem ok_law_still_graph {a : Addr} {fd : FuncData} (F : C8.Def K mg "_law_still_graph" s_law_still_graph a fd) (b : Binds K fd ["_law_source_here", "_law_many_ins", "_law_many_regs", "_law_most"] []) (T : Txt mg) (c_law_pick : CalG P w K mg base 1 "_law_pick" (spD K [.src, .bo] (Cpick))) (c_law_of : CalG P w K mg base 2 "_law_of" (spD K [.src, .bo] (Cof))) (c_law_draw_graph : CalG P w K mg base 3 "_law_draw_graph" (spD K [.src, .bo, .bo, .bo] (Cdraw))) : CalG P w K mg base (4) "_law_still_graph" (spD K [.src, .bo, .bo, .bo] (Cgraph 4)) := by
  refine calG F b sc_law_still_graph rfl (fun cdv A outer s H E hA hr => ?_)
  have hu := huOf hr
  have hu64 := hr.units
  refine ⟨_, _, (pss_cons (ps_asg (pe_cG c_law_draw_graph hA hr (by first | decide | omega) rfl (pa_cons (pv 0) (pa_cons (pv 1) (pa_cons (pv 2) (pa_cons (pv 3) pa_nil))))) (pg_name (i := 4) sc_law_still_graph.nd rfl (by first | exact Or.inl rfl | exact Or.inr rfl)))
      (pss_cons (ps_par (i := 5) (j := 6) (by rfl) sc_law_still_graph.nd rfl rfl (by decide) rfl rfl (pa_cons (pe_callTy (k_listA (K := K) rfl rfl) (by rfl) T.list (by decide +kernel) (pa_cons (pe_ix (k_ix (K := K) rfl) (pv 4) pe_int (fun _ _ => rfl)) pa_nil)) (pa_cons (pe_op (k_add (K := K) rfl) (pe_ix (k_ix (K := K) rfl) (pv 4) pe_int (fun _ _ => rfl)) pe_int) pa_nil)) (by rfl))
      (pss_cons (ps_for PassesOwn.never rfl (pi_range1 (by rfl) T.range (pa_cons (pe_ifExp (pt_cmpR op_gt (pe_callB (k_lenA (K := K) rfl) (by rfl) T.len (by decide +kernel) (pa_cons (pv 5) pa_nil)) pe_int (nomark _)) (pe_cG c_law_pick hA hr (by first | decide | omega) rfl (pa_cons (pv 0) (pa_cons pe_int pa_nil))) pe_int) pa_nil)) (pg_name (i := 7) sc_law_still_graph.nd rfl (by first | exact Or.inl rfl | exact Or.inr rfl))
      (pss_cons (ps_par (i := 8) (j := 9) (by rfl) sc_law_still_graph.nd rfl rfl (by decide) rfl rfl (pa_cons (pe_cG c_law_pick hA hr (by first | decide | omega) rfl (pa_cons (pv 0) (pa_cons (pe_callB (k_lenA (K := K) rfl) (by rfl) T.len (by decide +kernel) (pa_cons (pv 5) pa_nil)) pa_nil))) (pa_cons (pe_cG c_law_pick hA hr (by first | decide | omega) rfl (pa_cons (pv 0) (pa_cons (pe_callB (k_lenA (K := K) rfl) (by rfl) T.len (by decide +kernel) (pa_cons (pv 5) pa_nil)) pa_nil))) pa_nil)) (by rfl))
      (pss_cons (ps_asg (pe_cG c_law_pick hA hr (by first | decide | omega) rfl (pa_cons (pv 0) (pa_cons pe_int pa_nil))) (pg_name (i := 10) sc_law_still_graph.nd rfl (by first | exact Or.inl rfl | exact Or.inr rfl)))
      (pss_cons (ps_asg (pe_lst (pa_cons (pe_tup (pa_cons (pe_op op_xor (pe_ix (k_ix (K := K) rfl) (pe_ix (k_ix (K := K) rfl) (pv 5) (pv 9) (fun _ _ => rfl)) pe_int (fun _ _ => rfl)) (pv 10)) (pa_cons (pe_op op_xor (pe_ix (k_ix (K := K) rfl) (pe_ix (k_ix (K := K) rfl) (pv 5) (pv 9) (fun _ _ => rfl)) pe_int (fun _ _ => rfl)) (pv 10)) pa_nil))) (pa_cons (pe_tup (pa_cons (pe_ix (k_ix (K := K) rfl) (pe_ix (k_ix (K := K) rfl) (pv 5) (pv 8) (fun _ _ => rfl)) pe_int (fun _ _ => rfl)) (pa_cons (pe_op op_mulA pe_int (pe_op (k_add (K := K) rfl) (pv 6) (pv 8))) pa_nil))) (pa_cons (pe_tup (pa_cons (pe_ix (k_ix (K := K) rfl) (pe_ix (k_ix (K := K) rfl) (pv 5) (pv 8) (fun _ _ => rfl)) pe_int (fun _ _ => rfl)) (pa_cons (pe_ix (k_ix (K := K) rfl) (pe_ix (k_ix (K := K) rfl) (pv 5) (pv 8) (fun _ _ => rfl)) pe_int (fun _ _ => rfl)) pa_nil))) pa_nil)))) (pg_name (i := 11) sc_law_still_graph.nd rfl (by first | exact Or.inl rfl | exact Or.inr rfl)))
      (pss_one (ps_asg (pe_cG c_law_of hA hr (by first | decide | omega) rfl (pa_cons (pv 0) (pa_cons (pe_op (k_add (K := K) rfl) (pv 11) (pe_slice (k_sl (K := K) rfl) (pv 11) po_none (po_some pe_int))) pa_nil))) (pg_sub (pv 5) (pv 8) set_list)))))))
      (pss_one (ps_ret (pe_tup (pa_cons (pe_ix (k_ix (K := K) rfl) (pv 4) pe_int (fun _ _ => rfl)) (pa_cons (pe_callTy (k_tupleA (K := K) rfl rfl) (by rfl) T.tuple (by decide +kernel) (pa_cons (pv 5) pa_nil)) (pa_cons (pe_ix (k_ix (K := K) rfl) (pv 4) pe_int (fun _ _ => rfl)) (pa_cons (pe_ix (k_ix (K := K) rfl) (pv 4) pe_int (fun _ _ => rfl)) pa_nil)))))))))),
   (ls_seq (ls_asg (le_call (la_cons le_var (la_cons le_var (la_cons le_var (la_cons le_var la_nil))))) lg_name)
      (ls_seq (ls_par (le_cb (la_cons (le_op le_var le_int ol_ix) la_nil) cl_listA) (le_op (le_op le_var le_int ol_ix) le_int ol_add))
      (ls_seq (ls_for (li_rng1 (la_cons (le_if (lt_test (le_op (le_cb (la_cons le_var la_nil) cl_lenA) le_int ol_gt)) (le_call (la_cons le_var (la_cons le_int la_nil))) le_int) la_nil)) lg_name
      (ls_seq (ls_par (le_call (la_cons le_var (la_cons (le_cb (la_cons le_var la_nil) cl_lenA) la_nil))) (le_call (la_cons le_var (la_cons (le_cb (la_cons le_var la_nil) cl_lenA) la_nil))))
      (ls_seq (ls_asg (le_call (la_cons le_var (la_cons le_int la_nil))) lg_name)
      (ls_seq (ls_asg (le_lst (la_cons (le_tup (la_cons (le_op (le_op (le_op le_var le_var ol_ix) le_int ol_ix) le_var ol_xor) (la_cons (le_op (le_op (le_op le_var le_var ol_ix) le_int ol_ix) le_var ol_xor) la_nil))) (la_cons (le_tup (la_cons (le_op (le_op le_var le_var ol_ix) le_int ol_ix) (la_cons (le_op le_int (le_op le_var le_var ol_add) ol_mul) la_nil))) (la_cons (le_tup (la_cons (le_op (le_op le_var le_var ol_ix) le_int ol_ix) (la_cons (le_op (le_op le_var le_var ol_ix) le_int ol_ix) la_nil))) la_nil)))) lg_name)
      (ls_setL (i := 5) le_var (le_call (la_cons le_var (la_cons (le_op le_var (le_sl le_var lo_none (lo_some le_int)) ol_add) la_nil))))))))
      (ls_ret (le_tup (la_cons (le_op le_var le_int ol_ix) (la_cons (le_cb (la_cons le_var la_nil) cl_tupleA) (la_cons (le_op le_var le_int ol_ix) (la_cons (le_op le_var le_int ol_ix) la_nil))))))))), ?_⟩
  intro ds Qc h
  obtain ⟨a, b', c, rfl, ha, hb, hc, habc, hq⟩ := h
  refine ⟨a, b', c, rfl, ha, hb, ⟨hc.1, by omega⟩, fun g hg gi gr ga go => ⟨trivial, _, rfl, trivial, _, rfl, ?_⟩⟩
  have hrl := hg.rl
  have eR : ((g.regs.map pD).length : Nat) = g.regs.length := List.length_map ..
  have hm1 : 1 ≤ g.many := by unfold Gr.many Gr.first; omega
  have fin : ∀ rs : List (Int × Int), RegsOk g.many rs → rs.length = g.regs.length → Qc (.fz (.tuple [.int g.ins, .tuple (rs.map pD), .tuple (g.ands.map pD), .tuple (g.outs.map PyData.int)])) := fun rs h1 h2 => by
    have hm : (⟨g.ins, rs, g.ands, g.outs⟩ : Gr).many = g.many := by show 1 + g.ins + rs.length + g.ands.length = 1 + g.ins + g.regs.length + g.ands.length; rw [h2]
    have hf : (⟨g.ins, rs, g.ands, g.outs⟩ : Gr).first = g.first := by show 1 + g.ins + rs.length = 1 + g.ins + g.regs.length; rw [h2]
    exact hq ⟨g.ins, rs, g.ands, g.outs⟩ ⟨hg.ins, by show rs.length ≤ 10; omega, hg.al, hg.ol, fun p hp => by rw [hm]; exact h1 p hp, fun k hk => by rw [hf]; exact hg.ands k hk, fun l hl => by rw [hm]; exact hg.outs l hl⟩ gi (by show (rs.length : Int) ≤ b'; omega) ga go
  by_cases h1 : 1 < (g.regs.length : Int)
  case neg =>
    refine useB_n (decide_eq_false (by rw [eR]; exact h1)) ?_
    refine ⟨⟨by decide, by decide⟩, ?_⟩
    exact ⟨trivial, _, rfl, trivial, _, rfl, trivial, _, rfl, Nat.le_of_ble_eq_true rfl, fin g.regs hg.regs rfl⟩
  refine useB_y (decide_eq_true (by rw [eR]; exact h1)) ⟨4, rfl, ⟨by omega, by omega⟩, fun n n1 n2 => ⟨⟨by omega, by omega⟩, ?_⟩⟩
  refine dLoop_of _ (fun i ρ => ∃ (rs : List (Int × Int)) (ds : List D) (o7 o8 o9 o10 o11 : Option Sl), ds = rs.map pD ∧ RegsOk g.many rs ∧ rs.length = g.regs.length ∧ ρ = [some .src, some (.bo (.int a)), some (.bo (.int b')), some (.bo (.int c)), some (.sh g.toD), some (.ow (.list ds)), some (.sh (.int ((g.ins : Int) + 1))), o7, o8, o9, o10, o11]) ⟨g.regs, _, _, _, _, _, _, rfl, hg.regs, rfl, rfl⟩ ?_ ?_
  · rintro i x ρ kk hx ⟨rs, _, o7, o8, o9, o10, o11, rfl, hrs, hrl2, rfl⟩ next
    have eRs : ((rs.map pD).length : Nat) = g.regs.length := by rw [List.length_map, hrl2]
    refine ⟨_, rfl, ⟨by rw [eRs]; omega, by rw [eRs]; omega⟩, fun k k1 k2 => ⟨_, rfl, ⟨by rw [eRs]; omega, by rw [eRs]; omega⟩, fun j j1 j2 => ⟨2, rfl, ⟨by omega, by omega⟩, fun t t1 t2 => ?_⟩⟩⟩
    rw [eRs] at k2 j2
    have hk : k < rs.length := by omega
    have hj : j < rs.length := by omega
    have ak := atI_pD (ps := rs) k1 hk
    have aj := atI_pD (ps := rs) j1 hj
    have pk : bit (rs.getD k.toNat (0, 0)).1 ∧ inL (rs.getD k.toNat (0, 0)).2 g.many := by
      rw [List.getD_eq_getElem?_getD, List.getElem?_eq_getElem (by omega)]; exact hrs _ (List.getElem_mem _)
    have pj : bit (rs.getD j.toNat (0, 0)).1 ∧ inL (rs.getD j.toNat (0, 0)).2 g.many := by
      rw [List.getD_eq_getElem?_getD, List.getElem?_eq_getElem (by omega)]; exact hrs _ (List.getElem_mem _)
    generalize rs.getD k.toNat (0, 0) = pk' at *
    generalize rs.getD j.toNat (0, 0) = pj' at *
    refine ⟨trivial, _, aj, trivial, _, atI0, trivial, _, aj, trivial, _, atI1, Nat.le_of_ble_eq_true rfl, trivial, _, ak, trivial, _, atI0, .inl ⟨by decide, by decide⟩, Nat.le_of_ble_eq_true rfl, trivial, _, ak, trivial, _, atI0, trivial, _, ak, trivial, _, atI0, Nat.le_of_ble_eq_true rfl, Nat.le_of_ble_eq_true rfl, ?_⟩
    have three : ∀ z : D, (z = pD (Builtin.bitXor pj'.1 t, Builtin.bitXor pj'.2 t) ∨ z = pD (pk'.1, 2 * ((g.ins : Int) + 1 + k)) ∨ z = pD (pk'.1, pk'.1)) → ∃ p, z = pD p ∧ bit p.1 ∧ inL p.2 g.many := fun z hz => by
      rcases hz with rfl | rfl | rfl
      · exact ⟨_, rfl, bit_xor pj.1 (bit_of t1 t2), xor01 pj.2 t1 t2⟩
      · exact ⟨_, rfl, pk.1, by unfold inL Gr.many Gr.first; show 0 ≤ 2 * ((g.ins : Int) + 1 + k) ∧ 2 * ((g.ins : Int) + 1 + k) < _; omega⟩
      · exact ⟨_, rfl, pk.1, bit_inL pk.1 hm1⟩
    refine ⟨Nat.le_of_ble_eq_true rfl, _, .inl rfl, ⟨Nat.le_of_ble_eq_true rfl, Nat.le_of_ble_eq_true rfl⟩, fun z hz => ?_⟩
    have hz : ∃ p, z = pD p ∧ bit p.1 ∧ inL p.2 g.many := by
      refine three z ?_
      rcases List.mem_append.mp hz with hz | hz
      · simpa [pD] using hz
      · simpa [pD] using cutD_mem hz
    obtain ⟨p, rfl, hp⟩ := hz
    exact ⟨⟨_, rfl⟩, _, rfl, k1, by rw [List.length_map]; exact hk, next _ ⟨rs.set k.toNat p, _, _, _, _, _, _, (setP rs k.toNat p).symm, hrs.set hp k.toNat, by rw [List.length_set]; exact hrl2, rfl⟩⟩
  · rintro ρ ⟨rs, _, o7, o8, o9, o10, o11, rfl, hrs, hrl2, rfl⟩
    exact ⟨trivial, _, rfl, trivial, _, rfl, trivial, _, rfl, Nat.le_of_ble_eq_true rfl, fin rs hrs hrl2⟩
abbrev s_law_moving_graph : Stmt := topS 20
abbrev n_law_moving_graph : List Str := ["_law_source_here", "_law_many_ins", "_law_many_regs", "_law_most", "_law_graph", "_law_lap", "_law_regs", "_law_turn", "_law_k", "_law_inner", "_law_outer", "_law_one"]
theorem sc_law_moving_graph : FnScope n_law_moving_graph ["_law_source_here", "_law_many_ins", "_law_many_regs", "_law_most"] (C8.fnScope s_law_moving_graph) := C8.fnScope_by (by decide +kernel)
theorem ok_law_moving_graph {a : Addr} {fd : FuncData} (F : C8.Def K mg "_law_moving_graph" s_law_moving_graph a fd) (b : Binds K fd ["_law_source_here", "_law_many_ins", "_law_many_regs", "_law_most"] []) (T : Txt mg) (c_law_pick : CalG P w K mg base 1 "_law_pick" (spD K [.src, .bo] (Cpick))) (c_law_draw_graph : CalG P w K mg base 3 "_law_draw_graph" (spD K [.src, .bo, .bo, .bo] (Cdraw))) (c_law_still_graph : CalG P w K mg base 4 "_law_still_graph" (spD K [.src, .bo, .bo, .bo] (Cgraph 4))) (c_law_edges : CalG P w K mg base 3 "_law_edges" (spD K [.bo] (Cedges))) : CalG P w K mg base (5) "_law_moving_graph" (spD K [.src, .bo, .bo, .bo] (Cgraph 5)) := by
  refine calG F b sc_law_moving_graph rfl (fun cdv A outer s H E hA hr => ?_)
  have hu := huOf hr
  have hu64 := hr.units
  refine ⟨_, _, (pss_cons (ps_asg (pe_tup (pa_cons pe_int (pa_cons (pe_tup pa_nil) (pa_cons (pe_tup pa_nil) (pa_cons (pe_tup pa_nil) pa_nil))))) (pg_name (i := 4) sc_law_moving_graph.nd rfl (by first | exact Or.inl rfl | exact Or.inr rfl)))
      (pss_cons (ps_for PassesOwn.never rfl (pi_range1 (by rfl) T.range (pa_cons pe_int pa_nil)) (pg_name (i := 5) sc_law_moving_graph.nd rfl (by first | exact Or.inl rfl | exact Or.inr rfl))
      (pss_cons (ps_asg (pe_cG c_law_draw_graph hA hr (by first | decide | omega) rfl (pa_cons (pv 0) (pa_cons (pv 1) (pa_cons (pv 2) (pa_cons (pv 3) pa_nil))))) (pg_name (i := 4) sc_law_moving_graph.nd rfl (by first | exact Or.inl rfl | exact Or.inr rfl)))
      (pss_cons (ps_asg (pe_ifExp (pt_cmpR (k_eq (K := K) rfl hu64) (pe_cG c_law_pick hA hr (by first | decide | omega) rfl (pa_cons (pv 0) (pa_cons pe_int pa_nil))) pe_int (nomark _)) (pe_cG c_law_still_graph hA hr (by first | decide | omega) rfl (pa_cons (pv 0) (pa_cons (pv 1) (pa_cons (pv 2) (pa_cons (pv 3) pa_nil))))) (pv 4)) (pg_name (i := 4) sc_law_moving_graph.nd rfl (by first | exact Or.inl rfl | exact Or.inr rfl)))
      (pss_cons (ps_asg (pe_callTy (k_listA (K := K) rfl rfl) (by rfl) T.list (by decide +kernel) (pa_cons (pe_ix (k_ix (K := K) rfl) (pv 4) pe_int (fun _ _ => rfl)) pa_nil)) (pg_name (i := 6) sc_law_moving_graph.nd rfl (by first | exact Or.inl rfl | exact Or.inr rfl)))
      (pss_cons (ps_for PassesOwn.never rfl (pi_range1 (by rfl) T.range (pa_cons (pe_ifExp (pt_cmpR op_gt (pe_callB (k_lenA (K := K) rfl) (by rfl) T.len (by decide +kernel) (pa_cons (pv 6) pa_nil)) pe_int (nomark _)) (pe_cG c_law_pick hA hr (by first | decide | omega) rfl (pa_cons (pv 0) (pa_cons pe_int pa_nil))) pe_int) pa_nil)) (pg_name (i := 7) sc_law_moving_graph.nd rfl (by first | exact Or.inl rfl | exact Or.inr rfl))
      (pss_cons (ps_asg (pe_cG c_law_pick hA hr (by first | decide | omega) rfl (pa_cons (pv 0) (pa_cons (pe_callB (k_lenA (K := K) rfl) (by rfl) T.len (by decide +kernel) (pa_cons (pv 6) pa_nil)) pa_nil))) (pg_name (i := 8) sc_law_moving_graph.nd rfl (by first | exact Or.inl rfl | exact Or.inr rfl)))
      (pss_one (ps_asg (pe_tup (pa_cons (pe_ix (k_ix (K := K) rfl) (pe_ix (k_ix (K := K) rfl) (pv 6) (pv 8) (fun _ _ => rfl)) pe_int (fun _ _ => rfl)) (pa_cons (pe_op (k_add (K := K) rfl) (pe_op op_mulA pe_int (pe_op (k_add (K := K) rfl) (pe_op (k_add (K := K) rfl) (pe_ix (k_ix (K := K) rfl) (pv 4) pe_int (fun _ _ => rfl)) pe_int) (pe_cG c_law_pick hA hr (by first | decide | omega) rfl (pa_cons (pv 0) (pa_cons (pe_callB (k_lenA (K := K) rfl) (by rfl) T.len (by decide +kernel) (pa_cons (pv 6) pa_nil)) pa_nil))))) (pe_cG c_law_pick hA hr (by first | decide | omega) rfl (pa_cons (pv 0) (pa_cons pe_int pa_nil)))) pa_nil))) (pg_sub (pv 6) (pv 8) set_list)))))
      (pss_cons (ps_asg (pe_tup (pa_cons (pe_ix (k_ix (K := K) rfl) (pv 4) pe_int (fun _ _ => rfl)) (pa_cons (pe_callTy (k_tupleA (K := K) rfl rfl) (by rfl) T.tuple (by decide +kernel) (pa_cons (pv 6) pa_nil)) (pa_cons (pe_ix (k_ix (K := K) rfl) (pv 4) pe_int (fun _ _ => rfl)) (pa_cons (pe_op (k_add (K := K) rfl) (pe_ix (k_ix (K := K) rfl) (pv 4) pe_int (fun _ _ => rfl)) (pe_callTy (k_tupleA (K := K) rfl rfl) (by rfl) T.tuple (by decide +kernel) (pa_cons (pe_lst (pa_cons (pe_op op_mulA pe_int (pe_op (k_add (K := K) rfl) (pe_op (k_add (K := K) rfl) (pe_ix (k_ix (K := K) rfl) (pv 4) pe_int (fun _ _ => rfl)) (pe_callB (k_lenA (K := K) rfl) (by rfl) T.len (by decide +kernel) (pa_cons (pv 6) pa_nil))) (pe_callB (k_lenA (K := K) rfl) (by rfl) T.len (by decide +kernel) (pa_cons (pe_ix (k_ix (K := K) rfl) (pv 4) pe_int (fun _ _ => rfl)) pa_nil)))) pa_nil)) pa_nil))) pa_nil))))) (pg_name (i := 4) sc_law_moving_graph.nd rfl (by first | exact Or.inl rfl | exact Or.inr rfl)))
      (pss_cons (ps_asg (pe_cG c_law_edges hA hr (by first | decide | omega) rfl (pa_cons (pv 4) pa_nil)) (k_gtup (n := 2) (K := K) rfl (by rfl) (pgs_cons (pg_name (i := 9) sc_law_moving_graph.nd rfl (by first | exact Or.inl rfl | exact Or.inr rfl)) (pgs_cons (pg_name (i := 10) sc_law_moving_graph.nd rfl (by first | exact Or.inl rfl | exact Or.inr rfl)) pgs_nil))))
      (pss_one (ps_if (PW.pt (pw_and (pt_cmpR op_gt (pe_callB (k_lenA (K := K) rfl) (by rfl) T.len (by decide +kernel) (pa_cons (pv 9) pa_nil)) pe_int (nomark _)) (pw_and1 (pt_cmpR (k_ne (K := K) rfl hu64) (pe_lc rfl sc_law_moving_graph.nd (k_iany (K := K) rfl (pe_op (k_add (K := K) rfl) (pv 9) (pv 10))) (blkOk_by (own := [("_law_one", 11)]) (N := n_law_moving_graph) (sc := C8.fnScope s_law_moving_graph) (by decide +kernel)) (fun _ _ _ _ _ => (pg_name (i := 11) sc_law_moving_graph.nd rfl (by first | exact Or.inl rfl | exact Or.inr rfl))) (fun _ _ _ _ _ => (pts_one (pt_cmpR op_gt (pe_ix (k_ix (K := K) rfl) (pv 11) (pe_un un_neg pe_int) (fun _ _ => rfl)) pe_int (nomark _)))) (fun _ _ _ _ _ => (pv 11))) (pe_lst pa_nil) (nomark _))))) (pss_one (ps_ret (pv 4))) pss_nil)))))))))
      (pss_one (ps_ret (pv 4))))),
   (ls_seq (ls_asg (le_tup (la_cons le_int (la_cons (le_tup la_nil) (la_cons (le_tup la_nil) (la_cons (le_tup la_nil) la_nil))))) lg_name)
      (ls_seq (ls_for (li_rng1 (la_cons le_int la_nil)) lg_name
      (ls_seq (ls_asg (le_call (la_cons le_var (la_cons le_var (la_cons le_var (la_cons le_var la_nil))))) lg_name)
      (ls_seq (ls_asg (le_if (lt_test (le_op (le_call (la_cons le_var (la_cons le_int la_nil))) le_int ol_eq)) (le_call (la_cons le_var (la_cons le_var (la_cons le_var (la_cons le_var la_nil))))) le_var) lg_name)
      (ls_seq (ls_asg (le_cb (la_cons (le_op le_var le_int ol_ix) la_nil) cl_listA) lg_name)
      (ls_seq (ls_for (li_rng1 (la_cons (le_if (lt_test (le_op (le_cb (la_cons le_var la_nil) cl_lenA) le_int ol_gt)) (le_call (la_cons le_var (la_cons le_int la_nil))) le_int) la_nil)) lg_name
      (ls_seq (ls_asg (le_call (la_cons le_var (la_cons (le_cb (la_cons le_var la_nil) cl_lenA) la_nil))) lg_name)
      (ls_setL (i := 6) le_var (le_tup (la_cons (le_op (le_op le_var le_var ol_ix) le_int ol_ix) (la_cons (le_op (le_op le_int (le_op (le_op (le_op le_var le_int ol_ix) le_int ol_add) (le_call (la_cons le_var (la_cons (le_cb (la_cons le_var la_nil) cl_lenA) la_nil))) ol_add) ol_mul) (le_call (la_cons le_var (la_cons le_int la_nil))) ol_add) la_nil))))))
      (ls_seq (ls_asg (le_tup (la_cons (le_op le_var le_int ol_ix) (la_cons (le_cb (la_cons le_var la_nil) cl_tupleA) (la_cons (le_op le_var le_int ol_ix) (la_cons (le_op (le_op le_var le_int ol_ix) (le_cb (la_cons (le_lst (la_cons (le_op le_int (le_op (le_op (le_op le_var le_int ol_ix) (le_cb (la_cons le_var la_nil) cl_lenA) ol_add) (le_cb (la_cons (le_op le_var le_int ol_ix) la_nil) cl_lenA) ol_add) ol_mul) la_nil)) la_nil) cl_tupleA) ol_add) la_nil))))) lg_name)
      (ls_seq (ls_asg (le_call (la_cons le_var la_nil)) (lg_tup (lgs_cons lg_name (lgs_cons lg_name lgs_nil))))
      (ls_if (lt_and (lt_test (le_op (le_cb (la_cons le_var la_nil) cl_lenA) le_int ol_gt)) (lt_test (le_op (le_lc (li_any (le_op le_var le_var ol_add)) lg_name (lgw_name (by decide)) (lt_test (le_op (le_op le_var (le_un le_int ul_neg) ol_ix) le_int ol_gt)) le_var) (le_lst la_nil) ol_ne))) (ls_ret le_var) ls_next))))))))
      (ls_ret le_var))), ?_⟩
  intro ds Qc h
  obtain ⟨a, b', c, rfl, ha, hb, hc, habc, hq⟩ := h
  have k0 : (⟨0, [], [], []⟩ : Gr).ok := ⟨by decide, by decide, by decide, by decide, (fun _ h => nomatch h), (fun k h => absurd h (Nat.not_lt_zero _)), (fun _ h => nomatch h)⟩
  refine ⟨Nat.le_of_ble_eq_true rfl, Nat.le_of_ble_eq_true rfl, Nat.le_of_ble_eq_true rfl, Nat.le_of_ble_eq_true rfl, ⟨by decide, by decide⟩, dLoop_of _ (fun i ρ => ∃ (g : Gr) (d : D) (o5 o6 o7 o8 o9 o10 : Option Sl), d = g.toD ∧ g.ok ∧ g.ins ≤ a ∧ g.regs.length ≤ b' ∧ g.ands.length ≤ c ∧ g.outs.length ≤ 5 ∧ ρ = [some .src, some (.bo (.int a)), some (.bo (.int b')), some (.bo (.int c)), some (.sh d), o5, o6, o7, o8, o9, o10, none]) ⟨⟨0, [], [], []⟩, _, _, _, _, _, _, _, rfl, k0, ha.1, hb.1, hc.1, Nat.zero_le _, rfl⟩ ?_ ?_⟩
  case refine_2 =>
    rintro ρ ⟨g, _, o5, o6, o7, o8, o9, o10, rfl, hg, gi, gr, ga, go, rfl⟩
    exact hq g hg gi gr ga go
  rintro i x ρ kk hx ⟨_, _, o5, o6, o7, o8, o9, o10, rfl, _, _, _, _, _, rfl⟩ next
  refine ⟨a, b', c, rfl, ha, hb, ⟨hc.1, by omega⟩, fun g hg gi gr ga go => ⟨6, rfl, ⟨by omega, by omega⟩, fun q q1 q2 => ⟨rfl, ?_⟩⟩⟩
  refine useB_b (fun _ => ⟨a, b', c, rfl, ha, hb, hc, habc, fun g hg gi gr ga go => ?_⟩) (fun _ => ?_)
  all_goals
    have hrl := hg.rl
    have eR : ((g.regs.map pD).length : Nat) = g.regs.length := List.length_map ..
    have hm1 : 1 ≤ g.many := by unfold Gr.many Gr.first; omega
    have hm64 : g.many < 64 := by unfold Gr.many Gr.first; omega
    have graph : ∀ rs : List (Int × Int), RegsOk g.many rs → rs.length = g.regs.length → ∃ g' : Gr, g'.toD = .tuple [.int g.ins, .tuple (rs.map pD), .tuple (g.ands.map pD), .tuple (g.outs.map PyData.int ++ [.int (2 * ((g.ins : Int) + ((rs.map pD).length : Nat) + ((g.ands.map pD).length : Nat)))])] ∧ g'.ok ∧ g'.ins ≤ a ∧ g'.regs.length ≤ b' ∧ g'.ands.length ≤ c ∧ g'.outs.length ≤ 5 ∧ g'.many < 64 := fun rs h1 h2 => by
      have hm : (⟨g.ins, rs, g.ands, g.outs ++ [2 * ((g.ins : Int) + ((rs.map pD).length : Nat) + ((g.ands.map pD).length : Nat))]⟩ : Gr).many = g.many := by show 1 + g.ins + rs.length + g.ands.length = 1 + g.ins + g.regs.length + g.ands.length; rw [h2]
      have hf : (⟨g.ins, rs, g.ands, g.outs ++ [2 * ((g.ins : Int) + ((rs.map pD).length : Nat) + ((g.ands.map pD).length : Nat))]⟩ : Gr).first = g.first := by show 1 + g.ins + rs.length = 1 + g.ins + g.regs.length; rw [h2]
      refine ⟨⟨g.ins, rs, g.ands, g.outs ++ [2 * ((g.ins : Int) + ((rs.map pD).length : Nat) + ((g.ands.map pD).length : Nat))]⟩, by unfold Gr.toD; simp, ⟨hg.ins, by show rs.length ≤ 10; omega, hg.al, by show (g.outs ++ [_]).length ≤ 10; simp; omega, fun p hp => by rw [hm]; exact h1 p hp, fun k hk => by rw [hf]; exact hg.ands k hk, fun l hl => ?_⟩, gi, by show (rs.length : Int) ≤ b'; omega, ga, by show (g.outs ++ [_]).length ≤ 5; simp; omega, by rw [hm]; exact hm64⟩
      rw [hm]
      rcases List.mem_append.mp hl with h | h
      · exact hg.outs l h
      · rw [List.mem_singleton.mp h, List.length_map, List.length_map, h2]
        unfold inL Gr.many Gr.first
        omega
    refine ⟨trivial, _, rfl, useB_lpd (c := 2) (by decide) (fun hp loop => ⟨3, rfl, ⟨by omega, by omega⟩, fun n n1 n2 => ⟨⟨by omega, by omega⟩, loop n n1 (by omega)⟩⟩) (fun n n1 n2 hp => ?_)⟩
    refine dLoop_of _ (fun t ρ => ∃ (rs : List (Int × Int)) (ds : List D) (o7 o8 : Option Sl), ds = rs.map pD ∧ RegsOk g.many rs ∧ rs.length = g.regs.length ∧ ρ = [some .src, some (.bo (.int a)), some (.bo (.int b')), some (.bo (.int c)), some (.sh g.toD), some (.sh x), some (.ow (.list ds)), o7, o8, o9, o10, none]) ⟨g.regs, _, _, _, rfl, hg.regs, rfl, rfl⟩ ?_ ?_
    · rintro t y ρ kk2 hy ⟨rs, _, o7, o8, rfl, hrs, hrl2, rfl⟩ next2
      have ht : t < (rngD 0 n.toNat).length := (List.getElem?_eq_some_iff.mp hy).1
      rw [rngD_length] at ht
      have hp1 := hp (by omega)
      rw [eR] at hp1
      have eRs : ((rs.map pD).length : Nat) = g.regs.length := by rw [List.length_map, hrl2]
      refine ⟨_, rfl, ⟨by rw [eRs]; omega, by rw [eRs]; omega⟩, fun k k1 k2 => ?_⟩
      rw [eRs] at k2
      have hk : k < rs.length := by omega
      have ak := atI_pD (ps := rs) k1 hk
      have pk : bit (rs.getD k.toNat (0, 0)).1 ∧ inL (rs.getD k.toNat (0, 0)).2 g.many := by
        rw [List.getD_eq_getElem?_getD, List.getElem?_eq_getElem (by omega)]; exact hrs _ (List.getElem_mem _)
      refine ⟨trivial, _, ak, trivial, _, atI0, trivial, _, rfl, _, rfl, ⟨by rw [eRs]; omega, by rw [eRs]; omega⟩, fun j j1 j2 => ⟨.inl ⟨by decide, by decide⟩, 2, rfl, ⟨by omega, by omega⟩, fun u u1 u2 => ?_⟩⟩
      rw [eRs] at j2
      have hp2 : bit (rs.getD k.toNat (0, 0)).1 ∧ inL (2 * ((g.ins : Int) + 1 + j) + u) g.many := ⟨pk.1, by unfold inL Gr.many Gr.first; omega⟩
      exact ⟨Nat.le_of_ble_eq_true rfl, ⟨_, rfl⟩, _, rfl, k1, by rw [List.length_map]; exact hk, next2 _ ⟨rs.set k.toNat ((rs.getD k.toNat (0, 0)).1, 2 * ((g.ins : Int) + 1 + j) + u), _, _, _, (setP rs k.toNat _).symm, hrs.set hp2 k.toNat, by rw [List.length_set]; exact hrl2, rfl⟩⟩
    · rintro ρ ⟨rs, _, o7, o8, rfl, hrs, hrl2, rfl⟩
      obtain ⟨g', e, h1, h2, h3, h4, h5, h6⟩ := graph rs hrs hrl2
      refine ⟨trivial, _, rfl, trivial, _, rfl, trivial, _, rfl, trivial, _, rfl, trivial, _, rfl, .inl ⟨by decide, by decide⟩, Nat.le_of_ble_eq_true rfl, by rw [List.length_map]; show g.outs.length + 1 ≤ sizeLine; rw [sizeLine_eq]; omega, Nat.le_of_ble_eq_true rfl, g', congrArg (fun d => [d]) e.symm, h1, h6, fun A B hAl hBl hA hB => ?_⟩
      refine ⟨rfl, rfl, useB_d (fun _ => ?_) (fun _ => useB_n rfl (next _ ⟨g', _, _, _, _, _, _, _, e.symm, h1, h2, h3, h4, h5, rfl⟩))⟩
      refine ⟨by rw [sizeLine_eq]; omega, dLcGo_of _ (fun j acc ρ => acc.length ≤ j ∧ (∀ d ∈ acc, lastI d) ∧ ρ = [some .src, some (.bo (.int a)), some (.bo (.int b')), some (.bo (.int c)), some (.sh _), some (.sh x), some (.ow (.list (rs.map pD))), o7, o8, some (.sh (.list A)), some (.sh (.list B)), none]) ⟨Nat.le_refl _, (fun _ h => nomatch h), rfl⟩ ?_ ?_⟩
      · rintro j y acc ρ kk2 hy ⟨hal, hac, rfl⟩ next2
        have hj : j < (A ++ B).length := (List.getElem?_eq_some_iff.mp hy).1
        rw [List.length_append] at hj
        have hyl : lastI y := (List.mem_append.mp (List.mem_of_getElem? hy)).elim (hA y) (hB y)
        have hyl2 := hyl
        obtain ⟨ns, k, rfl⟩ := hyl
        refine ⟨trivial, _, atI_last, useB_b (fun _ => ⟨by rw [sizeLine_eq]; omega, next2 _ _ ⟨by simp; omega, fun d hd => ?_, rfl⟩⟩) (fun _ => next2 _ _ ⟨by omega, hac, rfl⟩)⟩
        rcases List.mem_append.mp hd with h | h
        · exact hac d h
        · rw [List.mem_singleton.mp h]; exact hyl2
      · rintro acc ρ ⟨hal, hac, rfl⟩
        refine ⟨Nat.le_of_ble_eq_true rfl, (SH.list (.all fun d hd => (hac d hd).sh)).ok2 (SH.list (n := 0) .nil) (by decide) (by decide), useB_b (fun _ => ?_) (fun _ => next _ ⟨g', _, _, _, _, _, _, _, e.symm, h1, h2, h3, h4, h5, rfl⟩)⟩
        have := hq g' h1 h2 h3 h4 h5
        rw [e] at this
        exact this
end
end K41

set_option Elab.async false
set_option linter.all false
set_option maxRecDepth 100000
set_option maxHeartbeats 4000000
set_option autoImplicit false
set_option pp.maxSteps 1000
namespace K41
open PySem L2 DL
section
variable {P : Program} {w : World} {K : PySem.W.Frag} {mg : Str → Option Value} {base : Heap}
abbrev s_law : Stmt := topS 21
abbrev n_law : List Str := ["_law_script", "_law_source_here", "_law_lap", "_law_graph", "_law_many", "_law_first", "_law_literal", "_law_still", "_law_turn", "_law_told", "_law_ring", "_law_node"]
theorem sc_law : FnScope n_law ["_law_script"] (C8.fnScope s_law) := C8.fnScope_by (by decide +kernel)
theorem ok_law {a : Addr} {fd : FuncData} (F : C8.Fun K "law" "law" s_law a fd) (T : Txt mg) (c_law_source : CalG P w K mg base 1 "_law_source" (spSrc K)) (c_law_moving_graph : CalG P w K mg base 5 "_law_moving_graph" (spD K [.src, .bo, .bo, .bo] (Cgraph 5))) (c_law_still_graph : CalG P w K mg base 4 "_law_still_graph" (spD K [.src, .bo, .bo, .bo] (Cgraph 4))) (c_source_of : CalG P w K mg base 2 "source_of" (spD K [.bo, .bo] (Csrc))) (c_law_origin : CalG P w K mg base 2 "_law_origin" (spD K [.bo, .bo] (Csrc))) (c_needed_ands : CalG P w K mg base 3 "needed_ands" (spD K [.bo] (Cands))) (c_still_registers : CalG P w K mg base 3 "still_registers" (spD K [.bo] (Cstill))) (c_law_ands : CalG P w K mg base 2 "_law_ands" (spD K [.bo] (Cands))) : FnG P w K mg base C8.CX0 (5 + 1) a fd ["_law_script"] (spLaw K) := by
  refine fnG_of F sc_law (fun vs H Q E h => ?_) (fun cdv A outer s H vs Q E hA hr h => ?_)
  · obtain ⟨_, _, rfl, _⟩ := h; rfl
  have hu := huOf hr
  have hu64 := hr.units
  refine ⟨_, PSs.nox (pss_cons (ps_asg (pe_cG c_law_source hA hr (by decide) rfl (pa_cons (pv 0) pa_nil)) (pg_name (i := 1) sc_law.nd rfl (by first | exact Or.inl rfl | exact Or.inr rfl))) (pss_cons (ps_for PassesOwn.never rfl (pi_range1 (by rfl) T.range (pa_cons pe_int pa_nil)) (pg_name (i := 2) sc_law.nd rfl (by first | exact Or.inl rfl | exact Or.inr rfl))
      (pss_cons (ps_asg (pe_cG c_law_moving_graph hA hr (by first | decide | omega) rfl (pa_cons (pv 1) (pa_cons pe_int (pa_cons (pe_ix (k_ix (K := K) rfl) (pe_lst (pa_cons pe_int (pa_cons pe_int (pa_cons pe_int pa_nil)))) (pv 2) (fun _ _ => rfl)) (pa_cons (pe_ix (k_ix (K := K) rfl) (pe_lst (pa_cons pe_int (pa_cons pe_int (pa_cons pe_int pa_nil)))) (pv 2) (fun _ _ => rfl)) pa_nil))))) (pg_name (i := 3) sc_law.nd rfl (by first | exact Or.inl rfl | exact Or.inr rfl)))
      (pss_cons (ps_asg (pe_ifExp (pt_cmpR (k_eq (K := K) rfl hu64) (pv 2) pe_int (nomark _)) (pe_cG c_law_still_graph hA hr (by first | decide | omega) rfl (pa_cons (pv 1) (pa_cons pe_int (pa_cons pe_int (pa_cons pe_int pa_nil))))) (pv 3)) (pg_name (i := 3) sc_law.nd rfl (by first | exact Or.inl rfl | exact Or.inr rfl)))
      (pss_cons (ps_par (i := 4) (j := 5) (by rfl) sc_law.nd rfl rfl (by decide) rfl rfl (pa_cons (pe_op (k_add (K := K) rfl) (pe_op (k_add (K := K) rfl) (pe_op (k_add (K := K) rfl) pe_int (pe_ix (k_ix (K := K) rfl) (pv 3) pe_int (fun _ _ => rfl))) (pe_callB (k_lenA (K := K) rfl) (by rfl) T.len (by decide +kernel) (pa_cons (pe_ix (k_ix (K := K) rfl) (pv 3) pe_int (fun _ _ => rfl)) pa_nil))) (pe_callB (k_lenA (K := K) rfl) (by rfl) T.len (by decide +kernel) (pa_cons (pe_ix (k_ix (K := K) rfl) (pv 3) pe_int (fun _ _ => rfl)) pa_nil))) (pa_cons (pe_op (k_add (K := K) rfl) (pe_ix (k_ix (K := K) rfl) (pv 3) pe_int (fun _ _ => rfl)) pe_int) pa_nil)) (by rfl))
      (pss_cons (ps_for PassesOwn.never rfl (pi_range1 (by rfl) T.range (pa_cons (pe_op op_mulA pe_int (pv 4)) pa_nil)) (pg_name (i := 6) sc_law.nd rfl (by first | exact Or.inl rfl | exact Or.inr rfl))
      (pss_one (ps_if (pt_cmpR (k_ne (K := K) rfl hu64) (pe_callB (k_repr (K := K) rfl hA hu64) (by rfl) T.repr (by decide +kernel) (pa_cons (pe_cG c_source_of hA hr (by first | decide | omega) rfl (pa_cons (pv 3) (pa_cons (pv 6) pa_nil))) pa_nil)) (pe_callB (k_repr (K := K) rfl hA hu64) (by rfl) T.repr (by decide +kernel) (pa_cons (pe_cG c_law_origin hA hr (by first | decide | omega) rfl (pa_cons (pv 3) (pa_cons (pv 6) pa_nil))) pa_nil)) (nomark _)) (pss_one (ps_ret pe_bl)) pss_nil)))
      (pss_cons (ps_setLc (i := 7) rfl sc_law.nd rfl rfl (sw_true rfl rfl rfl (by decide +kernel)) (pi_range2 (by rfl) T.range (pa_cons (pv 5) (pa_cons (pe_op (k_add (K := K) rfl) (pv 5) (pe_callB (k_lenA (K := K) rfl) (by rfl) T.len (by decide +kernel) (pa_cons (pe_ix (k_ix (K := K) rfl) (pv 3) pe_int (fun _ _ => rfl)) pa_nil))) pa_nil))) (blkOk_by (own := [("_law_node", 11)]) (N := n_law) (sc := C8.fnScope s_law) (by decide +kernel)) (fun _ _ _ _ _ => (pg_name (i := 11) sc_law.nd rfl (by first | exact Or.inl rfl | exact Or.inr rfl))) (fun _ _ _ _ _ => (pts_one (pt_cmpR (k_eq (K := K) rfl hu64) (pe_cG c_law_origin hA hr (by first | decide | omega) rfl (pa_cons (pv 3) (pa_cons (pe_op op_mulA pe_int (pv 11)) pa_nil))) (pe_tup (pa_cons (pv 11) (pa_cons pe_int (pa_cons (pe_tup pa_nil) pa_nil)))) (nomark _)))) (fun _ _ _ _ _ => (pv 11)))
      (pss_one (ps_for PassesOwn.never rfl (pi_range1 (by rfl) T.range (pa_cons pe_int pa_nil)) (pg_name (i := 8) sc_law.nd rfl (by first | exact Or.inl rfl | exact Or.inr rfl))
      (pss_cons (ps_asg (pe_lst (pa_cons (pe_cG c_needed_ands hA hr (by first | decide | omega) rfl (pa_cons (pv 3) pa_nil)) (pa_cons (pe_cG c_still_registers hA hr (by first | decide | omega) rfl (pa_cons (pv 3) pa_nil)) pa_nil))) (pg_name (i := 9) sc_law.nd rfl (by first | exact Or.inl rfl | exact Or.inr rfl)))
      (pss_cons (ps_if (pt_cmpR (k_ne (K := K) rfl hu64) (pe_callB (k_repr (K := K) rfl hA hu64) (by rfl) T.repr (by decide +kernel) (pa_cons (pv 9) pa_nil)) (pe_callB (k_repr (K := K) rfl hA hu64) (by rfl) T.repr (by decide +kernel) (pa_cons (pe_lst (pa_cons (pe_cG c_law_ands hA hr (by first | decide | omega) rfl (pa_cons (pv 3) pa_nil)) (pa_cons (pv 7) pa_nil))) pa_nil)) (nomark _)) (pss_one (ps_ret pe_bl)) pss_nil)
      (pss_cons (ps_expr (pe_bm PySem.F.plainAttrs_list PySem.F.slot_list_append PySem.F.type_list_append mt_append (pe_ix (k_ix (K := K) rfl) (pv 9) pe_int (fun _ _ => rfl)) (pa_cons pe_non pa_nil)))
      (pss_one (ps_expr (pe_bm PySem.F.plainAttrs_list PySem.F.slot_list_append PySem.F.type_list_append mt_append (pe_ix (k_ix (K := K) rfl) (pv 9) pe_int (fun _ _ => rfl)) (pa_cons pe_non pa_nil)))))))))))))))
      (pss_cons (ps_asg (pe_tup (pa_cons pe_int (pa_cons (pe_tup (pa_cons (pe_tup (pa_cons pe_int (pa_cons pe_int pa_nil))) (pa_cons (pe_tup (pa_cons pe_int (pa_cons pe_int pa_nil))) (pa_cons (pe_tup (pa_cons pe_int (pa_cons pe_int pa_nil))) (pa_cons (pe_tup (pa_cons pe_int (pa_cons pe_int pa_nil))) pa_nil))))) (pa_cons (pe_tup pa_nil) (pa_cons (pe_tup (pa_cons pe_int (pa_cons pe_int pa_nil))) pa_nil))))) (pg_name (i := 10) sc_law.nd rfl (by first | exact Or.inl rfl | exact Or.inr rfl)))
      (pss_cons (ps_setLc (i := 9) rfl sc_law.nd rfl rfl (sw_true rfl rfl rfl (by decide +kernel)) (k_iany (K := K) rfl (pe_lst (pa_cons pe_int (pa_cons pe_int (pa_cons pe_int (pa_cons pe_int (pa_cons pe_int pa_nil))))))) (blkOk_by (own := [("_law_literal", 6)]) (N := n_law) (sc := C8.fnScope s_law) (by decide +kernel)) (fun _ _ _ _ _ => (pg_name (i := 6) sc_law.nd rfl (by first | exact Or.inl rfl | exact Or.inr rfl))) (fun _ _ _ _ _ => pts_nil) (fun _ _ _ _ _ => (pe_cG c_source_of hA hr (by first | decide | omega) rfl (pa_cons (pv 10) (pa_cons (pv 6) pa_nil)))))
      (pss_cons (ps_if (pt_cmpR (k_ne (K := K) rfl hu64) (pe_callB (k_repr (K := K) rfl hA hu64) (by rfl) T.repr (by decide +kernel) (pa_cons (pv 9) pa_nil)) (pe_callB (k_repr (K := K) rfl hA hu64) (by rfl) T.repr (by decide +kernel) (pa_cons (pe_lst (pa_cons (pe_tup (pa_cons pe_int (pa_cons pe_int (pa_cons (pe_tup (pa_cons pe_int pa_nil)) pa_nil)))) (pa_cons (pe_tup (pa_cons pe_int (pa_cons pe_int (pa_cons (pe_tup (pa_cons pe_int pa_nil)) pa_nil)))) (pa_cons (pe_tup (pa_cons pe_int (pa_cons pe_int (pa_cons (pe_tup (pa_cons pe_int (pa_cons pe_int pa_nil))) pa_nil)))) (pa_cons (pe_tup (pa_cons pe_int (pa_cons pe_int (pa_cons (pe_tup pa_nil) pa_nil)))) (pa_cons (pe_tup (pa_cons pe_int (pa_cons pe_int (pa_cons (pe_tup pa_nil) pa_nil)))) pa_nil)))))) pa_nil)) (nomark _)) (pss_one (ps_ret pe_bl)) pss_nil)
      (pss_one (ps_ret (pe_cmpR (k_eq (K := K) rfl hu64) (pe_cG c_still_registers hA hr (by first | decide | omega) rfl (pa_cons (pv 10) pa_nil)) (pe_lst (pa_cons pe_int (pa_cons pe_int pa_nil))) (nomark _))))))))), ?_⟩
  refine law_rest h (by decide) (ls_seq (ls_for (li_rng1 (la_cons le_int la_nil)) lg_name
      (ls_seq (ls_asg (le_call (la_cons le_var (la_cons le_int (la_cons (le_op (le_lst (la_cons le_int (la_cons le_int (la_cons le_int la_nil)))) le_var ol_ix) (la_cons (le_op (le_lst (la_cons le_int (la_cons le_int (la_cons le_int la_nil)))) le_var ol_ix) la_nil))))) lg_name)
      (ls_seq (ls_asg (le_if (lt_test (le_op le_var le_int ol_eq)) (le_call (la_cons le_var (la_cons le_int (la_cons le_int (la_cons le_int la_nil))))) le_var) lg_name)
      (ls_seq (ls_par (le_op (le_op (le_op le_int (le_op le_var le_int ol_ix) ol_add) (le_cb (la_cons (le_op le_var le_int ol_ix) la_nil) cl_lenA) ol_add) (le_cb (la_cons (le_op le_var le_int ol_ix) la_nil) cl_lenA) ol_add) (le_op (le_op le_var le_int ol_ix) le_int ol_add))
      (ls_seq (ls_for (li_rng1 (la_cons (le_op le_int le_var ol_mul) la_nil)) lg_name
      (ls_if (lt_test (le_op (le_cb (la_cons (le_call (la_cons le_var (la_cons le_var la_nil))) la_nil) cl_reprP) (le_cb (la_cons (le_call (la_cons le_var (la_cons le_var la_nil))) la_nil) cl_reprP) ol_ne)) (ls_ret le_bl) ls_next))
      (ls_seq (ls_asg (le_lc (li_rng2 (la_cons le_var (la_cons (le_op le_var (le_cb (la_cons (le_op le_var le_int ol_ix) la_nil) cl_lenA) ol_add) la_nil))) lg_name (lgw_name (by decide)) (lt_test (le_op (le_call (la_cons le_var (la_cons (le_op le_int le_var ol_mul) la_nil))) (le_tup (la_cons le_var (la_cons le_int (la_cons (le_tup la_nil) la_nil)))) ol_eq)) le_var) lg_name)
      (ls_for (li_rng1 (la_cons le_int la_nil)) lg_name
      (ls_told2 (i := 9) (le_call (la_cons le_var la_nil)) (le_call (la_cons le_var la_nil)) lf_nil (le_reprL (la_cons (le_call (la_cons le_var la_nil)) (la_cons le_var la_nil))) le_bl))))))))
      (ls_seq (ls_asg (le_tup (la_cons le_int (la_cons (le_tup (la_cons (le_tup (la_cons le_int (la_cons le_int la_nil))) (la_cons (le_tup (la_cons le_int (la_cons le_int la_nil))) (la_cons (le_tup (la_cons le_int (la_cons le_int la_nil))) (la_cons (le_tup (la_cons le_int (la_cons le_int la_nil))) la_nil))))) (la_cons (le_tup la_nil) (la_cons (le_tup (la_cons le_int (la_cons le_int la_nil))) la_nil))))) lg_name)
      (ls_seq (ls_asg (le_lc (li_any (le_lst (la_cons le_int (la_cons le_int (la_cons le_int (la_cons le_int (la_cons le_int la_nil))))))) lg_name (lgw_name (by decide)) lt_yes (le_call (la_cons le_var (la_cons le_var la_nil)))) lg_name)
      (ls_seq (ls_if (lt_test (le_op (le_cb (la_cons le_var la_nil) cl_reprP) (le_reprL (la_cons (le_tup (la_cons le_int (la_cons le_int (la_cons (le_tup (la_cons le_int la_nil)) la_nil)))) (la_cons (le_tup (la_cons le_int (la_cons le_int (la_cons (le_tup (la_cons le_int la_nil)) la_nil)))) (la_cons (le_tup (la_cons le_int (la_cons le_int (la_cons (le_tup (la_cons le_int (la_cons le_int la_nil))) la_nil)))) (la_cons (le_tup (la_cons le_int (la_cons le_int (la_cons (le_tup la_nil) la_nil)))) (la_cons (le_tup (la_cons le_int (la_cons le_int (la_cons (le_tup la_nil) la_nil)))) la_nil)))))) ol_ne)) (ls_ret le_bl) ls_next)
      (ls_ret (le_op (le_call (la_cons le_var la_nil)) (le_lst (la_cons le_int (la_cons le_int la_nil))) ol_eq)))))) ?_
  refine ⟨⟨by decide, by decide⟩, dLoop_of _ (fun _ ρ => ∃ a2 a3 a4 a5 a6 a7 a8 a9 a10, ρ = [some .scr, some .src, a2, a3, a4, a5, a6, a7, a8, a9, a10, none]) ⟨_, _, _, _, _, _, _, _, _, rfl⟩ ?_ ?_⟩
  · rintro i x ρ kk hx ⟨a2, a3, a4, a5, a6, a7, a8, a9, a10, rfl⟩ next
    obtain ⟨j, rfl, j1, j2⟩ := mem_rng (List.mem_of_getElem? hx)
    have j2 : j < 3 := j2
    obtain ⟨x3, m3, e3⟩ := atI_mem (xs := [.int 4, .int 8, .int 3]) j1 j2
    obtain ⟨B, rfl, B1, B2⟩ : ∃ i, x3 = .int i ∧ 0 ≤ i ∧ i ≤ 8 := by
      simp only [List.mem_cons, List.mem_nil_iff, or_false] at m3
      rcases m3 with rfl | rfl | rfl <;> exact ⟨_, rfl, by omega, by omega⟩
    obtain ⟨x4, m4, e4⟩ := atI_mem (xs := [.int 12, .int 30, .int 20]) j1 j2
    obtain ⟨C, rfl, C1, C2⟩ : ∃ i, x4 = .int i ∧ 0 ≤ i ∧ i ≤ 30 := by
      simp only [List.mem_cons, List.mem_nil_iff, or_false] at m4
      rcases m4 with rfl | rfl | rfl <;> exact ⟨_, rfl, by omega, by omega⟩
    refine ⟨Nat.le_of_ble_eq_true rfl, trivial, _, e3, Nat.le_of_ble_eq_true rfl, trivial, _, e4, 4, B, C, rfl, ⟨by omega, by omega⟩, ⟨by omega, by omega⟩, ⟨by omega, by omega⟩, by omega, fun g hg gi gr ga go => ⟨rfl, ?_⟩⟩
    have hm : g.many < 64 := by unfold Gr.many Gr.first; omega
    refine useB_b (fun _ => ⟨2, 8, 6, rfl, ⟨by omega, by omega⟩, ⟨by omega, by omega⟩, ⟨by omega, by omega⟩, by omega, fun g hg gi gr ga go => ?_⟩) (fun _ => ?_)
    all_goals
    have hm : g.many < 64 := by unfold Gr.many Gr.first; omega
    have hrl := hg.rl
    have hin := hg.ins
    have eR : ((g.regs.map pD).length : Nat) = g.regs.length := List.length_map ..
    have eA : ((g.ands.map pD).length : Nat) = g.ands.length := List.length_map ..
    have eM : (1 : Int) + g.ins + ((g.regs.map pD).length : Nat) + ((g.ands.map pD).length : Nat) = (g.many : Int) := by rw [eR, eA]; unfold Gr.many Gr.first; simp
    refine ⟨trivial, _, rfl, trivial, _, rfl, trivial, _, rfl, trivial, _, rfl, .inl ⟨by decide, by decide⟩, ?_⟩
    rw [eM]
    refine ⟨⟨by omega, by omega⟩, dLoop_of _ (fun _ ρ => ∃ o6, ρ = [some .scr, some .src, some (.sh (.int j)), some (.sh g.toD), some (.sh (.int (g.many : Int))), some (.sh (.int ((g.ins : Int) + 1))), o6, a7, a8, a9, a10, none]) ⟨_, rfl⟩ ?_ ?_⟩
    · rintro i x ρ k hx ⟨o6, rfl⟩ next
      obtain ⟨l, rfl, l1, l2⟩ := mem_rng (List.mem_of_getElem? hx)
      have hl : inL l g.many := by unfold inL; omega
      refine ⟨g, l, rfl, hg, hl, fun s u ch hs => ⟨hs.okR hg hl, g, l, rfl, hg, hl, fun s' u' ch' hs' => ⟨hs'.okR hg hl, rfl, useB_n (ne_same ?_) (next _ ⟨_, rfl⟩)⟩⟩⟩
      obtain ⟨rfl, rfl, rfl⟩ := hs.unique hs'
      rfl
    rintro ρ ⟨o6, rfl⟩
    refine ⟨trivial, _, rfl, ⟨by omega, by omega, by omega, by omega⟩, dLcGo_of _ (fun i acc ρ => ∃ ms, acc = ms.map PyData.int ∧ SL (StillTo g i) ms ∧ ms.length ≤ i ∧ ρ = [some .scr, some .src, some (.sh (.int j)), some (.sh g.toD), some (.sh (.int (g.many : Int))), some (.sh (.int ((g.ins : Int) + 1))), o6, a7, a8, a9, a10, none]) ⟨[], rfl, stillTo_zero g, Nat.le_refl _, rfl⟩ ?_ ?_⟩
    · skip
      rintro i x acc ρ k hx ⟨ms, rfl, hms, hml, rfl⟩ next
      have hi : i < (rngD ((g.ins : Int) + 1) ((g.ins : Int) + 1 + ((g.regs.map pD).length : Nat) - ((g.ins : Int) + 1)).toNat).length := (List.getElem?_eq_some_iff.mp hx).1
      rw [rngD_length, eR] at hi
      have hi : i < g.regs.length := by omega
      obtain ⟨hj2, rfl⟩ := get_map hx
      simp only [List.getElem_range]
      refine ⟨.inl ⟨by decide, by decide⟩, g, 2 * ((g.ins : Int) + 1 + i), rfl, hg, by unfold inL Gr.many Gr.first; omega, fun s u ch hs => ⟨Nat.le_of_ble_eq_true rfl, Nat.le_of_ble_eq_true rfl, (sh_src s u ch).ok2 (.tuple (.cons ((SH.int _).mono (by decide : 0 ≤ 1)) (.cons ((SH.int _).mono (by decide)) (.cons (.tuple .nil) .nil)))) (by decide) (by decide), ?_⟩⟩
      have hstep := stillTo_step hms hs
      refine useB_b (fun h => ⟨by rw [List.length_map, sizeLine_eq]; omega, next _ _ ⟨ms ++ [(g.ins : Int) + 1 + i], by simp, ?_, by simp; omega, rfl⟩⟩) (fun h => next _ _ ⟨ms, rfl, ?_, by omega, rfl⟩)
      · rw [if_pos ((still_tst s u _ ch).symm.trans h)] at hstep
        exact hstep
      · rw [if_neg (by rw [(still_tst s u ((g.ins : Int) + 1 + i) ch).symm.trans h]; exact Bool.false_ne_true)] at hstep
        exact hstep
    rintro acc ρ ⟨ms, rfl, hms, hml, rfl⟩
    rw [rngD_length, eR] at hms hml
    have e : ((g.ins : Int) + 1 + (g.regs.length : Nat) - ((g.ins : Int) + 1)).toNat = g.regs.length := by omega
    rw [e] at hms hml
    have hms := stillTo_all hms
    have alen : ∀ {as : List Int}, SL (fun n => Reach g n ∧ isAnd g n) as → as.length ≤ g.many := fun h => ndp_le h.nd fun n hn => ((h.mem n).mp hn).1.ok hg
    have rok : ∀ {as ss : List Int}, SL (Still g) ss → SL (fun n => Reach g n ∧ isAnd g n) as → reprOkP (.list [.list (as.map PyData.int), .list (ss.map PyData.int)]) := fun h h' =>
      RB.ok (RB.list (.cons (h'.rb hg fun n hn => hn.1.ok hg) (.one (h.rb hg fun n hn => by have := hn.1; unfold isReg at this; unfold inR Gr.many Gr.first; omega)))) (by decide) (by decide)
    refine ⟨⟨by decide, by decide⟩, dLoop_of _ (fun _ ρ => ∃ o8 o9, ρ = [some .scr, some .src, some (.sh (.int j)), some (.sh g.toD), some (.sh (.int (g.many : Int))), some (.sh (.int ((g.ins : Int) + 1))), o6, some (.ow (.list (ms.map PyData.int))), o8, o9, a10, none]) ⟨_, _, rfl⟩ ?_ ?_⟩
    · rintro i x ρ k hx ⟨o8, o9, rfl⟩ next
      refine ⟨g, rfl, hg, hm, fun as has => ⟨_, rfl, g, rfl, hg, fun ss hss hsl => ⟨_, rfl, Nat.le_of_ble_eq_true rfl, Nat.le_of_ble_eq_true rfl, rok hss has, g, rfl, hg, hm, fun bs hbs => ⟨Nat.le_of_ble_eq_true rfl, rok hms hbs, rfl, useB_n (ne_same (by rw [has.unique hbs, hss.unique hms])) ⟨?_, ?_, next _ ⟨_, _, rfl⟩⟩⟩⟩⟩⟩
      · have := alen has; rw [List.length_map, sizeLine_eq]; omega
      · rw [List.length_map, sizeLine_eq]; omega
    rintro ρ ⟨o8, o9, rfl⟩
    exact next _ ⟨_, _, _, _, _, _, _, _, _, rfl⟩
  · rintro ρ ⟨a2, a3, a4, a5, a6, a7, a8, a9, a10, rfl⟩
    refine ⟨Nat.le_of_ble_eq_true rfl, Nat.le_of_ble_eq_true rfl, Nat.le_of_ble_eq_true rfl, Nat.le_of_ble_eq_true rfl, Nat.le_of_ble_eq_true rfl, Nat.le_of_ble_eq_true rfl, Nat.le_of_ble_eq_true rfl, Nat.le_of_ble_eq_true rfl, Nat.le_of_ble_eq_true rfl, dLcGo_mapI _ rgF (fun ρ => ∃ a6, ρ = [some .scr, some .src, a2, a3, a4, a5, a6, a7, a8, a9, some (.sh ring.toD), none]) (by exact Nat.le_of_ble_eq_true rfl) ?_ ?_ ?_⟩
    · exact ⟨_, rfl⟩
    · rintro x ρ k hx ⟨a6, rfl⟩ q
      simp only [List.mem_cons, List.mem_nil_iff, or_false] at hx
      rcases hx with rfl | rfl | rfl | rfl | rfl <;> refine ⟨ring, _, rfl, ring_ok, ⟨by decide, by decide⟩, fun s u ch hs => ?_⟩
      · obtain ⟨rfl, rfl, rfl⟩ := hs.unique ring8
        exact q _ ⟨_, rfl⟩
      · obtain ⟨rfl, rfl, rfl⟩ := hs.unique ring9
        exact q _ ⟨_, rfl⟩
      · obtain ⟨rfl, rfl, rfl⟩ := hs.unique ring10
        exact q _ ⟨_, rfl⟩
      · obtain ⟨rfl, rfl, rfl⟩ := hs.unique ring4
        exact q _ ⟨_, rfl⟩
      · obtain ⟨rfl, rfl, rfl⟩ := hs.unique ring3
        exact q _ ⟨_, rfl⟩
    · rintro ρ ⟨a6, rfl⟩
      refine ⟨ring_rp, Nat.le_of_ble_eq_true rfl, Nat.le_of_ble_eq_true rfl, Nat.le_of_ble_eq_true rfl, Nat.le_of_ble_eq_true rfl, Nat.le_of_ble_eq_true rfl, Nat.le_of_ble_eq_true rfl, Nat.le_of_ble_eq_true rfl, Nat.le_of_ble_eq_true rfl, Nat.le_of_ble_eq_true rfl, Nat.le_of_ble_eq_true rfl, Nat.le_of_ble_eq_true rfl, ring_rp, rfl, useB_n (ne_same rfl) ⟨ring, rfl, ring_ok, fun ms hms _ => ?_⟩⟩
      obtain rfl := hms.unique ring_still
      exact ⟨Nat.le_of_ble_eq_true rfl, rfl, rfl⟩
end
open PySem PySem.Spec PyProof.Rows
theorem all_mk {l : PySem.W.OpenLaw} {w : World} {K : PySem.W.Frag} {h : Heap} {mg : Str → Option Value} {fa : Addr} (X : K.In h) (G : h.Ns mainGlobals mg) (hfa : mg "law" = some (.ref fa))
    {f1 : Addr} {od1 an1 : Option Addr} {sl1 : Array (Option Value)} {oc1 kV1 dc1 pm1 cd1 ct1 : Value}
    {f2 : Addr} {od2 an2 : Option Addr} {sl2 : Array (Option Value)} {oc2 kV2 dc2 pm2 cd2 ct2 : Value}
    {f3 : Addr} {od3 an3 : Option Addr} {sl3 : Array (Option Value)} {oc3 kV3 dc3 pm3 cd3 ct3 : Value}
    {f4 : Addr} {od4 an4 : Option Addr} {sl4 : Array (Option Value)} {oc4 kV4 dc4 pm4 cd4 ct4 : Value}
    {f5 : Addr} {od5 an5 : Option Addr} {sl5 : Array (Option Value)} {oc5 kV5 dc5 pm5 cd5 ct5 : Value}
    {f6 : Addr} {od6 an6 : Option Addr} {sl6 : Array (Option Value)} {oc6 kV6 dc6 pm6 cd6 ct6 : Value}
    {f7 : Addr} {od7 an7 : Option Addr} {sl7 : Array (Option Value)} {oc7 kV7 dc7 pm7 cd7 ct7 : Value}
    {f8 : Addr} {od8 an8 : Option Addr} {sl8 : Array (Option Value)} {oc8 kV8 dc8 pm8 cd8 ct8 : Value}
    {f9 : Addr} {od9 an9 : Option Addr} {sl9 : Array (Option Value)} {oc9 kV9 dc9 pm9 cd9 ct9 : Value}
    {f10 : Addr} {od10 an10 : Option Addr} {sl10 : Array (Option Value)} {oc10 kV10 dc10 pm10 cd10 ct10 : Value}
    {f11 : Addr} {od11 an11 : Option Addr} {sl11 : Array (Option Value)} {oc11 kV11 dc11 pm11 cd11 ct11 : Value}
    {f12 : Addr} {od12 an12 : Option Addr} {sl12 : Array (Option Value)} {oc12 kV12 dc12 pm12 cd12 ct12 : Value}
    {f13 : Addr} {od13 an13 : Option Addr} {sl13 : Array (Option Value)} {oc13 kV13 dc13 pm13 cd13 ct13 : Value}
    {f14 : Addr} {od14 an14 : Option Addr} {sl14 : Array (Option Value)} {oc14 kV14 dc14 pm14 cd14 ct14 : Value}
    {f15 : Addr} {od15 an15 : Option Addr} {sl15 : Array (Option Value)} {oc15 kV15 dc15 pm15 cd15 ct15 : Value}
    {f16 : Addr} {od16 an16 : Option Addr} {sl16 : Array (Option Value)} {oc16 kV16 dc16 pm16 cd16 ct16 : Value}
    {f17 : Addr} {od17 an17 : Option Addr} {sl17 : Array (Option Value)} {oc17 kV17 dc17 pm17 cd17 ct17 : Value}
    {f18 : Addr} {od18 an18 : Option Addr} {sl18 : Array (Option Value)} {oc18 kV18 dc18 pm18 cd18 ct18 : Value}
    {f19 : Addr} {od19 an19 : Option Addr} {sl19 : Array (Option Value)} {oc19 kV19 dc19 pm19 cd19 ct19 : Value}
    {f20 : Addr} {od20 an20 : Option Addr} {sl20 : Array (Option Value)} {oc20 kV20 dc20 pm20 cd20 ct20 : Value}
    (a1 : PySem.W.nsIn K mainGlobals "is_register" = some (some (.ref f1))) (l1 : K.lookup f1 = some ⟨oc1, od1, .func (PySem.W.fnOf "is_register" "is_register" (C8.fnArgs s_is_register) (C8.fnBody s_is_register) (C8.fnScope s_is_register) .none kV1 dc1 pm1 an1 cd1 ct1), sl1⟩) (c1 : PySem.W.codeIn K cd1 "is_register" = true) (k1 : PySem.W.keepIn K (.ref f1) = true)
    (a2 : PySem.W.nsIn K mainGlobals "is_and" = some (some (.ref f2))) (l2 : K.lookup f2 = some ⟨oc2, od2, .func (PySem.W.fnOf "is_and" "is_and" (C8.fnArgs s_is_and) (C8.fnBody s_is_and) (C8.fnScope s_is_and) .none kV2 dc2 pm2 an2 cd2 ct2), sl2⟩) (c2 : PySem.W.codeIn K cd2 "is_and" = true) (k2 : PySem.W.keepIn K (.ref f2) = true)
    (a3 : PySem.W.nsIn K mainGlobals "taken" = some (some (.ref f3))) (l3 : K.lookup f3 = some ⟨oc3, od3, .func (PySem.W.fnOf "taken" "taken" (C8.fnArgs s_taken) (C8.fnBody s_taken) (C8.fnScope s_taken) .none kV3 dc3 pm3 an3 cd3 ct3), sl3⟩) (c3 : PySem.W.codeIn K cd3 "taken" = true) (k3 : PySem.W.keepIn K (.ref f3) = true)
    (a4 : PySem.W.nsIn K mainGlobals "_law_taken" = some (some (.ref f4))) (l4 : K.lookup f4 = some ⟨oc4, od4, .func (PySem.W.fnOf "_law_taken" "_law_taken" (C8.fnArgs s_law_taken) (C8.fnBody s_law_taken) (C8.fnScope s_law_taken) .none kV4 dc4 pm4 an4 cd4 ct4), sl4⟩) (c4 : PySem.W.codeIn K cd4 "_law_taken" = true) (k4 : PySem.W.keepIn K (.ref f4) = true)
    (a5 : PySem.W.nsIn K mainGlobals "pair_of" = some (some (.ref f5))) (l5 : K.lookup f5 = some ⟨oc5, od5, .func (PySem.W.fnOf "pair_of" "pair_of" (C8.fnArgs s_pair_of) (C8.fnBody s_pair_of) (C8.fnScope s_pair_of) .none kV5 dc5 pm5 an5 cd5 ct5), sl5⟩) (c5 : PySem.W.codeIn K cd5 "pair_of" = true) (k5 : PySem.W.keepIn K (.ref f5) = true)
    (a6 : PySem.W.nsIn K mainGlobals "source_of" = some (some (.ref f6))) (l6 : K.lookup f6 = some ⟨oc6, od6, .func (PySem.W.fnOf "source_of" "source_of" (C8.fnArgs s_source_of) (C8.fnBody s_source_of) (C8.fnScope s_source_of) .none kV6 dc6 pm6 an6 cd6 ct6), sl6⟩) (c6 : PySem.W.codeIn K cd6 "source_of" = true) (k6 : PySem.W.keepIn K (.ref f6) = true)
    (a7 : PySem.W.nsIn K mainGlobals "_law_origin" = some (some (.ref f7))) (l7 : K.lookup f7 = some ⟨oc7, od7, .func (PySem.W.fnOf "_law_origin" "_law_origin" (C8.fnArgs s_law_origin) (C8.fnBody s_law_origin) (C8.fnScope s_law_origin) .none kV7 dc7 pm7 an7 cd7 ct7), sl7⟩) (c7 : PySem.W.codeIn K cd7 "_law_origin" = true) (k7 : PySem.W.keepIn K (.ref f7) = true)
    (a8 : PySem.W.nsIn K mainGlobals "_law_needed" = some (some (.ref f8))) (l8 : K.lookup f8 = some ⟨oc8, od8, .func (PySem.W.fnOf "_law_needed" "_law_needed" (C8.fnArgs s_law_needed) (C8.fnBody s_law_needed) (C8.fnScope s_law_needed) .none kV8 dc8 pm8 an8 cd8 ct8), sl8⟩) (c8 : PySem.W.codeIn K cd8 "_law_needed" = true) (k8 : PySem.W.keepIn K (.ref f8) = true)
    (a9 : PySem.W.nsIn K mainGlobals "needed_ands" = some (some (.ref f9))) (l9 : K.lookup f9 = some ⟨oc9, od9, .func (PySem.W.fnOf "needed_ands" "needed_ands" (C8.fnArgs s_needed_ands) (C8.fnBody s_needed_ands) (C8.fnScope s_needed_ands) .none kV9 dc9 pm9 an9 cd9 ct9), sl9⟩) (c9 : PySem.W.codeIn K cd9 "needed_ands" = true) (k9 : PySem.W.keepIn K (.ref f9) = true)
    (a10 : PySem.W.nsIn K mainGlobals "_law_ands" = some (some (.ref f10))) (l10 : K.lookup f10 = some ⟨oc10, od10, .func (PySem.W.fnOf "_law_ands" "_law_ands" (C8.fnArgs s_law_ands) (C8.fnBody s_law_ands) (C8.fnScope s_law_ands) .none kV10 dc10 pm10 an10 cd10 ct10), sl10⟩) (c10 : PySem.W.codeIn K cd10 "_law_ands" = true) (k10 : PySem.W.keepIn K (.ref f10) = true)
    (a11 : PySem.W.nsIn K mainGlobals "still_registers" = some (some (.ref f11))) (l11 : K.lookup f11 = some ⟨oc11, od11, .func (PySem.W.fnOf "still_registers" "still_registers" (C8.fnArgs s_still_registers) (C8.fnBody s_still_registers) (C8.fnScope s_still_registers) .none kV11 dc11 pm11 an11 cd11 ct11), sl11⟩) (c11 : PySem.W.codeIn K cd11 "still_registers" = true) (k11 : PySem.W.keepIn K (.ref f11) = true)
    (a12 : PySem.W.nsIn K mainGlobals "_law_edges" = some (some (.ref f12))) (l12 : K.lookup f12 = some ⟨oc12, od12, .func (PySem.W.fnOf "_law_edges" "_law_edges" (C8.fnArgs s_law_edges) (C8.fnBody s_law_edges) (C8.fnScope s_law_edges) .none kV12 dc12 pm12 an12 cd12 ct12), sl12⟩) (c12 : PySem.W.codeIn K cd12 "_law_edges" = true) (k12 : PySem.W.keepIn K (.ref f12) = true)
    (a13 : PySem.W.nsIn K mainGlobals "_law_pick" = some (some (.ref f13))) (l13 : K.lookup f13 = some ⟨oc13, od13, .func (PySem.W.fnOf "_law_pick" "_law_pick" (C8.fnArgs s_law_pick) (C8.fnBody s_law_pick) (C8.fnScope s_law_pick) .none kV13 dc13 pm13 an13 cd13 ct13), sl13⟩) (c13 : PySem.W.codeIn K cd13 "_law_pick" = true) (k13 : PySem.W.keepIn K (.ref f13) = true)
    (a14 : PySem.W.nsIn K mainGlobals "_law_source" = some (some (.ref f14))) (l14 : K.lookup f14 = some ⟨oc14, od14, .func (PySem.W.fnOf "_law_source" "_law_source" (C8.fnArgs s_law_source) (C8.fnBody s_law_source) (C8.fnScope s_law_source) .none kV14 dc14 pm14 an14 cd14 ct14), sl14⟩) (c14 : PySem.W.codeIn K cd14 "_law_source" = true) (k14 : PySem.W.keepIn K (.ref f14) = true)
    (a15 : PySem.W.nsIn K mainGlobals "_law_of" = some (some (.ref f15))) (l15 : K.lookup f15 = some ⟨oc15, od15, .func (PySem.W.fnOf "_law_of" "_law_of" (C8.fnArgs s_law_of) (C8.fnBody s_law_of) (C8.fnScope s_law_of) .none kV15 dc15 pm15 an15 cd15 ct15), sl15⟩) (c15 : PySem.W.codeIn K cd15 "_law_of" = true) (k15 : PySem.W.keepIn K (.ref f15) = true)
    (a16 : PySem.W.nsIn K mainGlobals "_law_draw_literal" = some (some (.ref f16))) (l16 : K.lookup f16 = some ⟨oc16, od16, .func (PySem.W.fnOf "_law_draw_literal" "_law_draw_literal" (C8.fnArgs s_law_draw_literal) (C8.fnBody s_law_draw_literal) (C8.fnScope s_law_draw_literal) .none kV16 dc16 pm16 an16 cd16 ct16), sl16⟩) (c16 : PySem.W.codeIn K cd16 "_law_draw_literal" = true) (k16 : PySem.W.keepIn K (.ref f16) = true)
    (a17 : PySem.W.nsIn K mainGlobals "_law_draw_graph" = some (some (.ref f17))) (l17 : K.lookup f17 = some ⟨oc17, od17, .func (PySem.W.fnOf "_law_draw_graph" "_law_draw_graph" (C8.fnArgs s_law_draw_graph) (C8.fnBody s_law_draw_graph) (C8.fnScope s_law_draw_graph) .none kV17 dc17 pm17 an17 cd17 ct17), sl17⟩) (c17 : PySem.W.codeIn K cd17 "_law_draw_graph" = true) (k17 : PySem.W.keepIn K (.ref f17) = true)
    (a18 : PySem.W.nsIn K mainGlobals "_law_still_graph" = some (some (.ref f18))) (l18 : K.lookup f18 = some ⟨oc18, od18, .func (PySem.W.fnOf "_law_still_graph" "_law_still_graph" (C8.fnArgs s_law_still_graph) (C8.fnBody s_law_still_graph) (C8.fnScope s_law_still_graph) .none kV18 dc18 pm18 an18 cd18 ct18), sl18⟩) (c18 : PySem.W.codeIn K cd18 "_law_still_graph" = true) (k18 : PySem.W.keepIn K (.ref f18) = true)
    (a19 : PySem.W.nsIn K mainGlobals "_law_moving_graph" = some (some (.ref f19))) (l19 : K.lookup f19 = some ⟨oc19, od19, .func (PySem.W.fnOf "_law_moving_graph" "_law_moving_graph" (C8.fnArgs s_law_moving_graph) (C8.fnBody s_law_moving_graph) (C8.fnScope s_law_moving_graph) .none kV19 dc19 pm19 an19 cd19 ct19), sl19⟩) (c19 : PySem.W.codeIn K cd19 "_law_moving_graph" = true) (k19 : PySem.W.keepIn K (.ref f19) = true)
    (a20 : PySem.W.nsIn K mainGlobals "law" = some (some (.ref f20))) (l20 : K.lookup f20 = some ⟨oc20, od20, .func (PySem.W.fnOf "law" "law" (C8.fnArgs s_law) (C8.fnBody s_law) (C8.fnScope s_law) .none kV20 dc20 pm20 an20 cd20 ct20), sl20⟩) (c20 : PySem.W.codeIn K cd20 "law" = true) (k20 : PySem.W.keepIn K (.ref f20) = true)
    (z1 : PySem.W.nsIn K mainGlobals "abs" = some none)
    (z2 : PySem.W.nsIn K mainGlobals "int" = some none)
    (z3 : PySem.W.nsIn K mainGlobals "len" = some none)
    (z4 : PySem.W.nsIn K mainGlobals "list" = some none)
    (z5 : PySem.W.nsIn K mainGlobals "max" = some none)
    (z6 : PySem.W.nsIn K mainGlobals "min" = some none)
    (z7 : PySem.W.nsIn K mainGlobals "range" = some none)
    (z8 : PySem.W.nsIn K mainGlobals "repr" = some none)
    (z9 : PySem.W.nsIn K mainGlobals "sorted" = some none)
    (z10 : PySem.W.nsIn K mainGlobals "tuple" = some none)
    : ∃ fd : FuncData, (∀ (s : Shared) (v : Value), BindsTo s fd ⟨[v], []⟩ [("_law_script", v)]) ∧ ∀ base : Heap, K.In base → base.Ns mainGlobals mg → FnG l.prog w K mg base C8.CX0 (5 + 1) fa fd ["_law_script"] (spLaw K) := by
  have e := hfa.symm.trans (PySem.W.mg_of X G a20)
  cases e
  have T : Txt mg := ⟨PySem.W.mg_none_of X G z1, PySem.W.mg_none_of X G z2, PySem.W.mg_none_of X G z3, PySem.W.mg_none_of X G z4, PySem.W.mg_none_of X G z5, PySem.W.mg_none_of X G z6, PySem.W.mg_none_of X G z7, PySem.W.mg_none_of X G z8, PySem.W.mg_none_of X G z9, PySem.W.mg_none_of X G z10⟩
  have F1 : C8.Def K mg "is_register" s_is_register f1 _ := ⟨⟨_, _, _, _, _, _, _, _, _, _, rfl, l1, c1⟩, PySem.W.mg_of X G a1, k1⟩
  have b1 := F1.fn.binds (ps := ["graph", "node"]) rfl fun _ _ _ _ _ _ us hl => match us, hl with | [_, _], _ => rfl
  have F2 : C8.Def K mg "is_and" s_is_and f2 _ := ⟨⟨_, _, _, _, _, _, _, _, _, _, rfl, l2, c2⟩, PySem.W.mg_of X G a2, k2⟩
  have b2 := F2.fn.binds (ps := ["graph", "node"]) rfl fun _ _ _ _ _ _ us hl => match us, hl with | [_, _], _ => rfl
  have F3 : C8.Def K mg "taken" s_taken f3 _ := ⟨⟨_, _, _, _, _, _, _, _, _, _, rfl, l3, c3⟩, PySem.W.mg_of X G a3, k3⟩
  have b3 := F3.fn.binds (ps := ["graph", "node"]) rfl fun _ _ _ _ _ _ us hl => match us, hl with | [_, _], _ => rfl
  have F4 : C8.Def K mg "_law_taken" s_law_taken f4 _ := ⟨⟨_, _, _, _, _, _, _, _, _, _, rfl, l4, c4⟩, PySem.W.mg_of X G a4, k4⟩
  have b4 := F4.fn.binds (ps := ["_law_graph", "_law_node"]) rfl fun _ _ _ _ _ _ us hl => match us, hl with | [_, _], _ => rfl
  have F5 : C8.Def K mg "pair_of" s_pair_of f5 _ := ⟨⟨_, _, _, _, _, _, _, _, _, _, rfl, l5, c5⟩, PySem.W.mg_of X G a5, k5⟩
  have b5 := F5.fn.binds (ps := ["graph", "node"]) rfl fun _ _ _ _ _ _ us hl => match us, hl with | [_, _], _ => rfl
  have F6 : C8.Def K mg "source_of" s_source_of f6 _ := ⟨⟨_, _, _, _, _, _, _, _, _, _, rfl, l6, c6⟩, PySem.W.mg_of X G a6, k6⟩
  have b6 := F6.fn.binds (ps := ["graph", "literal"]) rfl fun _ _ _ _ _ _ us hl => match us, hl with | [_, _], _ => rfl
  have F7 : C8.Def K mg "_law_origin" s_law_origin f7 _ := ⟨⟨_, _, _, _, _, _, _, _, _, _, rfl, l7, c7⟩, PySem.W.mg_of X G a7, k7⟩
  have b7 := F7.fn.binds (ps := ["_law_graph", "_law_literal"]) rfl fun _ _ _ _ _ _ us hl => match us, hl with | [_, _], _ => rfl
  have F8 : C8.Def K mg "_law_needed" s_law_needed f8 _ := ⟨⟨_, _, _, _, _, _, _, _, _, _, rfl, l8, c8⟩, PySem.W.mg_of X G a8, k8⟩
  have b8 := F8.fn.binds (ps := ["_law_graph"]) rfl fun _ _ _ _ _ _ us hl => match us, hl with | [_], _ => rfl
  have F9 : C8.Def K mg "needed_ands" s_needed_ands f9 _ := ⟨⟨_, _, _, _, _, _, _, _, _, _, rfl, l9, c9⟩, PySem.W.mg_of X G a9, k9⟩
  have b9 := F9.fn.binds (ps := ["graph"]) rfl fun _ _ _ _ _ _ us hl => match us, hl with | [_], _ => rfl
  have F10 : C8.Def K mg "_law_ands" s_law_ands f10 _ := ⟨⟨_, _, _, _, _, _, _, _, _, _, rfl, l10, c10⟩, PySem.W.mg_of X G a10, k10⟩
  have b10 := F10.fn.binds (ps := ["_law_graph"]) rfl fun _ _ _ _ _ _ us hl => match us, hl with | [_], _ => rfl
  have F11 : C8.Def K mg "still_registers" s_still_registers f11 _ := ⟨⟨_, _, _, _, _, _, _, _, _, _, rfl, l11, c11⟩, PySem.W.mg_of X G a11, k11⟩
  have b11 := F11.fn.binds (ps := ["graph"]) rfl fun _ _ _ _ _ _ us hl => match us, hl with | [_], _ => rfl
  have F12 : C8.Def K mg "_law_edges" s_law_edges f12 _ := ⟨⟨_, _, _, _, _, _, _, _, _, _, rfl, l12, c12⟩, PySem.W.mg_of X G a12, k12⟩
  have b12 := F12.fn.binds (ps := ["_law_graph"]) rfl fun _ _ _ _ _ _ us hl => match us, hl with | [_], _ => rfl
  have F13 : C8.Def K mg "_law_pick" s_law_pick f13 _ := ⟨⟨_, _, _, _, _, _, _, _, _, _, rfl, l13, c13⟩, PySem.W.mg_of X G a13, k13⟩
  have b13 := F13.fn.binds (ps := ["_law_source_here", "_law_many"]) rfl fun _ _ _ _ _ _ us hl => match us, hl with | [_, _], _ => rfl
  have F14 : C8.Def K mg "_law_source" s_law_source f14 _ := ⟨⟨_, _, _, _, _, _, _, _, _, _, rfl, l14, c14⟩, PySem.W.mg_of X G a14, k14⟩
  have b14 := F14.fn.binds (ps := ["_law_script"]) rfl fun _ _ _ _ _ _ us hl => match us, hl with | [_], _ => rfl
  have F15 : C8.Def K mg "_law_of" s_law_of f15 _ := ⟨⟨_, _, _, _, _, _, _, _, _, _, rfl, l15, c15⟩, PySem.W.mg_of X G a15, k15⟩
  have b15 := F15.fn.binds (ps := ["_law_source_here", "_law_some"]) rfl fun _ _ _ _ _ _ us hl => match us, hl with | [_, _], _ => rfl
  have F16 : C8.Def K mg "_law_draw_literal" s_law_draw_literal f16 _ := ⟨⟨_, _, _, _, _, _, _, _, _, _, rfl, l16, c16⟩, PySem.W.mg_of X G a16, k16⟩
  have b16 := F16.fn.binds (ps := ["_law_source_here", "_law_many"]) rfl fun _ _ _ _ _ _ us hl => match us, hl with | [_, _], _ => rfl
  have F17 : C8.Def K mg "_law_draw_graph" s_law_draw_graph f17 _ := ⟨⟨_, _, _, _, _, _, _, _, _, _, rfl, l17, c17⟩, PySem.W.mg_of X G a17, k17⟩
  have b17 := F17.fn.binds (ps := ["_law_source_here", "_law_many_ins", "_law_many_regs", "_law_most"]) rfl fun _ _ _ _ _ _ us hl => match us, hl with | [_, _, _, _], _ => rfl
  have F18 : C8.Def K mg "_law_still_graph" s_law_still_graph f18 _ := ⟨⟨_, _, _, _, _, _, _, _, _, _, rfl, l18, c18⟩, PySem.W.mg_of X G a18, k18⟩
  have b18 := F18.fn.binds (ps := ["_law_source_here", "_law_many_ins", "_law_many_regs", "_law_most"]) rfl fun _ _ _ _ _ _ us hl => match us, hl with | [_, _, _, _], _ => rfl
  have F19 : C8.Def K mg "_law_moving_graph" s_law_moving_graph f19 _ := ⟨⟨_, _, _, _, _, _, _, _, _, _, rfl, l19, c19⟩, PySem.W.mg_of X G a19, k19⟩
  have b19 := F19.fn.binds (ps := ["_law_source_here", "_law_many_ins", "_law_many_regs", "_law_most"]) rfl fun _ _ _ _ _ _ us hl => match us, hl with | [_, _, _, _], _ => rfl
  have FL : C8.Fun K "law" "law" s_law fa _ := ⟨_, _, _, _, _, _, _, _, _, _, rfl, l20, c20⟩
  refine ⟨PySem.W.fnOf "law" "law" (C8.fnArgs s_law) (C8.fnBody s_law) (C8.fnScope s_law) .none kV20 dc20 pm20 an20 cd20 ct20, fun s v => .of_eq rfl, fun base _ _ => ?_⟩
  have c_is_register := ok_is_register (P := l.prog) (w := w) (base := base) F1 b1 T 
  have c_is_and := ok_is_and (P := l.prog) (w := w) (base := base) F2 b2 T 
  have c_taken := ok_taken (P := l.prog) (w := w) (base := base) F3 b3 T 
  have c_law_taken := ok_law_taken (P := l.prog) (w := w) (base := base) F4 b4 T 
  have c_pair_of := ok_pair_of (P := l.prog) (w := w) (base := base) F5 b5 T 
  have c_source_of := ok_source_of (P := l.prog) (w := w) (base := base) F6 b6 T c_is_register c_taken
  have c_law_origin := ok_law_origin (P := l.prog) (w := w) (base := base) F7 b7 T c_law_taken
  have c_law_needed := ok_law_needed (P := l.prog) (w := w) (base := base) F8 b8 T 
  have c_needed_ands := ok_needed_ands (P := l.prog) (w := w) (base := base) F9 b9 T c_source_of c_is_and c_pair_of
  have c_law_ands := ok_law_ands (P := l.prog) (w := w) (base := base) F10 b10 T c_law_needed
  have c_still_registers := ok_still_registers (P := l.prog) (w := w) (base := base) F11 b11 T c_source_of
  have c_law_edges := ok_law_edges (P := l.prog) (w := w) (base := base) F12 b12 T c_law_ands c_law_origin
  have c_law_pick := ok_law_pick (P := l.prog) (w := w) (base := base) F13 b13 T 
  have c_law_source := ok_law_source (P := l.prog) (w := w) (base := base) F14 b14 T 
  have c_law_of := ok_law_of (P := l.prog) (w := w) (base := base) F15 b15 T c_law_pick
  have c_law_draw_literal := ok_law_draw_literal (P := l.prog) (w := w) (base := base) F16 b16 T c_law_pick
  have c_law_draw_graph := ok_law_draw_graph (P := l.prog) (w := w) (base := base) F17 b17 T c_law_pick c_law_draw_literal
  have c_law_still_graph := ok_law_still_graph (P := l.prog) (w := w) (base := base) F18 b18 T c_law_pick c_law_of c_law_draw_graph
  have c_law_moving_graph := ok_law_moving_graph (P := l.prog) (w := w) (base := base) F19 b19 T c_law_pick c_law_draw_graph c_law_still_graph c_law_edges
  exact ok_law FL T c_law_source c_law_moving_graph c_law_still_graph c_source_of c_law_origin c_needed_ands c_still_registers c_law_ands
theorem walk {l : PySem.W.OpenLaw} {q : Program} {loose : List Str} {XP : (Str → Option Value) → Heap → Prop} {YP : World → Heap → Prop} {d : DefRec} {K : Params → PySem.W.Frag} (hn : l.most = some 63) (hdf : d.params.defaults = [])
    (hY : ∀ (w : World) (h : Heap), YP w h → (K w.params).In h)
    (F : ∀ (w : World) (mg : Str → Option Value) (fa : Addr) (h : Heap), (K w.params).In h → h.Ns mainGlobals mg → mg d.name = some (.ref fa) →
      ∃ fd : FuncData, (∀ (s : Shared) (u : Value), BindsTo s fd ⟨[u], []⟩ [("_law_script", u)]) ∧ ∀ base : Heap, (K w.params).In base → base.Ns mainGlobals mg → FnG l.prog w (K w.params) mg base C8.CX0 (5 + 1) fa fd ["_law_script"] (spLaw (K w.params))) :
    PySem.W.WalkO q loose XP YP l.row.toRowW d [] (fun f vs => PySem.call f vs) :=
  law_end (x := "_law_script") (sp := fun w => spLaw (K w.params)) hn hdf ⟨rfl, by decide, by decide⟩ hY F fun w H a ns hl hS _ => ⟨a, ns, rfl, hS, hl, fun _ => rfl⟩
end K41
open PySem PySem.W PyProof.Rows
set_option maxRecDepth 100000 in
set_option maxHeartbeats 0 in
theorem PySem.Challenge.cw_bitloom_k41_whole_sources_holds : PySem.Challenge.rw_bitloom_k41_whole_sources.Holds := by
  w_on; o_law; k_head; (case hw => w_witness2)
  k_fill
  refine K41.walk (l := PySem.Challenge.rw_bitloom_k41_whole_sources) rfl rfl (fun w h Y => PySem.W.kIn_of Y) ?F
  case F =>
    intro w mg fa h KX G hmg
    refine' K41.all_mk KX G hmg ?a1 ?l1 ?c1 ?k1 ?a2 ?l2 ?c2 ?k2 ?a3 ?l3 ?c3 ?k3 ?a4 ?l4 ?c4 ?k4 ?a5 ?l5 ?c5 ?k5 ?a6 ?l6 ?c6 ?k6 ?a7 ?l7 ?c7 ?k7 ?a8 ?l8 ?c8 ?k8 ?a9 ?l9 ?c9 ?k9 ?a10 ?l10 ?c10 ?k10 ?a11 ?l11 ?c11 ?k11 ?a12 ?l12 ?c12 ?k12 ?a13 ?l13 ?c13 ?k13 ?a14 ?l14 ?c14 ?k14 ?a15 ?l15 ?c15 ?k15 ?a16 ?l16 ?c16 ?k16 ?a17 ?l17 ?c17 ?k17 ?a18 ?l18 ?c18 ?k18 ?a19 ?l19 ?c19 ?k19 ?a20 ?l20 ?c20 ?k20 ?z1 ?z2 ?z3 ?z4 ?z5 ?z6 ?z7 ?z8 ?z9 ?z10
    (case a1 => k_is)
    (case l1 => k_is)
    (case c1 => k_is)
    (case k1 => k_is)
    (case a2 => k_is)
    (case l2 => k_is)
    (case c2 => k_is)
    (case k2 => k_is)
    (case a3 => k_is)
    (case l3 => k_is)
    (case c3 => k_is)
    (case k3 => k_is)
    (case a4 => k_is)
    (case l4 => k_is)
    (case c4 => k_is)
    (case k4 => k_is)
    (case a5 => k_is)
    (case l5 => k_is)
    (case c5 => k_is)
    (case k5 => k_is)
    (case a6 => k_is)
    (case l6 => k_is)
    (case c6 => k_is)
    (case k6 => k_is)
    (case a7 => k_is)
    (case l7 => k_is)
    (case c7 => k_is)
    (case k7 => k_is)
    (case a8 => k_is)
    (case l8 => k_is)
    (case c8 => k_is)
    (case k8 => k_is)
    (case a9 => k_is)
    (case l9 => k_is)
    (case c9 => k_is)
    (case k9 => k_is)
    (case a10 => k_is)
    (case l10 => k_is)
    (case c10 => k_is)
    (case k10 => k_is)
    (case a11 => k_is)
    (case l11 => k_is)
    (case c11 => k_is)
    (case k11 => k_is)
    (case a12 => k_is)
    (case l12 => k_is)
    (case c12 => k_is)
    (case k12 => k_is)
    (case a13 => k_is)
    (case l13 => k_is)
    (case c13 => k_is)
    (case k13 => k_is)
    (case a14 => k_is)
    (case l14 => k_is)
    (case c14 => k_is)
    (case k14 => k_is)
    (case a15 => k_is)
    (case l15 => k_is)
    (case c15 => k_is)
    (case k15 => k_is)
    (case a16 => k_is)
    (case l16 => k_is)
    (case c16 => k_is)
    (case k16 => k_is)
    (case a17 => k_is)
    (case l17 => k_is)
    (case c17 => k_is)
    (case k17 => k_is)
    (case a18 => k_is)
    (case l18 => k_is)
    (case c18 => k_is)
    (case k18 => k_is)
    (case a19 => k_is)
    (case l19 => k_is)
    (case c19 => k_is)
    (case k19 => k_is)
    (case a20 => k_is)
    (case l20 => k_is)
    (case c20 => k_is)
    (case k20 => k_is)
    (case z1 => k_is)
    (case z2 => k_is)
    (case z3 => k_is)
    (case z4 => k_is)
    (case z5 => k_is)
    (case z6 => k_is)
    (case z7 => k_is)
    (case z8 => k_is)
    (case z9 => k_is)
    (case z10 => k_is)
#print axioms PySem.Challenge.cw_bitloom_k41_whole_sources_holds

