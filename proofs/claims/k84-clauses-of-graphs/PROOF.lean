import PyProof.Rows.All
import Wide.All
import OpenK.AllK
import Wide.FinOn
import HandS.ForMost
import HandS.Codes
import HandS.TupAny
import HandS.Conv
import HandS.Deep
import HandS.Walk
import HandS.Zip
import HandS.SortInts
import HandS.Style
import KE.GoesMore
import KE.GoesEnum
import KE.GoesZip
import KE.GoesEnumKw
import KE.BitLaws
import HandS.Star
import HandS.TupLen
import HandS.TryOnly
import KE.KDictSum
import HandS.IsInst
import HandS.More
import KE.KExcSuper
import HandS.ExcInit
import HandS.Nested
import HandS.ExcOwn
import HandS.ExcField
import HandS.WordsExc
import HandS.SetFor
import HandS.Sort
import HandS.Strs
import PyProof.ListMulRoad
import PyProof.FactsAll.tuple_2
import HandS.TupMul
import PyProof.NeKinds
import HandS.SortOrd
import HandS.SortRule
import HandS.DictComp
import HandS.SortKw
import KE.SortKeyHeap
import HandS.Iter
import PySem.Challenge.RW_bitloom_k84_whole_clauses_of_graphs
set_option Elab.async false
set_option linter.all false
set_option maxRecDepth 100000
set_option maxHeartbeats 4000000
namespace DL
open PySem L2

abbrev D := PyData
abbrev AP := Addr → Prop

open Classical in
noncomputable def Fz (H : Hp) (M : AP) : Hp := fun a => if M a then none else H a
theorem fz_of {H : Hp} {M : AP} {a : Addr} {o : HO} (h : H a = some o) (n : ¬ M a) : Fz H M a = some o := by
  unfold Fz; rw [if_neg n]; exact h
theorem of_fz {H : Hp} {M : AP} {a : Addr} {o : HO} (h : Fz H M a = some o) : H a = some o ∧ ¬ M a := by
  unfold Fz at h
  split at h
  · cases h
  · rename_i n; exact ⟨h, n⟩
theorem fz_sub {H : Hp} {M : AP} : Same (Fz H M) H := fun _ _ h => (of_fz h).1
theorem fz_mono {H H' : Hp} {M M' : AP} (h : ∀ a o, H a = some o → ¬ M a → H' a = some o ∧ ¬ M' a) : Same (Fz H M) (Fz H' M') := fun a o e => by
  obtain ⟨e1, n⟩ := of_fz e
  obtain ⟨e2, n2⟩ := h a o e1 n
  exact fz_of e2 n2

def keyD : Key → D
  | .inl i => .int i
  | .inr x => .str x

/-- what a dict with tuples as keys begins with, as data -/
abbrev tmark : D × D := (.none, .none)
/-! ### values as data in a heap that stands -/
mutual
inductive Rp (K : PySem.W.Frag) (F : Hp) : V → D → Prop
  | non : Rp K F .non .none
  | bl (b : Bool) : Rp K F (.bl b) (.bool b)
  | int (i : Int) : Rp K F (.int i) (.int i)
  | str (x : Str) : Rp K F (.str x) (.str x)
  | lst {a : Addr} {xs : List V} {ds : List D} : F a = some (.lst xs) → RpA K F xs ds → Rp K F (.ref a) (.list ds)
  | tup {a : Addr} {xs : List V} {ds : List D} : F a = some (.tup xs) → RpA K F xs ds → Rp K F (.ref a) (.tuple ds)
  | dic {a : Addr} {kvs : List (Key × V)} {es : List (D × D)} : F a = some (.dK kvs) → RpK K F kvs es → Rp K F (.ref a) (.dict es)
  | dct {a : Addr} {kvs : List (List Key × V)} {es : List (D × D)} : F a = some (.dT kvs) → RpT K F kvs es → Rp K F (.ref a) (.dict (tmark :: es))
inductive RpA (K : PySem.W.Frag) (F : Hp) : List V → List D → Prop
  | nil : RpA K F [] []
  | cons {v : V} {d : D} {vs : List V} {ds : List D} : Rp K F v d → RpA K F vs ds → RpA K F (v :: vs) (d :: ds)
inductive RpK (K : PySem.W.Frag) (F : Hp) : List (Key × V) → List (D × D) → Prop
  | nil : RpK K F [] []
  | cons {k : Key} {v : V} {d : D} {vs : List (Key × V)} {ds : List (D × D)} : Rp K F v d → RpK K F vs ds → RpK K F ((k, v) :: vs) ((keyD k, d) :: ds)
inductive RpT (K : PySem.W.Frag) (F : Hp) : List (List Key × V) → List (D × D) → Prop
  | nil : RpT K F [] []
  | cons {k : List Key} {v : V} {d : D} {vs : List (List Key × V)} {ds : List (D × D)} : Rp K F v d → RpT K F vs ds → RpT K F ((k, v) :: vs) ((.tuple (k.map keyD), d) :: ds)
end
theorem sqT_mono {K : PySem.W.Frag} {F F' : Hp} {a : Addr} {xs : List V} (e : Same F F') (h : SqT K F a xs) : SqT K F' a xs := by
  rcases h with (h | ⟨o, h⟩) | h
  · exact .inl (.inl (e _ _ h))
  · exact .inl (.inr ⟨o, e _ _ h⟩)
  · exact .inr h
section
variable {K : PySem.W.Frag} {F F' : Hp}
mutual
theorem Rp.mono (e : Same F F') : ∀ {v : V} {d : D}, Rp K F v d → Rp K F' v d
  | _, _, .non => .non
  | _, _, .bl b => .bl b
  | _, _, .int b => .int b
  | _, _, .str b => .str b
  | _, _, .lst h r => .lst (e _ _ h) (RpA.mono e r)
  | _, _, .tup h r => .tup (e _ _ h) (RpA.mono e r)
  | _, _, .dic h r => .dic (e _ _ h) (RpK.mono e r)
  | _, _, .dct h r => .dct (e _ _ h) (RpT.mono e r)
theorem RpA.mono (e : Same F F') : ∀ {v : List V} {d : List D}, RpA K F v d → RpA K F' v d
  | _, _, .nil => .nil
  | _, _, .cons h r => .cons (Rp.mono e h) (RpA.mono e r)
theorem RpK.mono (e : Same F F') : ∀ {v : List (Key × V)} {d : List (D × D)}, RpK K F v d → RpK K F' v d
  | _, _, .nil => .nil
  | _, _, .cons h r => .cons (Rp.mono e h) (RpK.mono e r)
theorem RpT.mono (e : Same F F') : ∀ {v : List (List Key × V)} {d : List (D × D)}, RpT K F v d → RpT K F' v d
  | _, _, .nil => .nil
  | _, _, .cons h r => .cons (Rp.mono e h) (RpT.mono e r)
end
theorem RpA.length {vs : List V} {ds : List D} (h : RpA K F vs ds) : vs.length = ds.length := by
  induction ds generalizing vs with
  | nil => cases h; rfl
  | cons d ds ih => cases h with | cons h r => simp [ih r]
theorem RpA.get {vs : List V} {ds : List D} (h : RpA K F vs ds) : ∀ {i : Nat} {d : D}, ds[i]? = some d → ∃ v, vs[i]? = some v ∧ Rp K F v d := by
  induction ds generalizing vs with
  | nil => intro i d e; simp at e
  | cons x ds ih =>
    cases h with
    | cons h r =>
      intro i d e
      cases i with
      | zero => simp at e; subst e; exact ⟨_, rfl, h⟩
      | succ i =>
        obtain ⟨v, e1, e2⟩ := ih r (i := i) (d := d) (by simpa using e)
        exact ⟨v, by simpa using e1, e2⟩
theorem RpA.getV {vs : List V} {ds : List D} (h : RpA K F vs ds) : ∀ {i : Nat} {v : V}, vs[i]? = some v → ∃ d, ds[i]? = some d ∧ Rp K F v d := by
  induction ds generalizing vs with
  | nil => intro i d e; cases h; simp at e
  | cons x ds ih =>
    cases h with
    | cons h r =>
      intro i d e
      cases i with
      | zero => simp at e; subst e; exact ⟨_, rfl, h⟩
      | succ i =>
        obtain ⟨v, e1, e2⟩ := ih r (i := i) (v := d) (by simpa using e)
        exact ⟨v, by simpa using e1, e2⟩
theorem RpA.append {vs ws : List V} {ds es : List D} (h : RpA K F vs ds) (g : RpA K F ws es) : RpA K F (vs ++ ws) (ds ++ es) := by
  induction ds generalizing vs with
  | nil => cases h; exact g
  | cons x ds ih => cases h with | cons h r => exact .cons h (ih r)
theorem RpA.drop {vs : List V} {ds : List D} (h : RpA K F vs ds) : ∀ n, RpA K F (vs.drop n) (ds.drop n) := by
  induction ds generalizing vs with
  | nil => cases h; intro n; simp; exact .nil
  | cons x ds ih =>
    cases h with
    | cons h r =>
      intro n
      cases n with
      | zero => exact .cons h r
      | succ n => simpa using ih r n
theorem RpA.take {vs : List V} {ds : List D} (h : RpA K F vs ds) : ∀ n, RpA K F (vs.take n) (ds.take n) := by
  induction ds generalizing vs with
  | nil => cases h; intro n; simp; exact .nil
  | cons x ds ih =>
    cases h with
    | cons h r =>
      intro n
      cases n with
      | zero => exact .nil
      | succ n => exact .cons h (ih r n)
theorem RpA.set {vs : List V} {ds : List D} (h : RpA K F vs ds) {v : V} {d : D} (hv : Rp K F v d) : ∀ n, RpA K F (vs.set n v) (ds.set n d) := by
  induction ds generalizing vs with
  | nil => cases h; intro n; exact .nil
  | cons x ds ih =>
    cases h with
    | cons h r =>
      intro n
      cases n with
      | zero => exact .cons hv r
      | succ n => exact .cons h (ih r n)
theorem RpA.reverse {vs : List V} {ds : List D} (h : RpA K F vs ds) : RpA K F vs.reverse ds.reverse := by
  induction ds generalizing vs with
  | nil => cases h; exact .nil
  | cons x ds ih =>
    cases h with
    | cons h r =>
      rw [List.reverse_cons, List.reverse_cons]
      exact (ih r).append (.cons h .nil)
theorem RpA.ints {vs : List V} {ns : List Int} (h : RpA K F vs (ns.map PyData.int)) : vs = ns.map V.int := by
  induction ns generalizing vs with
  | nil => cases h; rfl
  | cons n ns ih => cases h with | cons h r => cases h; rw [ih r]; rfl
theorem RpA.of_ints (ns : List Int) : RpA K F (ns.map V.int) (ns.map PyData.int) := by
  induction ns with
  | nil => exact .nil
  | cons n ns ih => exact .cons (.int n) ih
theorem RpA.bools {vs : List V} {ns : List Bool} (h : RpA K F vs (ns.map PyData.bool)) : vs = ns.map V.bl := by
  induction ns generalizing vs with
  | nil => cases h; rfl
  | cons n ns ih => cases h with | cons h r => cases h; rw [ih r]; rfl
theorem RpA.strs {vs : List V} {ns : List Str} (h : RpA K F vs (ns.map PyData.str)) : vs = ns.map V.str := by
  induction ns generalizing vs with
  | nil => cases h; rfl
  | cons n ns ih => cases h with | cons h r => cases h; rw [ih r]; rfl
theorem RpA.of_strs (ns : List Str) : RpA K F (ns.map V.str) (ns.map PyData.str) := by
  induction ns with
  | nil => exact .nil
  | cons n ns ih => exact .cons (.str n) ih
end

/-- the root stands in G, its items in F -/
inductive Rt (K : PySem.W.Frag) (F G : Hp) : Addr → D → Prop
  | lst {a : Addr} {xs : List V} {ds : List D} : G a = some (.lst xs) → RpA K F xs ds → Rt K F G a (.list ds)
  | dic {a : Addr} {kvs : List (Key × V)} {es : List (D × D)} : G a = some (.dK kvs) → RpK K F kvs es → Rt K F G a (.dict es)
  | dct {a : Addr} {kvs : List (List Key × V)} {es : List (D × D)} : G a = some (.dT kvs) → RpT K F kvs es → Rt K F G a (.dict (tmark :: es))
section
variable {K : PySem.W.Frag} {F F' G G' : Hp}
theorem Rt.mono {a : Addr} {d : D} (e : Same F F') (e' : ∀ o, G a = some o → G' a = some o) (h : Rt K F G a d) : Rt K F' G' a d := by
  cases h with
  | lst h r => exact .lst (e' _ h) (r.mono e)
  | dic h r => exact .dic (e' _ h) (r.mono e)
  | dct h r => exact .dct (e' _ h) (r.mono e)
theorem Rt.there {a : Addr} {d : D} (h : Rt K F G a d) : ∃ o, G a = some o := by
  cases h with
  | lst h r => exact ⟨_, h⟩
  | dic h r => exact ⟨_, h⟩
  | dct h r => exact ⟨_, h⟩
theorem Rt.rp {a : Addr} {d : D} (e : Same F F') (e' : ∀ o, G a = some o → F' a = some o) (h : Rt K F G a d) : Rp K F' (.ref a) d := by
  cases h with
  | lst h r => exact .lst (e' _ h) (r.mono e)
  | dic h r => exact .dic (e' _ h) (r.mono e)
  | dct h r => exact .dct (e' _ h) (r.mono e)
end
/-- what may be read now -/
def RN (K : PySem.W.Frag) (F H : Hp) (v : V) (d : D) : Prop := Rp K F v d ∨ ∃ a, v = .ref a ∧ Rt K F H a d
section
variable {K : PySem.W.Frag} {F H : Hp} {v : V}
theorem RN.int {i : Int} (h : RN K F H v (.int i)) : v = .int i := by
  rcases h with h | ⟨a, _, h⟩ <;> cases h; rfl
theorem RN.bool {i : Bool} (h : RN K F H v (.bool i)) : v = .bl i := by
  rcases h with h | ⟨a, _, h⟩ <;> cases h; rfl
theorem RN.str {i : Str} (h : RN K F H v (.str i)) : v = .str i := by
  rcases h with h | ⟨a, _, h⟩ <;> cases h; rfl
theorem RN.non (h : RN K F H v .none) : v = .non := by
  rcases h with h | ⟨a, _, h⟩ <;> cases h; rfl
theorem RN.list {ds : List D} (e : Same F H) (h : RN K F H v (.list ds)) : ∃ a xs, v = .ref a ∧ H a = some (.lst xs) ∧ RpA K F xs ds := by
  rcases h with h | ⟨a, rfl, h⟩
  · cases h with | lst h r => exact ⟨_, _, rfl, e _ _ h, r⟩
  · cases h with | lst h r => exact ⟨_, _, rfl, h, r⟩
theorem RN.tuple {ds : List D} (e : Same F H) (h : RN K F H v (.tuple ds)) : ∃ a xs, v = .ref a ∧ SqT K H a xs ∧ RpA K F xs ds ∧ F a = some (.tup xs) := by
  rcases h with h | ⟨a, rfl, h⟩
  · cases h with | tup h r => exact ⟨_, _, rfl, .inl (.inl (e _ _ h)), r, h⟩
  · cases h
/-- a dict with tuples as keys -/
def isT : List (D × D) → Bool
  | (.none, .none) :: _ => true
  | _ => false
theorem RN.dict {ds : List (D × D)} (e : Same F H) (h : RN K F H v (.dict ds)) (n : isT ds = false) : ∃ a kvs, v = .ref a ∧ H a = some (.dK kvs) ∧ RpK K F kvs ds := by
  rcases h with h | ⟨a, rfl, h⟩
  · cases h with
    | dic h r => exact ⟨_, _, rfl, e _ _ h, r⟩
    | dct h r => cases n
  · cases h with
    | dic h r => exact ⟨_, _, rfl, h, r⟩
    | dct h r => cases n
theorem RpK.noT {kvs : List (Key × V)} {ds es : List (D × D)} (h : RpK K F kvs es) (e : es = tmark :: ds) : False := by
  cases h with
  | nil => cases e
  | @cons k v d vs ds h r =>
    have e1 : keyD k = PyData.none := by injection e with e1 _; injection e1
    cases k <;> cases e1
theorem RN.dictT {ds : List (D × D)} (e : Same F H) (h : RN K F H v (.dict (tmark :: ds))) : ∃ a kvs, v = .ref a ∧ H a = some (.dT kvs) ∧ RpT K F kvs ds := by
  rcases h with h | ⟨a, rfl, h⟩
  · cases h with
    | dic h r => exact (r.noT rfl).elim
    | dct h r => exact ⟨_, _, rfl, e _ _ h, r⟩
  · cases h with
    | dic h r => exact (r.noT rfl).elim
    | dct h r => exact ⟨_, _, rfl, h, r⟩
end
end DL

set_option Elab.async false
set_option linter.all false
set_option maxRecDepth 100000
set_option maxHeartbeats 4000000
namespace DL
open PySem L2

/-! ### the source of draws: a dict at p with its list at c -/
def srcKvs (c : Addr) (l m t : Int) (more : List (Key × V)) : List (Key × V) := (Sum.inr "cells", V.ref c) :: (Sum.inr "left", V.int l) :: (Sum.inr "mixed", V.int m) :: (Sum.inr "turn", V.int t) :: more
def SrcOk (H : Hp) (p c : Addr) : Prop := ∃ (ns : List Int) (l m t : Int) (more : List (Key × V)), H p = some (.dK (srcKvs c l m t more)) ∧
  H c = some (.lst (ns.map V.int)) ∧ (∀ n ∈ ns, 0 ≤ n) ∧ 0 ≤ l ∧ 0 ≤ m ∧ m < 2147483647 ∧ (more = [] ∨ ∃ r : Int, more = [((Sum.inr "room" : Key), V.int r)])

/-! ### a frame's state, as data -/
/-- what is passed by reference and changed: a list, a list of one's own lists, a dict of one's own lists -/
inductive MD where
  | fl (ds : List D) | ll (es : List (List D)) | dl (es : List (Key × List D))
inductive Sl where
  | sh (d : D) | bo (d : D) | ow (d : D) | src | scr | mu (m : MD)
abbrev Rho := List (Option Sl)
inductive Rv where
  | fz (d : D) | nw (d : D) | vr (i : Nat) | src | scr | mr (i : Nat) | mi (i k : Nat)
structure Fr where
  K : PySem.W.Frag
  H0 : Hp
  M0 : AP
  mt : AP
structure Gs where
  M : AP
  src : Option (Addr × Addr)
  T : List Addr
  fp : List Addr
def Wr (f : Fr) (a : Addr) : Prop := f.mt a ∨ f.H0 a = none
def NoS (src : Option (Addr × Addr)) (a : Addr) : Prop := ∀ p c, src = some (p, c) → a ≠ p ∧ a ≠ c
def NoSrc (g : Gs) (a : Addr) : Prop := NoS g.src a ∧ a ∉ g.fp
def RmA (K : PySem.W.Frag) (F H : Hp) (as : List Addr) (es : List (List D)) : Prop := as.length = es.length ∧ ∀ (k : Nat) (a : Addr) (ds : List D), as[k]? = some a → es[k]? = some ds → ∃ vs, H a = some (.lst vs) ∧ RpA K F vs ds
def Rm (K : PySem.W.Frag) (F H : Hp) (p : Addr) (as : List Addr) : MD → Prop
  | .fl ds => as = [] ∧ ∃ vs, H p = some (.lst vs) ∧ RpA K F vs ds
  | .ll es => H p = some (.lst (as.map V.ref)) ∧ RmA K F H as es
  | .dl es => H p = some (.dK ((es.map (·.1)).zip (as.map V.ref))) ∧ RmA K F H as (es.map (·.2))
theorem RmA.mono {K : PySem.W.Frag} {F F' H H' : Hp} {as : List Addr} {es : List (List D)} (e : Same F F') (e' : ∀ a ∈ as, ∀ o, H a = some o → H' a = some o) (h : RmA K F H as es) : RmA K F' H' as es :=
  ⟨h.1, fun k a ds h1 h2 => by
    obtain ⟨vs, h3, h4⟩ := h.2 k a ds h1 h2
    exact ⟨vs, e' a (List.mem_of_getElem? h1) _ h3, h4.mono e⟩⟩
theorem Rm.mono {K : PySem.W.Frag} {F F' H H' : Hp} {p : Addr} {as : List Addr} {m : MD} (e : Same F F') (e' : ∀ a ∈ p :: as, ∀ o, H a = some o → H' a = some o) (h : Rm K F H p as m) : Rm K F' H' p as m := by
  have e1 := e' p List.mem_cons_self
  have e2 : ∀ a ∈ as, ∀ o, H a = some o → H' a = some o := fun a h => e' a (List.mem_cons_of_mem _ h)
  cases m with
  | fl ds =>
    obtain ⟨h1, vs, h2, h3⟩ := h
    exact ⟨h1, vs, e1 _ h2, h3.mono e⟩
  | ll es => exact ⟨e1 _ h.1, h.2.mono e e2⟩
  | dl es => exact ⟨e1 _ h.1, h.2.mono e e2⟩
theorem Rm.there {K : PySem.W.Frag} {F H : Hp} {p : Addr} {as : List Addr} {m : MD} (h : Rm K F H p as m) : ∀ a ∈ p :: as, ∃ o, H a = some o := by
  have inn : ∀ {es : List (List D)}, RmA K F H as es → ∀ a ∈ as, ∃ o, H a = some o := fun h a ha => by
    obtain ⟨k, hk, e⟩ := List.getElem_of_mem ha
    have := h.2 k a _ (by rw [List.getElem?_eq_getElem hk, e]) (List.getElem?_eq_getElem (h.1 ▸ hk))
    obtain ⟨vs, h3, _⟩ := this
    exact ⟨_, h3⟩
  intro a ha
  rcases List.mem_cons.mp ha with rfl | ha
  · cases m with
    | fl ds => exact ⟨_, h.2.choose_spec.1⟩
    | ll es => exact ⟨_, h.1⟩
    | dl es => exact ⟨_, h.1⟩
  · cases m with
    | fl ds => rw [h.1] at ha; cases ha
    | ll es => exact inn h.2 a ha
    | dl es => exact inn h.2 a ha
def BoV (f : Fr) (F : Hp) (v : V) (d : D) : Prop := Rp f.K F v d ∨ ∃ a, v = .ref a ∧ Rt f.K F (Fz f.H0 f.mt) a d
/-- the script: read alone -/
def Scr (f : Fr) (v : V) : Prop := ∃ (a : Addr) (ns : List Int), v = .ref a ∧ SqL f.K (Fz f.H0 f.mt) a (ns.map V.int) ∧ ns.length ≤ 63
def SlR (f : Fr) (g : Gs) (H : Hp) (v : V) : Sl → Prop
  | .sh d => Rp f.K (Fz H g.M) v d
  | .bo d => BoV f (Fz H g.M) v d
  | .ow d => ∃ a, v = .ref a ∧ g.M a ∧ f.H0 a = none ∧ NoSrc g a ∧ Rt f.K (Fz H g.M) H a d
  | .src => ∃ p c, g.src = some (p, c) ∧ v = .ref p
  | .scr => Scr f v
  | .mu m => ∃ p as, g.fp = p :: as ∧ v = .ref p ∧ Rm f.K (Fz H g.M) H p as m
/-- what may be changed: a list or a dict -/
def MuO : Option HO → Prop
  | some (.lst _) => True
  | some (.dK _) => True
  | some (.dT _) => True
  | _ => False
theorem Rt.mu {K : PySem.W.Frag} {F G : Hp} {a : Addr} {d : D} (h : Rt K F G a d) : MuO (G a) := by
  cases h with
  | lst h _ => rw [h]; trivial
  | dic h _ => rw [h]; trivial
  | dct h _ => rw [h]; trivial
theorem SrcOk.mu {H : Hp} {p c : Addr} (h : SrcOk H p c) : MuO (H p) ∧ MuO (H c) := by
  obtain ⟨ns, l, m, t, more, h1, h2, _⟩ := h
  exact ⟨by rw [h1]; trivial, by rw [h2]; trivial⟩
structure Rel (f : Fr) (g : Gs) (σ : L2.St) (H : Hp) (ρ : Rho) : Prop where
  keep : ∀ a o, f.H0 a = some o → ¬ f.mt a → H a = some o
  dom : ∀ a, H a = none → f.H0 a = none
  m0 : ∀ a, f.M0 a → g.M a
  m00 : ∀ a, f.M0 a → f.H0 a ≠ none
  mU : ∀ a, g.M a → MuO (H a)
  src : ∀ p c, g.src = some (p, c) → p ≠ c ∧ g.M p ∧ g.M c ∧ Wr f p ∧ Wr f c ∧ SrcOk H p c
  len : ρ.length = σ.length
  slot : ∀ (i : Nat) (s : Sl), ρ[i]? = some (some s) → ∃ v, σ[i]? = some (some v) ∧ SlR f g H v s
  uq : ∀ (i j : Nat) (l : Addr) (d e : D), ρ[i]? = some (some (.ow d)) → ρ[j]? = some (some (.ow e)) → σ[i]? = some (some (.ref l)) → σ[j]? = some (some (.ref l)) → i = j
  tmp : ∀ a ∈ g.T, g.M a ∧ NoSrc g a ∧ ∀ (i : Nat) (e : D), ρ[i]? = some (some (.ow e)) → σ[i]? ≠ some (some (.ref a))
  fpM : ∀ a ∈ g.fp, g.M a ∧ Wr f a ∧ NoS g.src a
  fpn : g.fp.Nodup
  mq : ∀ (i j : Nat) (d e : MD), ρ[i]? = some (some (.mu d)) → ρ[j]? = some (some (.mu e)) → i = j
def isRoot : Sl → Prop
  | .sh _ => True
  | .bo _ => True
  | .ow _ => True
  | .src => False
  | .scr => False
  | .mu _ => False
def VR (f : Fr) (g : Gs) (σ : L2.St) (H : Hp) (ρ : Rho) (v : V) : Rv → Prop
  | .fz d => Rp f.K (Fz H g.M) v d
  | .nw d => ∃ a, v = .ref a ∧ g.M a ∧ f.H0 a = none ∧ NoSrc g a ∧ Rt f.K (Fz H g.M) H a d ∧ a ∉ g.T ∧ ∀ (i : Nat) (e : D), ρ[i]? = some (some (.ow e)) → σ[i]? ≠ some (some (.ref a))
  | .vr i => ∃ s, ρ[i]? = some (some s) ∧ isRoot s ∧ σ[i]? = some (some v)
  | .src => ∃ p c, g.src = some (p, c) ∧ v = .ref p
  | .scr => Scr f v
  | .mr i => ∃ m, ρ[i]? = some (some (.mu m)) ∧ σ[i]? = some (some v)
  | .mi i k => ∃ m p as a, ρ[i]? = some (some (.mu m)) ∧ g.fp = p :: as ∧ as[k]? = some a ∧ v = .ref a
/-- what a step leaves: frozen things stay, the source stays -/
structure Gro (g : Gs) (H : Hp) (g' : Gs) (H' : Hp) : Prop where
  fz : Same (Fz H g.M) (Fz H' g'.M)
  src : ∀ pc, g.src = some pc → g'.src = some pc
  tm : g'.T = g.T
  th : ∀ a ∈ g.T, H' a = H a
  fp : g'.fp = g.fp
theorem Gro.refl {g : Gs} {H : Hp} : Gro g H g H := ⟨Same.refl _, fun _ h => h, rfl, fun _ _ => rfl, rfl⟩
theorem Gro.trans {g g1 g2 : Gs} {H H1 H2 : Hp} (a : Gro g H g1 H1) (b : Gro g1 H1 g2 H2) : Gro g H g2 H2 := ⟨a.fz.trans b.fz, fun pc h => b.src pc (a.src pc h), b.tm.trans a.tm, fun x h => (b.th x (a.tm ▸ h)).trans (a.th x h), b.fp.trans a.fp⟩

section
variable {f : Fr} {g : Gs} {σ : L2.St} {H H' : Hp} {ρ : Rho} {v : V} {d : D} {p : Addr} {o : HO}
theorem Rel.mH (R : Rel f g σ H ρ) (a : Addr) (e : H a = none) : ¬ g.M a := fun m => by
  have := R.mU a m
  rw [e] at this
  exact this
/-- .. is kept by a step that keeps all but the source -/
theorem Rel.mu_step (R : Rel f g σ H ρ) (hk : ∀ a o, H a = some o → (∀ p c, g.src = some (p, c) → a ≠ p ∧ a ≠ c) → H' a = some o) (hsrc : ∀ p c, g.src = some (p, c) → SrcOk H' p c) : ∀ a, g.M a → MuO (H' a) := by
  intro a m
  by_cases q : ∃ p c, g.src = some (p, c) ∧ (a = p ∨ a = c)
  · obtain ⟨p, c, e, q⟩ := q
    rcases q with rfl | rfl
    · exact (hsrc _ _ e).mu.1
    · exact (hsrc _ _ e).mu.2
  · have h := R.mU a m
    cases e : H a with
    | none => rw [e] at h; exact h.elim
    | some o =>
      rw [hk a o e fun p c hp => ⟨fun z => q ⟨p, c, hp, .inl z⟩, fun z => q ⟨p, c, hp, .inr z⟩⟩, ← e]
      exact h
theorem SlR.boV (R : Rel f g σ H ρ) (h : BoV f (Fz H g.M) v d) : RN f.K (Fz H g.M) H v d := by
  rcases h with h | ⟨a, e, h⟩
  · exact .inl h
  · exact .inr ⟨a, e, h.mono (Same.refl _) fun o e => R.keep a o (of_fz e).1 (of_fz e).2⟩
theorem SlR.rn (R : Rel f g σ H ρ) {s : Sl} (h : SlR f g H v s) : (∀ d, s = .sh d ∨ s = .bo d ∨ s = .ow d → RN f.K (Fz H g.M) H v d) := by
  rintro d (rfl | rfl | rfl)
  · exact .inl h
  · exact SlR.boV R h
  · obtain ⟨a, e, _, _, _, r⟩ := h
    exact .inr ⟨a, e, r⟩
theorem BoV.mono {F F' : Hp} (e : Same F F') (h : BoV f F v d) : BoV f F' v d := by
  rcases h with h | ⟨a, e1, h⟩
  · exact .inl (h.mono e)
  · exact .inr ⟨a, e1, h.mono e fun _ h => h⟩

/-- a heap that keeps all but the source's cells, the mutable things the same -/
theorem Rel.step {g' : Gs} (R : Rel f g σ H ρ) (hM : ∀ a, g.M a ↔ g'.M a) (hs : g'.src = g.src) (hT : g'.T = g.T)
    (hk : ∀ a o, H a = some o → (∀ p c, g.src = some (p, c) → a ≠ p ∧ a ≠ c) → H' a = some o) (hd : ∀ a, H' a = none → H a = none)
    (hsrc : ∀ p c, g.src = some (p, c) → SrcOk H' p c) (hf : g'.fp = g.fp := by rfl) : Rel f g' σ H' ρ ∧ Gro g H g' H' := by
  have hG : Gro g H g' H' := by
    refine ⟨fz_mono fun a o e n => ⟨hk a o e fun p c hp => ⟨fun q => n (q ▸ (R.src p c hp).2.1), fun q => n (q ▸ (R.src p c hp).2.2.1)⟩, fun z => n ((hM a).2 z)⟩, fun pc h => hs.trans h, hT, fun a h => ?_, hf⟩
    have hn := R.tmp a h
    cases e : H a with
    | none => exact absurd hn.1 (R.mH a e)
    | some o => exact hk a o e fun p c hp => hn.2.1.1 p c hp
  refine ⟨⟨fun a o e n => hk a o (R.keep a o e n) fun p c hp => ⟨?_, ?_⟩, fun a e => R.dom a (hd a e), fun a m => (hM a).1 (R.m0 a m), R.m00, fun a m => R.mu_step hk hsrc a ((hM a).2 m), fun p c hp => ?_, R.len, fun i s e => ?_, R.uq, fun a h => ?_, fun a h => ?_, by rw [hf]; exact R.fpn, R.mq⟩, hG⟩
  · rintro rfl
    rcases (R.src a c hp).2.2.2.1 with z | z
    · exact n z
    · rw [e] at z; cases z
  · rintro rfl
    rcases (R.src p a hp).2.2.2.2.1 with z | z
    · exact n z
    · rw [e] at z; cases z
  · rw [hs] at hp
    obtain ⟨h1, h2, h3, h4, h5, h6⟩ := R.src p c hp
    exact ⟨h1, (hM _).1 h2, (hM _).1 h3, h4, h5, hsrc p c hp⟩
  · obtain ⟨v, e1, h⟩ := R.slot i s e
    refine ⟨v, e1, ?_⟩
    cases s with
    | sh d => exact Rp.mono hG.fz h
    | bo d => exact BoV.mono hG.fz h
    | ow d =>
      obtain ⟨a, e2, m, h0, ns, r⟩ := h
      exact ⟨a, e2, (hM a).1 m, h0, ⟨fun p c hp => ns.1 p c (hs ▸ hp), by rw [hf]; exact ns.2⟩, r.mono hG.fz fun o e => hk a o e fun p c hp => ns.1 p c hp⟩
    | src =>
      obtain ⟨p, c, e2, e3⟩ := h
      exact ⟨p, c, hs.trans e2, e3⟩
    | scr => exact h
    | mu m =>
      obtain ⟨p, as, e2, e3, h⟩ := h
      exact ⟨p, as, hf.trans e2, e3, h.mono hG.fz fun a ha o e => hk a o e ((R.fpM a (e2 ▸ ha)).2.2)⟩
  · rw [hT] at h
    obtain ⟨h1, h2, h3⟩ := R.tmp a h
    exact ⟨(hM a).1 h1, ⟨fun p c hp => h2.1 p c (hs ▸ hp), by rw [hf]; exact h2.2⟩, h3⟩
  · rw [hf] at h
    obtain ⟨h1, h2, h3⟩ := R.fpM a h
    exact ⟨(hM a).1 h1, h2, fun p c hp => h3 p c (hs ▸ hp)⟩
theorem VR.step {g' : Gs} {r : Rv} (hM : ∀ a, g.M a ↔ g'.M a) (hs : g'.src = g.src) (hT : g'.T = g.T)
    (hk : ∀ a o, H a = some o → (∀ p c, g.src = some (p, c) → a ≠ p ∧ a ≠ c) → H' a = some o) (G : Gro g H g' H') (h : VR f g σ H ρ v r) : VR f g' σ H' ρ v r := by
  cases r with
  | fz d => exact Rp.mono G.fz h
  | nw d =>
    obtain ⟨a, e2, m, h0, ns, r, t, u⟩ := h
    exact ⟨a, e2, (hM a).1 m, h0, ⟨fun p c hp => ns.1 p c (hs ▸ hp), by rw [G.fp]; exact ns.2⟩, r.mono G.fz fun o e => hk a o e fun p c hp => ns.1 p c hp, by rw [hT]; exact t, u⟩
  | vr i => exact h
  | src =>
    obtain ⟨p, c, e2, e3⟩ := h
    exact ⟨p, c, hs.trans e2, e3⟩
  | scr => exact h
  | mr i => exact h
  | mi i k =>
    obtain ⟨m, p, as, a, h1, h2, h3, h4⟩ := h
    exact ⟨m, p, as, a, h1, G.fp.trans h2, h3, h4⟩
theorem srcOk_upd {p c a : Addr} {o : HO} (h : SrcOk H p c) (h1 : p ≠ a) (h2 : c ≠ a) : SrcOk (upd H a o) p c := by
  obtain ⟨ns, l, m, t, more, e1, e2, r⟩ := h
  exact ⟨ns, l, m, t, more, by rw [upd_ne h1]; exact e1, by rw [upd_ne h2]; exact e2, r⟩
/-- a new frozen thing -/
theorem Rel.new (R : Rel f g σ H ρ) (hp : H p = none) : Rel f g σ (upd H p o) ρ ∧ Gro g H g (upd H p o) ∧ Fz (upd H p o) g.M p = some o := by
  have hk : ∀ a u, H a = some u → upd H p o a = some u := fun a u e => by rw [upd_ne (ne_of_none e hp)]; exact e
  obtain ⟨a, b⟩ := R.step (g' := g) (H' := upd H p o) (fun _ => Iff.rfl) rfl rfl (fun a o e _ => hk a o e) (fun a e => by
    by_cases q : a = p
    · rw [q]; exact hp
    · rw [upd_ne q] at e; exact e) (fun q c e => by
    obtain ⟨_, h2, h3, _, _, h6⟩ := R.src q c e
    exact srcOk_upd h6 (fun z => R.mH _ hp (z ▸ h2)) fun z => R.mH _ hp (z ▸ h3))
  exact ⟨a, b, fz_of upd_same (R.mH p hp)⟩
def Gs.add (g : Gs) (p : Addr) : Gs := ⟨fun a => g.M a ∨ a = p, g.src, g.T, g.fp⟩
def Gs.del (g : Gs) (p : Addr) : Gs := ⟨fun a => g.M a ∧ a ≠ p, g.src, g.T, g.fp⟩
/-- a new thing of one's own -/
theorem Rel.own (R : Rel f g σ H ρ) (hp : H p = none) (hr : Rt f.K (Fz H g.M) (upd H p o) p d) : Rel f (g.add p) σ (upd H p o) ρ ∧ Gro g H (g.add p) (upd H p o) ∧ VR f (g.add p) σ (upd H p o) ρ (.ref p) (.nw d) := by
  have hk : ∀ a u, H a = some u → upd H p o a = some u := fun a u e => by rw [upd_ne (ne_of_none e hp)]; exact e
  have hG : Same (Fz H g.M) (Fz (upd H p o) (g.add p).M) := fz_mono fun a u e n => ⟨hk a u e, fun z => z.elim n fun q => by rw [q, hp] at e; cases e⟩
  have hns : NoSrc g p := ⟨fun q c e => ⟨fun z => R.mH p hp (by rw [z]; exact (R.src q c e).2.1), fun z => R.mH p hp (by rw [z]; exact (R.src q c e).2.2.1)⟩, fun z => R.mH p hp (R.fpM p z).1⟩
  have hd : ∀ a, upd H p o a = none → H a = none := fun a e => by
    by_cases q : a = p
    · rw [q]; exact hp
    · rw [upd_ne q] at e; exact e
  refine ⟨⟨fun a u e n => hk a u (R.keep a u e n), fun a e => R.dom a (hd a e), fun a m => .inl (R.m0 a m), R.m00, fun a m => ?_, fun q c e => ?_, R.len, fun i s e => ?_, R.uq, fun a h => ⟨.inl (R.tmp a h).1, (R.tmp a h).2⟩, fun a h => ⟨.inl (R.fpM a h).1, (R.fpM a h).2⟩, R.fpn, R.mq⟩, ⟨hG, fun _ h => h, rfl, fun a h => upd_ne fun q => R.mH p hp (q ▸ (R.tmp a h).1), rfl⟩, p, rfl, .inr rfl, R.dom p hp, hns, hr.mono hG fun _ h => h, fun h => R.mH p hp (R.tmp p h).1, fun i e h1 h2 => ?_⟩
  · rcases m with m | m
    · rw [upd_ne (fun q => R.mH p hp (by rw [← q]; exact m))]; exact R.mU a m
    · rw [m]; exact hr.mu
  · obtain ⟨h1, h2, h3, h4, h5, h6⟩ := R.src q c e
    exact ⟨h1, .inl h2, .inl h3, h4, h5, srcOk_upd h6 (fun z => R.mH _ hp (z ▸ h2)) fun z => R.mH _ hp (z ▸ h3)⟩
  · obtain ⟨v, e1, h⟩ := R.slot i s e
    refine ⟨v, e1, ?_⟩
    cases s with
    | sh d => exact Rp.mono hG h
    | bo d => exact BoV.mono hG h
    | ow d =>
      obtain ⟨a, e2, m, h0, ns, r⟩ := h
      exact ⟨a, e2, .inl m, h0, ns, r.mono hG fun o e => hk a o e⟩
    | src => exact h
    | scr => exact h
    | mu m =>
      obtain ⟨q, as, e2, e3, h⟩ := h
      exact ⟨q, as, e2, e3, h.mono hG fun a _ o e => hk a o e⟩
  · obtain ⟨v, e1, a, e2, m, h0, ns, r⟩ := R.slot i _ h1
    rw [e1] at h2
    cases h2
    cases e2
    obtain ⟨o', e3⟩ := r.there
    rw [hp] at e3; cases e3
/-- what was one's own is frozen -/
theorem Rel.freeze {a : Addr} (R : Rel f g σ H ρ) (h0 : f.H0 a = none) (ns : NoSrc g a) (ht : a ∉ g.T) (u : ∀ (i : Nat) (e : D), ρ[i]? = some (some (.ow e)) → σ[i]? ≠ some (some (.ref a))) :
    Rel f (g.del a) σ H ρ ∧ Gro g H (g.del a) H := by
  have hG : Same (Fz H g.M) (Fz H (g.del a).M) := fz_mono fun b o e n => ⟨e, fun z => n z.1⟩
  refine ⟨⟨R.keep, R.dom, fun b m => ⟨R.m0 b m, fun q => R.m00 b m (q ▸ h0)⟩, R.m00, fun b m => R.mU b m.1, fun p c e => ?_, R.len, fun i s e => ?_, R.uq, fun b h => ⟨⟨(R.tmp b h).1, fun q => ht (q ▸ h)⟩, (R.tmp b h).2⟩, fun b h => ⟨⟨(R.fpM b h).1, fun q => ns.2 (q ▸ h)⟩, (R.fpM b h).2⟩, R.fpn, R.mq⟩, ⟨hG, fun _ h => h, rfl, fun _ _ => rfl, rfl⟩⟩
  · obtain ⟨h1, h2, h3, h4, h5, h6⟩ := R.src p c e
    exact ⟨h1, ⟨h2, (ns.1 p c e).1.symm⟩, ⟨h3, (ns.1 p c e).2.symm⟩, h4, h5, h6⟩
  · obtain ⟨v, e1, h⟩ := R.slot i s e
    refine ⟨v, e1, ?_⟩
    cases s with
    | sh d => exact Rp.mono hG h
    | bo d => exact BoV.mono hG h
    | ow d =>
      obtain ⟨b, e2, m, h0, ns, r⟩ := h
      refine ⟨b, e2, ⟨m, fun q => u i d e ?_⟩, h0, ns, r.mono hG fun o e => e⟩
      rw [e1, e2, q]
    | src => exact h
    | scr => exact h
    | mu m =>
      obtain ⟨q, as, e2, e3, h⟩ := h
      exact ⟨q, as, e2, e3, h.mono hG fun a _ o e => e⟩
end
end DL

set_option Elab.async false
set_option linter.all false
set_option maxRecDepth 100000
set_option maxHeartbeats 4000000
namespace DL
open PySem L2

/-! ### operands -/
def slD : Option (Option Sl) → Option D
  | some (some (.sh d)) => some d
  | some (some (.bo d)) => some d
  | some (some (.ow d)) => some d
  | _ => none
def mrD : Option (Option Sl) → Option D
  | some (some (.mu (.fl ds))) => some (.list ds)
  | _ => none
def miD (k : Nat) : Option (Option Sl) → Option D
  | some (some (.mu (.ll es))) => es[k]?.map .list
  | some (some (.mu (.dl es))) => es[k]?.map fun e => .list e.2
  | _ => none
def res (ρ : Rho) : Rv → Option D
  | .fz d => some d
  | .nw d => some d
  | .vr i => slD ρ[i]?
  | .src => none
  | .scr => none
  | .mr i => mrD ρ[i]?
  | .mi i k => miD k ρ[i]?
def Opd (f : Fr) (g : Gs) (σ : L2.St) (H : Hp) (v : V) : Rv → Prop
  | .fz d => Rp f.K (Fz H g.M) v d
  | .nw d => Rp f.K (Fz H g.M) v d
  | .vr i => σ[i]? = some (some v)
  | .src => ∃ p c, g.src = some (p, c) ∧ v = .ref p
  | .scr => Scr f v
  | .mr i => σ[i]? = some (some v)
  | .mi _ k => ∃ p as a, g.fp = p :: as ∧ as[k]? = some a ∧ v = .ref a
section
variable {f : Fr} {g g' : Gs} {σ : L2.St} {H H' : Hp} {ρ ρ' : Rho} {v u : V} {d x y : D} {p : Addr} {o : HO} {r : Rv}
theorem Opd.mono (G : Gro g H g' H') (h : Opd f g σ H v r) : Opd f g' σ H' v r := by
  cases r with
  | fz d => exact Rp.mono G.fz h
  | nw d => exact Rp.mono G.fz h
  | vr i => exact h
  | src => obtain ⟨p, c, e1, e2⟩ := h; exact ⟨p, c, G.src _ e1, e2⟩
  | scr => exact h
  | mr i => exact h
  | mi i k =>
    obtain ⟨p, as, a, h2, h3, h4⟩ := h
    exact ⟨p, as, a, G.fp.trans h2, h3, h4⟩
theorem mq_set {i : Nat} {o : Option Sl} (h : ∀ (i j : Nat) (d e : MD), ρ[i]? = some (some (.mu d)) → ρ[j]? = some (some (.mu e)) → i = j) (hn : ∀ m, o ≠ some (.mu m)) :
    ∀ (k j : Nat) (d e : MD), (ρ.set i o)[k]? = some (some (.mu d)) → (ρ.set i o)[j]? = some (some (.mu e)) → k = j := by
  have key : ∀ (k : Nat) (d : MD), (ρ.set i o)[k]? = some (some (.mu d)) → ρ[k]? = some (some (.mu d)) := fun k d q => by
    by_cases e : i = k
    · subst e
      by_cases hl : i < ρ.length
      · rw [List.getElem?_set_self hl] at q
        exact absurd (Option.some.inj q) (hn d)
      · rw [List.getElem?_eq_none (by simpa using hl)] at q; cases q
    · rw [List.getElem?_set_ne e] at q; exact q
  exact fun k j d e h1 h2 => h k j d e (key k d h1) (key j e h2)
/-- an inner list, where it stands -/
theorem Rel.inner (R : Rel f g σ H ρ) {i k : Nat} {d : D} {m : MD} {q : Addr} {as : List Addr} {a : Addr} (hs : ρ[i]? = some (some (.mu m))) (hf : g.fp = q :: as) (ha : as[k]? = some a) (hd : miD k (some (some (.mu m))) = some d) :
    ∃ ds vs, d = .list ds ∧ H a = some (.lst vs) ∧ RpA f.K (Fz H g.M) vs ds := by
  obtain ⟨w, _, q', as', e2, _, h⟩ := R.slot i _ hs
  rw [hf] at e2; cases e2
  cases m with
  | fl ds => cases hd
  | ll es =>
    simp only [miD] at hd
    obtain ⟨ds, e1, rfl⟩ := Option.map_eq_some_iff.mp hd
    obtain ⟨vs, h1, h2⟩ := h.2.2 k a ds ha e1
    exact ⟨ds, vs, rfl, h1, h2⟩
  | dl es =>
    simp only [miD] at hd
    obtain ⟨x, e1, rfl⟩ := Option.map_eq_some_iff.mp hd
    obtain ⟨vs, h1, h2⟩ := h.2.2 k a x.2 ha (by rw [List.getElem?_map, e1]; rfl)
    exact ⟨x.2, vs, rfl, h1, h2⟩
theorem Rel.flat (R : Rel f g σ H ρ) {i : Nat} {ds : List D} (hs : ρ[i]? = some (some (.mu (.fl ds)))) : ∃ p vs, g.fp = [p] ∧ σ[i]? = some (some (.ref p)) ∧ H p = some (.lst vs) ∧ RpA f.K (Fz H g.M) vs ds := by
  obtain ⟨w, e1, p, as, e2, rfl, rfl, vs, h1, h2⟩ := R.slot i _ hs
  exact ⟨p, vs, e2, e1, h1, h2⟩
theorem Opd.rn (R : Rel f g σ H ρ) (h : Opd f g σ H v r) (e : res ρ r = some d) : RN f.K (Fz H g.M) H v d := by
  cases r with
  | fz x => cases e; exact .inl h
  | nw x => cases e; exact .inl h
  | vr i =>
    have e : slD ρ[i]? = some d := e
    unfold slD at e
    split at e
    · rename_i x e1
      cases e
      obtain ⟨w, e2, q⟩ := R.slot i _ e1
      have h' : σ[i]? = some (some v) := h
      rw [h'] at e2; cases e2
      exact SlR.rn R q d (.inl rfl)
    · rename_i x e1
      cases e
      obtain ⟨w, e2, q⟩ := R.slot i _ e1
      have h' : σ[i]? = some (some v) := h
      rw [h'] at e2; cases e2
      exact SlR.rn R q d (.inr (.inl rfl))
    · rename_i x e1
      cases e
      obtain ⟨w, e2, q⟩ := R.slot i _ e1
      have h' : σ[i]? = some (some v) := h
      rw [h'] at e2; cases e2
      exact SlR.rn R q d (.inr (.inr rfl))
    · cases e
  | src => cases e
  | scr => cases e
  | mr i =>
    have e : mrD ρ[i]? = some d := e
    unfold mrD at e
    split at e
    · rename_i ds e1
      cases e
      obtain ⟨q, vs, _, e2, h1, h2⟩ := R.flat e1
      have h' : σ[i]? = some (some v) := h
      rw [h'] at e2; cases e2
      exact .inr ⟨q, rfl, .lst h1 h2⟩
    · cases e
  | mi i k =>
    have e : miD k ρ[i]? = some d := e
    obtain ⟨q, as, a, h2, h3, rfl⟩ := h
    cases hs : ρ[i]? with
    | none => rw [hs] at e; cases e
    | some o => cases o with
      | none => rw [hs] at e; cases e
      | some s => cases s with
        | mu m =>
          rw [hs] at e
          obtain ⟨ds, vs, rfl, h4, h5⟩ := R.inner hs h2 h3 e
          exact .inr ⟨a, rfl, .lst h4 h5⟩
        | _ => rw [hs] at e; cases e
/-- the result of an expression as an operand: what is new is frozen -/
theorem VR.opd (R : Rel f g σ H ρ) (h : VR f g σ H ρ v r) : ∃ g', Rel f g' σ H ρ ∧ Gro g H g' H ∧ Opd f g' σ H v r := by
  cases r with
  | fz d => exact ⟨g, R, Gro.refl, h⟩
  | nw d =>
    obtain ⟨a, rfl, m, h0, ns, r, t, u⟩ := h
    obtain ⟨R', G⟩ := R.freeze h0 ns t u
    exact ⟨g.del a, R', G, r.rp G.fz fun o e => fz_of e fun z => z.2 rfl⟩
  | vr i =>
    obtain ⟨s, _, _, e⟩ := h
    exact ⟨g, R, Gro.refl, e⟩
  | src => exact ⟨g, R, Gro.refl, h⟩
  | scr => exact ⟨g, R, Gro.refl, h⟩
  | mr i =>
    obtain ⟨_, _, e⟩ := h
    exact ⟨g, R, Gro.refl, e⟩
  | mi i k =>
    obtain ⟨_, p, as, a, _, e⟩ := h
    exact ⟨g, R, Gro.refl, p, as, a, e⟩
/-- an operand that is stored elsewhere: frozen for good -/
def flatD : D → Bool
  | .list _ => false
  | .dict _ => false
  | _ => true
theorem BoV.flat {f : Fr} {F : Hp} {v : V} {d : D} (h : BoV f F v d) (hd : flatD d = true) : Rp f.K F v d := by
  rcases h with h | ⟨a, _, h⟩
  · exact h
  · cases h <;> cases hd
def frzV (ρ : Rho) (i : Nat) : Option (Option Sl) → Option (D × Rho)
  | some (some (.sh d)) => some (d, ρ)
  | some (some (.ow d)) => some (d, ρ.set i (some (.sh d)))
  | some (some (.bo d)) => if flatD d = true then some (d, ρ) else none
  | _ => none
def frz (ρ : Rho) : Rv → Option (D × Rho)
  | .fz d => some (d, ρ)
  | .nw d => some (d, ρ)
  | .vr i => frzV ρ i ρ[i]?
  | .src => none
  | .scr => none
  | .mr _ => none
  | .mi _ _ => none
theorem getset {α : Type} {l : List α} {i j : Nat} {a x : α} (h : (l.set i a)[j]? = some x) : (i = j ∧ x = a) ∨ (i ≠ j ∧ l[j]? = some x) := by
  by_cases e : i = j
  · subst e
    by_cases hl : i < l.length
    · rw [List.getElem?_set_self hl] at h; cases h; exact .inl ⟨rfl, rfl⟩
    · rw [List.getElem?_eq_none (by simpa using hl)] at h; cases h
  · rw [List.getElem?_set_ne e] at h; exact .inr ⟨e, h⟩
/-- an own slot is frozen -/
theorem Rel.frzSlot {i : Nat} {a : Addr} (R : Rel f g σ H ρ) (hs : ρ[i]? = some (some (.ow d))) (hv : σ[i]? = some (some (.ref a))) :
    Rel f (g.del a) σ H (ρ.set i (some (.sh d))) ∧ Gro g H (g.del a) H ∧ Rp f.K (Fz H (g.del a).M) (.ref a) d := by
  obtain ⟨w, e1, b, e2, m, h0, ns, r⟩ := R.slot i _ hs
  rw [hv] at e1; cases e1; cases e2
  have hi : i < ρ.length := (List.getElem?_eq_some_iff.mp hs).1
  have R1 : Rel f g σ H (ρ.set i none) := ⟨R.keep, R.dom, R.m0, R.m00, R.mU, R.src, by rw [List.length_set]; exact R.len, fun j s e => by
      rcases getset e with ⟨_, q⟩ | ⟨_, q⟩
      · cases q
      · exact R.slot j s q, fun j k l d e h1 h2 h3 h4 => by
      rcases getset h1 with ⟨_, q⟩ | ⟨_, q⟩
      · cases q
      rcases getset h2 with ⟨_, q2⟩ | ⟨_, q2⟩
      · cases q2
      exact R.uq j k l d e q q2 h3 h4, fun b h => ⟨(R.tmp b h).1, (R.tmp b h).2.1, fun j e h1 => by
      rcases getset h1 with ⟨_, q⟩ | ⟨_, q⟩
      · cases q
      exact (R.tmp b h).2.2 j e q⟩, R.fpM, R.fpn, mq_set R.mq (fun _ z => nomatch z)⟩
  obtain ⟨R', G⟩ := R1.freeze (a := a) h0 ns (fun h => (R.tmp a h).2.2 i d hs hv) (fun j e h1 h2 => by
    rcases getset h1 with ⟨_, q⟩ | ⟨ne, q⟩
    · cases q
    exact ne (R.uq i j a d e hs q hv h2))
  have hr : Rp f.K (Fz H (g.del a).M) (.ref a) d := r.rp G.fz fun o e => fz_of e fun z => z.2 rfl
  refine ⟨⟨R'.keep, R'.dom, R'.m0, R'.m00, R'.mU, R'.src, by rw [List.length_set]; exact R.len, fun j s e => ?_, fun j k l d e h1 h2 h3 h4 => ?_, fun b h => ⟨(R'.tmp b h).1, (R'.tmp b h).2.1, fun j e h1 => ?_⟩, R'.fpM, R'.fpn, mq_set R.mq (fun _ z => nomatch z)⟩, G, hr⟩
  · rcases getset e with ⟨rfl, q⟩ | ⟨ne, q⟩
    · cases q; exact ⟨_, hv, hr⟩
    · exact R'.slot j s (by rw [List.getElem?_set_ne ne]; exact q)
  · rcases getset h1 with ⟨_, q⟩ | ⟨ne1, q⟩
    · cases q
    rcases getset h2 with ⟨_, q2⟩ | ⟨ne2, q2⟩
    · cases q2
    exact R.uq j k l d e q q2 h3 h4
  · rcases getset h1 with ⟨_, q⟩ | ⟨_, q⟩
    · cases q
    exact (R.tmp b h).2.2 j e q
theorem Opd.frzS (R : Rel f g σ H ρ) (h : Opd f g σ H v r) (e : frz ρ r = some (d, ρ')) : ∃ g', Rel f g' σ H ρ' ∧ Gro g H g' H ∧ g'.src = g.src ∧ Rp f.K (Fz H g'.M) v d := by
  cases r with
  | fz x => cases e; exact ⟨g, R, Gro.refl, rfl, h⟩
  | nw x => cases e; exact ⟨g, R, Gro.refl, rfl, h⟩
  | vr i =>
    have e : frzV ρ i ρ[i]? = some (d, ρ') := e
    unfold frzV at e
    have h' : σ[i]? = some (some v) := h
    split at e
    · rename_i x e1
      cases e
      obtain ⟨w, e2, q⟩ := R.slot i _ e1
      rw [h'] at e2; cases e2
      exact ⟨g, R, Gro.refl, rfl, q⟩
    · rename_i x e1
      cases e
      obtain ⟨w, e2, b, e3, _⟩ := R.slot i _ e1
      rw [h'] at e2; cases e2; cases e3
      obtain ⟨a, b, c⟩ := R.frzSlot e1 h'
      exact ⟨_, a, b, rfl, c⟩
    · rename_i x e1
      split at e
      · rename_i hf
        cases e
        obtain ⟨w, e2, q⟩ := R.slot i _ e1
        rw [h'] at e2; cases e2
        exact ⟨g, R, Gro.refl, rfl, q.flat hf⟩
      · cases e
    · cases e
  | src => cases e
  | scr => cases e
  | mr _ => cases e
  | mi _ _ => cases e
theorem Opd.frz (R : Rel f g σ H ρ) (h : Opd f g σ H v r) (e : frz ρ r = some (d, ρ')) : ∃ g', Rel f g' σ H ρ' ∧ Gro g H g' H ∧ Rp f.K (Fz H g'.M) v d :=
  let ⟨g', a, b, _, c⟩ := Opd.frzS R h e
  ⟨g', a, b, c⟩
end

/-! ### expressions -/
abbrev DE := Rho → (Rv → Rho → Prop) → Prop
def LE (K : PySem.W.Frag) (t : TE) (d : DE) : Prop := ∀ (f : Fr) (g : Gs) (σ : L2.St) (H : Hp) (ρ : Rho) (Q : Rv → Rho → Prop) (R : V → Hp → Prop), f.K = K → Rel f g σ H ρ → d ρ Q →
  (∀ (v : V) (H' : Hp) (g' : Gs) (ρ' : Rho) (r : Rv), Rel f g' σ H' ρ' → Gro g H g' H' → VR f g' σ H' ρ' v r → Q r ρ' → R v H') → t σ H R
/-- as an operand -/
theorem LE.opd {K : PySem.W.Frag} {t : TE} {d : DE} (h : LE K t d) {f : Fr} {g : Gs} {σ : L2.St} {H : Hp} {ρ : Rho} {Q : Rv → Rho → Prop} {R : V → Hp → Prop} (hK : f.K = K) (hR : Rel f g σ H ρ) (hd : d ρ Q)
    (k : ∀ (v : V) (H' : Hp) (g' : Gs) (ρ' : Rho) (r : Rv), Rel f g' σ H' ρ' → Gro g H g' H' → Opd f g' σ H' v r → Q r ρ' → R v H') : t σ H R :=
  h f g σ H ρ Q R hK hR hd fun v H' g' ρ' r R' G' V' q => by
    obtain ⟨g2, R2, G2, O⟩ := V'.opd R'
    exact k v H' g2 ρ' r R2 (G'.trans G2) O q
def wD (o : Option D) (k : D → Prop) : Prop := match o with
  | some x => k x
  | none => False
theorem wD_some {o : Option D} {k : D → Prop} (h : wD o k) : ∃ x, o = some x ∧ k x := by
  cases o with
  | some x => exact ⟨x, rfl, h⟩
  | none => exact h.elim
def wF (o : Option (D × Rho)) (k : D → Rho → Prop) : Prop := match o with
  | some x => k x.1 x.2
  | none => False
theorem wF_some {o : Option (D × Rho)} {k : D → Rho → Prop} (h : wF o k) : ∃ x ρ, o = some (x, ρ) ∧ k x ρ := by
  cases o with
  | some x => exact ⟨x.1, x.2, rfl, h⟩
  | none => exact h.elim
def dVar (i : Nat) : DE := fun ρ Q => match ρ[i]? with
  | some (some (.sh d)) => Q (.fz d) ρ
  | some (some (.bo _)) => Q (.vr i) ρ
  | some (some (.ow _)) => Q (.vr i) ρ
  | some (some .src) => Q .src ρ
  | some (some .scr) => Q .scr ρ
  | some (some (.mu _)) => Q (.mr i) ρ
  | _ => False
theorem le_var {K : PySem.W.Frag} {i : Nat} : LE K (tVar i) (dVar i) := by
  intro f g σ H ρ Q R hK hR hd k
  unfold dVar at hd
  split at hd
  · rename_i d e
    obtain ⟨v, e1, q⟩ := hR.slot i _ e
    exact ⟨v, e1, k v H g ρ (.fz d) hR Gro.refl q hd⟩
  · rename_i d e
    obtain ⟨v, e1, q⟩ := hR.slot i _ e
    exact ⟨v, e1, k v H g ρ (.vr i) hR Gro.refl ⟨_, e, trivial, e1⟩ hd⟩
  · rename_i d e
    obtain ⟨v, e1, q⟩ := hR.slot i _ e
    exact ⟨v, e1, k v H g ρ (.vr i) hR Gro.refl ⟨_, e, trivial, e1⟩ hd⟩
  · rename_i e
    obtain ⟨v, e1, q⟩ := hR.slot i _ e
    exact ⟨v, e1, k v H g ρ .src hR Gro.refl q hd⟩
  · rename_i e
    obtain ⟨v, e1, q⟩ := hR.slot i _ e
    exact ⟨v, e1, k v H g ρ .scr hR Gro.refl q hd⟩
  · rename_i m e
    obtain ⟨v, e1, q⟩ := hR.slot i _ e
    exact ⟨v, e1, k v H g ρ (.mr i) hR Gro.refl ⟨m, e, e1⟩ hd⟩
  · exact hd.elim
def dC (d : D) : DE := fun ρ Q => Q (.fz d) ρ
theorem le_c {K : PySem.W.Frag} {v : V} {d : D} (h : ∀ F, Rp K F v d) : LE K (tC v) (dC d) := fun f g σ H ρ Q R hK hR hd k =>
  k v H g ρ _ hR Gro.refl (by rw [← hK] at h; exact h _) hd
theorem le_int {K : PySem.W.Frag} {i : Int} : LE K (tC (.int i)) (dC (.int i)) := le_c fun _ => .int i
theorem le_bl {K : PySem.W.Frag} {i : Bool} : LE K (tC (.bl i)) (dC (.bool i)) := le_c fun _ => .bl i
theorem le_str {K : PySem.W.Frag} {i : Str} : LE K (tC (.str i)) (dC (.str i)) := le_c fun _ => .str i
theorem le_non {K : PySem.W.Frag} : LE K (tC .non) (dC .none) := le_c fun _ => .non

/-- what an operation on read values asks and gives -/
abbrev F2 := D → D → (Rv → Prop) → Prop
def OpL (K : PySem.W.Frag) (r : R2) (F : F2) : Prop := ∀ (f : Fr) (g : Gs) (σ : L2.St) (H : Hp) (ρ : Rho) (v u : V) (x y : D) (Q : Rv → Prop) (R : V → Hp → Prop), f.K = K → Rel f g σ H ρ → RN K (Fz H g.M) H v x → RN K (Fz H g.M) H u y → F x y Q →
  (∀ (z : V) (H' : Hp) (g' : Gs) (r : Rv), Rel f g' σ H' ρ → Gro g H g' H' → VR f g' σ H' ρ z r → Q r → R z H') → r v u H R
def dOp (F : F2) (da db : DE) : DE := fun ρ Q => da ρ fun r1 ρ1 => db ρ1 fun r2 ρ2 => wD (res ρ2 r1) fun x => wD (res ρ2 r2) fun y => F x y fun r => Q r ρ2
theorem le_op {K : PySem.W.Frag} {ta tb : TE} {da db : DE} {r : R2} {F : F2} (ha : LE K ta da) (hb : LE K tb db) (ho : OpL K r F) : LE K (tOp r ta tb) (dOp F da db) := by
  intro f g σ H ρ Q R hK hR hd k
  refine ha.opd hK hR hd fun v H1 g1 ρ1 r1 R1 G1 O1 q1 => ?_
  refine hb.opd hK R1 q1 fun u H2 g2 ρ2 r2 R2 G2 O2 q2 => ?_
  obtain ⟨x, e1, q2⟩ := wD_some q2
  obtain ⟨y, e2, q2⟩ := wD_some q2
  subst hK
  exact ho f g2 σ H2 ρ2 v u x y _ R rfl R2 ((O1.mono G2).rn R2 e1) (O2.rn R2 e2) q2 fun z H3 g3 r R3 G3 V3 q3 => k z H3 g3 ρ2 r R3 ((G1.trans G2).trans G3) V3 q3
/-- an operation that gives a value and leaves the heap -/
def OpP (K : PySem.W.Frag) (r : R2) (F : F2) : Prop := ∀ (F0 H : Hp) (v u : V) (x y : D) (Q : Rv → Prop) (R : V → Hp → Prop), Same F0 H → RN K F0 H v x → RN K F0 H u y → F x y Q → (∀ z d, Rp K F0 z d → Q (.fz d) → R z H) → r v u H R
theorem OpP.l {K : PySem.W.Frag} {r : R2} {F : F2} (h : OpP K r F) : OpL K r F := fun f g σ H ρ v u x y Q R hK hR h1 h2 hF k =>
  h _ H v u x y Q R fz_sub h1 h2 hF fun z d hz q => k z H g (.fz d) hR Gro.refl (by subst hK; exact hz) q
theorem OpL.or1 {K : PySem.W.Frag} {r r' : R2} {F F' : F2} (h : OpL K r F) (h' : OpL K r' F') : OpL K (fun x y H Q => r x y H Q ∨ r' x y H Q) (fun x y Q => F x y Q ∨ F' x y Q) :=
  fun f g σ H ρ v u x y Q R hK hR h1 h2 hF k => hF.elim (fun z => .inl (h f g σ H ρ v u x y Q R hK hR h1 h2 z k)) fun z => .inr (h' f g σ H ρ v u x y Q R hK hR h1 h2 z k)
/-- .. by cases of what is read -/
theorem OpL.or {K : PySem.W.Frag} {r r' : R2} {F : F2} (h : ∀ f g σ H ρ v u x y Q R, f.K = K → Rel f g σ H ρ → RN K (Fz H g.M) H v x → RN K (Fz H g.M) H u y → F x y Q →
  (∀ (z : V) (H' : Hp) (g' : Gs) (r : Rv), Rel f g' σ H' ρ → Gro g H g' H' → VR f g' σ H' ρ z r → Q r → R z H') → r v u H R ∨ r' v u H R) : OpL K (fun x y H Q => r x y H Q ∨ r' x y H Q) F := h

/-! ### tests -/
abbrev DT := Rho → (Bool → Rho → Prop) → Prop
def LT (K : PySem.W.Frag) (t : TT) (d : DT) : Prop := ∀ (f : Fr) (g : Gs) (σ : L2.St) (H : Hp) (ρ : Rho) (Q : Bool → Rho → Prop) (R : Bool → Hp → Prop), f.K = K → Rel f g σ H ρ → d ρ Q →
  (∀ (b : Bool) (H' : Hp) (g' : Gs) (ρ' : Rho), Rel f g' σ H' ρ' → Gro g H g' H' → Q b ρ' → R b H') → t σ H R
def wB (o : Option D) (k : Bool → Prop) : Prop := match o with
  | some (.bool b) => k b
  | _ => False
theorem wB_some {o : Option D} {k : Bool → Prop} (h : wB o k) : ∃ b, o = some (.bool b) ∧ k b := by
  unfold wB at h
  split at h
  · exact ⟨_, rfl, h⟩
  · exact h.elim
def dTest (d : DE) : DT := fun ρ Q => d ρ fun r ρ1 => wB (res ρ1 r) fun b => Q b ρ1
section
variable {K : PySem.W.Frag} {ta tb : TE} {da db : DE} {t u : TT} {d e : DT}
theorem lt_B (h : LE K ta da) : LT K (tB ta) (dTest da) := by
  intro f g σ H ρ Q R hK hR hd k
  refine h.opd hK hR hd fun v H1 g1 ρ1 r1 R1 G1 O1 q1 => ?_
  obtain ⟨b, e1, q1⟩ := wB_some q1
  exact ⟨b, (O1.rn R1 e1).bool, k b H1 g1 ρ1 R1 G1 q1⟩
theorem lt_test (h : LE K ta da) : LT K (tTest ta) (dTest da) := lt_B h
/-- two ways, kept shut -/
@[irreducible] def useB (b : Bool) (A B : Prop) : Prop := if b = true then A else B
theorem useB_t {A B : Prop} (h : useB true A B) : A := by unfold useB at h; exact h
theorem useB_f {A B : Prop} (h : useB false A B) : B := by unfold useB at h; exact h
theorem useB_y {b : Bool} {A B : Prop} (h : b = true) (a : A) : useB b A B := by unfold useB; rw [if_pos h]; exact a
theorem useB_n {b : Bool} {A B : Prop} (h : b = false) (a : B) : useB b A B := by unfold useB; rw [h, if_neg Bool.false_ne_true]; exact a
theorem useB_b {b : Bool} {A B : Prop} (h1 : b = true → A) (h2 : b = false → B) : useB b A B := by
  cases b with
  | true => exact useB_y rfl (h1 rfl)
  | false => exact useB_n rfl (h2 rfl)
def dAnd (d e : DT) : DT := fun ρ Q => d ρ fun b ρ1 => useB b (e ρ1 Q) (Q false ρ1)
def dOr (d e : DT) : DT := fun ρ Q => d ρ fun b ρ1 => useB b (Q true ρ1) (e ρ1 Q)
def dNot (d : DT) : DT := fun ρ Q => d ρ fun b ρ1 => Q (!b) ρ1
theorem lt_and (h : LT K t d) (h' : LT K u e) : LT K (tAnd t u) (dAnd d e) := by
  intro f g σ H ρ Q R hK hR hd k
  refine h f g σ H ρ _ _ hK hR hd fun b H1 g1 ρ1 R1 G1 q1 => ?_
  cases b with
  | true => replace q1 := useB_t q1; exact h' f g1 σ H1 ρ1 Q R hK R1 q1 fun c H2 g2 ρ2 R2 G2 q2 => k c H2 g2 ρ2 R2 (G1.trans G2) q2
  | false => replace q1 := useB_f q1; exact k false H1 g1 ρ1 R1 G1 q1
theorem lt_or (h : LT K t d) (h' : LT K u e) : LT K (tOr t u) (dOr d e) := by
  intro f g σ H ρ Q R hK hR hd k
  refine h f g σ H ρ _ _ hK hR hd fun b H1 g1 ρ1 R1 G1 q1 => ?_
  cases b with
  | false => replace q1 := useB_f q1; exact h' f g1 σ H1 ρ1 Q R hK R1 q1 fun c H2 g2 ρ2 R2 G2 q2 => k c H2 g2 ρ2 R2 (G1.trans G2) q2
  | true => replace q1 := useB_t q1; exact k true H1 g1 ρ1 R1 G1 q1
theorem lt_not (h : LT K t d) : LT K (tNot t) (dNot d) := by
  intro f g σ H ρ Q R hK hR hd k
  exact h f g σ H ρ _ _ hK hR hd fun b H1 g1 ρ1 R1 G1 q1 => k (!b) H1 g1 ρ1 R1 G1 q1
/-- .. as values -/
def dAndV (da db : DE) : DE := fun ρ Q => da ρ fun r ρ1 => wB (res ρ1 r) fun b => useB b (db ρ1 Q) (Q (.fz (.bool false)) ρ1)
def dOrV (da db : DE) : DE := fun ρ Q => da ρ fun r ρ1 => wB (res ρ1 r) fun b => useB b (Q (.fz (.bool true)) ρ1) (db ρ1 Q)
def dNotV (da : DE) : DE := fun ρ Q => da ρ fun r ρ1 => wB (res ρ1 r) fun b => Q (.fz (.bool (!b))) ρ1
theorem le_andV (h : LE K ta da) (h' : LE K tb db) : LE K (tAndV ta tb) (dAndV da db) := by
  intro f g σ H ρ Q R hK hR hd k
  refine h.opd hK hR hd fun v H1 g1 ρ1 r1 R1 G1 O1 q1 => ?_
  obtain ⟨b, e1, q1⟩ := wB_some q1
  refine ⟨b, (O1.rn R1 e1).bool, ?_⟩
  cases b with
  | true => replace q1 := useB_t q1; exact h' f g1 σ H1 ρ1 Q R hK R1 q1 fun v H2 g2 ρ2 r2 R2 G2 V2 q2 => k v H2 g2 ρ2 r2 R2 (G1.trans G2) V2 q2
  | false => replace q1 := useB_f q1; exact k _ H1 g1 ρ1 (.fz (.bool false)) R1 G1 (Rp.bl false) q1
theorem le_orV (h : LE K ta da) (h' : LE K tb db) : LE K (tOrV ta tb) (dOrV da db) := by
  intro f g σ H ρ Q R hK hR hd k
  refine h.opd hK hR hd fun v H1 g1 ρ1 r1 R1 G1 O1 q1 => ?_
  obtain ⟨b, e1, q1⟩ := wB_some q1
  refine ⟨b, (O1.rn R1 e1).bool, ?_⟩
  cases b with
  | false => replace q1 := useB_f q1; exact h' f g1 σ H1 ρ1 Q R hK R1 q1 fun v H2 g2 ρ2 r2 R2 G2 V2 q2 => k v H2 g2 ρ2 r2 R2 (G1.trans G2) V2 q2
  | true => replace q1 := useB_t q1; exact k _ H1 g1 ρ1 (.fz (.bool true)) R1 G1 (Rp.bl true) q1
theorem le_notV (h : LE K ta da) : LE K (tNotV ta) (dNotV da) := by
  intro f g σ H ρ Q R hK hR hd k
  refine h.opd hK hR hd fun v H1 g1 ρ1 r1 R1 G1 O1 q1 => ?_
  obtain ⟨b, e1, q1⟩ := wB_some q1
  exact ⟨b, (O1.rn R1 e1).bool, k _ H1 g1 ρ1 (.fz (.bool (!b))) R1 G1 (Rp.bl _) q1⟩
def dIf (d : DT) (da db : DE) : DE := fun ρ Q => d ρ fun b ρ1 => useB b (da ρ1 Q) (db ρ1 Q)
theorem le_if (h : LT K t d) (h1 : LE K ta da) (h2 : LE K tb db) : LE K (tIf t ta tb) (dIf d da db) := by
  intro f g σ H ρ Q R hK hR hd k
  refine h f g σ H ρ _ _ hK hR hd fun b H1 g1 ρ1 R1 G1 q1 => ?_
  cases b with
  | true => replace q1 := useB_t q1; exact h1 f g1 σ H1 ρ1 Q R hK R1 q1 fun v H2 g2 ρ2 r2 R2 G2 V2 q2 => k v H2 g2 ρ2 r2 R2 (G1.trans G2) V2 q2
  | false => replace q1 := useB_f q1; exact h2 f g1 σ H1 ρ1 Q R hK R1 q1 fun v H2 g2 ρ2 r2 R2 G2 V2 q2 => k v H2 g2 ρ2 r2 R2 (G1.trans G2) V2 q2
/-- is None -/
def isNone : D → Bool
  | .none => true
  | _ => false
def dIsN (neg : Bool) (da : DE) : DE := fun ρ Q => da ρ fun r ρ1 => wD (res ρ1 r) fun x => Q (.fz (.bool (neg != isNone x))) ρ1
theorem rn_isN {F H : Hp} {v : V} {x : D} (h : RN K F H v x) : decide (v = .non) = isNone x := by
  rcases h with h | ⟨a, rfl, h⟩
  · cases h <;> rfl
  · cases h <;> rfl
theorem le_isN (h : LE K ta da) : LE K (tIsN ta) (dIsN false da) := by
  intro f g σ H ρ Q R hK hR hd k
  refine h.opd hK hR hd fun v H1 g1 ρ1 r1 R1 G1 O1 q1 => ?_
  obtain ⟨x, e1, q1⟩ := wD_some q1
  exact k _ H1 g1 ρ1 (.fz (.bool (isNone x))) R1 G1 (by rw [rn_isN (O1.rn R1 e1)]; exact Rp.bl _) (by simpa using q1)
theorem le_notN (h : LE K ta da) : LE K (tNotN ta) (dIsN true da) := by
  intro f g σ H ρ Q R hK hR hd k
  refine h.opd hK hR hd fun v H1 g1 ρ1 r1 R1 G1 O1 q1 => ?_
  obtain ⟨x, e1, q1⟩ := wD_some q1
  exact k _ H1 g1 ρ1 (.fz (.bool (!isNone x))) R1 G1 (by rw [rn_isN (O1.rn R1 e1)]; exact Rp.bl _) (by simpa using q1)
end

/-! ### argument lists -/
abbrev DA := Rho → (List Rv → Rho → Prop) → Prop
inductive OpdA (f : Fr) (g : Gs) (σ : L2.St) (H : Hp) : List V → List Rv → Prop
  | nil : OpdA f g σ H [] []
  | cons {v : V} {r : Rv} {vs : List V} {rs : List Rv} : Opd f g σ H v r → OpdA f g σ H vs rs → OpdA f g σ H (v :: vs) (r :: rs)
theorem OpdA.mono {f : Fr} {g g' : Gs} {σ : L2.St} {H H' : Hp} (G : Gro g H g' H') {vs : List V} {rs : List Rv} (h : OpdA f g σ H vs rs) : OpdA f g' σ H' vs rs := by
  induction h with
  | nil => exact .nil
  | cons h _ ih => exact .cons (h.mono G) ih
def LA (K : PySem.W.Frag) (t : TA) (d : DA) : Prop := ∀ (f : Fr) (g : Gs) (σ : L2.St) (H : Hp) (ρ : Rho) (Q : List Rv → Rho → Prop) (R : List V → Hp → Prop), f.K = K → Rel f g σ H ρ → d ρ Q →
  (∀ (vs : List V) (H' : Hp) (g' : Gs) (ρ' : Rho) (rs : List Rv), Rel f g' σ H' ρ' → Gro g H g' H' → OpdA f g' σ H' vs rs → Q rs ρ' → R vs H') → t σ H R
def dNil : DA := fun ρ Q => Q [] ρ
def dCons (da : DE) (dr : DA) : DA := fun ρ Q => da ρ fun r ρ1 => dr ρ1 fun rs ρ2 => Q (r :: rs) ρ2
section
variable {K : PySem.W.Frag} {ta : TE} {da : DE} {tr : TA} {dr : DA}
theorem la_nil : LA K tNil dNil := fun f g σ H ρ Q R hK hR hd k => k [] H g ρ [] hR Gro.refl .nil hd
theorem la_cons (h : LE K ta da) (h' : LA K tr dr) : LA K (tCons ta tr) (dCons da dr) := by
  intro f g σ H ρ Q R hK hR hd k
  refine h.opd hK hR hd fun v H1 g1 ρ1 r1 R1 G1 O1 q1 => ?_
  exact h' f g1 σ H1 ρ1 _ _ hK R1 q1 fun vs H2 g2 ρ2 rs R2 G2 O2 q2 => k _ H2 g2 ρ2 _ R2 (G1.trans G2) (.cons (O1.mono G2) O2) q2
/-- all frozen for good -/
def frzA (ρ : Rho) : List Rv → Option (List D × Rho)
  | [] => some ([], ρ)
  | r :: rs => match frz ρ r with
    | some (d, ρ1) => match frzA ρ1 rs with
      | some (ds, ρ2) => some (d :: ds, ρ2)
      | none => none
    | none => none
theorem OpdA.frz {f : Fr} {σ : L2.St} {H : Hp} : ∀ {rs : List Rv} {vs : List V} {g : Gs} {ρ ρ' : Rho} {ds : List D}, Rel f g σ H ρ → OpdA f g σ H vs rs → frzA ρ rs = some (ds, ρ') → ∃ g', Rel f g' σ H ρ' ∧ Gro g H g' H ∧ RpA f.K (Fz H g'.M) vs ds := by
  intro rs
  induction rs with
  | nil =>
    intro vs g ρ ρ' ds R h e
    cases h
    unfold frzA at e
    cases e
    exact ⟨g, R, Gro.refl, .nil⟩
  | cons r rs ih =>
    intro vs g ρ ρ' ds R h e
    cases h with
    | cons h hr =>
      unfold frzA at e
      split at e
      · rename_i d ρ1 e1
        split at e
        · rename_i ds ρ2 e2
          cases e
          obtain ⟨g1, R1, G1, q1⟩ := h.frz R e1
          obtain ⟨g2, R2, G2, q2⟩ := ih R1 (hr.mono G1) e2
          exact ⟨g2, R2, G1.trans G2, .cons (q1.mono G2.fz) q2⟩
        · cases e
      · cases e
def wFA (o : Option (List D × Rho)) (k : List D → Rho → Prop) : Prop := match o with
  | some x => k x.1 x.2
  | none => False
theorem wFA_some {o : Option (List D × Rho)} {k : List D → Rho → Prop} (h : wFA o k) : ∃ x ρ, o = some (x, ρ) ∧ k x ρ := by
  cases o with
  | some x => exact ⟨x.1, x.2, rfl, h⟩
  | none => exact h.elim
def dTup (da : DA) : DE := fun ρ Q => da ρ fun rs ρ1 => wFA (frzA ρ1 rs) fun ds ρ2 => ds.length ≤ sizeLine ∧ Q (.fz (.tuple ds)) ρ2
def dLst (da : DA) : DE := fun ρ Q => da ρ fun rs ρ1 => wFA (frzA ρ1 rs) fun ds ρ2 => ds.length ≤ sizeLine ∧ Q (.nw (.list ds)) ρ2
theorem le_tup (h : LA K tr dr) : LE K (tTup tr) (dTup dr) := by
  intro f g σ H ρ Q R hK hR hd k
  refine h f g σ H ρ _ _ hK hR hd fun vs H1 g1 ρ1 rs R1 G1 O1 q1 => ?_
  obtain ⟨ds, ρ2, e1, hl, q1⟩ := wFA_some q1
  obtain ⟨g2, R2, G2, q2⟩ := O1.frz R1 e1
  refine ⟨by rw [q2.length]; exact hl, fun p hp => ?_⟩
  obtain ⟨R3, G3, e3⟩ := R2.new (o := .tup vs) hp
  exact k _ _ g2 ρ2 (.fz (.tuple ds)) R3 ((G1.trans G2).trans G3) (Rp.tup e3 (q2.mono G3.fz)) q1
theorem le_lst (h : LA K tr dr) : LE K (tLst tr) (dLst dr) := by
  intro f g σ H ρ Q R hK hR hd k
  refine h f g σ H ρ _ _ hK hR hd fun vs H1 g1 ρ1 rs R1 G1 O1 q1 => ?_
  obtain ⟨ds, ρ2, e1, hl, q1⟩ := wFA_some q1
  obtain ⟨g2, R2, G2, q2⟩ := O1.frz R1 e1
  refine ⟨by rw [q2.length]; exact hl, fun p hp => ?_⟩
  obtain ⟨R3, G3, V3⟩ := R2.own (o := .lst vs) (d := .list ds) hp (.lst upd_same q2)
  exact k _ _ _ ρ2 _ R3 ((G1.trans G2).trans G3) V3 q1
end

/-! ### calls on values -/
abbrev FA := List D → (Rv → Prop) → Prop
inductive RNA (K : PySem.W.Frag) (F H : Hp) : List V → List D → Prop
  | nil : RNA K F H [] []
  | cons {v : V} {d : D} {vs : List V} {ds : List D} : RN K F H v d → RNA K F H vs ds → RNA K F H (v :: vs) (d :: ds)
def resA (ρ : Rho) : List Rv → Option (List D)
  | [] => some []
  | r :: rs => match res ρ r with
    | some d => match resA ρ rs with
      | some ds => some (d :: ds)
      | none => none
    | none => none
theorem OpdA.rn {f : Fr} {g : Gs} {σ : L2.St} {H : Hp} {ρ : Rho} (R : Rel f g σ H ρ) {vs : List V} {rs : List Rv} (h : OpdA f g σ H vs rs) : ∀ {ds : List D}, resA ρ rs = some ds → RNA f.K (Fz H g.M) H vs ds := by
  induction h with
  | nil => intro ds e; cases e; exact .nil
  | cons h _ ih =>
    intro ds e
    unfold resA at e
    split at e
    · rename_i d e1
      split at e
      · rename_i ds e2
        cases e
        exact .cons (h.rn R e1) (ih e2)
      · cases e
    · cases e
def wA (o : Option (List D)) (k : List D → Prop) : Prop := match o with
  | some x => k x
  | none => False
theorem wA_some {o : Option (List D)} {k : List D → Prop} (h : wA o k) : ∃ x, o = some x ∧ k x := by
  cases o with
  | some x => exact ⟨x, rfl, h⟩
  | none => exact h.elim
def CaL (K : PySem.W.Frag) (r : List V → Hp → VK → Prop) (F : FA) : Prop := ∀ (f : Fr) (g : Gs) (σ : L2.St) (H : Hp) (ρ : Rho) (vs : List V) (ds : List D) (Q : Rv → Prop) (R : V → Hp → Prop), f.K = K → Rel f g σ H ρ → RNA K (Fz H g.M) H vs ds → F ds Q →
  (∀ (z : V) (H' : Hp) (g' : Gs) (r : Rv), Rel f g' σ H' ρ → Gro g H g' H' → VR f g' σ H' ρ z r → Q r → R z H') → r vs H R
def dCB (F : FA) (da : DA) : DE := fun ρ Q => da ρ fun rs ρ1 => wA (resA ρ1 rs) fun ds => F ds fun r => Q r ρ1
theorem le_cb {K : PySem.W.Frag} {r : List V → Hp → VK → Prop} {F : FA} {tr : TA} {dr : DA} (h : LA K tr dr) (hc : CaL K r F) : LE K (tCB r tr) (dCB F dr) := by
  intro f g σ H ρ Q R hK hR hd k
  refine h f g σ H ρ _ _ hK hR hd fun vs H1 g1 ρ1 rs R1 G1 O1 q1 => ?_
  obtain ⟨ds, e1, q1⟩ := wA_some q1
  subst hK
  exact hc f g1 σ H1 ρ1 vs ds _ R rfl R1 (O1.rn R1 e1) q1 fun z H2 g2 r R2 G2 V2 q2 => k z H2 g2 ρ1 r R2 (G1.trans G2) V2 q2
end DL

set_option Elab.async false
set_option linter.all false
set_option maxRecDepth 100000
set_option maxHeartbeats 4000000
namespace DL
open PySem L2

/-! ### slots stored -/
section
variable {f : Fr} {g g' : Gs} {σ : L2.St} {H H' : Hp} {ρ ρ' : Rho} {v u : V} {d x y : D} {p : Addr} {o : HO} {r : Rv} {i : Nat} {s : Sl}
theorem Rel.set (R : Rel f g σ H ρ) (h : SlR f g H v s) (hu : ∀ d, s = .ow d → ∀ a, v = .ref a → a ∉ g.T ∧ ∀ (j : Nat) (e : D), j ≠ i → ρ[j]? = some (some (.ow e)) → σ[j]? ≠ some (some (.ref a))) (hmu : ∀ m, some s ≠ some (Sl.mu m) := by intro _ z; cases z) :
    Rel f g (σ.set i (some v)) H (ρ.set i (some s)) := by
  refine ⟨R.keep, R.dom, R.m0, R.m00, R.mU, R.src, by rw [List.length_set, List.length_set]; exact R.len, fun j t e => ?_, fun j k l d e h1 h2 h3 h4 => ?_, fun b hb => ⟨(R.tmp b hb).1, (R.tmp b hb).2.1, fun j e h1 h2 => ?_⟩, R.fpM, R.fpn, mq_set R.mq hmu⟩
  · rcases getset e with ⟨rfl, q⟩ | ⟨ne, q⟩
    · cases q
      have hi : i < σ.length := by
        have := (List.getElem?_eq_some_iff.mp e).1
        rw [List.length_set] at this
        rw [← R.len]; exact this
      exact ⟨v, List.getElem?_set_self hi, h⟩
    · obtain ⟨w, e1, q1⟩ := R.slot j t q
      exact ⟨w, by rw [List.getElem?_set_ne ne]; exact e1, q1⟩
  · rcases getset h1 with ⟨rfl, q⟩ | ⟨ne1, q⟩
    · rcases getset h2 with ⟨rfl, q2⟩ | ⟨ne2, q2⟩
      · rfl
      · rcases getset h3 with ⟨_, z⟩ | ⟨z, _⟩
        · cases z
          rw [List.getElem?_set_ne ne2] at h4
          cases q
          exact absurd h4 ((hu _ rfl l rfl).2 k e (Ne.symm ne2) q2)
        · exact absurd rfl z
    · rcases getset h2 with ⟨rfl, q2⟩ | ⟨ne2, q2⟩
      · rcases getset h4 with ⟨_, z⟩ | ⟨z, _⟩
        · cases z
          rw [List.getElem?_set_ne ne1] at h3
          cases q2
          exact absurd h3 ((hu _ rfl l rfl).2 j d (Ne.symm ne1) q)
        · exact absurd rfl z
      · rw [List.getElem?_set_ne ne1] at h3
        rw [List.getElem?_set_ne ne2] at h4
        exact R.uq j k l d e q q2 h3 h4
  · rcases getset h1 with ⟨rfl, q⟩ | ⟨ne, q⟩
    · rcases getset h2 with ⟨_, z⟩ | ⟨z, _⟩
      · cases z; cases q
        exact (hu _ rfl b rfl).1 hb
      · exact z rfl
    · rw [List.getElem?_set_ne ne] at h2
      exact (R.tmp b hb).2.2 j e q h2
def asgV (ρ : Rho) (i j : Nat) : Option (Option Sl) → Option Rho
  | some (some (.sh d)) => some (ρ.set i (some (.sh d)))
  | some (some (.bo d)) => some (ρ.set i (some (.bo d)))
  | some (some (.ow d)) => some ((ρ.set j (some (.sh d))).set i (some (.sh d)))
  | _ => none
def asg (ρ : Rho) (i : Nat) : Rv → Option Rho
  | .fz d => some (ρ.set i (some (.sh d)))
  | .nw d => some (ρ.set i (some (.ow d)))
  | .vr j => asgV ρ i j ρ[j]?
  | .src => some (ρ.set i (some .src))
  | .scr => some (ρ.set i (some .scr))
  | .mr _ => none
  | .mi _ _ => none
def wR (o : Option Rho) (k : Rho → Prop) : Prop := match o with
  | some x => k x
  | none => False
theorem wR_some {o : Option Rho} {k : Rho → Prop} (h : wR o k) : ∃ x, o = some x ∧ k x := by
  cases o with
  | some x => exact ⟨x, rfl, h⟩
  | none => exact h.elim
theorem VR.asg (R : Rel f g σ H ρ) (h : VR f g σ H ρ v r) (e : asg ρ i r = some ρ') : ∃ g', Rel f g' (σ.set i (some v)) H ρ' ∧ Gro g H g' H := by
  cases r with
  | fz d => cases e; exact ⟨g, R.set (s := .sh d) h (fun d z => nomatch z), Gro.refl⟩
  | nw d =>
    cases e
    obtain ⟨a, rfl, m, h0, ns, r, t, u⟩ := h
    exact ⟨g, R.set (s := .ow d) ⟨a, rfl, m, h0, ns, r⟩ (fun d' z b hb => by cases hb; exact ⟨t, fun j e _ h1 => u j e h1⟩), Gro.refl⟩
  | src => cases e; exact ⟨g, R.set (s := .src) h (fun d z => nomatch z), Gro.refl⟩
  | scr => cases e; exact ⟨g, R.set (s := .scr) h (fun d z => nomatch z), Gro.refl⟩
  | mr _ => cases e
  | mi _ _ => cases e
  | vr j =>
    have e : asgV ρ i j ρ[j]? = some ρ' := e
    obtain ⟨s, e0, _, e1⟩ := h
    rw [e0] at e
    unfold asgV at e
    split at e
    · rename_i d e2
      cases e; cases e2
      obtain ⟨w, e3, q⟩ := R.slot j _ e0
      rw [e1] at e3; cases e3
      exact ⟨g, R.set (s := .sh d) q (fun d z => nomatch z), Gro.refl⟩
    · rename_i d e2
      cases e; cases e2
      obtain ⟨w, e3, q⟩ := R.slot j _ e0
      rw [e1] at e3; cases e3
      exact ⟨g, R.set (s := .bo d) q (fun d z => nomatch z), Gro.refl⟩
    · rename_i d e2
      cases e; cases e2
      obtain ⟨w, e3, a, e4, _⟩ := R.slot j _ e0
      rw [e1] at e3; cases e3; cases e4
      obtain ⟨R1, G1, q1⟩ := R.frzSlot e0 e1
      exact ⟨_, R1.set (s := .sh d) q1 (fun d z => nomatch z), G1⟩
    · cases e
end

/-! ### statements -/
structure DEnds where
  nx : Rho → Prop
  rt : Rv → Rho → Prop
  bk : Rho → Prop := fun _ => False
  ct : Rho → Prop := fun _ => False
abbrev DS := DEnds → Rho → Prop
structure LkE (f : Fr) (g : Gs) (H : Hp) (DD : DEnds) (E : Ends) : Prop where
  nx : ∀ (g' : Gs) (σ' : L2.St) (H' : Hp) (ρ' : Rho), Rel f g' σ' H' ρ' → Gro g H g' H' → DD.nx ρ' → E.nx σ' H'
  rt : ∀ (g' : Gs) (σ' : L2.St) (H' : Hp) (ρ' : Rho) (v : V) (r : Rv), Rel f g' σ' H' ρ' → Gro g H g' H' → VR f g' σ' H' ρ' v r → DD.rt r ρ' → E.rt v H'
  bk : ∀ (g' : Gs) (σ' : L2.St) (H' : Hp) (ρ' : Rho), Rel f g' σ' H' ρ' → Gro g H g' H' → DD.bk ρ' → E.bk σ' H'
  ct : ∀ (g' : Gs) (σ' : L2.St) (H' : Hp) (ρ' : Rho), Rel f g' σ' H' ρ' → Gro g H g' H' → DD.ct ρ' → E.ct σ' H'
theorem LkE.mono {f : Fr} {g g1 : Gs} {H H1 : Hp} {DD : DEnds} {E : Ends} (G : Gro g H g1 H1) (l : LkE f g H DD E) : LkE f g1 H1 DD E :=
  ⟨fun g' σ' H' ρ' R G' => l.nx g' σ' H' ρ' R (G.trans G'), fun g' σ' H' ρ' v r R G' => l.rt g' σ' H' ρ' v r R (G.trans G'), fun g' σ' H' ρ' R G' => l.bk g' σ' H' ρ' R (G.trans G'), fun g' σ' H' ρ' R G' => l.ct g' σ' H' ρ' R (G.trans G')⟩
def LS (K : PySem.W.Frag) (t : TS) (d : DS) : Prop := ∀ (f : Fr) (g : Gs) (σ : L2.St) (H : Hp) (ρ : Rho) (DD : DEnds) (E : Ends), f.K = K → Rel f g σ H ρ → d DD ρ → LkE f g H DD E → t E σ H
abbrev DG := Rv → Rho → (Rho → Prop) → Prop
def LG (K : PySem.W.Frag) (t : TG) (d : DG) : Prop := ∀ (f : Fr) (g : Gs) (σ : L2.St) (H : Hp) (ρ : Rho) (v : V) (r : Rv) (Q : Rho → Prop) (R : L2.St → Hp → Prop), f.K = K → Rel f g σ H ρ → VR f g σ H ρ v r → d r ρ Q →
  (∀ (g' : Gs) (σ' : L2.St) (H' : Hp) (ρ' : Rho), Rel f g' σ' H' ρ' → Gro g H g' H' → Q ρ' → R σ' H') → t v σ H R
section
variable {K : PySem.W.Frag} {ta tb te : TE} {da db de : DE} {t u : TS} {d e : DS} {tt : TT} {dt : DT} {tg : TG} {dg : DG} {i j : Nat}
def dNext : DS := fun DD ρ => DD.nx ρ
def dSeq (d e : DS) : DS := fun DD ρ => d { DD with nx := e DD } ρ
def dBreak : DS := fun DD ρ => DD.bk ρ
def dCont : DS := fun DD ρ => DD.ct ρ
theorem ls_next : LS K tNext dNext := fun f g σ H ρ DD E hK R hd l => l.nx g σ H ρ R Gro.refl hd
theorem ls_break : LS K tBreak dBreak := fun f g σ H ρ DD E hK R hd l => l.bk g σ H ρ R Gro.refl hd
theorem ls_cont : LS K tCont dCont := fun f g σ H ρ DD E hK R hd l => l.ct g σ H ρ R Gro.refl hd
theorem ls_seq (h : LS K t d) (h' : LS K u e) : LS K (tSeq t u) (dSeq d e) := fun f g σ H ρ DD E hK R hd l =>
  h f g σ H ρ _ _ hK R hd ⟨fun g' σ' H' ρ' R' G' q => h' f g' σ' H' ρ' DD E hK R' q (l.mono G'), l.rt, l.bk, l.ct⟩
def dIfS (c : DT) (d e : DS) : DS := fun DD ρ => c ρ fun b ρ1 => useB b (d DD ρ1) (e DD ρ1)
theorem ls_if (hc : LT K tt dt) (h : LS K t d) (h' : LS K u e) : LS K (tIfS tt t u) (dIfS dt d e) := by
  intro f g σ H ρ DD E hK R hd l
  refine hc f g σ H ρ _ _ hK R hd fun b H1 g1 ρ1 R1 G1 q1 => ?_
  cases b with
  | true => replace q1 := useB_t q1; exact h f g1 σ H1 ρ1 DD E hK R1 q1 (l.mono G1)
  | false => replace q1 := useB_f q1; exact h' f g1 σ H1 ρ1 DD E hK R1 q1 (l.mono G1)
def dRet (da : DE) : DS := fun DD ρ => da ρ DD.rt
theorem ls_ret (h : LE K ta da) : LS K (tRet ta) (dRet da) := fun f g σ H ρ DD E hK R hd l =>
  h f g σ H ρ _ _ hK R hd fun v H1 g1 ρ1 r R1 G1 V1 q1 => l.rt g1 σ H1 ρ1 v r R1 G1 V1 q1
def dRetN : DS := fun DD ρ => DD.rt (.fz .none) ρ
theorem ls_retN : LS K tRetN dRetN := fun f g σ H ρ DD E hK R hd l => l.rt g σ H ρ .non (.fz .none) R Gro.refl .non hd
def dDrop (da : DE) : DS := fun DD ρ => da ρ fun _ ρ1 => DD.nx ρ1
theorem ls_drop (h : LE K ta da) : LS K (tDrop ta) (dDrop da) := fun f g σ H ρ DD E hK R hd l =>
  h f g σ H ρ _ _ hK R hd fun v H1 g1 ρ1 r R1 G1 V1 q1 => l.nx g1 σ H1 ρ1 R1 G1 q1
def dNever : DS := fun _ _ => False
theorem ls_never : LS K tNever dNever := fun f g σ H ρ DD E hK R hd l => hd
def dAsg (da : DE) (dg : DG) : DS := fun DD ρ => da ρ fun r ρ1 => dg r ρ1 DD.nx
theorem ls_asg (h : LE K ta da) (hg : LG K tg dg) : LS K (tAsg ta tg) (dAsg da dg) := fun f g σ H ρ DD E hK R hd l =>
  h f g σ H ρ _ _ hK R hd fun v H1 g1 ρ1 r R1 G1 V1 q1 => hg f g1 σ H1 ρ1 v r _ _ hK R1 V1 q1 fun g2 σ2 H2 ρ2 R2 G2 q2 => l.nx g2 σ2 H2 ρ2 R2 (G1.trans G2) q2
def dgN (i : Nat) : DG := fun r ρ Q => wR (asg ρ i r) Q
theorem lg_name : LG K (gName i) (dgN i) := by
  intro f g σ H ρ v r Q R hK hR V q k
  obtain ⟨ρ', e, q⟩ := wR_some q
  obtain ⟨g', R', G'⟩ := V.asg hR e
  exact k g' _ H ρ' R' G' q
/-- a tuple unpacked -/
abbrev DGs := List D → Rho → (Rho → Prop) → Prop
def LGs (K : PySem.W.Frag) (t : TGs) (d : DGs) : Prop := ∀ (f : Fr) (g : Gs) (σ : L2.St) (H : Hp) (ρ : Rho) (vs : List V) (ds : List D) (Q : Rho → Prop) (R : L2.St → Hp → Prop), f.K = K → Rel f g σ H ρ → RpA K (Fz H g.M) vs ds → d ds ρ Q →
  (∀ (g' : Gs) (σ' : L2.St) (H' : Hp) (ρ' : Rho), Rel f g' σ' H' ρ' → Gro g H g' H' → Q ρ' → R σ' H') → t vs σ H R
def dgNil : DGs := fun ds ρ Q => ds = [] ∧ Q ρ
def dgCons (dg : DG) (dgs : DGs) : DGs := fun ds ρ Q => match ds with
  | d :: r => dg (.fz d) ρ fun ρ1 => dgs r ρ1 Q
  | [] => False
theorem lgs_nil : LGs K gNil dgNil := by
  intro f g σ H ρ vs ds Q R hK hR h q k
  obtain ⟨rfl, q⟩ := q
  cases h
  exact ⟨rfl, k g σ H ρ hR Gro.refl q⟩
theorem lgs_cons {ts : TGs} {dgs : DGs} (h : LG K tg dg) (h' : LGs K ts dgs) : LGs K (gCons tg ts) (dgCons dg dgs) := by
  intro f g σ H ρ vs ds Q R hK hR hr q k
  cases hr with
  | nil => exact q.elim
  | cons hv hr =>
    refine ⟨_, _, rfl, ?_⟩
    refine h f g σ H ρ _ (.fz _) _ _ hK hR (by subst hK; exact hv) q fun g1 σ1 H1 ρ1 R1 G1 q1 => ?_
    exact h' f g1 σ1 H1 ρ1 _ _ Q R hK R1 (hr.mono G1.fz) q1 fun g2 σ2 H2 ρ2 R2 G2 q2 => k g2 σ2 H2 ρ2 R2 (G1.trans G2) q2
def wT (o : Option D) (k : List D → Prop) : Prop := match o with
  | some (.tuple ds) => k ds
  | _ => False
theorem wT_some {o : Option D} {k : List D → Prop} (h : wT o k) : ∃ b, o = some (.tuple b) ∧ k b := by
  unfold wT at h
  split at h
  · exact ⟨_, rfl, h⟩
  · exact h.elim
def dgT (n : Nat) (dgs : DGs) : DG := fun r ρ Q => wT (res ρ r) fun ds => ds.length = n ∧ dgs ds ρ Q
theorem lg_tup {n : Nat} {ts : TGs} {dgs : DGs} (h : LGs K ts dgs) : LG K (gTup K n ts) (dgT n dgs) := by
  intro f g σ H ρ v r Q R hK hR V q k
  obtain ⟨ds, e, hl, q⟩ := wT_some q
  obtain ⟨g1, R1, G1, O1⟩ := V.opd hR
  subst hK
  obtain ⟨a, xs, rfl, hs, hr, _⟩ := (O1.rn R1 e).tuple fz_sub
  refine ⟨a, xs, rfl, hs, by rw [hr.length]; exact hl, ?_⟩
  exact h f g1 σ H ρ xs ds Q R rfl R1 hr q fun g2 σ2 H2 ρ2 R2 G2 q2 => k g2 σ2 H2 ρ2 R2 (G1.trans G2) q2
/-- a, b = e1, e2 -/
def Gs.push (g : Gs) (a : Addr) : Gs := ⟨g.M, g.src, a :: g.T, g.fp⟩
def plainR : Rv → Prop
  | .fz _ => True
  | .nw _ => True
  | .src => True
  | .scr => True
  | .vr _ => False
  | .mr _ => False
  | .mi _ _ => False
/-- a value kept while another expression runs -/
theorem VR.held {f : Fr} {g : Gs} {σ : L2.St} {H : Hp} {ρ : Rho} {v : V} {r : Rv} (R : Rel f g σ H ρ) (h : VR f g σ H ρ v r) (hpl : plainR r) : ∃ g1, Rel f g1 σ H ρ ∧ (∀ g2 H2 ρ2, Rel f g2 σ H2 ρ2 → Gro g1 H g2 H2 → (∀ i, r = .vr i → ∃ s, ρ2[i]? = some (some s) ∧ isRoot s) →
    ∃ g3, Rel f g3 σ H2 ρ2 ∧ Gro g H g3 H2 ∧ VR f g3 σ H2 ρ2 v r ∧ (∀ w q, VR f g2 σ H2 ρ2 w q → VR f g3 σ H2 ρ2 w q ∧ (∀ d e, q = .nw d → r = .nw e → v ≠ w))) := by
  cases r with
  | fz d => exact ⟨g, R, fun g2 H2 ρ2 R2 G2 _ => ⟨g2, R2, G2, Rp.mono G2.fz h, fun w q hq => ⟨hq, fun d e _ z => nomatch z⟩⟩⟩
  | scr => exact ⟨g, R, fun g2 H2 ρ2 R2 G2 _ => ⟨g2, R2, G2, h, fun w q hq => ⟨hq, fun d e _ z => nomatch z⟩⟩⟩
  | vr i =>
    refine ⟨g, R, fun g2 H2 ρ2 R2 G2 hi => ⟨g2, R2, G2, ?_, fun w q hq => ⟨hq, fun d e _ z => nomatch z⟩⟩⟩
    obtain ⟨s, h1, h2⟩ := hi i rfl
    obtain ⟨_, _, _, e⟩ := h
    exact ⟨s, h1, h2, e⟩
  | src =>
    refine ⟨g, R, fun g2 H2 ρ2 R2 G2 _ => ⟨g2, R2, G2, ?_, fun w q hq => ⟨hq, fun d e _ z => nomatch z⟩⟩⟩
    obtain ⟨p, c, e1, e2⟩ := h
    exact ⟨p, c, G2.src _ e1, e2⟩
  | mr _ => exact hpl.elim
  | mi _ _ => exact hpl.elim
  | nw d =>
    obtain ⟨a, rfl, m, h0, ns, r, t, u⟩ := h
    refine ⟨g.push a, ⟨R.keep, R.dom, R.m0, R.m00, R.mU, R.src, R.len, R.slot, R.uq, fun b hb => ?_, R.fpM, R.fpn, R.mq⟩, fun g2 H2 ρ2 R2 G2 _ => ?_⟩
    · rcases List.mem_cons.mp hb with rfl | hb
      · exact ⟨m, ns, u⟩
      · exact R.tmp b hb
    · have ha : a ∈ g2.T := by rw [G2.tm]; exact List.mem_cons_self
      obtain ⟨m2, ns2, u2⟩ := R2.tmp a ha
      refine ⟨⟨g2.M, g2.src, g.T, g2.fp⟩, ⟨R2.keep, R2.dom, R2.m0, R2.m00, R2.mU, R2.src, R2.len, R2.slot, R2.uq, fun b hb => R2.tmp b (by rw [G2.tm]; exact List.mem_cons_of_mem _ hb), R2.fpM, R2.fpn, R2.mq⟩,
        ⟨G2.fz, G2.src, rfl, fun b hb => G2.th b (List.mem_cons_of_mem _ hb), G2.fp⟩, ⟨a, rfl, m2, h0, ns2, r.mono G2.fz fun o e => (G2.th a List.mem_cons_self).trans e, t, u2⟩, fun w q hq => ?_⟩
      cases q with
      | fz d => exact ⟨hq, fun d e z => nomatch z⟩
      | vr i => exact ⟨hq, fun d e z => nomatch z⟩
      | src => exact ⟨hq, fun d e z => nomatch z⟩
      | scr => exact ⟨hq, fun d e z => nomatch z⟩
      | mr _ => exact ⟨hq, fun d e z => nomatch z⟩
      | mi _ _ => exact ⟨hq, fun d e z => nomatch z⟩
      | nw d' =>
        obtain ⟨b, rfl, m', h0', ns', r', t', u'⟩ := hq
        refine ⟨⟨b, rfl, m', h0', ns', r', fun z => t' (by rw [G2.tm]; exact List.mem_cons_of_mem _ z), u'⟩, fun _ _ _ _ z => ?_⟩
        cases z
        exact t' ha
/-- storing in one slot leaves another value's reading -/
theorem VR.setO {f : Fr} {g : Gs} {σ : L2.St} {H : Hp} {ρ : Rho} {w : V} {q : Rv} {i : Nat} {v : V} {s : Sl} (R : Rel f g σ H ρ) (h : VR f g σ H ρ w q) (hv : ∀ j, q = .vr j → j ≠ i) (hn : ∀ d e, q = .nw d → s = .ow e → v ≠ w) (hpl : plainR q) : VR f g (σ.set i (some v)) H (ρ.set i (some s)) w q := by
  cases q with
  | fz d => exact h
  | src => exact h
  | scr => exact h
  | mr _ => exact hpl.elim
  | mi _ _ => exact hpl.elim
  | vr j =>
    obtain ⟨t, h1, h2, h3⟩ := h
    have hj := hv j rfl
    exact ⟨t, by rw [List.getElem?_set_ne (Ne.symm hj)]; exact h1, h2, by rw [List.getElem?_set_ne (Ne.symm hj)]; exact h3⟩
  | nw d =>
    obtain ⟨a, rfl, m, h0, ns, r, t, u⟩ := h
    refine ⟨a, rfl, m, h0, ns, r, t, fun j e h1 h2 => ?_⟩
    rcases getset h1 with ⟨rfl, z⟩ | ⟨ne, z⟩
    · cases z
      rcases getset h2 with ⟨_, z2⟩ | ⟨z2, _⟩
      · cases z2; exact hn _ _ rfl rfl rfl
      · exact z2 rfl
    · rw [List.getElem?_set_ne ne] at h2
      exact u j e z h2
def setR (ρ : Rho) (i : Nat) : Rv → Rho
  | .fz d => ρ.set i (some (.sh d))
  | .nw d => ρ.set i (some (.ow d))
  | .src => ρ.set i (some .src)
  | .scr => ρ.set i (some .scr)
  | .vr _ => ρ
  | .mr _ => ρ
  | .mi _ _ => ρ
/-- both sides plain: what is frozen, new, or the source -/
def plainV (ρ : Rho) : Rv → Option (Rv × Rho)
  | .vr j => match frz ρ (.vr j) with
    | some (d, ρ1) => some (.fz d, ρ1)
    | none => none
  | .mr _ => none
  | .mi _ _ => none
  | r => some (r, ρ)
def wP (o : Option (Rv × Rho)) (k : Rv → Rho → Prop) : Prop := match o with
  | some x => k x.1 x.2
  | none => False
theorem wP_some {o : Option (Rv × Rho)} {k : Rv → Rho → Prop} (h : wP o k) : ∃ x ρ, o = some (x, ρ) ∧ k x ρ := by
  cases o with
  | some x => exact ⟨x.1, x.2, rfl, h⟩
  | none => exact h.elim
theorem VR.plain {f : Fr} {g : Gs} {σ : L2.St} {H : Hp} {ρ ρ1 : Rho} {v : V} {r q : Rv} (R : Rel f g σ H ρ) (h : VR f g σ H ρ v r) (e : plainV ρ r = some (q, ρ1)) : ∃ g1, Rel f g1 σ H ρ1 ∧ Gro g H g1 H ∧ VR f g1 σ H ρ1 v q ∧ plainR q := by
  unfold plainV at e
  split at e
  · rename_i j
    split at e
    · rename_i d ρ2 e2
      cases e
      obtain ⟨s, h1, h2, h3⟩ := h
      obtain ⟨g1, R1, G1, q1⟩ := Opd.frz (r := .vr j) R h3 e2
      exact ⟨g1, R1, G1, q1, trivial⟩
    · cases e
  · cases e
  · cases e
  · rename_i hr hr1 hr2
    cases e
    refine ⟨g, R, Gro.refl, h, ?_⟩
    cases r with
    | vr i => exact (hr i rfl).elim
    | mr i => exact (hr1 i rfl).elim
    | mi i k => exact (hr2 i k rfl).elim
    | fz d => exact True.intro
    | nw d => exact True.intro
    | src => exact True.intro
    | scr => exact True.intro
theorem VR.put {f : Fr} {g : Gs} {σ : L2.St} {H : Hp} {ρ : Rho} {v : V} {r : Rv} (R : Rel f g σ H ρ) (h : VR f g σ H ρ v r) (hp : plainR r) (i : Nat) : Rel f g (σ.set i (some v)) H (setR ρ i r) := by
  cases r with
  | fz d => exact R.set (s := .sh d) h (fun d z => nomatch z)
  | nw d =>
    obtain ⟨a, rfl, m, h0, ns, r, t, u⟩ := h
    exact R.set (s := .ow d) ⟨a, rfl, m, h0, ns, r⟩ (fun d' z b hb => by cases hb; exact ⟨t, fun j e _ h1 => u j e h1⟩)
  | src => exact R.set (s := .src) h (fun d z => nomatch z)
  | scr => exact R.set (s := .scr) h (fun d z => nomatch z)
  | vr j => exact hp.elim
  | mr _ => exact hp.elim
  | mi _ _ => exact hp.elim
theorem VR.putO {f : Fr} {g : Gs} {σ : L2.St} {H : Hp} {ρ : Rho} {v w : V} {r q : Rv} (R : Rel f g σ H ρ) (hq : VR f g σ H ρ w q) (hp : plainR r) (hpq : plainR q) (hn : ∀ d e, q = .nw d → r = .nw e → v ≠ w) (i : Nat) : VR f g (σ.set i (some v)) H (setR ρ i r) w q := by
  have hv : ∀ j, q = .vr j → j ≠ i := fun j z => by rw [z] at hpq; exact hpq.elim
  cases r with
  | fz d => exact hq.setO R hv (fun d e _ z => nomatch z) hpq
  | nw d => exact hq.setO R hv (fun d' e z _ => hn d' d z rfl) hpq
  | src => exact hq.setO R hv (fun d e _ z => nomatch z) hpq
  | scr => exact hq.setO R hv (fun d e _ z => nomatch z) hpq
  | vr j => exact hp.elim
  | mr _ => exact hp.elim
  | mi _ _ => exact hp.elim
def dPar (i j : Nat) (da db : DE) : DS := fun DD ρ => da ρ fun r ρ1 => wP (plainV ρ1 r) fun r1 ρ2 => db ρ2 fun q ρ3 => wP (plainV ρ3 q) fun q1 ρ4 => DD.nx (setR (setR ρ4 i r1) j q1)
theorem ls_par (h : LE K ta da) (h' : LE K tb db) : LS K (tPar i j (tCons ta (tCons tb tNil))) (dPar i j da db) := by
  intro f g σ H ρ DD E hK R hd l
  refine h f g σ H ρ _ _ hK R hd fun v H1 g1 ρ1 r R1 G1 V1 q1 => ?_
  obtain ⟨r1, ρ2, e1, q1⟩ := wP_some q1
  obtain ⟨g2, R2, G2, V2, p2⟩ := V1.plain R1 e1
  obtain ⟨g3, R3, hh⟩ := V2.held R2 p2
  refine h' f g3 σ H1 ρ2 _ _ hK R3 q1 fun w H4 g4 ρ4 q R4 G4 V4 q4 => ?_
  obtain ⟨qq, ρ5, e5, q5⟩ := wP_some q4
  obtain ⟨g5, R5, G5, V5, p5⟩ := V4.plain R4 e5
  obtain ⟨g6, R6, G6, V6, hh6⟩ := hh g5 H4 ρ5 R5 (G4.trans G5) (fun i z => by rw [z] at p2; exact p2.elim)
  obtain ⟨W6, n6⟩ := hh6 w qq V5
  refine ⟨v, w, rfl, ?_⟩
  have R7 := V6.put R6 p2 i
  have W7 := W6.putO R6 p2 p5 (fun d e z1 z2 => n6 d e z1 z2) i
  exact l.nx g6 _ H4 _ (W7.put R7 p5 j) ((G1.trans G2).trans G6) q5
end
end DL

set_option Elab.async false
set_option linter.all false
set_option maxRecDepth 100000
set_option maxHeartbeats 4000000
namespace DL
open PySem L2

/-! ### what is walked -/
/-- a list, a tuple or a text, whichever it is -/
def iAny (K : PySem.W.Frag) (te : TE) : TI := fun σ H R => te σ H fun x H1 => (∃ a, x = .ref a ∧ (∃ xs, SqL K H1 a xs) ∧ R (Itl K a) H1) ∨ (∃ a, x = .ref a ∧ (∃ xs, SqT K H1 a xs) ∧ R (Itt K a) H1) ∨ (∃ z, x = .str z ∧ R (Its z) H1)
theorem pi_any {X : Cx} {tg l : Expr} {tl : TE} (hl : PE X l tl) : PI X tg l (iAny X.K tl) := by
  refine ⟨fun pins s σ H R I h => ?_⟩
  have hl' : ∀ (Z : V → Hp → Prop), (∀ v H', Z v H' → ∀ s' u, Inv X pins σ H' s' → RelV v u → wpAny (model X.prog X.w) X.A (pyIter u) (PIE X pins σ tg R) X.xe s') → tl σ H Z →
      wpAny (model X.prog X.w) X.A (eval l X.env) (fun v s1 => wpAny (model X.prog X.w) X.A (pyIter v) (PIE X pins σ tg R) X.xe s1) X.xe s := fun Z hz ht =>
    thn (hl.run pins s σ H Z I ht) fun u s1 ⟨x, H1, I1, r1, q1⟩ => hz x H1 q1 s1 u I1 r1
  refine hl' _ (fun v H1 q s1 u I1 r => ?_) h
  rcases q with ⟨a, rfl, ⟨xs, hq⟩, q⟩ | ⟨a, rfl, ⟨xs, hq⟩, q⟩ | ⟨z, rfl, q⟩
  · cases r
    obtain ⟨its, rv, p, hz⟩ := I1.list hq
    refine wpAny_pyIter_list p.isList ?_
    refine ⟨s1.heap.objs.size, [s1.heap.objs.size], _, _, H1, rfl, I1.kept (t' := s1.toks) fun b o e => Heap.get?_push_of_some _ e, turn_list a _, ⟨_, Heap.get?_push_size _ rfl, rfl, rfl⟩, fun b hb => ?_, q⟩
    have e : b = s1.heap.objs.size := by simpa using hb
    subst e
    exact I1.fpOk (Nat.le_refl _) (I1.hok.fresh (Nat.le_refl _))
  · cases r
    obtain ⟨its, rv, p, hz⟩ := I1.tuple hq
    refine wpAny_pyIter_tuple (show s1.heap.IsTuple a its.toArray from p) ?_
    refine ⟨s1.heap.objs.size, [s1.heap.objs.size], _, _, H1, rfl, I1.kept (t' := s1.toks) fun b o e => Heap.get?_push_of_some _ e, turn_tuple a _, ⟨_, Heap.get?_push_size _ rfl, rfl, rfl⟩, fun b hb => ?_, q⟩
    have e : b = s1.heap.objs.size := by simpa using hb
    subst e
    exact I1.fpOk (Nat.le_refl _) (I1.hok.fresh (Nat.le_refl _))
  · obtain ⟨t, rfl⟩ := r
    cases ha : z.cps.all (· < 128)
    · exact wpAny_pyIter_wide ha (pi_one (tk := s1.toks) I1 _ (turn_str _ z t "str_iterator" (.inr rfl)) ⟨_, Heap.get?_push_size _ rfl, rfl, rfl⟩ q)
    · exact wpAny_pyIter_ascii ha (pi_one (tk := s1.toks) I1 _ (turn_str _ z t "str_ascii_iterator" (.inl rfl)) ⟨_, Heap.get?_push_size _ rfl, rfl, rfl⟩ q)

structure ItOk (f : Fr) (g0 : Gs) (H0 : Hp) (G : Hp → Prop) (Y : Nat → Hp → V → Hp → Prop) (ds : List D) : Prop where
  st : ∀ g2 σ2 H2 ρ2, Rel f g2 σ2 H2 ρ2 → Same (Fz H0 g0.M) (Fz H2 g2.M) → G H2
  yl : ∀ g2 σ2 H2 ρ2, Rel f g2 σ2 H2 ρ2 → Same (Fz H0 g0.M) (Fz H2 g2.M) → ∀ i x H3 d, ds[i]? = some d → Y i H2 x H3 → ∃ g3, Rel f g3 σ2 H3 ρ2 ∧ Gro g2 H2 g3 H3 ∧ Rp f.K (Fz H3 g3.M) x d
abbrev DI := Rho → (List D → Rho → Prop) → Prop
def LI (K : PySem.W.Frag) (wi : TI) (d : DI) : Prop := ∀ (f : Fr) (g : Gs) (σ : L2.St) (H : Hp) (ρ : Rho) (Q : List D → Rho → Prop) (R : It → Hp → Prop), f.K = K → Rel f g σ H ρ → d ρ Q →
  (∀ (J : It) (H' : Hp) (g' : Gs) (ρ' : Rho) (G : Hp → Prop) (Y : Nat → Hp → V → Hp → Prop) (ds : List D), Rel f g' σ H' ρ' → Gro g H g' H' → Walk J ds.length G Y → ItOk f g' H' G Y ds → Q ds ρ' → R J H') → wi σ H R
/-- what a loop holds: frozen, or the borrowed thing -/
def itV (ρ : Rho) (i : Nat) : Option (Option Sl) → Option (D × Rho)
  | some (some (.bo d)) => some (d, ρ)
  | s => frzV ρ i s
def itD (ρ : Rho) : Rv → Option (D × Rho)
  | .vr i => itV ρ i ρ[i]?
  | r => frz ρ r
/-- the items of a sequence -/
def seqOf : D → Option (List D)
  | .list ds => some ds
  | .tuple ds => some ds
  | .str z => some (z.cps.toList.map fun c => .str ⟨#[c]⟩)
  | _ => none
def dAny (de : DE) : DI := fun ρ Q => de ρ fun r ρ1 => wF (itD ρ1 r) fun d ρ2 => wA (seqOf d) fun ds => Q ds ρ2
section
variable {K : PySem.W.Frag} {te : TE} {de : DE} {f : Fr} {g g' : Gs} {σ : L2.St} {H H' : Hp} {ρ ρ' : Rho} {v : V} {r : Rv} {d : D}
theorem itD_ok (R : Rel f g σ H ρ) (h : Opd f g σ H v r) (e : itD ρ r = some (d, ρ')) : ∃ g', Rel f g' σ H ρ' ∧ Gro g H g' H ∧ BoV f (Fz H g'.M) v d := by
  cases r with
  | vr i =>
    have e : itV ρ i ρ[i]? = some (d, ρ') := e
    have h' : σ[i]? = some (some v) := h
    unfold itV at e
    split at e
    · rename_i x e1
      cases e
      obtain ⟨w, e2, q⟩ := R.slot i _ e1
      rw [h'] at e2; cases e2
      exact ⟨g, R, Gro.refl, q⟩
    · obtain ⟨g1, R1, G1, q⟩ := Opd.frz (r := .vr i) R h e
      exact ⟨g1, R1, G1, .inl q⟩
  | fz x =>
    obtain ⟨g1, R1, G1, q⟩ := Opd.frz R h e
    exact ⟨g1, R1, G1, .inl q⟩
  | nw x =>
    obtain ⟨g1, R1, G1, q⟩ := Opd.frz R h e
    exact ⟨g1, R1, G1, .inl q⟩
  | src =>
    obtain ⟨g1, R1, G1, q⟩ := Opd.frz R h e
    exact ⟨g1, R1, G1, .inl q⟩
  | scr =>
    obtain ⟨g1, R1, G1, q⟩ := Opd.frz R h e
    exact ⟨g1, R1, G1, .inl q⟩
  | mr _ =>
    obtain ⟨g1, R1, G1, q⟩ := Opd.frz R h e
    exact ⟨g1, R1, G1, .inl q⟩
  | mi _ _ =>
    obtain ⟨g1, R1, G1, q⟩ := Opd.frz R h e
    exact ⟨g1, R1, G1, .inl q⟩
/-- a list that stands: frozen or borrowed -/
theorem BoV.list {F : Hp} {ds : List D} (h : BoV f F v (.list ds)) : ∃ a xs, v = .ref a ∧ RpA f.K F xs ds ∧ ∀ g2 σ2 H2 ρ2, Rel f g2 σ2 H2 ρ2 → Same F (Fz H2 g2.M) → SqL f.K H2 a xs := by
  rcases h with h | ⟨a, rfl, h⟩
  · cases h with | lst h r => exact ⟨_, _, rfl, r, fun g2 σ2 H2 ρ2 R2 e => .inl (.inl (fz_sub _ _ (e _ _ h)))⟩
  · cases h with | lst h r => exact ⟨_, _, rfl, r, fun g2 σ2 H2 ρ2 R2 e => .inl (.inl (R2.keep _ _ (of_fz h).1 (of_fz h).2))⟩
theorem BoV.tuple {F : Hp} {ds : List D} (h : BoV f F v (.tuple ds)) : ∃ a xs, v = .ref a ∧ RpA f.K F xs ds ∧ ∀ g2 σ2 H2 ρ2, Rel f g2 σ2 H2 ρ2 → Same F (Fz H2 g2.M) → SqT f.K H2 a xs := by
  rcases h with h | ⟨a, rfl, h⟩
  · cases h with | tup h r => exact ⟨_, _, rfl, r, fun g2 σ2 H2 ρ2 R2 e => .inl (.inl (fz_sub _ _ (e _ _ h)))⟩
  · cases h
theorem BoV.str {F : Hp} {z : Str} (h : BoV f F v (.str z)) : v = .str z := by
  rcases h with h | ⟨a, rfl, h⟩ <;> cases h; rfl
theorem itOk_at {xs : List V} {ds : List D} {G : Hp → Prop} {F : Hp} (hr : RpA f.K (Fz H g.M) xs ds) (hG : ∀ g2 σ2 H2 ρ2, Rel f g2 σ2 H2 ρ2 → Same (Fz H g.M) (Fz H2 g2.M) → G H2) : ItOk f g H G (YAt xs) ds := by
  refine ⟨hG, fun g2 σ2 H2 ρ2 R2 e i x H3 d hd y => ?_⟩
  obtain ⟨rfl, hx⟩ := y
  obtain ⟨w, e1, q⟩ := hr.get hd
  rw [hx] at e1; cases e1
  exact ⟨g2, R2, Gro.refl, q.mono e⟩
theorem li_any (h : LE K te de) : LI K (iAny K te) (dAny de) := by
  intro f g σ H ρ Q R hK hR hd k
  refine h.opd hK hR hd fun v H1 g1 ρ1 r1 R1 G1 O1 q1 => ?_
  obtain ⟨d, ρ2, e2, q2⟩ := wF_some q1
  obtain ⟨ds, e3, q3⟩ := wA_some q2
  obtain ⟨g2, R2, G2, B⟩ := itD_ok R1 O1 e2
  subst hK
  cases d with
  | list ds' =>
    cases e3
    obtain ⟨a, xs, rfl, hr, hs⟩ := B.list
    have hs1 := hs g2 σ H1 ρ2 R2 (Same.refl _)
    refine .inl ⟨a, rfl, ⟨xs, hs1⟩, k _ H1 g2 ρ2 _ _ ds R2 (G1.trans G2) (by rw [← hr.length]; exact walk_list (xs := xs)) (itOk_at (F := H) hr hs) q3⟩
  | tuple ds' =>
    cases e3
    obtain ⟨a, xs, rfl, hr, hs⟩ := B.tuple
    have hs1 := hs g2 σ H1 ρ2 R2 (Same.refl _)
    refine .inr (.inl ⟨a, rfl, ⟨xs, hs1⟩, k _ H1 g2 ρ2 _ _ ds R2 (G1.trans G2) (by rw [← hr.length]; exact walk_tup (xs := xs)) (itOk_at (F := H) hr hs) q3⟩)
  | str z =>
    cases e3
    obtain rfl := B.str
    refine .inr (.inr ⟨z, rfl, k _ H1 g2 ρ2 _ _ _ R2 (G1.trans G2) (by simpa using walk_str (z := z)) ⟨fun _ _ _ _ _ _ => trivial, fun g2 σ2 H2 ρ2 R2 e i x H3 d hd y => ?_⟩ q3⟩)
    obtain ⟨rfl, c, h1, rfl⟩ := y
    rw [List.getElem?_map] at hd
    have h2 : z.cps.toList[i]? = some c := by simpa using h1
    rw [h2] at hd
    cases hd
    exact ⟨g2, R2, Gro.refl, .str _⟩
  | none => cases e3
  | bool _ => cases e3
  | int _ => cases e3
  | dict _ => cases e3
def wI1 (o : Option (List D)) (k : Int → Prop) : Prop := match o with
  | some [.int i] => k i
  | _ => False
theorem wI1_some {o : Option (List D)} {k : Int → Prop} (h : wI1 o k) : ∃ b, o = some [.int b] ∧ k b := by
  unfold wI1 at h
  split at h
  · exact ⟨_, rfl, h⟩
  · exact h.elim
def wI2 (o : Option (List D)) (k : Int → Int → Prop) : Prop := match o with
  | some [.int i, .int j] => k i j
  | _ => False
theorem wI2_some {o : Option (List D)} {k : Int → Int → Prop} (h : wI2 o k) : ∃ b c, o = some [.int b, .int c] ∧ k b c := by
  unfold wI2 at h
  split at h
  · exact ⟨_, _, rfl, h⟩
  · exact h.elim
def rngD (lo : Int) (n : Nat) : List D := (List.range n).map fun i => .int (lo + (i : Nat))
theorem rngD_length (lo : Int) (n : Nat) : (rngD lo n).length = n := by simp [rngD]
theorem itOk_rng {lo : Int} {n : Nat} : ItOk f g H (fun _ => True) (YFn fun i => .int (lo + i)) (rngD lo n) := by
  refine ⟨fun _ _ _ _ _ _ => trivial, fun g2 σ2 H2 ρ2 R2 e i x H3 d hd y => ?_⟩
  obtain ⟨rfl, rfl⟩ := y
  unfold rngD at hd
  rw [List.getElem?_map] at hd
  by_cases hi : i < n
  · rw [List.getElem?_range hi] at hd
    cases hd
    exact ⟨g2, R2, Gro.refl, .int _⟩
  · rw [List.getElem?_eq_none (by simpa using hi)] at hd; cases hd
variable {ta : TA} {da : DA}
def dRng1 (da : DA) : DI := fun ρ Q => da ρ fun rs ρ1 => wI1 (resA ρ1 rs) fun j => (-(2 ^ 62) ≤ j ∧ j < 2 ^ 62) ∧ Q (rngD 0 j.toNat) ρ1
def dRng2 (da : DA) : DI := fun ρ Q => da ρ fun rs ρ1 => wI2 (resA ρ1 rs) fun i j => (-(2 ^ 62) ≤ i ∧ i < 2 ^ 62 ∧ -(2 ^ 62) ≤ j ∧ j < 2 ^ 62) ∧ Q (rngD i (j - i).toNat) ρ1
theorem RNA.int1 {F H : Hp} {vs : List V} {i : Int} (h : RNA K F H vs [.int i]) : vs = [.int i] := by
  cases h with | cons h r => cases r; rw [h.int]
theorem RNA.int2 {F H : Hp} {vs : List V} {i j : Int} (h : RNA K F H vs [.int i, .int j]) : vs = [.int i, .int j] := by
  cases h with | cons h r => cases r with | cons h' r => cases r; rw [h.int, h'.int]
theorem li_rng1 (h : LA K ta da) : LI K (iRng1 ta) (dRng1 da) := by
  intro f g σ H ρ Q R hK hR hd k
  refine h f g σ H ρ _ _ hK hR hd fun vs H1 g1 ρ1 rs R1 G1 O1 q1 => ?_
  obtain ⟨j, e, hj, q⟩ := wI1_some q1
  obtain rfl := (O1.rn R1 e).int1
  exact ⟨j, rfl, hj.1, hj.2, k _ H1 g1 ρ1 _ _ _ R1 G1 (by rw [rngD_length]; exact walk_range) itOk_rng q⟩
theorem li_rng2 (h : LA K ta da) : LI K (iRng2 ta) (dRng2 da) := by
  intro f g σ H ρ Q R hK hR hd k
  refine h f g σ H ρ _ _ hK hR hd fun vs H1 g1 ρ1 rs R1 G1 O1 q1 => ?_
  obtain ⟨i, j, e, hj, q⟩ := wI2_some q1
  obtain rfl := (O1.rn R1 e).int2
  exact ⟨i, j, rfl, hj, k _ H1 g1 ρ1 _ _ _ R1 G1 (by rw [rngD_length]; exact walk_range) itOk_rng q⟩
end

/-! ### for, while -/
section
variable {K : PySem.W.Frag} {wi : TI} {tg : TG} {tb : TS} {dI : DI} {dg : DG} {db : DS} {tt : TT} {dt : DT}
def dLoop (dg : DG) (db : DS) (DD : DEnds) : List D → Rho → Prop
  | [], ρ => DD.nx ρ
  | x :: xs, ρ => dg (.fz x) ρ fun ρ1 => db { nx := dLoop dg db DD xs, ct := dLoop dg db DD xs, bk := DD.nx, rt := DD.rt } ρ1
def dFor (dI : DI) (dg : DG) (db : DS) : DS := fun DD ρ => dI ρ fun ds ρ1 => dLoop dg db DD ds ρ1
theorem ls_for (hi : LI K wi dI) (hg : LG K tg dg) (hb : LS K tb db) : LS K (tFor wi tg tb) (dFor dI dg db) := by
  intro f g σ H ρ DD E hK R hd l
  refine hi f g σ H ρ _ _ hK R hd fun J H1 g1 ρ1 G Y ds R1 G1 w io q => ?_
  refine for_it w (fun i σ' H' => ∃ g' ρ', Rel f g' σ' H' ρ' ∧ Gro g1 H1 g' H' ∧ dLoop dg db DD (ds.drop i) ρ') ⟨g1, ρ1, R1, Gro.refl, by simpa using q⟩ (fun i σ' H' _ ⟨g', ρ', R', G', _⟩ => io.st g' σ' H' ρ' R' G'.fz) ?_ ?_
  · rintro i x σ' H' H'' hlt ⟨g', ρ', R', G', q'⟩ y
    obtain ⟨g2, R2, G2, hx⟩ := io.yl g' σ' H' ρ' R' G'.fz i x H'' ds[i] (by simp [hlt]) y
    rw [List.drop_eq_getElem_cons hlt] at q'
    refine hg f g2 σ' H'' ρ' x (.fz _) _ _ hK R2 hx q' fun g3 σ3 H3 ρ3 R3 G3 q3 => ?_
    have GG := (G'.trans G2).trans G3
    refine hb f g3 σ3 H3 ρ3 _ _ hK R3 q3 ⟨fun g4 σ4 H4 ρ4 R4 G4 q4 => ⟨g4, ρ4, R4, GG.trans G4, q4⟩, fun g4 σ4 H4 ρ4 v r R4 G4 V4 q4 => l.rt g4 σ4 H4 ρ4 v r R4 ((G1.trans GG).trans G4) V4 q4,
      fun g4 σ4 H4 ρ4 R4 G4 q4 => l.nx g4 σ4 H4 ρ4 R4 ((G1.trans GG).trans G4) q4, fun g4 σ4 H4 ρ4 R4 G4 q4 => ⟨g4, ρ4, R4, GG.trans G4, q4⟩⟩
  · rintro σ' H' ⟨g', ρ', R', G', q'⟩
    rw [List.drop_length] at q'
    exact l.nx g' σ' H' ρ' R' (G1.trans G') q'
def dWhile (dt : DT) (db : DS) : DS := fun DD ρ => ∃ P : Nat → Rho → Prop, (∃ m, P m ρ) ∧ ∀ m ρ, P m ρ → dt ρ fun b ρ1 => useB b (db { nx := fun ρ' => ∃ m', m' < m ∧ P m' ρ', ct := fun ρ' => ∃ m', m' < m ∧ P m' ρ', bk := DD.nx, rt := DD.rt } ρ1) (DD.nx ρ1)
theorem ls_while (hc : LT K tt dt) (hb : LS K tb db) : LS K (tWhile tt tb) (dWhile dt db) := by
  intro f g σ H ρ DD E hK R hd l
  obtain ⟨P, ⟨m0, p0⟩, hs⟩ := hd
  refine ⟨fun m σ' H' => ∃ g' ρ', Rel f g' σ' H' ρ' ∧ Gro g H g' H' ∧ P m ρ', ⟨m0, g, ρ, R, Gro.refl, p0⟩, ?_⟩
  rintro m σ' H' ⟨g', ρ', R', G', p'⟩
  refine hc f g' σ' H' ρ' _ _ hK R' (hs m ρ' p') fun b H1 g1 ρ1 R1 G1 q1 => ?_
  cases b with
  | true =>
    replace q1 := useB_t q1
    rw [if_pos rfl]
    refine ⟨fun σ3 H3 => ∃ m', m' < m ∧ ∃ g3 ρ3, Rel f g3 σ3 H3 ρ3 ∧ Gro g H g3 H3 ∧ P m' ρ3, fun _ _ q => q, ?_⟩
    have GG := G'.trans G1
    exact hb f g1 σ' H1 ρ1 _ _ hK R1 q1 ⟨fun g4 σ4 H4 ρ4 R4 G4 ⟨m', hm, p⟩ => ⟨m', hm, g4, ρ4, R4, GG.trans G4, p⟩, fun g4 σ4 H4 ρ4 v r R4 G4 V4 q4 => l.rt g4 σ4 H4 ρ4 v r R4 (GG.trans G4) V4 q4,
      fun g4 σ4 H4 ρ4 R4 G4 q4 => l.nx g4 σ4 H4 ρ4 R4 (GG.trans G4) q4, fun g4 σ4 H4 ρ4 R4 G4 ⟨m', hm, p⟩ => ⟨m', hm, g4, ρ4, R4, GG.trans G4, p⟩⟩
  | false =>
    replace q1 := useB_f q1
    rw [if_neg Bool.false_ne_true]
    exact l.nx g1 σ' H1 ρ1 R1 (G'.trans G1) q1
end
end DL

set_option Elab.async false
set_option linter.all false
set_option maxRecDepth 100000
set_option maxHeartbeats 4000000
namespace DL
open PySem L2

/-! ### a comprehension -/
section
variable {f : Fr} {g g' : Gs} {σ σ' : L2.St} {H H' : Hp} {ρ ρ' : Rho} {v : V} {r : Rv} {d : D} {D0 : Addr}
def Gs.pop (g : Gs) (T : List Addr) : Gs := ⟨g.M, g.src, T, g.fp⟩
theorem Rel.pop {T : List Addr} (R : Rel f g σ H ρ) (h : ∀ a ∈ T, a ∈ g.T) : Rel f (g.pop T) σ H ρ :=
  ⟨R.keep, R.dom, R.m0, R.m00, R.mU, R.src, R.len, R.slot, R.uq, fun a ha => R.tmp a (h a ha), R.fpM, R.fpn, R.mq⟩
/-- a thing kept aside changes -/
theorem Rel.mutTmp {o : HO} (R : Rel f g σ H ρ) (h : D0 ∈ g.T) (h0 : f.H0 D0 = none) (ho : MuO (some o) := by trivial) : Rel f g σ (upd H D0 o) ρ ∧ Same (Fz H g.M) (Fz (upd H D0 o) g.M) := by
  obtain ⟨m, ns, u⟩ := R.tmp D0 h
  have hk : ∀ a o', H a = some o' → a ≠ D0 → upd H D0 o a = some o' := fun a o' e n => by rw [upd_ne n]; exact e
  have hG : Same (Fz H g.M) (Fz (upd H D0 o) g.M) := fz_mono fun a o' e n => ⟨hk a o' e fun q => n (q ▸ m), n⟩
  have hd : ∀ a, upd H D0 o a = none → H a = none := fun a e => by
    by_cases q : a = D0
    · rw [q, upd_same] at e; cases e
    · rw [upd_ne q] at e; exact e
  refine ⟨⟨fun a o' e n => hk a o' (R.keep a o' e n) (fun q => by rw [q, h0] at e; cases e), fun a e => R.dom a (hd a e), R.m0, R.m00, fun a m => by
    by_cases q : a = D0
    · rw [q, upd_same]; exact ho
    · rw [upd_ne q]; exact R.mU a m, fun p c e => ?_, R.len, fun i s e => ?_, R.uq, R.tmp, R.fpM, R.fpn, R.mq⟩, hG⟩
  · obtain ⟨h1, h2, h3, h4, h5, h6⟩ := R.src p c e
    exact ⟨h1, h2, h3, h4, h5, srcOk_upd h6 (Ne.symm (ns.1 p c e).1) (Ne.symm (ns.1 p c e).2)⟩
  · obtain ⟨w, e1, q⟩ := R.slot i s e
    refine ⟨w, e1, ?_⟩
    cases s with
    | sh d => exact Rp.mono hG q
    | bo d => exact BoV.mono hG q
    | ow d =>
      obtain ⟨a, e2, m', h0', ns', r⟩ := q
      refine ⟨a, e2, m', h0', ns', r.mono hG fun o' e' => hk a o' e' fun q => u i d e ?_⟩
      rw [e1, e2, q]
    | src => exact q
    | scr => exact q
    | mu m =>
      obtain ⟨a, as, e2, e3, r⟩ := q
      exact ⟨a, as, e2, e3, r.mono hG fun b hb o' e' => hk b o' e' fun z => ns.2 (by rw [e2, ← z]; exact hb)⟩
/-- the block's own slots forgotten, but for what is frozen -/
def bckS : Option (Option Sl) → Option Sl
  | some (some (.sh d)) => some (.sh d)
  | _ => none
def wipeR (ρ : Rho) : List Nat → Rho
  | [] => ρ
  | v :: vs => (wipeR ρ vs).set v none
def bckR (ρ0 ρ : Rho) : List Nat → Rho
  | [] => ρ
  | v :: vs => (bckR ρ0 ρ vs).set v (bckS ρ0[v]?)
theorem wipeR_length {ρ : Rho} {vs : List Nat} : (wipeR ρ vs).length = ρ.length := by
  induction vs with
  | nil => rfl
  | cons v vs ih => unfold wipeR; rw [List.length_set, ih]
theorem bckR_length {ρ0 ρ : Rho} {vs : List Nat} : (bckR ρ0 ρ vs).length = ρ.length := by
  induction vs with
  | nil => rfl
  | cons v vs ih => unfold bckR; rw [List.length_set, ih]
theorem wipeR_get {ρ : Rho} {vs : List Nat} {i : Nat} {s : Sl} (h : (wipeR ρ vs)[i]? = some (some s)) : ρ[i]? = some (some s) ∧ i ∉ vs := by
  induction vs with
  | nil => exact ⟨h, by simp⟩
  | cons v vs ih =>
    unfold wipeR at h
    rcases getset h with ⟨_, q⟩ | ⟨ne, q⟩
    · cases q
    · obtain ⟨a, b⟩ := ih q
      exact ⟨a, by simp only [List.mem_cons, not_or]; exact ⟨fun e => ne e.symm, b⟩⟩
theorem bckR_get {ρ0 ρ : Rho} {vs : List Nat} {i : Nat} {s : Sl} (h : (bckR ρ0 ρ vs)[i]? = some (some s)) : (ρ[i]? = some (some s) ∧ i ∉ vs) ∨ (i ∈ vs ∧ ρ0[i]? = some (some s) ∧ ∃ d, s = .sh d) := by
  induction vs with
  | nil => exact .inl ⟨h, by simp⟩
  | cons v vs ih =>
    unfold bckR at h
    rcases getset h with ⟨rfl, q⟩ | ⟨ne, q⟩
    · refine .inr ⟨List.mem_cons_self, ?_⟩
      have q : some s = bckS ρ0[v]? := q
      unfold bckS at q
      split at q
      · rename_i d e
        cases q
        exact ⟨e, d, rfl⟩
      · cases q
    · rcases ih q with ⟨a, b⟩ | ⟨a, b⟩
      · exact .inl ⟨a, by simp only [List.mem_cons, not_or]; exact ⟨fun e => ne e.symm, b⟩⟩
      · exact .inr ⟨List.mem_cons_of_mem _ a, b⟩
theorem wipe_ne {σ : L2.St} {vs : List Nat} {i : Nat} (h : i ∉ vs) : (wipe σ vs)[i]? = σ[i]? := by
  induction vs with
  | nil => rfl
  | cons v vs ih =>
    simp only [List.mem_cons, not_or] at h
    unfold wipe
    rw [List.getElem?_set_ne (fun e => h.1 e.symm)]
    exact ih h.2
theorem Rel.wiped (R : Rel f g σ H ρ) (vs : List Nat) : Rel f g (wipe σ vs) H (wipeR ρ vs) := by
  refine ⟨R.keep, R.dom, R.m0, R.m00, R.mU, R.src, by rw [wipeR_length, wipe_length]; exact R.len, fun i s e => ?_, fun i j l d e h1 h2 h3 h4 => ?_, fun a ha => ⟨(R.tmp a ha).1, (R.tmp a ha).2.1, fun i e h1 h2 => ?_⟩, R.fpM, R.fpn, fun i j d e h1 h2 => R.mq i j d e (wipeR_get h1).1 (wipeR_get h2).1⟩
  · obtain ⟨h1, h2⟩ := wipeR_get e
    obtain ⟨w, e1, q⟩ := R.slot i s h1
    exact ⟨w, by rw [wipe_ne h2]; exact e1, q⟩
  · obtain ⟨a1, b1⟩ := wipeR_get h1
    obtain ⟨a2, b2⟩ := wipeR_get h2
    rw [wipe_ne b1] at h3
    rw [wipe_ne b2] at h4
    exact R.uq i j l d e a1 a2 h3 h4
  · obtain ⟨a1, b1⟩ := wipeR_get h1
    rw [wipe_ne b1] at h2
    exact (R.tmp a ha).2.2 i e a1 h2
/-- back in the frame -/
theorem Rel.backed {ρ0 : Rho} {vs : List Nat} {g0 : Gs} {H1 : Hp} (R0 : Rel f g0 σ H1 ρ0) (R : Rel f g σ' H ρ) (G : Same (Fz H1 g0.M) (Fz H g.M)) (hw : wipe σ' vs = wipe σ vs) : Rel f g σ H (bckR ρ0 ρ vs) := by
  have hs : ∀ i, i ∉ vs → σ'[i]? = σ[i]? := fun i hi => by rw [← wipe_ne hi, hw, wipe_ne hi]
  have hl : σ'.length = σ.length := by rw [← wipe_length σ' vs, hw, wipe_length]
  refine ⟨R.keep, R.dom, R.m0, R.m00, R.mU, R.src, by rw [bckR_length, ← hl]; exact R.len, fun i s e => ?_, fun i j l d e h1 h2 h3 h4 => ?_, fun a ha => ⟨(R.tmp a ha).1, (R.tmp a ha).2.1, fun i e h1 h2 => ?_⟩, R.fpM, R.fpn, fun i j d e h1 h2 => ?_⟩
  · rcases bckR_get e with ⟨h1, h2⟩ | ⟨h1, h2, d, rfl⟩
    · obtain ⟨w, e1, q⟩ := R.slot i s h1
      exact ⟨w, by rw [← hs i h2]; exact e1, q⟩
    · obtain ⟨w, e1, q⟩ := R0.slot i _ h2
      exact ⟨w, e1, Rp.mono G q⟩
  · rcases bckR_get h1 with ⟨a1, b1⟩ | ⟨_, _, d, z⟩
    · rcases bckR_get h2 with ⟨a2, b2⟩ | ⟨_, _, d, z⟩
      · rw [← hs i b1] at h3
        rw [← hs j b2] at h4
        exact R.uq i j l _ e a1 a2 h3 h4
      · cases z
    · cases z
  · rcases bckR_get h1 with ⟨a1, b1⟩ | ⟨_, _, d, z⟩
    · rw [← hs i b1] at h2
      exact (R.tmp a ha).2.2 i e a1 h2
    · cases z
  · rcases bckR_get h1 with ⟨a1, b1⟩ | ⟨_, _, d, z⟩
    · rcases bckR_get h2 with ⟨a2, b2⟩ | ⟨_, _, d, z⟩
      · exact R.mq i j _ e a1 a2
      · cases z
    · cases z
end
def dYes : DT := fun ρ Q => Q true ρ
theorem lt_yes {K : PySem.W.Frag} : LT K tYes dYes := fun f g σ H ρ Q R hK hR hd k => k true H g ρ hR Gro.refl hd
def dLcGo (dg : DG) (dt : DT) (de : DE) (vs : List Nat) (Q : Rv → Rho → Prop) : List D → List D → Rho → Prop
  | [], acc, ρ => Q (.nw (.list acc)) ρ
  | x :: xs, acc, ρ => dg (.fz x) (wipeR ρ vs) fun ρ1 => dt ρ1 fun b ρ2 => useB b (de ρ2 fun r ρ3 => wF (frz ρ3 r) fun d ρ4 => acc.length < sizeLine ∧ dLcGo dg dt de vs Q xs (acc ++ [d]) (bckR ρ ρ4 vs)) (dLcGo dg dt de vs Q xs acc (bckR ρ ρ2 vs))
def dLc (dI : DI) (dg : DG) (dt : DT) (de : DE) (vs : List Nat) : DE := fun ρ Q => dI ρ fun ds ρ1 => dLcGo dg dt de vs Q ds [] ρ1
/-- a target that stores in the block's own slots alone -/
def LGw (t : TG) (vs : List Nat) : Prop := ∀ (v : V) (σ : L2.St) (H : Hp) (Q : L2.St → Hp → Prop), t v σ H (fun σ2 H2 => wipe σ2 vs = wipe σ vs → Q σ2 H2) → t v σ H fun σ2 H2 => wipe σ2 vs = wipe σ vs ∧ Q σ2 H2
theorem wipe_in {vs : List Nat} {j : Nat} (hj : j ∈ vs) (τ : L2.St) : (wipe τ vs)[j]? = if j < τ.length then some none else none := by
  induction vs with
  | nil => cases hj
  | cons v vs ih =>
    unfold wipe
    by_cases e : v = j
    · subst e
      by_cases hl : v < τ.length
      · rw [if_pos hl, List.getElem?_set_self (by rw [wipe_length]; exact hl)]
      · rw [if_neg hl, List.getElem?_eq_none (by rw [List.length_set, wipe_length]; omega)]
    · rw [List.getElem?_set_ne e]
      exact ih ((List.mem_cons.mp hj).elim (fun z => absurd z.symm e) id)
theorem wipe_wipe {σ : L2.St} {vs : List Nat} : wipe (wipe σ vs) vs = wipe σ vs := by
  apply List.ext_getElem?
  intro j
  by_cases hj : j ∈ vs
  · rw [wipe_in hj, wipe_in hj, wipe_length]
  · rw [wipe_ne hj]
theorem wipe_set {σ : L2.St} {vs : List Nat} {i : Nat} {x : Option V} (h : i ∈ vs) : wipe (σ.set i x) vs = wipe σ vs := by
  apply List.ext_getElem?
  intro j
  by_cases hj : j ∈ vs
  · rw [wipe_in hj, wipe_in hj, List.length_set]
  · rw [wipe_ne hj, wipe_ne hj, List.getElem?_set_ne]
    intro e
    exact hj (e ▸ h)
theorem lgw_name {i : Nat} {vs : List Nat} (h : i ∈ vs) : LGw (gName i) vs := fun v σ H Q q => ⟨wipe_set h, q (wipe_set h)⟩
def LGsw (t : TGs) (vs : List Nat) : Prop := ∀ (v : List V) (σ : L2.St) (H : Hp) (Q : L2.St → Hp → Prop), t v σ H (fun σ2 H2 => wipe σ2 vs = wipe σ vs → Q σ2 H2) → t v σ H fun σ2 H2 => wipe σ2 vs = wipe σ vs ∧ Q σ2 H2
theorem lgsw_nil {vs : List Nat} : LGsw gNil vs := fun v σ H Q q => ⟨q.1, rfl, q.2 rfl⟩
/-- monotone in what is wanted -/
def MoG (t : TG) : Prop := ∀ v σ H (Q Q' : L2.St → Hp → Prop), (∀ σ' H', Q σ' H' → Q' σ' H') → t v σ H Q → t v σ H Q'
def MoGs (t : TGs) : Prop := ∀ v σ H (Q Q' : L2.St → Hp → Prop), (∀ σ' H', Q σ' H' → Q' σ' H') → t v σ H Q → t v σ H Q'
theorem mog_name {i : Nat} : MoG (gName i) := fun v σ H Q Q' h q => h _ _ q
theorem mogs_nil : MoGs gNil := fun v σ H Q Q' h q => ⟨q.1, h _ _ q.2⟩
theorem mogs_cons {t : TG} {ts : TGs} (h : MoG t) (h' : MoGs ts) : MoGs (gCons t ts) := fun v σ H Q Q' k q => by
  obtain ⟨x, r, e, q⟩ := q
  exact ⟨x, r, e, h _ _ _ _ _ (fun σ' H' q' => h' _ _ _ _ _ k q') q⟩
theorem mog_tup {K : PySem.W.Frag} {n : Nat} {ts : TGs} (h : MoGs ts) : MoG (gTup K n ts) := fun v σ H Q Q' k q => by
  obtain ⟨a, xs, e, h1, h2, q⟩ := q
  exact ⟨a, xs, e, h1, h2, h _ _ _ _ _ k q⟩
theorem lgsw_cons {t : TG} {ts : TGs} {vs : List Nat} (m : MoG t) (ms : MoGs ts) (h : LGw t vs) (h' : LGsw ts vs) : LGsw (gCons t ts) vs := fun v σ H Q q => by
  obtain ⟨x, r, e, q⟩ := q
  refine ⟨x, r, e, m _ _ _ _ _ (fun σ' H' q' => ?_) (h _ _ _ _ (m _ _ _ _ _ (fun σ' H' z _ => z) q))⟩
  exact ms _ _ _ _ _ (fun σ2 H2 z => ⟨z.1.trans q'.1, z.2⟩) (h' _ _ _ _ (ms _ _ _ _ _ (fun σ2 H2 z e2 => z (e2.trans q'.1)) q'.2))
theorem lgw_tup {K : PySem.W.Frag} {n : Nat} {ts : TGs} {vs : List Nat} (h : LGsw ts vs) : LGw (gTup K n ts) vs := fun v σ H Q q => by
  obtain ⟨a, xs, e, h1, h2, q⟩ := q
  exact ⟨a, xs, e, h1, h2, h _ _ _ _ q⟩
section
variable {K : PySem.W.Frag} {wi : TI} {tg : TG} {te : TE} {tt : TT} {dI : DI} {dg : DG} {de : DE} {dt : DT} {vs : List Nat}
theorem le_lc (hi : LI K wi dI) (hg : LG K tg dg) (hw : LGw tg vs) (ht : LT K tt dt) (he : LE K te de) : LE K (tLc wi tg tt te vs) (dLc dI dg dt de vs) := by
  intro f g σ H ρ Q R hK hR hd k
  refine hi f g σ H ρ _ _ hK hR hd fun J H1 g1 ρ1 G Y ds R1 G1 w io q => ?_
  intro D0 hD
  have h0 : f.H0 D0 = none := R1.dom D0 hD
  obtain ⟨R2, G2, V2⟩ := R1.own (o := .lst []) (d := .list []) hD (.lst upd_same .nil)
  obtain ⟨a, ea, m2, _, ns2, _, t2, u2⟩ := V2
  cases ea
  refine lc_it w (fun i H' => ∃ g' ρ' xs acc, Rel f (g'.push D0) σ H' ρ' ∧ Gro g1 H1 g' H' ∧ H' D0 = some (.lst xs) ∧ RpA f.K (Fz H' g'.M) xs acc ∧ dLcGo dg dt de vs Q (ds.drop i) acc ρ')
    ⟨g1.add D0, ρ1, [], [], ⟨R2.keep, R2.dom, R2.m0, R2.m00, R2.mU, R2.src, R2.len, R2.slot, R2.uq, fun b hb => ?_, R2.fpM, R2.fpn, R2.mq⟩, G2, upd_same, .nil, by simpa using q⟩ (fun i H' _ ⟨g', ρ', xs, acc, R', G', _⟩ => io.st _ σ H' ρ' R' G'.fz) ?_ ?_
  · rcases List.mem_cons.mp hb with rfl | hb
    · exact ⟨m2, ns2, u2⟩
    · exact R2.tmp b hb
  · rintro i x H' H'' hlt ⟨g', ρ', xs, acc, R', G', hx, hr, q'⟩ y
    obtain ⟨g3, R3, G3, hxx⟩ := io.yl _ σ H' ρ' R' G'.fz i x H'' ds[i] (by simp [hlt]) y
    rw [List.drop_eq_getElem_cons hlt] at q'
    have T3 : g3.T = D0 :: g'.T := G3.tm
    have hw' := hw x (wipe σ vs) H''
    rw [wipe_wipe] at hw'
    refine hw' _ ?_
    -- what a turn's end is
    have fin : ∀ (g5 : Gs) (H5 : Hp) (ρ5 : Rho) (σ5 : L2.St), Rel f g5 σ5 H5 ρ5 → Gro g3 H'' g5 H5 → wipe σ5 vs = wipe σ vs →
        Rel f ((g5.pop g'.T).push D0) σ H5 (bckR ρ' ρ5 vs) ∧ Gro g1 H1 (g5.pop g'.T) H5 ∧ H5 D0 = some (.lst xs) ∧ RpA f.K (Fz H5 g5.M) xs acc := by
      intro g5 H5 ρ5 σ5 R5 G5 hwp
      have G35 : Gro (g'.push D0) H' g5 H5 := G3.trans G5
      have hT : g5.T = D0 :: g'.T := G35.tm
      have RB := Rel.backed (vs := vs) R' R5 G35.fz hwp
      refine ⟨RB.pop (T := D0 :: g'.T) (fun a ha => by rw [hT]; exact ha), ⟨G'.fz.trans G35.fz, fun pc h => G35.src pc (G'.src pc h), G'.tm, fun a ha => ?_, G35.fp.trans G'.fp⟩, (G35.th D0 List.mem_cons_self).trans hx, hr.mono G35.fz⟩
      exact (G35.th a (List.mem_cons_of_mem _ (by rw [G'.tm]; exact ha))).trans (G'.th a ha)
    refine hg f g3 (wipe σ vs) H'' (wipeR ρ' vs) x (.fz _) _ _ hK (R3.wiped vs) hxx q' fun g4 σ4 H4 ρ4 R4 G4 q4 => ?_
    intro hws
    refine ht f g4 σ4 H4 ρ4 _ _ hK R4 q4 fun b H5 g5 ρ5 R5 G5 q5 => ?_
    cases b with
    | false =>
      replace q5 := useB_f q5
      obtain ⟨A, B, C, E⟩ := fin g5 H5 ρ5 σ4 R5 (G4.trans G5) hws
      exact ⟨g5.pop g'.T, _, xs, acc, A, B, C, E, q5⟩
    | true =>
      replace q5 := useB_t q5
      rw [if_pos rfl]
      refine he.opd hK R5 q5 fun y H6 g6 ρ6 r R6 G6 O6 q6 => ?_
      obtain ⟨d, ρ7, e7, hl7, q7⟩ := wF_some q6
      obtain ⟨g7, R7, G7, hy⟩ := O6.frz R6 e7
      obtain ⟨A, B, C, E⟩ := fin g7 H6 ρ7 σ4 R7 (((G4.trans G5).trans G6).trans G7) hws
      refine ⟨xs, C, by rw [E.length]; exact hl7, ?_⟩
      obtain ⟨A2, S2⟩ := A.mutTmp (o := .lst (xs ++ [y])) List.mem_cons_self h0
      refine ⟨g7.pop g'.T, _, xs ++ [y], acc ++ [d], A2, ⟨B.fz.trans S2, B.src, B.tm, fun a ha => ?_, B.fp⟩, upd_same, (E.append (.cons hy .nil)).mono S2, q7⟩
      rw [upd_ne]
      · exact B.th a ha
      · rintro rfl
        exact R1.mH a hD (R1.tmp a ha).1
  · rintro H' ⟨g', ρ', xs, acc, R', G', hx, hr, q'⟩
    rw [List.drop_length] at q'
    obtain ⟨m', ns', u'⟩ := R'.tmp D0 List.mem_cons_self
    refine k _ H' g' ρ' (.nw (.list acc)) (R'.pop (T := g'.T) fun a ha => List.mem_cons_of_mem _ ha) (G1.trans G') ⟨D0, rfl, m', h0, ns', .lst hx hr, ?_, u'⟩ q'
    intro ha
    rw [G'.tm] at ha
    exact R1.mH D0 hD (R1.tmp D0 ha).1
end
end DL

set_option Elab.async false
set_option linter.all false
set_option maxRecDepth 100000
set_option maxHeartbeats 4000000
namespace DL
open PySem L2

/-! ### contracts -/
inductive Kd where
  | sh | bo | src | scr | mu
inductive Re where
  | fz (d : D) | nw (d : D)
/-- what a def asks of its arguments and gives -/
abbrev Con := List D → (Re → Prop) → Prop
abbrev ConM := List D → MD → (Re → MD → Prop) → Prop
def srcSet (src : Option (Addr × Addr)) (fp : List Addr) : AP := fun b => (∃ p c, src = some (p, c) ∧ (b = p ∨ b = c)) ∨ b ∈ fp
theorem NoS.set {src : Option (Addr × Addr)} {fp : List Addr} {a : Addr} (h : NoS src a) (h' : a ∉ fp) : ¬ srcSet src fp a := by
  rintro (⟨p, c, e, z⟩ | z)
  · rcases z with z | z
    · exact (h p c e).1 z
    · exact (h p c e).2 z
  · exact h' z
def ArgOk (K : PySem.W.Frag) (F H : Hp) (src : Option (Addr × Addr)) (fp : List Addr) : Kd → V → D → Prop
  | .sh, v, d => Rp K F v d
  | .bo, v, d => Rp K F v d ∨ ∃ a, v = .ref a ∧ Rt K F H a d ∧ NoS src a ∧ a ∉ fp
  | .src, v, d => d = .none ∧ ∃ p c, src = some (p, c) ∧ v = .ref p
  | .scr, v, d => d = .none ∧ ∃ (a : Addr) (ns : List Int), v = .ref a ∧ SqL K (Fz H (srcSet src fp)) a (ns.map V.int) ∧ ns.length ≤ 63
  | .mu, v, d => d = .none ∧ ∃ p as, fp = p :: as ∧ v = .ref p
inductive ArgsOk (K : PySem.W.Frag) (F H : Hp) (src : Option (Addr × Addr)) (fp : List Addr) : List Kd → List V → List D → Prop
  | nil : ArgsOk K F H src fp [] [] []
  | cons {k : Kd} {v : V} {d : D} {ks : List Kd} {vs : List V} {ds : List D} : ArgOk K F H src fp k v d → ArgsOk K F H src fp ks vs ds → ArgsOk K F H src fp (k :: ks) (v :: vs) (d :: ds)
def RetOk (K : PySem.W.Frag) (M0 : AP) (H H' : Hp) (v : V) : Re → Prop
  | .fz d => Rp K (Fz H' M0) v d
  | .nw d => ∃ a, v = .ref a ∧ H a = none ∧ Rt K (Fz H' (fun b => M0 b ∨ b = a)) H' a d
def retAP (M0 : AP) (v : V) : Re → AP
  | .fz _ => M0
  | .nw _ => fun b => M0 b ∨ v = .ref b
structure PostC (K : PySem.W.Frag) (M0 : AP) (src : Option (Addr × Addr)) (fp : List Addr) (m : MD) (H H' : Hp) (v : V) (r : Re) : Prop where
  keep : ∀ a o, H a = some o → NoS src a → a ∉ fp → H' a = some o
  dom : ∀ a, H' a = none → H a = none
  sok : ∀ p c, src = some (p, c) → SrcOk H' p c
  ret : RetOk K M0 H H' v r
  rm : ∀ p as, fp = p :: as → Rm K (Fz H' (retAP M0 v r)) H' p as m
structure PreC (K : PySem.W.Frag) (M0 : AP) (src : Option (Addr × Addr)) (fp : List Addr) (m : MD) (H : Hp) (ks : List Kd) (vs : List V) (ds : List D) : Prop where
  mu : ∀ a, M0 a → MuO (H a)
  sok : ∀ p c, src = some (p, c) → p ≠ c ∧ M0 p ∧ M0 c ∧ SrcOk H p c
  args : ArgsOk K (Fz H M0) H src fp ks vs ds
  fpM : ∀ a ∈ fp, M0 a ∧ NoS src a
  fpn : fp.Nodup
  rm : ∀ p as, fp = p :: as → Rm K (Fz H M0) H p as m
theorem PreC.dom {K : PySem.W.Frag} {M0 : AP} {src : Option (Addr × Addr)} {fp : List Addr} {m : MD} {H : Hp} {ks : List Kd} {vs : List V} {ds : List D} (P : PreC K M0 src fp m H ks vs ds) (a : Addr) (e : H a = none) : ¬ M0 a := fun m => by
  have := P.mu a m
  rw [e] at this
  exact this
def spD (K : PySem.W.Frag) (ks : List Kd) (C : Con) : Sp := fun vs H Q _ => ∃ (M0 : AP) (src : Option (Addr × Addr)) (ds : List D), PreC K M0 src [] (.fl []) H ks vs ds ∧ ∃ Qc : Re → Prop, C ds Qc ∧ ∀ r, Qc r → ∀ v H', PostC K M0 src [] (.fl []) H H' v r → Q v H'
def spM (K : PySem.W.Frag) (ks : List Kd) (C : ConM) : Sp := fun vs H Q _ => ∃ (M0 : AP) (src : Option (Addr × Addr)) (fp : List Addr) (m : MD) (ds : List D), PreC K M0 src fp m H ks vs ds ∧ ∃ Qc : Re → MD → Prop, C ds m Qc ∧ ∀ r m', Qc r m' → ∀ v H', PostC K M0 src fp m' H H' v r → Q v H'
theorem ArgsOk.length {K : PySem.W.Frag} {F H : Hp} {src : Option (Addr × Addr)} {fp : List Addr} {ks : List Kd} {vs : List V} {ds : List D} (h : ArgsOk K F H src fp ks vs ds) : ks.length = vs.length ∧ vs.length = ds.length := by
  induction h with
  | nil => exact ⟨rfl, rfl⟩
  | cons _ _ ih => simp [ih.1, ih.2]
theorem ArgOk.mono {K : PySem.W.Frag} {F F' H : Hp} {src : Option (Addr × Addr)} {fp : List Addr} (e : Same F F') {k : Kd} {v : V} {d : D} (h : ArgOk K F H src fp k v d) : ArgOk K F' H src fp k v d := by
  cases k with
  | sh => exact Rp.mono e h
  | bo =>
    rcases h with h | ⟨a, e1, h, n⟩
    · exact .inl (h.mono e)
    · exact .inr ⟨a, e1, h.mono e fun _ h => h, n⟩
  | src => exact h
  | scr => exact h
  | mu => exact h
theorem ArgsOk.mono {K : PySem.W.Frag} {F F' H : Hp} {src : Option (Addr × Addr)} {fp : List Addr} (e : Same F F') {ks : List Kd} {vs : List V} {ds : List D} (h : ArgsOk K F H src fp ks vs ds) : ArgsOk K F' H src fp ks vs ds := by
  induction h with
  | nil => exact .nil
  | cons h _ ih => exact .cons (h.mono e) ih

/-! ### a call -/
def arg1 (ρ : Rho) : Kd → Rv → Option (D × Rho)
  | .sh, r => frz ρ r
  | .bo, .mr _ => none
  | .bo, .mi _ _ => none
  | .bo, r => match res ρ r with
    | some d => some (d, ρ)
    | none => none
  | .src, .src => some (.none, ρ)
  | .scr, .scr => some (.none, ρ)
  | .mu, .mr i => match ρ[i]? with
    | some (some (.mu _)) => some (.none, ρ)
    | _ => none
  | _, _ => none
def argA (ρ : Rho) : List Kd → List Rv → Option (List D × Rho)
  | [], [] => some ([], ρ)
  | k :: ks, r :: rs => match arg1 ρ k r with
    | some (d, ρ1) => match argA ρ1 ks rs with
      | some (ds, ρ2) => some (d :: ds, ρ2)
      | none => none
    | none => none
  | _, _ => none
def ofRe : Re → Rv
  | .fz d => .fz d
  | .nw d => .nw d
section
variable {f : Fr} {g g' : Gs} {σ : L2.St} {H H' : Hp} {ρ ρ' : Rho} {v : V} {r : Rv} {d : D} {p : Addr}
theorem Scr.sq (R : Rel f g σ H ρ) (h : Scr f v) : ∃ (a : Addr) (ns : List Int), v = .ref a ∧ SqL f.K H a (ns.map V.int) ∧ ns.length ≤ 63 := by
  obtain ⟨a, ns, e, h, hl⟩ := h
  refine ⟨a, ns, e, ?_, hl⟩
  rcases h with (h | ⟨o, h⟩) | h
  · exact .inl (.inl (R.keep a _ (of_fz h).1 (of_fz h).2))
  · exact .inl (.inr ⟨o, R.keep a _ (of_fz h).1 (of_fz h).2⟩)
  · exact .inr h
theorem NoSrc.mt {a : Addr} {o : HO} (R : Rel f g σ H ρ) (h : Fz f.H0 f.mt a = some o) : NoSrc g a := by
  obtain ⟨q1, q2⟩ := of_fz h
  refine ⟨fun p c e => ?_, fun z => ?_⟩
  · obtain ⟨_, _, _, h4, h5, _⟩ := R.src p c e
    refine ⟨?_, ?_⟩
    · rintro rfl
      rcases h4 with z | z
      · exact q2 z
      · rw [q1] at z; cases z
    · rintro rfl
      rcases h5 with z | z
      · exact q2 z
      · rw [q1] at z; cases z
  · rcases (R.fpM a z).2.1 with z | z
    · exact q2 z
    · rw [q1] at z; cases z
theorem Opd.arg (R : Rel f g σ H ρ) {fp : List Addr} (hfp : fp = [] ∨ fp = g.fp) {k : Kd} (hkm : k = .mu → fp = g.fp) (h : Opd f g σ H v r) (e : arg1 ρ k r = some (d, ρ')) : ∃ g', Rel f g' σ H ρ' ∧ Gro g H g' H ∧ g'.src = g.src ∧ ArgOk f.K (Fz H g'.M) H g'.src fp k v d := by
  have nf : ∀ {a : Addr}, NoSrc g a → a ∉ fp := fun n => by
    rcases hfp with rfl | rfl
    · exact List.not_mem_nil
    · exact n.2
  cases k with
  | sh =>
    obtain ⟨g1, R1, G1, s1, q⟩ := h.frzS R e
    exact ⟨g1, R1, G1, s1, q⟩
  | bo =>
    cases r with
    | mr _ => cases e
    | mi _ _ => cases e
    | src => cases e
    | scr => cases e
    | fz y => cases e; exact ⟨g, R, Gro.refl, rfl, .inl h⟩
    | nw y => cases e; exact ⟨g, R, Gro.refl, rfl, .inl h⟩
    | vr i =>
      have e : (match slD ρ[i]? with | some d => some (d, ρ) | none => none) = some (d, ρ') := e
      split at e
      · rename_i x e1
        cases e
        refine ⟨g, R, Gro.refl, rfl, ?_⟩
        have h' : σ[i]? = some (some v) := h
        unfold slD at e1
        split at e1
        · rename_i x e2
          cases e1
          obtain ⟨w, e3, q⟩ := R.slot i _ e2
          rw [h'] at e3; cases e3
          exact .inl q
        · rename_i x e2
          cases e1
          obtain ⟨w, e3, q⟩ := R.slot i _ e2
          rw [h'] at e3; cases e3
          rcases q with q | ⟨a, rfl, q⟩
          · exact .inl q
          · obtain ⟨o, q2⟩ := q.there
            exact .inr ⟨a, rfl, q.mono (Same.refl _) fun o e => R.keep a o (of_fz e).1 (of_fz e).2, (NoSrc.mt R q2).1, nf (NoSrc.mt R q2)⟩
        · rename_i x e2
          cases e1
          obtain ⟨w, e3, a, rfl, _, _, ns, q⟩ := R.slot i _ e2
          rw [h'] at e3; cases e3
          exact .inr ⟨a, rfl, q, ns.1, nf ns⟩
        · cases e1
      · cases e
  | src =>
    cases r with
    | src => cases e; exact ⟨g, R, Gro.refl, rfl, rfl, h⟩
    | _ => cases e
  | scr =>
    cases r with
    | scr =>
      cases e
      refine ⟨g, R, Gro.refl, rfl, rfl, ?_⟩
      obtain ⟨a, ns, e1, h1, hl⟩ := id h
      refine ⟨a, ns, e1, ?_, hl⟩
      have key : ∀ o, Fz f.H0 f.mt a = some o → Fz H (srcSet g.src fp) a = some o := fun o ho => fz_of (R.keep a o (of_fz ho).1 (of_fz ho).2) ((NoSrc.mt R ho).1.set (nf (NoSrc.mt R ho)))
      rcases h1 with (h1 | ⟨o, h1⟩) | h1
      · exact .inl (.inl (key _ h1))
      · exact .inl (.inr ⟨o, key _ h1⟩)
      · exact .inr h1
    | _ => cases e
  | mu =>
    cases r with
    | mr i =>
      have e : (match ρ[i]? with | some (some (.mu _)) => some (PyData.none, ρ) | _ => none) = some (d, ρ') := e
      split at e
      · rename_i m e1
        cases e
        obtain ⟨w, e2, p, as, e3, rfl, _⟩ := R.slot i _ e1
        have h' : σ[i]? = some (some v) := h
        rw [h'] at e2; cases e2
        exact ⟨g, R, Gro.refl, rfl, rfl, p, as, (hkm rfl).trans e3, rfl⟩
      · cases e
    | _ => cases e
theorem OpdA.arg {f : Fr} {σ : L2.St} {H : Hp} : ∀ {ks : List Kd} {rs : List Rv} {vs : List V} {g : Gs} {ρ ρ' : Rho} {ds : List D} {fp : List Addr}, (fp = [] ∨ fp = g.fp) → (Kd.mu ∈ ks → fp = g.fp) → Rel f g σ H ρ → OpdA f g σ H vs rs → argA ρ ks rs = some (ds, ρ') → ∃ g', Rel f g' σ H ρ' ∧ Gro g H g' H ∧ g'.src = g.src ∧ ArgsOk f.K (Fz H g'.M) H g.src fp ks vs ds := by
  intro ks
  induction ks with
  | nil =>
    intro rs vs g ρ ρ' ds fp hf1 hf2 R h e
    cases h with
    | nil => unfold argA at e; cases e; exact ⟨g, R, Gro.refl, rfl, .nil⟩
    | cons _ _ => unfold argA at e; cases e
  | cons k ks ih =>
    intro rs vs g ρ ρ' ds fp hf1 hf2 R h e
    cases h with
    | nil => unfold argA at e; cases e
    | cons h hr =>
      unfold argA at e
      split at e
      · rename_i d ρ1 e1
        split at e
        · rename_i ds ρ2 e2
          cases e
          obtain ⟨g1, R1, G1, s1, q1⟩ := h.arg R hf1 (fun z => hf2 (z ▸ List.mem_cons_self)) e1
          obtain ⟨g2, R2, G2, s2, q2⟩ := ih (by rw [G1.fp]; exact hf1) (fun z => by rw [G1.fp]; exact hf2 (List.mem_cons_of_mem _ z)) R1 (hr.mono G1) e2
          rw [s1] at q1 q2
          exact ⟨g2, R2, G1.trans G2, s2.trans s1, .cons (q1.mono G2.fz) q2⟩
        · cases e
      · cases e
/-- behind a call, with a new thing -/
theorem Rel.ownC (R : Rel f g σ H ρ) (hp : H p = none) (hk : ∀ a o, H a = some o → (∀ p c, g.src = some (p, c) → a ≠ p ∧ a ≠ c) → H' a = some o) (hd : ∀ a, H' a = none → H a = none) (hsrc : ∀ p c, g.src = some (p, c) → SrcOk H' p c)
    (hr : Rt f.K (Fz H' (g.add p).M) H' p d) : Rel f (g.add p) σ H' ρ ∧ Gro g H (g.add p) H' ∧ VR f (g.add p) σ H' ρ (.ref p) (.nw d) := by
  have nsM : ∀ a, ¬ g.M a → ∀ p c, g.src = some (p, c) → a ≠ p ∧ a ≠ c := fun a n p c e => ⟨fun q => n (q ▸ (R.src p c e).2.1), fun q => n (q ▸ (R.src p c e).2.2.1)⟩
  have hG : Same (Fz H g.M) (Fz H' (g.add p).M) := fz_mono fun a u e n => ⟨hk a u e (nsM a n), fun z => z.elim n fun q => by rw [q, hp] at e; cases e⟩
  have hns : NoSrc g p := ⟨nsM p (R.mH p hp), fun z => R.mH p hp (R.fpM p z).1⟩
  have hT : ∀ a ∈ g.T, H' a = H a := fun a h => by
    have hn := R.tmp a h
    cases e : H a with
    | none => exact absurd hn.1 (R.mH a e)
    | some o => exact hk a o e fun p c hp => hn.2.1.1 p c hp
  refine ⟨⟨fun a u e n => hk a u (R.keep a u e n) fun q c hq => ?_, fun a e => R.dom a (hd a e), fun a m => .inl (R.m0 a m), R.m00, fun a m => ?_, fun q c e => ?_, R.len, fun i s e => ?_, R.uq, fun a h => ⟨.inl (R.tmp a h).1, (R.tmp a h).2⟩, fun a h => ⟨.inl (R.fpM a h).1, (R.fpM a h).2⟩, R.fpn, R.mq⟩, ⟨hG, fun _ h => h, rfl, hT, rfl⟩, p, rfl, .inr rfl, R.dom p hp, hns, hr, fun h => R.mH p hp (R.tmp p h).1, fun i e h1 h2 => ?_⟩
  · obtain ⟨_, _, _, h4, h5, _⟩ := R.src q c hq
    refine ⟨?_, ?_⟩
    · rintro rfl
      rcases h4 with z | z
      · exact n z
      · rw [e] at z; cases z
    · rintro rfl
      rcases h5 with z | z
      · exact n z
      · rw [e] at z; cases z
  · rcases m with m | m
    · exact R.mu_step hk hsrc a m
    · rw [m]; exact hr.mu
  · obtain ⟨h1, h2, h3, h4, h5, h6⟩ := R.src q c e
    exact ⟨h1, .inl h2, .inl h3, h4, h5, hsrc q c e⟩
  · obtain ⟨v, e1, h⟩ := R.slot i s e
    refine ⟨v, e1, ?_⟩
    cases s with
    | sh d => exact Rp.mono hG h
    | bo d => exact BoV.mono hG h
    | ow d =>
      obtain ⟨a, e2, m, h0, ns, r⟩ := h
      exact ⟨a, e2, .inl m, h0, ns, r.mono hG fun o e => hk a o e ns.1⟩
    | src => exact h
    | scr => exact h
    | mu m =>
      obtain ⟨q, as, e2, e3, r⟩ := h
      exact ⟨q, as, e2, e3, r.mono hG fun b hb o' e' => hk b o' e' (R.fpM b (e2 ▸ hb)).2.2⟩
  · obtain ⟨v, e1, a, e2, m, h0, ns, r⟩ := R.slot i _ h1
    rw [e1] at h2
    cases h2
    cases e2
    obtain ⟨o', e3⟩ := r.there
    rw [hp] at e3; cases e3
/-- behind the call that makes the source -/
theorem Rel.mkSrc {c : Addr} (R : Rel f g σ H ρ) (hn : g.src = none) (hp : H p = none) (hc : H c = none) (hpc : p ≠ c) (hk : ∀ a o, H a = some o → H' a = some o) (hd : ∀ a, H' a = none → H a = none) (hs : SrcOk H' p c) :
    Rel f ⟨fun a => g.M a ∨ a = p ∨ a = c, some (p, c), g.T, g.fp⟩ σ H' ρ ∧ Gro g H ⟨fun a => g.M a ∨ a = p ∨ a = c, some (p, c), g.T, g.fp⟩ H' := by
  have hG : Same (Fz H g.M) (Fz H' (fun a => g.M a ∨ a = p ∨ a = c)) := fz_mono fun a u e n => ⟨hk a u e, fun z => z.elim n fun q => q.elim (fun q => by rw [q, hp] at e; cases e) fun q => by rw [q, hc] at e; cases e⟩
  have hT : ∀ a ∈ g.T, H' a = H a := fun a h => by
    have hn := R.tmp a h
    cases e : H a with
    | none => exact absurd hn.1 (R.mH a e)
    | some o => exact hk a o e
  obtain ⟨ns, l, m, t, more, s1, s2, s3⟩ := id hs
  refine ⟨⟨fun a u e n => hk a u (R.keep a u e n), fun a e => R.dom a (hd a e), fun a m => .inl (R.m0 a m), R.m00, fun a m => ?_, fun q d e => ?_, R.len, fun i s e => ?_, R.uq, fun a h => ⟨.inl (R.tmp a h).1, ⟨fun q d e => ?_, (R.tmp a h).2.1.2⟩, (R.tmp a h).2.2⟩, fun a h => ⟨.inl (R.fpM a h).1, (R.fpM a h).2.1, fun q d e => ?_⟩, R.fpn, R.mq⟩, ⟨hG, (fun pc h => by rw [hn] at h; cases h), rfl, hT, rfl⟩⟩
  · rcases m with m | m | m
    · have h := R.mU a m
      cases e : H a with
      | none => rw [e] at h; exact h.elim
      | some o => rw [hk a o e, ← e]; exact h
    · rw [m]; exact hs.mu.1
    · rw [m]; exact hs.mu.2
  · cases e
    exact ⟨hpc, .inr (.inl rfl), .inr (.inr rfl), .inr (R.dom p hp), .inr (R.dom c hc), hs⟩
  · obtain ⟨v, e1, h⟩ := R.slot i s e
    refine ⟨v, e1, ?_⟩
    cases s with
    | sh d => exact Rp.mono hG h
    | bo d => exact BoV.mono hG h
    | ow d =>
      obtain ⟨a, e2, m, h0, ns, r⟩ := h
      refine ⟨a, e2, .inl m, h0, ⟨fun q d e => ?_, ns.2⟩, r.mono hG fun o e => hk a o e⟩
      cases e
      obtain ⟨o', e3⟩ := r.there
      refine ⟨?_, ?_⟩
      · rintro rfl; rw [hp] at e3; cases e3
      · rintro rfl; rw [hc] at e3; cases e3
    | src =>
      obtain ⟨q, d, e, _⟩ := h
      rw [hn] at e; cases e
    | scr => exact h
    | mu m =>
      obtain ⟨q, as, e2, e3, r⟩ := h
      exact ⟨q, as, e2, e3, r.mono hG fun b hb o' e' => hk b o' e'⟩
  · cases e
    have := (R.tmp a h).1
    refine ⟨?_, ?_⟩
    · rintro rfl; exact R.mH _ hp this
    · rintro rfl; exact R.mH _ hc this
  · cases e
    have := (R.fpM a h).1
    refine ⟨?_, ?_⟩
    · rintro rfl; exact R.mH _ hp this
    · rintro rfl; exact R.mH _ hc this
theorem Rm.mu {K : PySem.W.Frag} {F H : Hp} {p : Addr} {as : List Addr} {m : MD} (h : Rm K F H p as m) : ∀ a ∈ p :: as, MuO (H a) := by
  have inn : ∀ {es : List (List D)}, RmA K F H as es → ∀ a ∈ as, MuO (H a) := fun h a ha => by
    obtain ⟨k, hk, e⟩ := List.getElem_of_mem ha
    obtain ⟨vs, h3, _⟩ := h.2 k a _ (by rw [List.getElem?_eq_getElem hk, e]) (List.getElem?_eq_getElem (h.1 ▸ hk))
    rw [h3]; trivial
  intro a ha
  rcases List.mem_cons.mp ha with rfl | ha
  · cases m with
    | fl ds => rw [h.2.choose_spec.1]; trivial
    | ll es => rw [h.1]; trivial
    | dl es => rw [h.1]; trivial
  · cases m with
    | fl ds => rw [h.1] at ha; cases ha
    | ll es => exact inn h.2 a ha
    | dl es => exact inn h.2 a ha
/-- a step that changes what is passed by reference, perhaps with a new thing -/
theorem Rel.stepG {M' : AP} {i : Nat} {m m' : MD} (R : Rel f g σ H ρ) (hM1 : ∀ a, g.M a → M' a) (hM2 : ∀ a, M' a → g.M a ∨ (H a = none ∧ MuO (H' a))) (hs0 : ρ[i]? = some (some (.mu m)))
    (hk : ∀ a o, H a = some o → NoS g.src a → a ∉ g.fp → H' a = some o) (hd : ∀ a, H' a = none → H a = none) (hsrc : ∀ p c, g.src = some (p, c) → SrcOk H' p c) (hrm : ∀ p as, g.fp = p :: as → Rm f.K (Fz H' M') H' p as m') :
    Rel f ⟨M', g.src, g.T, g.fp⟩ σ H' (ρ.set i (some (.mu m'))) ∧ Gro g H ⟨M', g.src, g.T, g.fp⟩ H' := by
  have nsM : ∀ a, ¬ g.M a → NoS g.src a ∧ a ∉ g.fp := fun a n => ⟨fun p c e => ⟨fun q => n (q ▸ (R.src p c e).2.1), fun q => n (q ▸ (R.src p c e).2.2.1)⟩, fun z => n (R.fpM a z).1⟩
  have hG : Same (Fz H g.M) (Fz H' M') := fz_mono fun a u e n => ⟨hk a u e (nsM a n).1 (nsM a n).2, fun z => (hM2 a z).elim n fun q => by rw [q.1] at e; cases e⟩
  have hT : ∀ a ∈ g.T, H' a = H a := fun a h => by
    have hn := R.tmp a h
    cases e : H a with
    | none => exact absurd hn.1 (R.mH a e)
    | some o => exact hk a o e hn.2.1.1 hn.2.1.2
  obtain ⟨w0, e0, p0, as0, f0, _, _⟩ := R.slot i _ hs0
  have hr0 := hrm p0 as0 f0
  have hi : i < ρ.length := (List.getElem?_eq_some_iff.mp hs0).1
  have ow : ∀ (j : Nat) (e : D), (ρ.set i (some (.mu m')))[j]? = some (some (.ow e)) → ρ[j]? = some (some (.ow e)) := fun j e h => by
    rcases getset h with ⟨_, z⟩ | ⟨_, z⟩
    · cases z
    · exact z
  refine ⟨⟨fun a u e n => hk a u (R.keep a u e n) (fun q c hq => ?_) (fun z => ?_), fun a e => R.dom a (hd a e), fun a m => hM1 a (R.m0 a m), R.m00, fun a z => ?_, fun q c e => ?_, by rw [List.length_set]; exact R.len, fun j s e => ?_, fun j k l d e h1 h2 => R.uq j k l d e (ow j d h1) (ow k e h2), fun a h => ⟨hM1 a (R.tmp a h).1, (R.tmp a h).2.1, fun j e h1 => (R.tmp a h).2.2 j e (ow j e h1)⟩, fun a h => ⟨hM1 a (R.fpM a h).1, (R.fpM a h).2⟩, R.fpn, fun j k d e h1 h2 => ?_⟩, ⟨hG, fun _ h => h, rfl, hT, rfl⟩⟩
  · obtain ⟨_, _, _, h4, h5, _⟩ := R.src q c hq
    refine ⟨?_, ?_⟩
    · rintro rfl
      rcases h4 with z | z
      · exact n z
      · rw [e] at z; cases z
    · rintro rfl
      rcases h5 with z | z
      · exact n z
      · rw [e] at z; cases z
  · rcases (R.fpM a z).2.1 with z | z
    · exact n z
    · rw [e] at z; cases z
  · rcases hM2 a z with z | z
    · by_cases q1 : a ∈ g.fp
      · exact hr0.mu a (f0 ▸ q1)
      · by_cases q : ∃ p c, g.src = some (p, c) ∧ (a = p ∨ a = c)
        · obtain ⟨p, c, e, q⟩ := q
          rcases q with rfl | rfl
          · exact (hsrc _ _ e).mu.1
          · exact (hsrc _ _ e).mu.2
        · have h := R.mU a z
          cases e : H a with
          | none => rw [e] at h; exact h.elim
          | some o =>
            rw [hk a o e (fun p c hp => ⟨fun z => q ⟨p, c, hp, .inl z⟩, fun z => q ⟨p, c, hp, .inr z⟩⟩) q1, ← e]
            exact h
    · exact z.2
  · obtain ⟨h1, h2, h3, h4, h5, h6⟩ := R.src q c e
    exact ⟨h1, hM1 _ h2, hM1 _ h3, h4, h5, hsrc q c e⟩
  · rcases getset e with ⟨rfl, z⟩ | ⟨ne, z⟩
    · cases z
      obtain ⟨w, e1, p, as, f1, e2, _⟩ := R.slot i _ hs0
      exact ⟨w, e1, p, as, f1, e2, hrm p as f1⟩
    · obtain ⟨v, e1, h⟩ := R.slot j s z
      refine ⟨v, e1, ?_⟩
      cases s with
      | sh d => exact Rp.mono hG h
      | bo d => exact BoV.mono hG h
      | ow d =>
        obtain ⟨a, e2, m, h0, ns, r⟩ := h
        exact ⟨a, e2, hM1 a m, h0, ns, r.mono hG fun o e => hk a o e ns.1 ns.2⟩
      | src => exact h
      | scr => exact h
      | mu m2 => exact absurd (R.mq i j _ _ hs0 z) ne
  · have mu : ∀ (j : Nat) (e : MD), (ρ.set i (some (.mu m')))[j]? = some (some (.mu e)) → j = i := fun j e h => by
      rcases getset h with ⟨z, _⟩ | ⟨ne, z⟩
      · exact z.symm
      · exact absurd (R.mq i j _ _ hs0 z) ne
    rw [mu j d h1, mu k e h2]
/-- a call's end, for the caller -/
theorem PostC.fin {re : Re} {v : V} {m : MD} (R : Rel f g σ H ρ) (P : PostC f.K g.M g.src [] m H H' v re) : ∃ g', Rel f g' σ H' ρ ∧ Gro g H g' H' ∧ VR f g' σ H' ρ v (ofRe re) := by
  have keep : ∀ a o, H a = some o → NoS g.src a → H' a = some o := fun a o e n => P.keep a o e n List.not_mem_nil
  cases re with
  | fz d =>
    obtain ⟨R1, G1⟩ := R.step (g' := g) (fun _ => Iff.rfl) rfl rfl keep P.dom P.sok
    exact ⟨g, R1, G1, P.ret⟩
  | nw d =>
    obtain ⟨a, rfl, hp, hr⟩ := P.ret
    obtain ⟨R1, G1, V1⟩ := R.ownC hp keep P.dom P.sok hr
    exact ⟨_, R1, G1, V1⟩
theorem PostC.finM {re : Re} {v : V} {i : Nat} {m m' : MD} (R : Rel f g σ H ρ) (hs0 : ρ[i]? = some (some (.mu m))) (P : PostC f.K g.M g.src g.fp m' H H' v re) : ∃ g', Rel f g' σ H' (ρ.set i (some (.mu m'))) ∧ Gro g H g' H' ∧ VR f g' σ H' (ρ.set i (some (.mu m'))) v (ofRe re) := by
  cases re with
  | fz d =>
    obtain ⟨R1, G1⟩ := R.stepG (M' := g.M) (fun _ h => h) (fun _ h => .inl h) hs0 P.keep P.dom P.sok P.rm
    exact ⟨_, R1, G1, P.ret⟩
  | nw d =>
    obtain ⟨a, rfl, hp, hr⟩ := P.ret
    have hn : ¬ g.M a := R.mH a hp
    have sub : ∀ q as, g.fp = q :: as → Rm f.K (Fz H' (fun b => g.M b ∨ b = a)) H' q as m' := fun q as e =>
      Rm.mono (fz_mono fun b o e n => ⟨e, fun z => n (z.imp id fun z => by rw [z])⟩) (fun _ _ _ h => h) (P.rm q as e)
    obtain ⟨R1, G1⟩ := R.stepG (M' := fun b => g.M b ∨ b = a) (fun _ h => .inl h) (fun b h => h.imp id fun (z : b = a) => by rw [z]; exact ⟨hp, hr.mu⟩) hs0 P.keep P.dom P.sok sub
    refine ⟨_, R1, G1, a, rfl, .inr rfl, R.dom a hp, ⟨fun p c e => ⟨fun z => hn (z ▸ (R.src p c e).2.1), fun z => hn (z ▸ (R.src p c e).2.2.1)⟩, fun z => hn (R.fpM a z).1⟩, hr, fun h => hn (R.tmp a h).1, fun j e h1 h2 => ?_⟩
    rcases getset h1 with ⟨_, z⟩ | ⟨_, z⟩
    · cases z
    obtain ⟨w, e1, b, e2, _, _, _, r⟩ := R.slot j _ z
    rw [e1] at h2
    cases h2
    cases e2
    obtain ⟨o', e3⟩ := r.there
    rw [hp] at e3; cases e3
end
def dCall (ks : List Kd) (C : Con) (da : DA) : DE := fun ρ Q => da ρ fun rs ρ1 => wFA (argA ρ1 ks rs) fun ds ρ2 => C ds fun re => Q (ofRe re) ρ2
def noMu (ks : List Kd) : Bool := ks.all fun k => match k with | .mu => false | _ => true
theorem le_call {K : PySem.W.Frag} {ks : List Kd} {C : Con} {E : XK} {tr : TA} {dr : DA} (h : LA K tr dr) (hk : noMu ks = true := by rfl) : LE K (tCall (spD K ks C) [] E tr) (dCall ks C dr) := by
  intro f g σ H ρ Q R hK hR hd k
  refine h f g σ H ρ _ _ hK hR hd fun vs H1 g1 ρ1 rs R1 G1 O1 q1 => ?_
  obtain ⟨ds, ρ2, e1, q1⟩ := wFA_some q1
  obtain ⟨g2, R2, G2, s2, A⟩ := O1.arg (fp := []) (.inl rfl) (fun z => by
    have := List.all_eq_true.mp hk _ z
    cases this) R1 e1
  subst hK
  rw [List.append_nil]
  refine ⟨g2.M, g2.src, ds, ⟨fun a m => R2.mU a m, fun p c e => ?_, by rw [s2]; exact A, (fun _ h => nomatch h), List.nodup_nil, (fun _ _ h => nomatch h)⟩, ?_⟩
  · obtain ⟨h1, h2, h3, _, _, h6⟩ := R2.src p c e
    exact ⟨h1, h2, h3, h6⟩
  · refine ⟨_, q1, fun re q v H' P => ?_⟩
    obtain ⟨g3, R3, G3, V3⟩ := P.fin R2
    exact k v H' g3 ρ2 _ R3 ((G1.trans G2).trans G3) V3 q
/-- .. that changes what is passed by reference -/
def muIx : List Rv → Option Nat
  | [] => none
  | .mr i :: _ => some i
  | _ :: rs => muIx rs
def dCallM (ks : List Kd) (C : ConM) (da : DA) : DE := fun ρ Q => da ρ fun rs ρ1 => wFA (argA ρ1 ks rs) fun ds ρ2 => ∃ i m, muIx rs = some i ∧ ρ2[i]? = some (some (.mu m)) ∧ C ds m fun re m' => Q (ofRe re) (ρ2.set i (some (.mu m')))
theorem le_callM {K : PySem.W.Frag} {ks : List Kd} {C : ConM} {E : XK} {tr : TA} {dr : DA} (h : LA K tr dr) : LE K (tCall (spM K ks C) [] E tr) (dCallM ks C dr) := by
  intro f g σ H ρ Q R hK hR hd k
  refine h f g σ H ρ _ _ hK hR hd fun vs H1 g1 ρ1 rs R1 G1 O1 q1 => ?_
  obtain ⟨ds, ρ2, e1, q1⟩ := wFA_some q1
  obtain ⟨i, m, _, hm, q1⟩ := q1
  obtain ⟨g2, R2, G2, s2, A⟩ := O1.arg (fp := g1.fp) (.inr rfl) (fun _ => rfl) R1 e1
  subst hK
  rw [List.append_nil]
  refine ⟨g2.M, g2.src, g2.fp, m, ds, ⟨fun a m => R2.mU a m, fun p c e => ?_, by rw [s2, G2.fp]; exact A, fun a h => ⟨(R2.fpM a h).1, (R2.fpM a h).2.2⟩, R2.fpn, fun p as e => ?_⟩, ?_⟩
  · obtain ⟨h1, h2, h3, _, _, h6⟩ := R2.src p c e
    exact ⟨h1, h2, h3, h6⟩
  · obtain ⟨w, _, q, as', e2, _, h⟩ := R2.slot i _ hm
    rw [e] at e2; cases e2
    exact h
  · refine ⟨_, q1, fun re m' q v H' P => ?_⟩
    obtain ⟨g3, R3, G3, V3⟩ := P.finM R2 hm
    exact k v H' g3 _ _ R3 ((G1.trans G2).trans G3) V3 q

/-! ### a def -/
def slot0 (m : MD) : Kd → D → Option Sl
  | .sh, d => some (.sh d)
  | .bo, d => some (.bo d)
  | .src, _ => some .src
  | .scr, _ => some .scr
  | .mu, _ => some (.mu m)
def slots0 (m : MD) : List Kd → List D → Rho
  | k :: ks, d :: ds => slot0 m k d :: slots0 m ks ds
  | _, _ => []
def startM (n : Nat) (m : MD) (ks : List Kd) (ds : List D) : Rho := slots0 m ks ds ++ List.replicate (n - ds.length) none
def startR (n : Nat) (ks : List Kd) (ds : List D) : Rho := startM n (.fl []) ks ds
def retS (Qc : Re → Prop) : Option (Option Sl) → Prop
  | some (some (.sh d)) => Qc (.fz d)
  | some (some (.ow d)) => Qc (.nw d)
  | some (some (.bo d)) => flatD d = true ∧ Qc (.fz d)
  | _ => False
def retC (Qc : Re → Prop) : Rv → Rho → Prop
  | .fz d, _ => Qc (.fz d)
  | .nw d, _ => Qc (.nw d)
  | .vr i, ρ => retS Qc ρ[i]?
  | _, _ => False
/-- .. with what is passed by reference -/
def retM (im : Nat) (Qc : Re → MD → Prop) : Rv → Rho → Prop := fun r ρ => ∃ m, ρ[im]? = some (some (.mu m)) ∧ retC (fun re => Qc re m) r ρ
section
variable {K : PySem.W.Frag} {F H : Hp} {M0 : AP} {src : Option (Addr × Addr)} {fp : List Addr} {m : MD} {ks : List Kd} {vs : List V} {ds : List D}
theorem slots0_get (h : ArgsOk K F H src fp ks vs ds) : ∀ {i : Nat} {s : Sl}, (slots0 m ks ds)[i]? = some (some s) → ∃ k v d, vs[i]? = some v ∧ ks[i]? = some k ∧ ArgOk K F H src fp k v d ∧ slot0 m k d = some s := by
  induction h with
  | nil => intro i s e; simp [slots0] at e
  | cons h _ ih =>
    intro i s e
    cases i with
    | zero => simp [slots0] at e; exact ⟨_, _, _, rfl, rfl, h, e⟩
    | succ i =>
      obtain ⟨k, v, d, e1, e0, e2, e3⟩ := ih (i := i) (s := s) (by simpa [slots0] using e)
      exact ⟨k, v, d, by simpa using e1, by simpa using e0, e2, e3⟩
theorem slots0_length (h : ArgsOk K F H src fp ks vs ds) : (slots0 m ks ds).length = ds.length := by
  induction h with
  | nil => rfl
  | cons _ _ ih => simp [slots0, ih]
/-- at most one is passed by reference -/
def oneMu : List Kd → Bool
  | [] => true
  | .mu :: ks => noMu ks
  | .sh :: ks => oneMu ks
  | .bo :: ks => oneMu ks
  | .src :: ks => oneMu ks
  | .scr :: ks => oneMu ks
theorem noMu_nm {ks : List Kd} (h : noMu ks = true) (l : Nat) : ks[l]? ≠ some .mu := fun e => by
  have := List.all_eq_true.mp h _ (List.mem_of_getElem? e)
  cases this
theorem oneMu_eq : ∀ {ks : List Kd}, oneMu ks = true → ∀ {i j : Nat}, ks[i]? = some .mu → ks[j]? = some .mu → i = j := by
  intro ks
  induction ks with
  | nil => intro _ i j h; simp at h
  | cons k ks ih =>
    intro h i j hi hj
    have step : oneMu ks = true → k ≠ .mu → i = j := fun h hk => by
      cases i with
      | zero => simp at hi; exact absurd hi hk
      | succ i => cases j with
        | zero => simp at hj; exact absurd hj hk
        | succ j => exact congrArg (· + 1) (ih h (i := i) (j := j) (by simpa using hi) (by simpa using hj))
    cases k with
    | mu =>
      have h : noMu ks = true := h
      cases i with
      | zero => cases j with
        | zero => rfl
        | succ j => exact absurd (by simpa using hj) (noMu_nm h j)
      | succ i => exact absurd (by simpa using hi) (noMu_nm h i)
    | sh => exact step h (fun z => nomatch z)
    | bo => exact step h (fun z => nomatch z)
    | src => exact step h (fun z => nomatch z)
    | scr => exact step h (fun z => nomatch z)
theorem rel_start {N : List Str} (P : PreC K M0 src fp m H ks vs ds) (h1m : oneMu ks = true) :
    Rel ⟨K, H, M0, srcSet src fp⟩ ⟨M0, src, [], fp⟩ (L2.start N vs) H (startM N.length m ks ds) := by
  have hl := P.args.length
  have hl2 := slots0_length (m := m) P.args
  have hslot : ∀ (i : Nat) (s : Sl), (startM N.length m ks ds)[i]? = some (some s) → ∃ k v d, (L2.start N vs)[i]? = some (some v) ∧ ks[i]? = some k ∧ ArgOk K (Fz H M0) H src fp k v d ∧ slot0 m k d = some s := fun i s e => by
    unfold startM at e
    by_cases hi : i < (slots0 m ks ds).length
    · rw [List.getElem?_append_left hi] at e
      obtain ⟨k, v, d, e1, e0, e2, e3⟩ := slots0_get P.args e
      refine ⟨k, v, d, ?_, e0, e2, e3⟩
      unfold L2.start
      rw [List.getElem?_append_left (by rw [List.length_map]; omega), List.getElem?_map, e1]
      rfl
    · rw [List.getElem?_append_right (by omega)] at e
      rw [List.getElem?_replicate] at e
      split at e <;> cases e
  have isMu : ∀ (i : Nat) (d : MD), (startM N.length m ks ds)[i]? = some (some (.mu d)) → ks[i]? = some .mu := fun i d h => by
    obtain ⟨k, v, d, _, e0, _, e3⟩ := hslot i _ h
    cases k <;> first | exact e0 | cases e3
  refine ⟨fun a o e _ => e, fun a e => e, fun a m => m, fun a m e => P.dom a e m, fun a m => P.mu a m, fun p c e => ?_, ?_, fun i s e => ?_, fun i j l d e h1 _ _ _ => ?_, (fun a h => nomatch h), fun a h => ⟨(P.fpM a h).1, .inl (.inr h), (P.fpM a h).2⟩, P.fpn, fun i j d e h1 h2 => oneMu_eq h1m (isMu i d h1) (isMu j e h2)⟩
  · obtain ⟨h1, h2, h3, h4⟩ := P.sok p c e
    exact ⟨h1, h2, h3, .inl (.inl ⟨p, c, e, .inl rfl⟩), .inl (.inl ⟨p, c, e, .inr rfl⟩), h4⟩
  · unfold startM L2.start
    rw [List.length_append, List.length_append, List.length_replicate, List.length_replicate, List.length_map]
    omega
  · obtain ⟨k, v, d, e1, _, e2, e3⟩ := hslot i s e
    refine ⟨v, e1, ?_⟩
    cases k with
    | sh => cases e3; exact e2
    | bo =>
      cases e3
      rcases e2 with h | ⟨a, rfl, h, n⟩
      · exact .inl h
      · exact .inr ⟨a, rfl, h.mono (Same.refl _) fun o e => fz_of e (n.1.set n.2)⟩
    | src => cases e3; exact e2.2
    | scr => cases e3; exact e2.2
    | mu =>
      cases e3
      obtain ⟨_, p, as, e4, e5⟩ := e2
      exact ⟨p, as, e4, e5, P.rm p as e4⟩
  · obtain ⟨k, v, d, _, _, _, e3⟩ := hslot i _ h1
    cases k <;> cases e3
/-- the end of a def -/
theorem ret_end {g' : Gs} {σ' : L2.St} {H' : Hp} {ρ' : Rho} {v : V} {r : Rv} {Qc : Re → Prop} {Q : V → Hp → Prop}
    (R : Rel ⟨K, H, M0, srcSet src fp⟩ g' σ' H' ρ') (hs : ∀ pc, src = some pc → g'.src = some pc) (V : VR ⟨K, H, M0, srcSet src fp⟩ g' σ' H' ρ' v r) (q : retC Qc r ρ')
    (hrm : ∀ p as, fp = p :: as → Rm K (Fz H' g'.M) H' p as m) (hQ : ∀ re, Qc re → ∀ v H', PostC K M0 src fp m H H' v re → Q v H') : Q v H' := by
  have keep : ∀ a o, H a = some o → NoS src a → a ∉ fp → H' a = some o := fun a o e n n' => R.keep a o e (n.set n')
  have sok : ∀ p c, src = some (p, c) → SrcOk H' p c := fun p c e => (R.src p c (hs _ e)).2.2.2.2.2
  have sub : Same (Fz H' g'.M) (Fz H' M0) := fz_mono fun a o e n => ⟨e, fun m => n (R.m0 a m)⟩
  have subA : ∀ a, g'.M a → Same (Fz H' g'.M) (Fz H' (fun b => M0 b ∨ b = a)) := fun a m => fz_mono fun b o e n => ⟨e, fun z => z.elim (fun z => n (R.m0 b z)) fun z => n (z ▸ m)⟩
  have own : ∀ a d, H a = none → g'.M a → Rt K (Fz H' g'.M) H' a d → RetOk K M0 H H' (.ref a) (.nw d) := fun a d h0 m r => ⟨a, rfl, h0, r.mono (subA a m) fun _ h => h⟩
  have rmF : ∀ w d, ∀ p as, fp = p :: as → Rm K (Fz H' (retAP M0 w (.fz d))) H' p as m := fun w d p as e => Rm.mono sub (fun _ _ _ h => h) (hrm p as e)
  have rmN : ∀ a d, g'.M a → ∀ p as, fp = p :: as → Rm K (Fz H' (retAP M0 (.ref a) (.nw d))) H' p as m := fun a d ma p as e =>
    Rm.mono ((subA a ma).trans (fz_mono fun b o e n => ⟨e, fun z => n (z.imp id fun z => (L2.V.ref.inj z).symm)⟩)) (fun _ _ _ h => h) (hrm p as e)
  cases r with
  | fz d => exact hQ _ q v H' ⟨keep, R.dom, sok, Rp.mono sub V, rmF v d⟩
  | nw d =>
    obtain ⟨a, rfl, m, h0, _, r, _⟩ := V
    exact hQ _ q _ H' ⟨keep, R.dom, sok, own a d h0 m r, rmN a d m⟩
  | vr i =>
    obtain ⟨s, e0, _, e1⟩ := V
    have q : retS Qc ρ'[i]? := q
    obtain ⟨w, e2, h⟩ := R.slot i s e0
    rw [e1] at e2; cases e2
    rw [e0] at q
    cases s with
    | sh d => exact hQ _ q v H' ⟨keep, R.dom, sok, Rp.mono sub h, rmF v d⟩
    | ow d =>
      obtain ⟨a, rfl, m, h0, _, r⟩ := h
      exact hQ _ q _ H' ⟨keep, R.dom, sok, own a d h0 m r, rmN a d m⟩
    | bo d => exact hQ _ q.2 v H' ⟨keep, R.dom, sok, Rp.mono sub (BoV.flat h q.1), rmF v d⟩
    | src => exact q.elim
    | scr => exact q.elim
    | mu _ => exact q.elim
  | src => exact q.elim
  | scr => exact q.elim
  | mr _ => exact q.elim
  | mi _ _ => exact q.elim
end
theorem oneMu_of {ks : List Kd} (h : noMu ks = true) : oneMu ks = true := by
  induction ks with
  | nil => rfl
  | cons k ks ih =>
    have h2 : noMu ks = true := (Bool.and_eq_true_iff.mp h).2
    cases k with
    | mu => exact absurd rfl (noMu_nm h 0)
    | sh => exact ih h2
    | bo => exact ih h2
    | src => exact ih h2
    | scr => exact ih h2
/-- a def by its data reading -/
theorem def_end {K : PySem.W.Frag} {ks : List Kd} {C : Con} {N : List Str} {t : TS} {d : DS} {vs : List V} {H : Hp} {Q : VK} {E : XK} (h : spD K ks C vs H Q E) (hk : noMu ks = true) (hl : LS K t d)
    (hd : ∀ ds Qc, C ds Qc → d { nx := fun _ => Qc (.fz .none), rt := retC Qc } (startR N.length ks ds)) : t { nx := fun _ H' => Q .non H', rt := Q } (L2.start N vs) H := by
  obtain ⟨M0, src, ds, P, Qc, hC, hQ⟩ := h
  refine hl ⟨K, H, M0, srcSet src []⟩ ⟨M0, src, [], []⟩ (L2.start N vs) H _ _ _ rfl (rel_start P (oneMu_of hk)) (hd ds _ hC) ⟨fun g' σ' H' ρ' R' G' q => ?_, fun g' σ' H' ρ' v r R' G' V' q => ret_end R' G'.src V' q (fun _ _ h => nomatch h) hQ, fun _ _ _ _ _ _ q => q.elim, fun _ _ _ _ _ _ q => q.elim⟩
  exact ret_end (r := .fz .none) R' G'.src Rp.non (Qc := Qc) q (fun _ _ h => nomatch h) hQ
theorem def_endM {K : PySem.W.Frag} {ks : List Kd} {C : ConM} {N : List Str} {t : TS} {d : DS} {vs : List V} {H : Hp} {Q : VK} {E : XK} (im : Nat) (h : spM K ks C vs H Q E) (hk : oneMu ks = true) (hl : LS K t d)
    (hd : ∀ ds m Qc, C ds m Qc → d { nx := fun ρ => ∃ m', ρ[im]? = some (some (.mu m')) ∧ Qc (.fz .none) m', rt := retM im Qc } (startM N.length m ks ds)) : t { nx := fun _ H' => Q .non H', rt := Q } (L2.start N vs) H := by
  obtain ⟨M0, src, fp, m, ds, P, Qc, hC, hQ⟩ := h
  have rd : ∀ (g' : Gs) (σ' : L2.St) (H' : Hp) (ρ' : Rho) (m' : MD), Rel ⟨K, H, M0, srcSet src fp⟩ g' σ' H' ρ' → g'.fp = fp → ρ'[im]? = some (some (.mu m')) → ∀ p as, fp = p :: as → Rm K (Fz H' g'.M) H' p as m' := fun g' σ' H' ρ' m' R e h p as e2 => by
    obtain ⟨w, _, q, as', e3, _, h⟩ := R.slot im _ h
    rw [e, e2] at e3; cases e3
    exact h
  refine hl ⟨K, H, M0, srcSet src fp⟩ ⟨M0, src, [], fp⟩ (L2.start N vs) H _ _ _ rfl (rel_start P hk) (hd ds m _ hC) ⟨fun g' σ' H' ρ' R' G' q => ?_, fun g' σ' H' ρ' v r R' G' V' q => ?_, fun _ _ _ _ _ _ q => q.elim, fun _ _ _ _ _ _ q => q.elim⟩
  · obtain ⟨m', h1, q⟩ := q
    exact ret_end (r := .fz .none) R' G'.src Rp.non (Qc := fun re => Qc re m') q (rd g' σ' H' ρ' m' R' G'.fp h1) (fun re hq => hQ re m' hq)
  · obtain ⟨m', h1, q⟩ := q
    exact ret_end R' G'.src V' (Qc := fun re => Qc re m') q (rd g' σ' H' ρ' m' R' G'.fp h1) (fun re hq => hQ re m' hq)
end DL

set_option Elab.async false
set_option linter.all false
set_option maxRecDepth 100000
set_option maxHeartbeats 4000000
namespace DL
open PySem L2 PySem.Spec PyProof.Rows

/-! ### defs that run where no repr is under way -/
structure FnG (P : Program) (w : World) (K : PySem.W.Frag) (mg : Str → Option Value) (base : Heap) (CX : CXT) (k : Nat) (f : Addr) (fd : FuncData) (ps : List Str) (sp : Sp) : Prop where
  len : ∀ vs H Q E, sp vs H Q E → vs.length = ps.length
  go : ∀ (A : Around), A.guards = some [] → Room k A → ∀ (outer : List Env) (s : Shared) (H : Hp), Env0 P w K mg base A outer s H → ∀ (args : Args) (us : List Value) (vs : List V) (Q : VK) (E : XK),
    BindsTo s fd args (ps.zip us) → Vals vs us → sp vs H Q E → codeAny (model P w) A (.call (.ref f) args) (CR CX outer P w H s Q E) s
section
variable {P : Program} {w : World} {K : PySem.W.Frag} {mg : Str → Option Value} {base : Heap} {CX : CXT}
/-- by its body -/
theorem fnG_of {k : Nat} {f : Addr} {x qual : Str} {st : Stmt} {fd : FuncData} {N ps : List Str} {sp : Sp} (F : C8.Fun K x qual st f fd) (S : FnScope N ps (C8.fnScope st)) (len : ∀ vs H Q E, sp vs H Q E → vs.length = ps.length)
    (hb : ∀ (cdv : Value) (A : Around) (outer : List Env) (s : Shared) (H : Hp) (vs : List V) (Q : VK) (E : XK), (A.deeper (envOfC qual (C8.fnScope st) s.heap.objs.size f cdv)).guards = some [] →
      Room k (A.deeper (envOfC qual (C8.fnScope st) s.heap.objs.size f cdv)) → sp vs H Q E →
      ∃ t, PSs (cxOf CX P w K mg base N qual (C8.fnScope st) f cdv A outer s H E) (C8.fnBody st) t ∧ t { nx := fun _ H' => Q .non H', rt := Q } (L2.start N vs) H) : FnG P w K mg base CX (k + 1) f fd ps sp := by
  obtain ⟨oc, od, dV, kV, doc, pm, an, cdv, ct, osl, rfl, lk, hcd⟩ := F.ex
  refine ⟨len, fun A hg hr outer s H e0 args us vs Q E hbd r hsp => ?_⟩
  have KX : K.In s.heap := e0.mod.kin.keeps fun b o e => (e0.bs b o e).1
  have hk : ∀ y ∈ ps.zip us, (C8.fnScope st).names.lookup y.1 = some .local ∨ ((C8.fnScope st).names.lookup y.1 = some .cell ∧ ((cellsFrom (s.heap.objs.size + 1) (C8.fnScope st).names []).lookup y.1).isSome = true) := by
    rintro ⟨n, v⟩ hy
    rcases S.par n (List.of_mem_zip hy).1 with q | q
    · left; exact q
    · right; exact ⟨q, PySem.W.cellsFrom_some _ _ _ (.inl q)⟩
  refine codeAny_call_function hr.depth (KX _ _ lk) rfl S.co S.gen rfl (PySem.W.codeRec_of KX hcd) (hbd _ _ _ _ (wpAny_newFunctionEnv_cells S.kind hk ?_))
  intro env he s1 x'
  subst he
  obtain ⟨t, ht, hq⟩ := hb cdv A outer s H vs Q E hg (hr.deeper _) hsp
  refine ⟨(e0.mod.nolimit.keeps fun b o e => (e0.bs b o e).1).keeps x'.toInCall.keep, codeAny_func ?_⟩
  have I := inv_start S hr.hd e0 (len _ _ _ _ hsp) r x' (CX := CX) (E := E) (qual := qual) (cd := cdv) (f := f)
  refine wpAny_mono (ht.run [] s1 (L2.start N vs) H _ I hq) (fun fl s' hs => ?_) (fun e s' hs => hs)
  cases fl with
  | ret u => obtain ⟨v, σ', H', J, rv, q⟩ := hs; exact ⟨v, H', J.os, J.bare, J.base, J.hok, rv, q⟩
  | next => obtain ⟨σ', H', J, q⟩ := hs; exact ⟨V.non, H', J.os, J.bare, J.base, J.hok, rfl, q⟩
  | brk => obtain ⟨_, _, _, q⟩ := hs; exact q.elim
  | cont => obtain ⟨_, _, _, q⟩ := hs; exact q.elim
/-- a def that may be called by its name -/
structure CalG (P : Program) (w : World) (K : PySem.W.Frag) (mg : Str → Option Value) (base : Heap) (k : Nat) (x : Str) (sp : Sp) : Prop where
  ex : ∃ (f : Addr) (fd : FuncData) (ps : List Str), FnG P w K mg base C8.CX0 k f fd ps sp ∧ mg x = some (.ref f) ∧ PySem.W.keepIn K (.ref f) = true ∧ Binds K fd ps []
theorem CalG.mono {j k : Nat} {x : Str} {sp : Sp} (c : CalG P w K mg base j x sp) (h : j ≤ k) : CalG P w K mg base k x sp := by
  obtain ⟨f, fd, ps, F, a, b, d⟩ := c.ex
  exact ⟨f, fd, ps, ⟨F.len, fun A hg hr => F.go A hg (hr.mono h)⟩, a, b, d⟩
/-- a def by the link of its body -/
theorem calG {x : Str} {st : Stmt} {f : Addr} {fd : FuncData} {N ps : List Str} {k : Nat} {ks : List Kd} {C : Con} (F : C8.Def K mg x st f fd) (b : Binds K fd ps []) (S : FnScope N ps (C8.fnScope st)) (hl : ks.length = ps.length)
    (hb : ∀ (cdv : Value) (A : Around) (outer : List Env) (s : Shared) (H : Hp) (E : XK), (A.deeper (envOfC x (C8.fnScope st) s.heap.objs.size f cdv)).guards = some [] → Room k (A.deeper (envOfC x (C8.fnScope st) s.heap.objs.size f cdv)) →
      ∃ t d, PSs (cxOf C8.CX0 P w K mg base N x (C8.fnScope st) f cdv A outer s H E).nox (C8.fnBody st) t ∧ LS K t d ∧ ∀ ds Qc, C ds Qc → d { nx := fun _ => Qc (.fz .none), rt := retC Qc } (startR N.length ks ds)) (hk : noMu ks = true := by rfl) :
    CalG P w K mg base (k + 1) x (spD K ks C) := by
  refine ⟨f, fd, ps, fnG_of F.fn S (fun vs H Q E h => ?_) (fun cdv A outer s H vs Q E hg hr h => ?_), F.mgf, F.kp, b⟩
  · obtain ⟨M0, src, ds, P, _⟩ := h
    rw [← hl, P.args.length.1]
  · obtain ⟨t, d, h1, h2, h3⟩ := hb cdv A outer s H E hg hr
    exact ⟨t, h1.nox, def_end h hk h2 h3⟩
/-- .. that changes what is passed by reference -/
theorem calGM (im : Nat) {x : Str} {st : Stmt} {f : Addr} {fd : FuncData} {N ps : List Str} {k : Nat} {ks : List Kd} {C : ConM} (F : C8.Def K mg x st f fd) (b : Binds K fd ps []) (S : FnScope N ps (C8.fnScope st)) (hl : ks.length = ps.length)
    (hb : ∀ (cdv : Value) (A : Around) (outer : List Env) (s : Shared) (H : Hp) (E : XK), (A.deeper (envOfC x (C8.fnScope st) s.heap.objs.size f cdv)).guards = some [] → Room k (A.deeper (envOfC x (C8.fnScope st) s.heap.objs.size f cdv)) →
      ∃ t d, PSs (cxOf C8.CX0 P w K mg base N x (C8.fnScope st) f cdv A outer s H E).nox (C8.fnBody st) t ∧ LS K t d ∧ ∀ ds m Qc, C ds m Qc → d { nx := fun ρ => ∃ m', ρ[im]? = some (some (.mu m')) ∧ Qc (.fz .none) m', rt := retM im Qc } (startM N.length m ks ds)) (hk : oneMu ks = true := by rfl) :
    CalG P w K mg base (k + 1) x (spM K ks C) := by
  refine ⟨f, fd, ps, fnG_of F.fn S (fun vs H Q E h => ?_) (fun cdv A outer s H vs Q E hg hr h => ?_), F.mgf, F.kp, b⟩
  · obtain ⟨M0, src, fp, m, ds, P, _⟩ := h
    rw [← hl, P.args.length.1]
  · obtain ⟨t, d, h1, h2, h3⟩ := hb cdv A outer s H E hg hr
    exact ⟨t, h1.nox, def_endM im h hk h2 h3⟩
end
section
variable {X : Cx} {k j : Nat} {x : Str} {sp : Sp} {p pos : Pos} {e : Expr} {es : List Expr} {t : TA}
theorem pe_cG (c : CalG X.prog X.w X.K X.mg X.base k x sp) (hA : X.A.guards = some []) (hr : Room j X.A) (hk : k ≤ j) (hg : Gl X x) (ha : PA X (e :: es) t)
    (hdb : (x == ("__debug__" : Str)) = false := by decide) (he : starEach (e :: es) X.env = (false, eval e X.env) :: starEach es X.env := by rfl) (hpl : (backTo pos (starEach es X.env)).any (·.1) = false := by rfl) :
    PE X (.Call (.Name x p) (e :: es) [] pos) (tCall sp [] C8.E0 t) := by
  obtain ⟨f, fd, ps, F, hm, kp, b⟩ := c.ex
  constructor
  intro pins s σ H Q I h
  refine wpAny_Call_Name_kw (ld_glob I hg hm (PySem.W.callWith_K (h₀ := X.base) I.ok.mod.kin kp (thn (ha.run pos pins s σ H _ I h) ?_) he hpl) hdb)
  rintro us s1 ⟨vs, H1, I1, r, q⟩
  refine ⟨I1.kIn, ?_⟩
  rw [List.append_nil] at q
  have hl : (us ++ []).length = ps.length := by rw [List.append_nil, ← r.length]; exact F.len _ _ _ _ q
  have hb := b s1 us I1.kIn hl
  rw [List.append_nil] at hb
  refine wpAny_call (codeAny_mono (F.go X.A hA (hr.mono hk) X.stack s1 H1 I1.env0 ⟨us, []⟩ us vs Q C8.E0 hb r q) ?_)
  intro rr s' hq
  cases rr with
  | error e => exact hq.elim
  | ok fl =>
    cases fl with
    | ret u => exact I1.after hq
    | next => exact False.elim hq
    | brk => exact False.elim hq
    | cont => exact False.elim hq
end
/-! ### repr of data -/
section
variable {X : Cx} {pins : List (Addr × Obj)} {σ : L2.St} {H : Hp} {s : Shared}
/-- no dict in it -/
def noDict : D → Bool := fun d => !d.hasDict
mutual
theorem Rp.dp {K : PySem.W.Frag} {F : Hp} : ∀ {v : V} {d : D}, Rp K F v d → d.hasDict = false → Dp K F v d
  | _, _, .non, _ => .non
  | _, _, .bl b, _ => .bl b
  | _, _, .int b, _ => .int b
  | _, _, .str b, _ => .str b
  | _, _, .lst h r, e => .lst (.inl (.inl h)) (RpA.dp r (by simpa [PyData.hasDict] using e))
  | _, _, .tup h r, e => .tup (.inl (.inl h)) (RpA.dp r (by simpa [PyData.hasDict] using e))
  | _, _, .dic h r, e => by simp [PyData.hasDict] at e
  | _, _, .dct h r, e => by simp [PyData.hasDict] at e
theorem RpA.dp {K : PySem.W.Frag} {F : Hp} : ∀ {v : List V} {d : List D}, RpA K F v d → PyData.hasDictAll d = false → DpAll K F v d
  | _, _, .nil, _ => .nil
  | _, _, .cons h r, e => by
    simp only [PyData.hasDictAll, Bool.or_eq_false_iff] at e
    exact .cons (Rp.dp h e.1) (RpA.dp r e.2)
end
theorem RN.dp {K : PySem.W.Frag} {F H : Hp} {v : V} {d : D} (e : Same F H) (h : RN K F H v d) (hd : d.hasDict = false) : Dp K H v d := by
  rcases h with h | ⟨a, rfl, h⟩
  · exact (h.mono e).dp hd
  · cases h with
    | lst h r => exact .lst (.inl (.inl h)) ((r.mono e).dp (by simpa [PyData.hasDict] using hd))
    | dic h r => simp [PyData.hasDict] at hd
    | dct h r => simp [PyData.hasDict] at hd
def rRepr (K : PySem.W.Frag) : List V → Hp → VK → Prop := fun xs H Q => ∃ v d, xs = [v] ∧ Dp K H v d ∧ d.showable = true ∧ d.hasDict = false ∧ d.depth ≤ 60 ∧ d.shown.length ≤ sizeLine ∧ Q (.str d.shown) H
theorem call_repr (hA : X.A.guards = some []) (hu : X.A.units + 64 < cLine) : CallR X (.builtin "repr") (rRepr X.K) := by
  intro pins s σ H xs us Q I r h
  obtain ⟨v, d, rfl, hd, hs, hnd, hdp, hz, q⟩ := h
  cases r with
  | cons r rr =>
    cases rr
    obtain ⟨as, rd⟩ := Dp.reads I d v _ hd r
    have key : ∀ (u : Tok) (tk : Nat) (h' : Heap), (∀ b o, s.heap.get? b = some o → h'.get? b = some o) → EP X pins σ Q (.str d.shown u) { s with heap := h', toks := tk } := fun u tk h' hk => ⟨.str d.shown, H, I.kept hk, ⟨_, rfl⟩, q⟩
    have nd : d.hasDict = true → sysModules ∉ as := fun z => by rw [hnd] at z; cases z
    cases rd with
    | none => exact PySem.P.repr_of_none ⟨.str _, H, I.tok _, ⟨_, rfl⟩, q⟩
    | bool b => exact PySem.P.repr_of_bool ⟨.str _, H, I.tok _, ⟨_, rfl⟩, by cases b <;> exact q⟩
    | int i t => exact PySem.P.repr_of_int (by simpa [PyData.showable] using hs) ⟨.str _, H, I.tok _, ⟨_, rfl⟩, q⟩
    | str x t => exact PySem.P.repr_of_str ⟨.str _, H, I.tok _, ⟨_, rfl⟩, q⟩ hz
    | list h1 h2 h3 h4 => exact repr_of_reads' (.list h1 h2 h3 h4) hs nd hA (by omega) (fun _ _ h => h) (fun h' u tk hk => key u tk h' hk) hz
    | tuple h1 h2 h3 h4 => exact repr_of_reads' (.tuple h1 h2 h3 h4) hs nd hA (by omega) (fun _ _ h => h) (fun h' u tk hk => key u tk h' hk) hz
    | dict h1 h2 h3 h4 h5 => simp [PyData.hasDict] at hnd
end
end DL

set_option Elab.async false
set_option linter.all false
set_option maxRecDepth 100000
set_option maxHeartbeats 4000000
set_option autoImplicit false
namespace DL
open PySem L2 PySem.Spec PyProof.Rows

/-! ### the end of a law -/
/-- from a tracked heap that knows the script alone (or nothing) -/
theorem law_run {P : Program} {w : World} {K : PySem.W.Frag} {mg mb : Str → Option Value} {k : Nat} {fa a : Addr} {fd : FuncData} {x : Str} {sp : Sp} {s : Shared} {H : Hp} {obj : Obj} {u : HO}
    (KX : K.In s.heap) (hns : s.heap.Ns mainGlobals mg) (hb : s.heap.Ns builtinsNs mb) (hbb : ∀ x : Str, x ≠ "__name__" → mb x = bootBuiltins x) (hlim : s.heap.NoLimit) (hg : s.gens = #[])
    (hobj : s.heap.get? a = some obj) (hnd : ∀ es ep, obj.data ≠ .dict es ep) (hH : ∀ b, H b = none ∨ (b = a ∧ H b = some (.frz obj u) ∧ K.lookup a = none)) (hok : HOk P w H s.heap)
    (F : ∀ base : Heap, K.In base → base.Ns mainGlobals mg → FnG P w K mg base C8.CX0 k fa fd [x] sp) (hr : Room k callerA) (hbind : ∀ (s : Shared) (u : Value), BindsTo s fd ⟨[u], []⟩ [(x, u)])
    (hsp : sp [.ref a] H (fun v _ => v = .bl true) fun _ _ _ => False) :
    codeAny (model P w) callerA (.call (.ref fa) ⟨[.ref a], []⟩) (fun r s' => r = .ok (.ret (.bool true)) ∧ OldK s.heap s'.heap ∧ s'.os = s.os ∧ AllBare s'.gens) s := by
  -- what is not tracked stands in the base
  have stay : ∀ b o, s.heap.get? b = some o → (∀ es ep, o.data ≠ .dict es ep) ∨ K.lookup b = some o ∨ (∃ es ep, o.data = .dict es ep) → ((∃ es ep, o.data = .dict es ep) ∨ K.lookup b = some o) → (hidT s.heap H).get? b = some o := by
    intro b o e _ h
    refine hidT_get e ?_
    rcases hH b with z | ⟨rfl, _, z⟩
    · exact z
    · rw [hobj] at e
      cases e
      rcases h with ⟨es, ep, h⟩ | h
      · exact absurd h (hnd es ep)
      · rw [z] at h; cases h
  have keepNs : ∀ {b : Addr} {m : Str → Option Value}, s.heap.Ns b m → (hidT s.heap H).Ns b m := by
    rintro b m ⟨o, es, ep, e, d, r⟩
    exact ⟨o, es, ep, stay b o e (.inr (.inr ⟨es, ep, d⟩)) (.inl ⟨es, ep, d⟩), d, r⟩
  have hK : K.In (hidT s.heap H) := fun b o e => stay b o (KX b o e) (.inr (.inl e)) (.inr e)
  have hM : Mod K mg (hidT s.heap H) := by
    obtain ⟨mc, c1, c2⟩ := hlim
    exact ⟨hK, keepNs hns, ⟨mb, keepNs hb, hbb⟩, ⟨mc, keepNs c1, c2⟩⟩
  have env : Env0 P w K mg (hidT s.heap H) callerA [] s H := by
    refine ⟨rfl, hM, fun b o e => of_hidT e, ?_, trivial, ?_, hok, .of_eq hg⟩
    · rw [hidT_size]; exact Nat.le_refl _
    · intro b hb'; cases hb'
  have main := (F _ hK (keepNs hns)).go callerA rfl hr [] s H env ⟨[.ref a], []⟩ [.ref a] [.ref a] (fun v _ => v = .bl true) (fun _ _ _ => False) (hbind s (.ref a)) (.cons rfl .nil) hsp
  refine codeAny_mono main ?_
  rintro r s' h
  cases r with
  | error e => exact h.elim
  | ok fl =>
    cases fl with
    | next => exact h.elim
    | brk => exact h.elim
    | cont => exact h.elim
    | ret z =>
      obtain ⟨v, H', os, bare, un, hok', rv, q⟩ := h
      have q : v = .bl true := q
      rw [q] at rv
      obtain rfl : z = .bool true := rv
      refine ⟨rfl, OldK.of_keep ?_, os, bare⟩
      intro b o e
      rcases hH b with n | ⟨rfl, n, _⟩
      · exact un.keep b o e n (fun z => nomatch z) (fun z => nomatch z)
      · have e1 := (hok' b _ (un.frzs b obj u n)).1
        rw [hobj] at e
        cases e
        exact e1
/-- the whole end: F is asked for the promise of law, over every base -/
theorem law_end {l : PySem.W.OpenLaw} {k : Nat} {q : Program} {loose : List Str} {XP : (Str → Option Value) → Heap → Prop} {YP : World → Heap → Prop} {d : DefRec} {K : Params → PySem.W.Frag} {sp : World → Sp} {x : Str}
    (hn : l.most = some 63) (hdf : d.params.defaults = []) (hr : Room k callerA) (hY : ∀ (w : World) (h : Heap), YP w h → (K w.params).In h)
    (F : ∀ (w : World) (mg : Str → Option Value) (fa : Addr) (h : Heap), (K w.params).In h → h.Ns mainGlobals mg → mg d.name = some (.ref fa) →
      ∃ fd : FuncData, (∀ (s : Shared) (u : Value), BindsTo s fd ⟨[u], []⟩ [(x, u)]) ∧ ∀ base : Heap, (K w.params).In base → base.Ns mainGlobals mg → FnG l.prog w (K w.params) mg base C8.CX0 k fa fd [x] (sp w))
    (hsp : ∀ (w : World) (H : Hp) (a : Addr) (ns : List Int), ns.length ≤ 63 → SqL (K w.params) H a (ns.map V.int) → (∀ b o, H b = some o → ∃ ob u, o = .frz ob u) → sp w [.ref a] H (fun v _ => v = .bl true) fun _ _ _ => False) :
    PySem.W.WalkO q loose XP YP l.row.toRowW d [] (fun f vs => PySem.call f vs) := by
  refine Att.attach_call hn hdf ?_
  intro w s0 s1 mg mb fa o pm cd doc a vs ns G Y ho hd hcd hmg hobj hints hlen hg
  have KX := hY w _ Y
  obtain ⟨fd, hb, hF⟩ := F w mg fa _ KX G.T.g hmg
  have rv := vals_ints hints
  have len := hints.length
  have big : ns.length ≤ sizeLine := Nat.le_trans hlen (by decide)
  cases hk : K w.params |>.lookup a with
  | some ob =>
    have e := KX a ob hk
    rw [hobj] at e
    cases e
    refine law_run (H := fun _ => none) (u := .lst []) KX G.T.g G.T.b G.T.builtins G.T.nolimit hg hobj (fun es ep z => nomatch z) (fun _ => .inl rfl) (fun b u z => nomatch z) hF hr hb (hsp w _ a ns hlen (.inr ⟨_, vs.toArray, 0, hk, rfl, rfl, rfl, ?_, by simpa using rv⟩) fun b o z => nomatch z)
    rw [List.size_toArray, len]; exact big
  | none =>
    refine law_run (H := fun b => if b = a then some (.frz { cls := .type "list", data := .seq vs.toArray } (.lst (ns.map V.int))) else none) (u := .lst (ns.map V.int)) KX G.T.g G.T.b G.T.builtins G.T.nolimit hg hobj (fun es ep z => nomatch z) ?_ ?_ hF hr hb (hsp w _ a ns hlen (.inl (.inr ⟨_, if_pos rfl⟩)) ?_)
    · intro b
      by_cases h : b = a
      · exact .inr ⟨h, if_pos h, hk⟩
      · exact .inl (if_neg h)
    · intro b u z
      by_cases h : b = a
      · subst h
        have z := (if_pos rfl).symm.trans z
        cases z
        refine ⟨hobj, ?_, vs, 0, rv, hobj⟩
        rw [List.length_map]; exact big
      · have z := (if_neg h).symm.trans z
        cases z
    · intro b u z
      by_cases h : b = a
      · have z := (if_pos h).symm.trans z
        cases z; exact ⟨_, _, rfl⟩
      · have z := (if_neg h).symm.trans z
        cases z
end DL

set_option Elab.async false
set_option linter.all false
set_option maxRecDepth 100000
set_option maxHeartbeats 4000000
set_option autoImplicit false
namespace DL
open PySem L2

/-! ### new things of an operation -/
section
variable {f : Fr} {g : Gs} {σ : L2.St} {H : Hp} {ρ : Rho} {Q : Rv → Prop} {R : V → Hp → Prop}
/-- an operation's end: a scalar | a new tuple | a new list | a new dict -/
abbrev OEnd (f : Fr) (g : Gs) (σ : L2.St) (H : Hp) (ρ : Rho) (Q : Rv → Prop) (R : V → Hp → Prop) : Prop := ∀ (z : V) (H' : Hp) (g' : Gs) (r : Rv), Rel f g' σ H' ρ → Gro g H g' H' → VR f g' σ H' ρ z r → Q r → R z H'
theorem OEnd.fz (k : OEnd f g σ H ρ Q R) (hR : Rel f g σ H ρ) {v : V} {d : D} (h : Rp f.K (Fz H g.M) v d) (q : Q (.fz d)) : R v H := k v H g (.fz d) hR Gro.refl h q
theorem OEnd.tup (k : OEnd f g σ H ρ Q R) (hR : Rel f g σ H ρ) {xs : List V} {ds : List D} (h : RpA f.K (Fz H g.M) xs ds) (q : Q (.fz (.tuple ds))) : ∀ p, H p = none → R (.ref p) (upd H p (.tup xs)) := fun p hp => by
  obtain ⟨R3, G3, e3⟩ := hR.new (o := .tup xs) hp
  exact k _ _ g (.fz (.tuple ds)) R3 G3 (Rp.tup e3 (h.mono G3.fz)) q
theorem OEnd.lst (k : OEnd f g σ H ρ Q R) (hR : Rel f g σ H ρ) {xs : List V} {ds : List D} (h : RpA f.K (Fz H g.M) xs ds) (q : Q (.nw (.list ds))) : ∀ p, H p = none → R (.ref p) (upd H p (.lst xs)) := fun p hp => by
  obtain ⟨R3, G3, V3⟩ := hR.own (o := .lst xs) (d := .list ds) hp (.lst upd_same h)
  exact k _ _ _ (.nw (.list ds)) R3 G3 V3 q
end

/-! ### binary operators -/
def rStrAdd : R2 := fun x y H Q => ∃ i j, x = .str i ∧ y = .str j ∧ i.length + j.length ≤ sizeLine ∧ Q (.str (i ++ j)) H
def rAddA (K : PySem.W.Frag) : R2 := fun x y H Q => rI0 (fun i j => V.int (i + j)) x y H Q ∨ (rCat x y H Q ∨ (rCatA K x y H Q ∨ rStrAdd x y H Q))
theorem op_addA {X : Cx} : OpR X (binaryOp .Add) (rAddA X.K) := op_add.or (op_cat.or (op_catA.or op_add_str))
def fAdd : F2 := fun x y Q => match x, y with
  | .int i, .int j => Q (.fz (.int (i + j)))
  | .list xs, .list ys => xs.length + ys.length ≤ sizeLine ∧ Q (.nw (.list (xs ++ ys)))
  | .tuple xs, .tuple ys => xs.length + ys.length ≤ sizeLine ∧ Q (.fz (.tuple (xs ++ ys)))
  | .str i, .str j => i.length + j.length ≤ sizeLine ∧ Q (.fz (.str (i ++ j)))
  | _, _ => False
theorem ol_add {K : PySem.W.Frag} : OpL K (rAddA K) fAdd := by
  intro f g σ H ρ v u x y Q R hK hR h1 h2 hF k
  subst hK
  unfold fAdd at hF
  split at hF
  · obtain rfl := h1.int
    obtain rfl := h2.int
    exact .inl ⟨_, _, rfl, rfl, OEnd.fz k hR (.int _) hF⟩
  · obtain ⟨a, xs, rfl, e1, r1⟩ := h1.list fz_sub
    obtain ⟨b, ys, rfl, e2, r2⟩ := h2.list fz_sub
    exact .inr (.inl ⟨a, b, xs, ys, rfl, rfl, e1, e2, by rw [r1.length, r2.length]; exact hF.1, OEnd.lst k hR (r1.append r2) hF.2⟩)
  · obtain ⟨a, xs, rfl, e1, r1, z1⟩ := h1.tuple fz_sub
    obtain ⟨b, ys, rfl, e2, r2, z2⟩ := h2.tuple fz_sub
    refine .inr (.inr (.inl ⟨a, b, xs, ys, rfl, rfl, e1, e2, by rw [r1.length, r2.length]; exact hF.1, fun e => ?_, fun _ e => ?_, fun _ _ => OEnd.tup k hR (r1.append r2) hF.2⟩))
    · subst e
      cases r1
      exact OEnd.fz k hR (.tup z2 r2) hF.2
    · subst e
      cases r2
      exact OEnd.fz k hR (.tup z1 r1) (by simpa using hF.2)
  · obtain rfl := h1.str
    obtain rfl := h2.str
    exact .inr (.inr (.inr ⟨_, _, rfl, rfl, hF.1, OEnd.fz k hR (.str _) hF.2⟩))
  · exact hF.elim
/-- two ints -/
def fII (C : Int → Int → Prop) (G : Int → Int → D) : F2 := fun x y Q => match x, y with
  | .int i, .int j => C i j ∧ Q (.fz (G i j))
  | _, _ => False
def fII0 (G : Int → Int → D) : F2 := fun x y Q => match x, y with
  | .int i, .int j => Q (.fz (G i j))
  | _, _ => False
theorem ol_II {K : PySem.W.Frag} {C : Int → Int → Prop} {gv : Int → Int → V} {G : Int → Int → D} (h : ∀ i j F, Rp K F (gv i j) (G i j)) : OpL K (rI C gv) (fII C G) := by
  intro f g σ H ρ v u x y Q R hK hR h1 h2 hF k
  subst hK
  unfold fII at hF
  split at hF
  · obtain rfl := h1.int
    obtain rfl := h2.int
    exact ⟨_, _, rfl, rfl, hF.1, OEnd.fz k hR (h _ _ _) hF.2⟩
  · exact hF.elim
theorem ol_II0 {K : PySem.W.Frag} {gv : Int → Int → V} {G : Int → Int → D} (h : ∀ i j F, Rp K F (gv i j) (G i j)) : OpL K (rI0 gv) (fII0 G) := by
  intro f g σ H ρ v u x y Q R hK hR h1 h2 hF k
  subst hK
  unfold fII0 at hF
  split at hF
  · obtain rfl := h1.int
    obtain rfl := h2.int
    exact ⟨_, _, rfl, rfl, OEnd.fz k hR (h _ _ _) hF⟩
  · exact hF.elim
abbrev fSub : F2 := fII0 fun i j => .int (i - j)
theorem ol_sub {K : PySem.W.Frag} : OpL K (rI0 fun i j => .int (i - j)) fSub := ol_II0 fun _ _ _ => .int _
/-- // by anything of less than 9000 bits -/
def CDivL (_ j : Int) : Prop := j ≠ 0 ∧ j.natAbs.log2 < 9000
theorem op_fdivL {X : Cx} : OpR X (binaryOp .FloorDiv) (rI CDivL fun i j => .int (i.fdiv j)) := opI fun _ _ _ _ _ _ _ hc q => PyProof.Rows.floordiv_int hc.1 q (.inl (PyProof.noPylong_of_log2 hc.2))
abbrev fFdv : F2 := fII CDivL fun i j => .int (i.fdiv j)
theorem ol_fdv {K : PySem.W.Frag} : OpL K (rI CDivL fun i j => .int (i.fdiv j)) fFdv := ol_II fun _ _ _ => .int _
abbrev fMod : F2 := fII (fun _ j => j ≠ 0) fun i j => .int (i.fmod j)
theorem ol_mod {K : PySem.W.Frag} : OpL K (rI (fun _ j => j ≠ 0) fun i j => .int (i.fmod j)) fMod := ol_II fun _ _ _ => .int _
abbrev fPow : F2 := fII CPow fun i j => .int (i ^ j.toNat)
theorem ol_pow {K : PySem.W.Frag} : OpL K (rI CPow fun i j => .int (i ^ j.toNat)) fPow := ol_II fun _ _ _ => .int _
abbrev fShl : F2 := fII CPow fun i j => .int (i * 2 ^ j.toNat)
theorem ol_shl {K : PySem.W.Frag} : OpL K (rI CPow fun i j => .int (i * 2 ^ j.toNat)) fShl := ol_II fun _ _ _ => .int _
abbrev fShr : F2 := fII (fun _ j => 0 ≤ j) fun i j => .int (i / 2 ^ j.toNat)
theorem ol_shr {K : PySem.W.Frag} : OpL K (rI (fun _ j => 0 ≤ j) fun i j => .int (i / 2 ^ j.toNat)) fShr := ol_II fun _ _ _ => .int _
abbrev fAnd : F2 := fII0 fun i j => .int (Builtin.bitAnd i j)
theorem ol_and {K : PySem.W.Frag} : OpL K (rI0 fun i j => .int (Builtin.bitAnd i j)) fAnd := ol_II0 fun _ _ _ => .int _
abbrev fOr : F2 := fII0 fun i j => .int (Builtin.bitOr i j)
theorem ol_or {K : PySem.W.Frag} : OpL K (rI0 fun i j => .int (Builtin.bitOr i j)) fOr := ol_II0 fun _ _ _ => .int _
abbrev fXor : F2 := fII0 fun i j => .int (Builtin.bitXor i j)
theorem ol_xor {K : PySem.W.Frag} : OpL K (rI0 fun i j => .int (Builtin.bitXor i j)) fXor := ol_II0 fun _ _ _ => .int _
/-- times: ints, a list again and again -/
def rMulA : R2 := fun x y H Q => rI CMul (fun i j => V.int (i * j)) x y H Q ∨ rRep x y H Q
theorem op_mulA {X : Cx} : OpR X (binaryOp .Mult) rMulA := op_mul.or op_rep
def fMul : F2 := fun x y Q => match x, y with
  | .int i, .int j => CMul i j ∧ Q (.fz (.int (i * j)))
  | .list xs, .int k => (-(2 ^ 63) ≤ k ∧ k < 2 ^ 63 ∧ xs.length * k.toNat ≤ sizeLine) ∧ Q (.nw (.list (List.replicate k.toNat xs).flatten))
  | _, _ => False
theorem RpA.rep {K : PySem.W.Frag} {F : Hp} {vs : List V} {ds : List D} (h : RpA K F vs ds) : ∀ n, RpA K F (List.replicate n vs).flatten (List.replicate n ds).flatten
  | 0 => .nil
  | n + 1 => by
    rw [List.replicate_succ, List.replicate_succ, List.flatten_cons, List.flatten_cons]
    exact h.append (h.rep n)
theorem ol_mul {K : PySem.W.Frag} : OpL K rMulA fMul := by
  intro f g σ H ρ v u x y Q R hK hR h1 h2 hF k
  subst hK
  unfold fMul at hF
  split at hF
  · obtain rfl := h1.int
    obtain rfl := h2.int
    exact .inl ⟨_, _, rfl, rfl, hF.1, OEnd.fz k hR (.int _) hF.2⟩
  · obtain ⟨a, xs, rfl, e1, r1⟩ := h1.list fz_sub
    obtain rfl := h2.int
    obtain ⟨⟨b1, b2, b3⟩, q⟩ := hF
    exact .inr ⟨a, _, xs, rfl, rfl, e1, b1, b2, by rw [r1.length]; exact b3, OEnd.lst k hR (r1.rep _) q⟩
  · exact hF.elim

/-! ### comparisons -/
def rLtA : R2 := fun x y H Q => rI0 (fun i j => V.bl (decide (i < j))) x y H Q ∨ (∃ i j, x = .str i ∧ y = .str j ∧ Q (.bl (decide (i.cps.toList < j.cps.toList))) H)
theorem op_ltA {X : Cx} : OpR X (compareOp .Lt) rLtA := op_lt.or op_lt_str
abbrev fLt : F2 := fII0 fun i j => .bool (decide (i < j))
theorem ol_lt {K : PySem.W.Frag} : OpL K (rI0 fun i j => .bl (decide (i < j))) fLt := ol_II0 fun _ _ _ => .bl _
abbrev fLe : F2 := fII0 fun i j => .bool (decide (i ≤ j))
theorem ol_le {K : PySem.W.Frag} : OpL K (rI0 fun i j => .bl (decide (i ≤ j))) fLe := ol_II0 fun _ _ _ => .bl _
abbrev fGt : F2 := fII0 fun i j => .bool (decide (j < i))
theorem ol_gt {K : PySem.W.Frag} : OpL K (rI0 fun i j => .bl (decide (j < i))) fGt := ol_II0 fun _ _ _ => .bl _
abbrev fGe : F2 := fII0 fun i j => .bool (decide (j ≤ i))
theorem ol_ge {K : PySem.W.Frag} : OpL K (rI0 fun i j => .bl (decide (j ≤ i))) fGe := ol_II0 fun _ _ _ => .bl _
/-- equality of data without dicts -/
def eqOk (d : D) : Bool := !d.hasDict && SeqAt.shaped d
/-- two single values that may be compared at once -/
def scalD : D → D → Bool
  | .none, .none => true
  | .none, .int _ => true
  | .int _, .none => true
  | .none, .bool _ => true
  | .bool _, .none => true
  | .none, .str _ => true
  | .str _, .none => true
  | .int _, .int _ => true
  | .bool _, .bool _ => true
  | .str _, .str _ => true
  | .int _, .str _ => true
  | .str _, .int _ => true
  | .bool _, .str _ => true
  | .str _, .bool _ => true
  | _, _ => false
def eqOk2 (x y : D) : Bool := scalD x y || (eqOk x && eqOk y)
def fEq (neg : Bool) : F2 := fun x y Q => eqOk2 x y = true ∧ Q (.fz (.bool (neg != PyData.eqv x y)))
theorem eqOk_and {d : D} (h : eqOk d = true) : d.hasDict = false ∧ SeqAt.shaped d = true := by simpa [eqOk] using h
theorem scal_of {K : PySem.W.Frag} {F H : Hp} {v u : V} {x y : D} (h1 : RN K F H v x) (h2 : RN K F H u y) (h : scalD x y = true) : scal v u = true ∧ decide (v = u) = PyData.eqv x y := by
  cases x <;> cases y <;> first
    | exact absurd h Bool.false_ne_true
    | (first | obtain rfl := h1.non | obtain rfl := h1.bool | obtain rfl := h1.int | obtain rfl := h1.str
       first | obtain rfl := h2.non | obtain rfl := h2.bool | obtain rfl := h2.int | obtain rfl := h2.str
       refine ⟨rfl, ?_⟩
       simp only [PyData.eqv]
       first | (rw [Bool.eq_iff_iff]; simp; done) | simp)
theorem ol_eq {K : PySem.W.Frag} : OpL K (fun x y H Q => rEq x y H Q ∨ rEqD K x y H Q) (fEq false) := by
  intro f g σ H ρ v u x y Q R hK hR h1 h2 hF k
  subst hK
  obtain ⟨hs, q⟩ := hF
  unfold eqOk2 at hs
  rcases Bool.or_eq_true_iff.mp hs with hs | hs
  · obtain ⟨a, b⟩ := scal_of h1 h2 hs
    exact .inl ⟨a, by rw [b]; exact OEnd.fz k hR (.bl _) (by simpa using q)⟩
  · rw [Bool.and_eq_true] at hs
    obtain ⟨a1, a2⟩ := eqOk_and hs.1
    obtain ⟨b1, b2⟩ := eqOk_and hs.2
    exact .inr ⟨x, y, h1.dp fz_sub a1, h2.dp fz_sub b1, a2, b2, OEnd.fz k hR (.bl _) (by simpa using q)⟩
theorem ol_ne {K : PySem.W.Frag} : OpL K (fun x y H Q => rNe x y H Q ∨ rNeD K x y H Q) (fEq true) := by
  intro f g σ H ρ v u x y Q R hK hR h1 h2 hF k
  subst hK
  obtain ⟨hs, q⟩ := hF
  unfold eqOk2 at hs
  rcases Bool.or_eq_true_iff.mp hs with hs | hs
  · obtain ⟨a, b⟩ := scal_of h1 h2 hs
    exact .inl ⟨a, by rw [b]; exact OEnd.fz k hR (.bl _) (by simpa using q)⟩
  · rw [Bool.and_eq_true] at hs
    obtain ⟨a1, a2⟩ := eqOk_and hs.1
    obtain ⟨b1, b2⟩ := eqOk_and hs.2
    exact .inr ⟨x, y, h1.dp fz_sub a1, h2.dp fz_sub b1, a2, b2, OEnd.fz k hR (.bl _) (by simpa using q)⟩
/-- values that hold no address -/
def flatP : D → Bool
  | .none => true
  | .bool _ => true
  | .int _ => true
  | .str _ => true
  | _ => false
theorem flat_of {K : PySem.W.Frag} {F : Hp} {v : V} {d : D} (h : Rp K F v d) (hd : flatP d = true) : flatV v = true := by
  cases h <;> first | rfl | cases hd
theorem eqV_of {K : PySem.W.Frag} {F : Hp} {v u : V} {d e : D} (h : Rp K F v d) (h' : Rp K F u e) (hd : flatP d = true) (he : flatP e = true) : eqV v u = PyData.eqv d e := by
  cases h <;> cases hd <;> cases h' <;> cases he <;> simp [eqV, PyData.eqv]
theorem flatA_of {K : PySem.W.Frag} {F : Hp} {vs : List V} {ds : List D} (h : RpA K F vs ds) (hd : ds.all flatP = true) : vs.all flatV = true := by
  induction ds generalizing vs with
  | nil => cases h; rfl
  | cons d ds ih =>
    cases h with
    | cons h r =>
      rw [List.all_cons, Bool.and_eq_true] at hd ⊢
      exact ⟨flat_of h hd.1, ih r hd.2⟩
theorem inV_of {K : PySem.W.Frag} {F : Hp} {u : V} {e : D} {vs : List V} {ds : List D} (h : RpA K F vs ds) (hd : ds.all flatP = true) (hu : Rp K F u e) (he : flatP e = true) : inV u vs = ds.any fun z => PyData.eqv z e := by
  induction ds generalizing vs with
  | nil => cases h; rfl
  | cons d ds ih =>
    cases h with
    | cons h r =>
      rw [List.all_cons, Bool.and_eq_true] at hd
      show (eqV _ _ || inV u _) = _
      rw [List.any_cons, eqV_of h hu hd.1 he, ih r hd.2]
theorem RN.flat {K : PySem.W.Frag} {F H : Hp} {v : V} {d : D} (h : RN K F H v d) (hd : flatP d = true) : Rp K F v d := by
  rcases h with h | ⟨a, _, h⟩
  · exact h
  · cases h <;> cases hd
/-- an item in a flat sequence -/
def fIn (neg : Bool) : F2 := fun x y Q => match seqFlat y with
  | some ds => (flatP x = true ∧ ds.all flatP = true) ∧ Q (.fz (.bool (neg != ds.any fun z => PyData.eqv z x)))
  | none => False
where seqFlat : D → Option (List D)
  | .list ds => some ds
  | .tuple ds => some ds
  | _ => none
theorem ol_inG {K : PySem.W.Frag} {neg : Bool} : OpL K (rIn K neg) (fIn neg) := by
  intro f g σ H ρ v u x y Q R hK hR h1 h2 hF k
  subst hK
  have fin : ∀ (vs : List V) (ds : List D), RpA f.K (Fz H g.M) vs ds → (flatP x = true ∧ ds.all flatP = true) ∧ Q (.fz (.bool (neg != ds.any fun z => PyData.eqv z x))) → flatV v = true ∧ vs.all flatV = true ∧ R (.bl (if neg then !inV v vs else inV v vs)) H := by
    intro vs ds r hF
    refine ⟨flat_of (h1.flat hF.1.1) hF.1.1, flatA_of r hF.1.2, ?_⟩
    rw [inV_of r hF.1.2 (h1.flat hF.1.1) hF.1.1]
    cases neg
    · exact OEnd.fz k hR (.bl _) (by simpa using hF.2)
    · exact OEnd.fz k hR (.bl _) (by simpa using hF.2)
  cases y with
  | list ds =>
    obtain ⟨a, xs, rfl, e1, r1⟩ := h2.list fz_sub
    exact ⟨a, xs, rfl, .inl (.inl (.inl e1)), fin xs ds r1 hF⟩
  | tuple ds =>
    obtain ⟨a, xs, rfl, e1, r1, _⟩ := h2.tuple fz_sub
    exact ⟨a, xs, rfl, .inr e1, fin xs ds r1 hF⟩
  | none => exact hF.elim
  | bool _ => exact hF.elim
  | int _ => exact hF.elim
  | str _ => exact hF.elim
  | dict _ => exact hF.elim
theorem ol_in {K : PySem.W.Frag} : OpL K (rIn K false) (fIn false) := ol_inG
theorem ol_nin {K : PySem.W.Frag} : OpL K (rIn K true) (fIn true) := ol_inG

/-! ### one operand -/
abbrev F1 := D → (Rv → Prop) → Prop
def UnL (K : PySem.W.Frag) (r : V → Hp → VK → Prop) (F : F1) : Prop := ∀ (f : Fr) (g : Gs) (σ : L2.St) (H : Hp) (ρ : Rho) (v : V) (x : D) (Q : Rv → Prop) (R : V → Hp → Prop), f.K = K → Rel f g σ H ρ → RN K (Fz H g.M) H v x → F x Q → OEnd f g σ H ρ Q R → r v H R
def dUn (F : F1) (da : DE) : DE := fun ρ Q => da ρ fun r1 ρ1 => wD (res ρ1 r1) fun x => F x fun r => Q r ρ1
theorem le_un {K : PySem.W.Frag} {ta : TE} {da : DE} {r : V → Hp → VK → Prop} {F : F1} (ha : LE K ta da) (ho : UnL K r F) : LE K (tUn r ta) (dUn F da) := by
  intro f g σ H ρ Q R hK hR hd k
  refine ha.opd hK hR hd fun v H1 g1 ρ1 r1 R1 G1 O1 q1 => ?_
  obtain ⟨x, e1, q2⟩ := wD_some q1
  subst hK
  exact ho f g1 σ H1 ρ1 v x _ R rfl R1 (O1.rn R1 e1) q2 fun z H3 g3 r R3 G3 V3 q3 => k z H3 g3 ρ1 r R3 (G1.trans G3) V3 q3
def fNeg : F1 := fun x Q => match x with
  | .int i => Q (.fz (.int (-i)))
  | _ => False
theorem ul_neg {K : PySem.W.Frag} : UnL K (rU fun i => .int (-i)) fNeg := by
  intro f g σ H ρ v x Q R hK hR h1 hF k
  subst hK
  cases x with
  | int i => obtain rfl := h1.int; exact ⟨_, rfl, OEnd.fz k hR (.int _) hF⟩
  | _ => exact hF.elim

/-! ### subscripts -/
def seqAt (x : D) (i : Int) : Option D := match x with
  | .list ds => atI ds i
  | .tuple ds => atI ds i
  | .str z => (atI z.cps.toList i).map fun c => .str ⟨#[c]⟩
  | _ => none
def strOk0 : D → Prop
  | .str z => z.length ≤ sizeLine
  | _ => True
def fIx : F2 := fun x y Q => match y with
  | .int i => strOk0 x ∧ ∃ d, seqAt x i = some d ∧ Q (.fz d)
  | _ => False
theorem RpA.atI {K : PySem.W.Frag} {F : Hp} {vs : List V} {ds : List D} (h : RpA K F vs ds) {i : Int} {d : D} (e : L2.atI ds i = some d) : ∃ v, L2.atI vs i = some v ∧ Rp K F v d := by
  unfold L2.atI at e ⊢
  rw [h.length]
  cases hj : ixN ds.length i with
  | none => rw [hj] at e; cases e
  | some j =>
    rw [hj] at e
    exact h.get e
theorem ol_ix {K : PySem.W.Frag} : OpL K (rIx K) fIx := by
  intro f g σ H ρ v u x y Q R hK hR h1 h2 hF k
  subst hK
  cases y with
  | int i =>
    obtain rfl := h2.int
    obtain ⟨hs, hF⟩ := hF
    obtain ⟨d, e, q⟩ := hF
    cases x with
    | list ds =>
      obtain ⟨a, xs, rfl, e1, r1⟩ := h1.list fz_sub
      obtain ⟨w, e2, r2⟩ := r1.atI e
      exact .inl ⟨a, xs, i, w, rfl, rfl, .inl (.inl e1), e2, OEnd.fz k hR r2 q⟩
    | tuple ds =>
      obtain ⟨a, xs, rfl, e1, r1, _⟩ := h1.tuple fz_sub
      obtain ⟨w, e2, r2⟩ := r1.atI e
      exact .inr (.inl ⟨a, xs, i, w, rfl, rfl, e1, e2, OEnd.fz k hR r2 q⟩)
    | str z =>
      obtain rfl := h1.str
      have e : (L2.atI z.cps.toList i).map (fun c => PyData.str ⟨#[c]⟩) = some d := e
      cases hc : L2.atI z.cps.toList i with
      | none => rw [hc] at e; cases e
      | some c =>
        rw [hc] at e
        cases e
        exact .inr (.inr ⟨z, i, c, rfl, rfl, hs, hc, OEnd.fz k hR (.str _) q⟩)
    | none => cases e
    | bool _ => cases e
    | int _ => cases e
    | dict _ => cases e
  | _ => exact hF.elim
/-- slices -/
def cutD (xs : List D) (lo hi : Option Int) : List D := (xs.drop (HT.sIx xs.length 0 lo)).take (HT.sIx xs.length xs.length hi - HT.sIx xs.length 0 lo)
theorem RpA.cut {K : PySem.W.Frag} {F : Hp} {vs : List V} {ds : List D} (h : RpA K F vs ds) (lo hi : Option Int) : RpA K F (cutV vs lo hi) (cutD ds lo hi) := by
  unfold cutV cutD
  rw [h.length]
  exact (h.drop _).take _
def rSlAny (K : PySem.W.Frag) : V → Option Int → Option Int → Hp → VK → Prop := fun x lo hi H Q => rSlL K x lo hi H Q ∨ (rSlA K x lo hi H Q ∨ rSlS x lo hi H Q)
theorem sl_any {X : Cx} : L2.SlR X (rSlAny X.K) := sl_list.or (sl_tupA.or sl_str)
abbrev DO := Rho → (Option Int → Rho → Prop) → Prop
def LO (K : PySem.W.Frag) (t : TO) (d : DO) : Prop := ∀ (f : Fr) (g : Gs) (σ : L2.St) (H : Hp) (ρ : Rho) (Q : Option Int → Rho → Prop) (R : Option Int → Hp → Prop), f.K = K → Rel f g σ H ρ → d ρ Q →
  (∀ (o : Option Int) (H' : Hp) (g' : Gs) (ρ' : Rho), Rel f g' σ H' ρ' → Gro g H g' H' → Q o ρ' → R o H') → t σ H R
def dNoP : DO := fun ρ Q => Q none ρ
def wI (o : Option D) (k : Int → Prop) : Prop := match o with
  | some (.int i) => k i
  | _ => False
theorem wI_some {o : Option D} {k : Int → Prop} (h : wI o k) : ∃ b, o = some (.int b) ∧ k b := by
  unfold wI at h
  split at h
  · exact ⟨_, rfl, h⟩
  · exact h.elim
def dPart (da : DE) : DO := fun ρ Q => da ρ fun r ρ1 => wI (res ρ1 r) fun i => Q (some i) ρ1
theorem lo_none {K : PySem.W.Frag} : LO K tNoPart dNoP := fun f g σ H ρ Q R hK hR hd k => k none H g ρ hR Gro.refl hd
theorem lo_some {K : PySem.W.Frag} {ta : TE} {da : DE} (h : LE K ta da) : LO K (tPart ta) (dPart da) := by
  intro f g σ H ρ Q R hK hR hd k
  refine h.opd hK hR hd fun v H1 g1 ρ1 r1 R1 G1 O1 q1 => ?_
  obtain ⟨i, e, q⟩ := wI_some q1
  exact ⟨i, (O1.rn R1 e).int, k _ H1 g1 ρ1 R1 G1 q⟩
def fSl (x : D) (lo hi : Option Int) (Q : Rv → Prop) : Prop := match x with
  | .list ds => Q (.nw (.list (cutD ds lo hi)))
  | .tuple ds => Q (.fz (.tuple (cutD ds lo hi)))
  | .str z => z.length ≤ sizeLine ∧ Q (.fz (.str (cutS z lo hi)))
  | _ => False
def dSl (da : DE) (dl dh : DO) : DE := fun ρ Q => da ρ fun r ρ1 => dl ρ1 fun lo ρ2 => dh ρ2 fun hi ρ3 => wD (res ρ3 r) fun x => fSl x lo hi fun q => Q q ρ3
theorem cutD_whole {xs : List D} {lo hi : Option Int} (h : HT.sIx xs.length 0 lo = 0 ∧ HT.sIx xs.length xs.length hi = xs.length) : cutD xs lo hi = xs := by
  unfold cutD
  rw [h.1, h.2]
  simp
theorem le_sl {K : PySem.W.Frag} {ta : TE} {da : DE} {tl th : TO} {dl dh : DO} (h : LE K ta da) (hl : LO K tl dl) (hh : LO K th dh) : LE K (tSl (rSlAny K) ta tl th) (dSl da dl dh) := by
  intro f g σ H ρ Q R hK hR hd k
  refine h.opd hK hR hd fun v H1 g1 ρ1 r1 R1 G1 O1 q1 => ?_
  refine hl f g1 σ H1 ρ1 _ _ hK R1 q1 fun lo H2 g2 ρ2 R2 G2 q2 => ?_
  refine hh f g2 σ H2 ρ2 _ _ hK R2 q2 fun hi H3 g3 ρ3 R3 G3 q3 => ?_
  obtain ⟨x, e, q⟩ := wD_some q3
  subst hK
  have hx := ((O1.mono G2).mono G3).rn R3 e
  have k' : OEnd f g3 σ H3 ρ3 (fun q => Q q ρ3) R := fun z H' g' r R' G' V' q' => k z H' g' ρ3 r R' (((G1.trans G2).trans G3).trans G') V' q'
  cases x with
  | list ds =>
    obtain ⟨a, xs, rfl, e1, r1⟩ := hx.list fz_sub
    exact .inl ⟨a, xs, rfl, .inl (.inl e1), OEnd.lst k' R3 (r1.cut lo hi) q⟩
  | tuple ds =>
    obtain ⟨a, xs, rfl, e1, r1, z1⟩ := hx.tuple fz_sub
    refine .inr (.inl ⟨a, xs, rfl, e1, fun hw => ?_, fun _ => OEnd.tup k' R3 (r1.cut lo hi) q⟩)
    rw [r1.length] at hw
    have q : Q (.fz (.tuple (cutD ds lo hi))) ρ3 := q
    rw [cutD_whole hw] at q
    exact OEnd.fz k' R3 (.tup z1 r1) q
  | str z =>
    obtain rfl := hx.str
    exact .inr (.inr ⟨z, rfl, q.1, OEnd.fz k' R3 (.str _) q.2⟩)
  | none => exact q.elim
  | bool _ => exact q.elim
  | int _ => exact q.elim
  | dict _ => exact q.elim
end DL

set_option Elab.async false
set_option linter.all false
set_option maxRecDepth 100000
set_option maxHeartbeats 4000000
set_option autoImplicit false
namespace DL
open PySem L2

theorem CallR.or {X : Cx} {f : Value} {r r' : List V → Hp → VK → Prop} (h : CallR X f r) (h' : CallR X f r') : CallR X f (fun xs H Q => r xs H Q ∨ r' xs H Q) := by
  intro pins s σ H xs us Q I r q
  rcases q with q | q
  · exact h pins s σ H xs us Q I r q
  · exact h' pins s σ H xs us Q I r q
theorem RNA.one {K : PySem.W.Frag} {F H : Hp} {vs : List V} {d : D} (h : RNA K F H vs [d]) : ∃ v, vs = [v] ∧ RN K F H v d := by
  cases h with | cons h r => cases r; exact ⟨_, rfl, h⟩
theorem RNA.two {K : PySem.W.Frag} {F H : Hp} {vs : List V} {d e : D} (h : RNA K F H vs [d, e]) : ∃ v u, vs = [v, u] ∧ RN K F H v d ∧ RN K F H u e := by
  cases h with | cons h r => cases r with | cons h' r => cases r; exact ⟨_, _, rfl, h, h'⟩
/-- one argument -/
def fA1 (F : F1) : FA := fun ds Q => match ds with
  | [d] => F d Q
  | _ => False
def fA2 (F : F2) : FA := fun ds Q => match ds with
  | [d, e] => F d e Q
  | _ => False
theorem fA1_some {F : F1} {ds : List D} {Q : Rv → Prop} (h : fA1 F ds Q) : ∃ d, ds = [d] ∧ F d Q := by
  unfold fA1 at h
  split at h
  · exact ⟨_, rfl, h⟩
  · exact h.elim
theorem fA2_some {F : F2} {ds : List D} {Q : Rv → Prop} (h : fA2 F ds Q) : ∃ d e, ds = [d, e] ∧ F d e Q := by
  unfold fA2 at h
  split at h
  · exact ⟨_, _, rfl, h⟩
  · exact h.elim
section
variable {K : PySem.W.Frag}
/-! ### len -/
def rLenA (K : PySem.W.Frag) : List V → Hp → VK → Prop := fun xs H Q => (∃ x n, xs = [x] ∧ LenV K x H n ∧ Q (.int n) H) ∨ (∃ d kvs, xs = [.ref d] ∧ H d = some (.dK kvs) ∧ Q (.int kvs.length) H)
def lenD : D → Option Nat
  | .list ds => some ds.length
  | .tuple ds => some ds.length
  | .str z => if z.length ≤ sizeLine then some z.length else none
  | _ => none
def fLen : F1 := fun x Q => match lenD x with
  | some n => Q (.fz (.int (n : Int)))
  | none => False
theorem cl_len : CaL K (fun xs H Q => ∃ x n, xs = [x] ∧ LenV K x H n ∧ Q (.int n) H) (fA1 fLen) := by
  intro f g σ H ρ vs ds Q R hK hR hA hF0 k
  subst hK
  obtain ⟨d, rfl, hF⟩ := fA1_some hF0
  obtain ⟨v, rfl, h⟩ := hA.one
  unfold fLen at hF
  cases d with
  | list ds =>
    obtain ⟨a, xs, rfl, e1, r1⟩ := h.list fz_sub
    exact ⟨_, xs.length, rfl, .inl ⟨xs, .inl (.inl e1), rfl⟩, OEnd.fz k hR (.int _) (by rw [r1.length]; exact hF)⟩
  | tuple ds =>
    obtain ⟨a, xs, rfl, e1, r1, _⟩ := h.tuple fz_sub
    exact ⟨_, xs.length, rfl, .inr ⟨xs, e1, rfl⟩, OEnd.fz k hR (.int _) (by rw [r1.length]; exact hF)⟩
  | str z =>
    obtain rfl := h.str
    simp only [lenD] at hF
    split at hF
    · rename_i n e
      split at e
      · rename_i hz
        cases e
        exact ⟨_, z.length, rfl, ⟨hz, rfl⟩, OEnd.fz k hR (.int _) hF⟩
      · cases e
    · exact hF.elim
  | none => exact hF.elim
  | bool _ => exact hF.elim
  | int _ => exact hF.elim
  | dict _ => exact hF.elim
/-! ### tuple, list -/
def rTupleA (K : PySem.W.Frag) : List V → Hp → VK → Prop := fun xs H Q => ∃ p ys, xs = [.ref p] ∧ ((SqL K H p ys ∧ ∀ l, H l = none → Q (.ref l) (upd H l (.tup ys))) ∨ (SqT K H p ys ∧ Q (.ref p) H))
def fTuple : F1 := fun x Q => match x with
  | .list ds => Q (.fz (.tuple ds))
  | .tuple ds => Q (.fz (.tuple ds))
  | _ => False
theorem cl_tuple : CaL K (fun xs H Q => ∃ p ys, xs = [.ref p] ∧ ((SqL K H p ys ∧ ∀ l, H l = none → Q (.ref l) (upd H l (.tup ys))) ∨ (SqT K H p ys ∧ Q (.ref p) H))) (fA1 fTuple) := by
  intro f g σ H ρ vs ds Q R hK hR hA hF0 k
  subst hK
  obtain ⟨d, rfl, hF⟩ := fA1_some hF0
  obtain ⟨v, rfl, h⟩ := hA.one
  cases d with
  | list ds =>
    obtain ⟨a, xs, rfl, e1, r1⟩ := h.list fz_sub
    exact ⟨a, xs, rfl, .inl ⟨.inl (.inl e1), OEnd.tup k hR r1 hF⟩⟩
  | tuple ds =>
    obtain ⟨a, xs, rfl, e1, r1, z1⟩ := h.tuple fz_sub
    exact ⟨a, xs, rfl, .inr ⟨e1, OEnd.fz k hR (.tup z1 r1) hF⟩⟩
  | none => exact hF.elim
  | bool _ => exact hF.elim
  | int _ => exact hF.elim
  | dict _ => exact hF.elim
  | str _ => exact hF.elim
def fList : F1 := fun x Q => match x with
  | .list ds => Q (.nw (.list ds))
  | .tuple ds => Q (.nw (.list ds))
  | _ => False
theorem cl_list : CaL K (fun xs H Q => ∃ p ys, xs = [.ref p] ∧ (SqL K H p ys ∨ SqT K H p ys) ∧ ∀ l, H l = none → Q (.ref l) (upd H l (.lst ys))) (fA1 fList) := by
  intro f g σ H ρ vs ds Q R hK hR hA hF0 k
  subst hK
  obtain ⟨d, rfl, hF⟩ := fA1_some hF0
  obtain ⟨v, rfl, h⟩ := hA.one
  cases d with
  | list ds =>
    obtain ⟨a, xs, rfl, e1, r1⟩ := h.list fz_sub
    exact ⟨a, xs, rfl, .inl (.inl (.inl e1)), OEnd.lst k hR r1 hF⟩
  | tuple ds =>
    obtain ⟨a, xs, rfl, e1, r1, z1⟩ := h.tuple fz_sub
    exact ⟨a, xs, rfl, .inr e1, OEnd.lst k hR r1 hF⟩
  | none => exact hF.elim
  | bool _ => exact hF.elim
  | int _ => exact hF.elim
  | dict _ => exact hF.elim
  | str _ => exact hF.elim
/-! ### ints in a list -/
def intsOf : List D → Option (List Int)
  | [] => some []
  | .int i :: r => match intsOf r with
    | some ns => some (i :: ns)
    | none => none
  | _ => none
theorem intsOf_eq {ds : List D} {ns : List Int} (h : intsOf ds = some ns) : ds = ns.map PyData.int := by
  induction ds generalizing ns with
  | nil => cases h; rfl
  | cons d ds ih =>
    cases d with
    | int i =>
      unfold intsOf at h
      split at h
      · rename_i ms e
        cases h
        rw [ih e]; rfl
      · cases h
    | _ => cases h
theorem intsOf_map (ns : List Int) : intsOf (ns.map PyData.int) = some ns := by
  induction ns with
  | nil => rfl
  | cons n ns ih => simp [intsOf, ih]
def boolsOf : List D → Option (List Bool)
  | [] => some []
  | .bool i :: r => match boolsOf r with
    | some ns => some (i :: ns)
    | none => none
  | _ => none
theorem boolsOf_eq {ds : List D} {ns : List Bool} (h : boolsOf ds = some ns) : ds = ns.map PyData.bool := by
  induction ds generalizing ns with
  | nil => cases h; rfl
  | cons d ds ih =>
    cases d with
    | bool i =>
      unfold boolsOf at h
      split at h
      · rename_i ms e
        cases h
        rw [ih e]; rfl
      · cases h
    | _ => cases h
theorem boolsOf_map (ns : List Bool) : boolsOf (ns.map PyData.bool) = some ns := by
  induction ns with
  | nil => rfl
  | cons n ns ih => simp [boolsOf, ih]
def wN (o : Option (List Int)) (k : List Int → Prop) : Prop := match o with
  | some ns => k ns
  | none => False
theorem wN_some {o : Option (List Int)} {k : List Int → Prop} (h : wN o k) : ∃ b, o = some b ∧ k b := by
  cases o with
  | some x => exact ⟨x, rfl, h⟩
  | none => exact h.elim
def wBs (o : Option (List Bool)) (k : List Bool → Prop) : Prop := match o with
  | some ns => k ns
  | none => False
theorem wBs_some {o : Option (List Bool)} {k : List Bool → Prop} (h : wBs o k) : ∃ b, o = some b ∧ k b := by
  cases o with
  | some x => exact ⟨x, rfl, h⟩
  | none => exact h.elim
theorem RN.lints {F H : Hp} {v : V} {ns : List Int} (e : Same F H) (h : RN K F H v (.list (ns.map PyData.int))) : ∃ a, v = .ref a ∧ SqL K H a (ns.map V.int) := by
  obtain ⟨a, xs, rfl, e1, r1⟩ := h.list e
  rw [r1.ints] at e1
  exact ⟨a, rfl, .inl (.inl e1)⟩
theorem RN.lbools {F H : Hp} {v : V} {ns : List Bool} (e : Same F H) (h : RN K F H v (.list (ns.map PyData.bool))) : ∃ a, v = .ref a ∧ SqL K H a (ns.map V.bl) := by
  obtain ⟨a, xs, rfl, e1, r1⟩ := h.list e
  rw [r1.bools] at e1
  exact ⟨a, rfl, .inl (.inl e1)⟩
def listOf : D → Option (List D)
  | .list ds => some ds
  | _ => none
def fInts (G : List Int → (Rv → Prop) → Prop) : F1 := fun x Q => wA (listOf x) fun ds => wN (intsOf ds) fun ns => G ns Q
theorem fInts_some {G : List Int → (Rv → Prop) → Prop} {x : D} {Q : Rv → Prop} (h : fInts G x Q) : ∃ ns, x = .list (ns.map PyData.int) ∧ G ns Q := by
  obtain ⟨ds, e, h1⟩ := wA_some h
  obtain ⟨ns, e2, h2⟩ := wN_some h1
  cases x with
  | list xs => cases e; exact ⟨ns, by rw [intsOf_eq e2], h2⟩
  | _ => cases e
def fSum : F1 := fInts fun ns Q => Q (.fz (.int ns.sum))
theorem cl_sum : CaL K (rSum K) (fA1 fSum) := by
  intro f g σ H ρ vs ds Q R hK hR hA hF0 k
  subst hK
  obtain ⟨d, rfl, hF⟩ := fA1_some hF0
  obtain ⟨v, rfl, h⟩ := hA.one
  obtain ⟨ns, rfl, q⟩ := fInts_some hF
  obtain ⟨a, rfl, e⟩ := h.lints fz_sub
  exact ⟨a, ns, rfl, e, OEnd.fz k hR (.int _) q⟩
def fMaxL : F1 := fInts fun ns Q => 0 < ns.length ∧ ∀ m, m ∈ ns → (∀ y ∈ ns, y ≤ m) → Q (.fz (.int m))
theorem cl_max : CaL K (rMax K) (fA1 fMaxL) := by
  intro f g σ H ρ vs ds Q R hK hR hA hF0 k
  subst hK
  obtain ⟨d, rfl, hF⟩ := fA1_some hF0
  obtain ⟨v, rfl, h⟩ := hA.one
  obtain ⟨ns, rfl, hl, q⟩ := fInts_some hF
  obtain ⟨a, rfl, e⟩ := h.lints fz_sub
  exact ⟨a, ns, rfl, e, hl, fun m hm hle => OEnd.fz k hR (.int _) (q m hm hle)⟩
def fMinL : F1 := fInts fun ns Q => 0 < ns.length ∧ ∀ m, m ∈ ns → (∀ y ∈ ns, m ≤ y) → Q (.fz (.int m))
theorem cl_min : CaL K (rMin K) (fA1 fMinL) := by
  intro f g σ H ρ vs ds Q R hK hR hA hF0 k
  subst hK
  obtain ⟨d, rfl, hF⟩ := fA1_some hF0
  obtain ⟨v, rfl, h⟩ := hA.one
  obtain ⟨ns, rfl, hl, q⟩ := fInts_some hF
  obtain ⟨a, rfl, e⟩ := h.lints fz_sub
  exact ⟨a, ns, rfl, e, hl, fun m hm hle => OEnd.fz k hR (.int _) (q m hm hle)⟩
def fSorted : F1 := fInts fun ns Q => ∀ ms : List Int, ms.Perm ns → ms.Pairwise (· ≤ ·) → Q (.nw (.list (ms.map PyData.int)))
theorem cl_sorted : CaL K (rSortedI K) (fA1 fSorted) := by
  intro f g σ H ρ vs ds Q R hK hR hA hF0 k
  subst hK
  obtain ⟨d, rfl, hF⟩ := fA1_some hF0
  obtain ⟨v, rfl, h⟩ := hA.one
  obtain ⟨ns, rfl, q⟩ := fInts_some hF
  obtain ⟨a, rfl, e⟩ := h.lints fz_sub
  exact ⟨a, ns, rfl, e, fun ms p hp hs hn => OEnd.lst k hR (RpA.of_ints ms) (q ms hp hs) p hn⟩
def fBools (G : List Bool → Bool) : F1 := fun x Q => wA (listOf x) fun ds => wBs (boolsOf ds) fun bs => Q (.fz (.bool (G bs)))
theorem fBools_some {G : List Bool → Bool} {x : D} {Q : Rv → Prop} (h : fBools G x Q) : ∃ ns, x = .list (ns.map PyData.bool) ∧ Q (.fz (.bool (G ns))) := by
  obtain ⟨ds, e, h1⟩ := wA_some h
  obtain ⟨ns, e2, h2⟩ := wBs_some h1
  cases x with
  | list xs => cases e; exact ⟨ns, by rw [boolsOf_eq e2], h2⟩
  | _ => cases e
def fAny : F1 := fBools fun bs => bs.any id
def fAll : F1 := fBools fun bs => bs.all id
theorem cl_any : CaL K (rAny K) (fA1 fAny) := by
  intro f g σ H ρ vs ds Q R hK hR hA hF0 k
  subst hK
  obtain ⟨d, rfl, hF⟩ := fA1_some hF0
  obtain ⟨v, rfl, h⟩ := hA.one
  obtain ⟨ns, rfl, q⟩ := fBools_some hF
  obtain ⟨a, rfl, e⟩ := h.lbools fz_sub
  exact ⟨a, ns, rfl, e, OEnd.fz k hR (.bl _) q⟩
theorem cl_all : CaL K (rAll K) (fA1 fAll) := by
  intro f g σ H ρ vs ds Q R hK hR hA hF0 k
  subst hK
  obtain ⟨d, rfl, hF⟩ := fA1_some hF0
  obtain ⟨v, rfl, h⟩ := hA.one
  obtain ⟨ns, rfl, q⟩ := fBools_some hF
  obtain ⟨a, rfl, e⟩ := h.lbools fz_sub
  exact ⟨a, ns, rfl, e, OEnd.fz k hR (.bl _) q⟩
def fMax2 : F2 := fII0 fun i j => .int (max i j)
def fMin2 : F2 := fII0 fun i j => .int (min i j)
theorem fII0_some {G : Int → Int → D} {x y : D} {Q : Rv → Prop} (h : fII0 G x y Q) : ∃ i j, x = .int i ∧ y = .int j ∧ Q (.fz (G i j)) := by
  unfold fII0 at h
  split at h
  · exact ⟨_, _, rfl, rfl, h⟩
  · exact h.elim
theorem cl_max2 : CaL K (fun xs H Q => ∃ i j, xs = [.int i, .int j] ∧ Q (.int (if j > i then j else i)) H) (fA2 fMax2) := by
  intro f g σ H ρ vs ds Q R hK hR hA hF0 k
  subst hK
  obtain ⟨d, e, rfl, hF⟩ := fA2_some hF0
  obtain ⟨v, u, rfl, h, h'⟩ := hA.two
  obtain ⟨i, j, rfl, rfl, q⟩ := fII0_some hF
  obtain rfl := h.int
  obtain rfl := h'.int
  refine ⟨i, j, rfl, OEnd.fz k hR (.int _) ?_⟩
  have e : (if j > i then j else i) = max i j := by split <;> omega
  rw [e]; exact q
theorem cl_min2 : CaL K (fun xs H Q => ∃ i j, xs = [.int i, .int j] ∧ Q (.int (if j < i then j else i)) H) (fA2 fMin2) := by
  intro f g σ H ρ vs ds Q R hK hR hA hF0 k
  subst hK
  obtain ⟨d, e, rfl, hF⟩ := fA2_some hF0
  obtain ⟨v, u, rfl, h, h'⟩ := hA.two
  obtain ⟨i, j, rfl, rfl, q⟩ := fII0_some hF
  obtain rfl := h.int
  obtain rfl := h'.int
  refine ⟨i, j, rfl, OEnd.fz k hR (.int _) ?_⟩
  have e : (if j < i then j else i) = min i j := by split <;> omega
  rw [e]; exact q
def fAbs : F1 := fun x Q => match x with
  | .int i => Q (.fz (.int (i.natAbs : Int)))
  | _ => False
theorem cl_abs : CaL K (fun xs H Q => ∃ i, xs = [.int i] ∧ Q (.int (if i < 0 then -i else i)) H) (fA1 fAbs) := by
  intro f g σ H ρ vs ds Q R hK hR hA hF0 k
  subst hK
  obtain ⟨d, rfl, hF⟩ := fA1_some hF0
  obtain ⟨v, rfl, h⟩ := hA.one
  cases d with
  | int i =>
    obtain rfl := h.int
    refine ⟨i, rfl, OEnd.fz k hR (.int _) ?_⟩
    have e : (if i < 0 then -i else i) = (i.natAbs : Int) := by split <;> omega
    rw [e]; exact hF
  | _ => exact hF.elim
def fInt : F1 := fun x Q => match x with
  | .int i => Q (.fz (.int i))
  | .bool b => Q (.fz (.int (if b then 1 else 0)))
  | _ => False
theorem cl_int : CaL K (fun xs H Q => (∃ i, xs = [.int i] ∧ Q (.int i) H) ∨ ∃ k, xs = [.bl k] ∧ Q (.int (if k then 1 else 0)) H) (fA1 fInt) := by
  intro f g σ H ρ vs ds Q R hK hR hA hF0 k
  subst hK
  obtain ⟨d, rfl, hF⟩ := fA1_some hF0
  obtain ⟨v, rfl, h⟩ := hA.one
  cases d with
  | int i => obtain rfl := h.int; exact .inl ⟨i, rfl, OEnd.fz k hR (.int _) hF⟩
  | bool b => obtain rfl := h.bool; exact .inr ⟨b, rfl, OEnd.fz k hR (.int _) hF⟩
  | _ => exact hF.elim
/-- what a repr asks -/
def reprOk (d : D) : Prop := d.showable = true ∧ d.hasDict = false ∧ d.depth ≤ 60 ∧ d.shown.length ≤ sizeLine
def fRepr : F1 := fun x Q => reprOk x ∧ Q (.fz (.str x.shown))
theorem cl_repr : CaL K (rRepr K) (fA1 fRepr) := by
  intro f g σ H ρ vs ds Q R hK hR hA hF0 k
  subst hK
  obtain ⟨d, rfl, hF⟩ := fA1_some hF0
  obtain ⟨v, rfl, h⟩ := hA.one
  obtain ⟨⟨h1, h2, h3, h4⟩, q⟩ := hF
  exact ⟨v, d, rfl, h.dp fz_sub h2, h1, h2, h3, h4, OEnd.fz k hR (.str _) q⟩
end
/-! ### x or y, on truth: tests of any value -/
def truD : D → Bool
  | .none => false
  | .bool b => b
  | .int i => i != 0
  | .str z => (z.length : Int) != 0
  | .list ds => !ds.isEmpty
  | .tuple ds => !ds.isEmpty
  | .dict es => !es.isEmpty
/-! ### statements that change a list of one's own -/
section
variable {f : Fr} {g : Gs} {σ : L2.St} {H : Hp} {ρ : Rho} {d d' : D} {i : Nat} {a : Addr} {o : HO}
theorem Rel.mutOwn (R : Rel f g σ H ρ) (hs : ρ[i]? = some (some (.ow d))) (hv : σ[i]? = some (some (.ref a))) (hr : Rt f.K (Fz H g.M) (upd H a o) a d') :
    Rel f g σ (upd H a o) (ρ.set i (some (.ow d'))) ∧ Gro g H g (upd H a o) := by
  obtain ⟨w, e1, b, e2, m, h0, ns, r⟩ := R.slot i _ hs
  rw [hv] at e1; cases e1; cases e2
  have hk : ∀ b o', H b = some o' → b ≠ a → upd H a o b = some o' := fun b o' e n => by rw [upd_ne n]; exact e
  have hG : Same (Fz H g.M) (Fz (upd H a o) g.M) := fz_mono fun b o' e n => ⟨hk b o' e fun q => n (q ▸ m), n⟩
  have hd : ∀ b, upd H a o b = none → H b = none := fun b e => by
    by_cases q : b = a
    · rw [q, upd_same] at e; cases e
    · rw [upd_ne q] at e; exact e
  refine ⟨⟨fun b o' e n => hk b o' (R.keep b o' e n) (fun q => by rw [q, h0] at e; cases e), fun b e => R.dom b (hd b e), R.m0, R.m00, fun b m => by
    by_cases q : b = a
    · rw [q]; exact hr.mu
    · rw [upd_ne q]; exact R.mU b m, fun p c e => ?_, by rw [List.length_set]; exact R.len, fun j s e => ?_, fun j k l d e h1 h2 h3 h4 => ?_, fun b hb => ⟨(R.tmp b hb).1, (R.tmp b hb).2.1, fun j e h1 h2 => ?_⟩, R.fpM, R.fpn, mq_set R.mq (fun _ z => nomatch z)⟩, ⟨hG, fun _ h => h, rfl, fun b hb => upd_ne fun q => ?_, rfl⟩⟩
  · obtain ⟨h1, h2, h3, h4, h5, h6⟩ := R.src p c e
    exact ⟨h1, h2, h3, h4, h5, srcOk_upd h6 (Ne.symm (ns.1 p c e).1) (Ne.symm (ns.1 p c e).2)⟩
  · rcases getset e with ⟨rfl, q⟩ | ⟨ne, q⟩
    · cases q
      exact ⟨_, hv, a, rfl, m, h0, ns, hr.mono hG fun _ h => h⟩
    · obtain ⟨w, e1, q1⟩ := R.slot j s q
      refine ⟨w, e1, ?_⟩
      cases s with
      | sh d => exact Rp.mono hG q1
      | bo d => exact BoV.mono hG q1
      | ow d =>
        obtain ⟨b, e2, m', h0', ns', r⟩ := q1
        refine ⟨b, e2, m', h0', ns', r.mono hG fun o' e' => hk b o' e' fun z => ne ?_⟩
        rw [z] at e2
        rw [e2] at e1
        exact R.uq i j a _ _ hs q hv e1
      | src => exact q1
      | scr => exact q1
      | mu m2 =>
        obtain ⟨p, as, e2, e3, r⟩ := q1
        exact ⟨p, as, e2, e3, r.mono hG fun b hb o' e' => hk b o' e' fun z => ns.2 (by rw [e2, ← z]; exact hb)⟩
  · have j1 : ∃ d1, ρ[j]? = some (some (.ow d1)) := by
      rcases getset h1 with ⟨rfl, _⟩ | ⟨_, q⟩
      · exact ⟨_, hs⟩
      · exact ⟨_, q⟩
    have k1 : ∃ d1, ρ[k]? = some (some (.ow d1)) := by
      rcases getset h2 with ⟨rfl, _⟩ | ⟨_, q⟩
      · exact ⟨_, hs⟩
      · exact ⟨_, q⟩
    obtain ⟨d1, j1⟩ := j1
    obtain ⟨d2, k1⟩ := k1
    exact R.uq j k l d1 d2 j1 k1 h3 h4
  · have j1 : ∃ d1, ρ[j]? = some (some (.ow d1)) := by
      rcases getset h1 with ⟨rfl, _⟩ | ⟨_, q⟩
      · exact ⟨_, hs⟩
      · exact ⟨_, q⟩
    obtain ⟨d1, j1⟩ := j1
    exact (R.tmp b hb).2.2 j d1 j1 h2
  · subst q
    exact (R.tmp b hb).2.2 i d hs hv
end
def ownL (ρ : Rho) (i : Nat) : Option (List D) := match ρ[i]? with
  | some (some (.ow (.list ds))) => some ds
  | _ => none
theorem ownL_some {ρ : Rho} {i : Nat} {ds : List D} (h : ownL ρ i = some ds) : ρ[i]? = some (some (.ow (.list ds))) := by
  unfold ownL at h
  split at h
  · rename_i xs e; cases h; exact e
  · cases h
/-- xs.append(e) -/
def dApp (i : Nat) (de : DE) : DS := fun DD ρ => wA (ownL ρ i) fun _ => de ρ fun r ρ1 => wF (frz ρ1 r) fun d ρ2 => wA (ownL ρ2 i) fun xs => xs.length < sizeLine ∧ DD.nx (ρ2.set i (some (.ow (.list (xs ++ [d])))))
theorem ls_app {K : PySem.W.Frag} {i : Nat} {te : TE} {de : DE} (h : LE K te de) : LS K (tDrop (tBM K "list" rAppend (tVar i) (tCons te tNil))) (dApp i de) := by
  intro f g σ H ρ DD E hK R hd l
  obtain ⟨xs0, e0, hd⟩ := wA_some hd
  obtain ⟨w, e1, a, e2, m, h0, ns, r⟩ := R.slot i _ (ownL_some e0)
  subst e2
  refine ⟨.ref a, e1, ?_, ?_⟩
  · cases r with | lst h r => exact .inl ⟨rfl, _, .inl (.inl h)⟩
  · refine h.opd hK R hd fun v H1 g1 ρ1 r1 R1 G1 O1 q1 => ?_
    obtain ⟨d, ρ2, e3, q1⟩ := wF_some q1
    obtain ⟨g2, R2, G2, hv⟩ := O1.frz R1 e3
    obtain ⟨xs, e4, hl, q1⟩ := wA_some q1
    have s2 := ownL_some e4
    obtain ⟨w2, e5, a2, e6, m2, h02, ns2, r2⟩ := R2.slot i _ s2
    rw [e1] at e5; cases e5; cases e6
    cases r2 with
    | lst hh rr =>
      refine ⟨a, _, v, rfl, rfl, hh, by rw [rr.length]; exact hl, ?_⟩
      obtain ⟨R3, G3⟩ := R2.mutOwn (o := .lst (_ ++ [v])) (d' := .list (xs ++ [d])) s2 e1 (.lst upd_same (rr.append (.cons hv .nil)))
      exact l.nx g2 σ _ _ R3 ((G1.trans G2).trans G3) q1
/-- x += e, ints -/
def dAug (i : Nat) (de : DE) (F : F2) : DS := fun DD ρ => wD (slD ρ[i]?) fun x => de ρ fun r ρ1 => wD (res ρ1 r) fun y => F x y fun q => wR (asg ρ1 i q) DD.nx
end DL

set_option Elab.async false
set_option linter.all false
set_option maxRecDepth 100000
set_option maxHeartbeats 4000000
set_option autoImplicit false
namespace DL
open PySem L2

/-! ### keys -/
def keyOf : D → Option Key
  | .int i => some (.inl i)
  | .str x => some (.inr x)
  | _ => none
theorem keyOf_keyD (k : Key) : keyOf (keyD k) = some k := by cases k <;> rfl
theorem keyOf_kV {K : PySem.W.Frag} {F : Hp} {v : V} {d : D} {k : Key} (h : Rp K F v d) (e : keyOf d = some k) : v = kV k := by
  cases h <;> cases e <;> rfl
theorem keyOf_flat {d : D} {k : Key} (e : keyOf d = some k) : flatP d = true := by
  cases d <;> first | rfl | cases e
theorem keyOf_eq {d : D} {k : Key} (e : keyOf d = some k) : d = keyD k := by
  cases d <;> first | (cases e; rfl) | cases e
/-- what a dict tells of a key -/
def lookE : List (D × D) → Key → Option D
  | [], _ => none
  | (a, d) :: r, k => if keyOf a = some k then some d else lookE r k
def hasE (es : List (D × D)) (k : Key) : Bool := es.any fun e => decide (keyOf e.1 = some k)
def putE (es : List (D × D)) (k : Key) (x : D) : List (D × D) := if hasE es k = true then es.map (fun e => if keyOf e.1 = some k then (e.1, x) else e) else es ++ [(keyD k, x)]
section
variable {K : PySem.W.Frag} {F : Hp}
theorem RpK.look {kvs : List (Key × V)} {es : List (D × D)} (h : RpK K F kvs es) (k : Key) : (valV kvs k = none ∧ lookE es k = none) ∨ ∃ v d, valV kvs k = some v ∧ lookE es k = some d ∧ Rp K F v d := by
  induction es generalizing kvs with
  | nil => cases h; exact .inl ⟨rfl, rfl⟩
  | cons e es ih =>
    cases h with
    | @cons k0 v0 d0 vs ds h r =>
      unfold lookE
      rw [keyOf_keyD]
      by_cases q : k0 = k
      · subst q
        refine .inr ⟨v0, d0, ?_, by rw [if_pos rfl], h⟩
        simp [valV]
      · rw [if_neg (fun z => q (Option.some.inj z))]
        have e1 : valV ((k0, v0) :: vs) k = valV vs k := by simp [valV, q]
        rw [e1]
        exact ih r
theorem RpK.has {kvs : List (Key × V)} {es : List (D × D)} (h : RpK K F kvs es) (k : Key) : (kvs.any fun kv => decide (kv.1 = k)) = hasE es k := by
  induction es generalizing kvs with
  | nil => cases h; rfl
  | cons e es ih =>
    cases h with
    | @cons k0 v0 d0 vs ds h r =>
      show (decide (k0 = k) || _) = (decide (keyOf (keyD k0) = some k) || hasE es k)
      rw [ih r, keyOf_keyD]
      congr 1
      by_cases q : k0 = k
      · rw [q]; simp
      · simp [q]
theorem RpK.append {kvs kvs' : List (Key × V)} {es es' : List (D × D)} (h : RpK K F kvs es) (h' : RpK K F kvs' es') : RpK K F (kvs ++ kvs') (es ++ es') := by
  induction es generalizing kvs with
  | nil => cases h; exact h'
  | cons e es ih => cases h with | cons h r => exact .cons h (ih r)
theorem RpK.put {kvs : List (Key × V)} {es : List (D × D)} (h : RpK K F kvs es) (k : Key) {v : V} {d : D} (hv : Rp K F v d) : RpK K F (putK kvs k v) (putE es k d) := by
  unfold putK putE
  rw [h.has k]
  by_cases q : hasE es k = true
  · rw [if_pos q, if_pos q]
    clear q
    induction es generalizing kvs with
    | nil => cases h; exact .nil
    | cons e es ih =>
      cases h with
      | @cons k0 v0 d0 vs ds h r =>
        rw [List.map_cons, List.map_cons]
        by_cases q : k0 = k
        · rw [if_pos q, if_pos (by rw [keyOf_keyD, q])]
          exact .cons hv (ih r)
        · rw [if_neg q, if_neg (by rw [keyOf_keyD]; exact fun z => q (Option.some.inj z))]
          exact .cons h (ih r)
  · rw [if_neg q, if_neg q]
    exact h.append (.cons hv .nil)
theorem RpK.length {kvs : List (Key × V)} {es : List (D × D)} (h : RpK K F kvs es) : kvs.length = es.length := by
  induction es generalizing kvs with
  | nil => cases h; rfl
  | cons e es ih => cases h with | cons h r => simp [ih r]
end
def dictOf : D → Option (List (D × D))
  | .dict es => if isT es = true then none else some es
  | _ => none
def wDE (o : Option D) (k : List (D × D) → Prop) : Prop := match o with
  | some (.dict es) => isT es = false ∧ k es
  | _ => False
theorem wDE_some {o : Option D} {k : List (D × D) → Prop} (h : wDE o k) : ∃ es, o = some (.dict es) ∧ isT es = false ∧ k es := by
  unfold wDE at h
  split at h
  · exact ⟨_, rfl, h⟩
  · exact h.elim
def wK (o : Option D) (k : Key → Prop) : Prop := match o with
  | some (.int i) => k (.inl i)
  | some (.str x) => k (.inr x)
  | _ => False
theorem wK_some {o : Option D} {k : Key → Prop} (h : wK o k) : ∃ q, o = some (keyD q) ∧ k q := by
  unfold wK at h
  split at h
  · exact ⟨.inl _, rfl, h⟩
  · exact ⟨.inr _, rfl, h⟩
  · exact h.elim
theorem RN.key {K : PySem.W.Frag} {F H : Hp} {v : V} {k : Key} (h : RN K F H v (keyD k)) : v = kV k := by
  cases k with
  | inl i => exact h.int
  | inr x => exact h.str
section
variable {K : PySem.W.Frag} {td ty tv : TE} {dd dk dv : DE} {i : Nat}
/-- d[k] -/
def dDGet (dd dk : DE) : DE := fun ρ Q => dd ρ fun r ρ1 => dk ρ1 fun q ρ2 => wDE (res ρ2 r) fun es => wK (res ρ2 q) fun k => ∃ d, lookE es k = some d ∧ Q (.fz d) ρ2
theorem le_dget (h : LE K td dd) (h' : LE K ty dk) : LE K (tDGet td ty) (dDGet dd dk) := by
  intro f g σ H ρ Q R hK hR hd k
  refine h.opd hK hR hd fun v H1 g1 ρ1 r1 R1 G1 O1 q1 => ?_
  refine h'.opd hK R1 q1 fun u H2 g2 ρ2 r2 R2 G2 O2 q2 => ?_
  obtain ⟨es, e1, nt, q2⟩ := wDE_some q2
  obtain ⟨key, e2, q2⟩ := wK_some q2
  obtain ⟨d, e3, q2⟩ := q2
  obtain ⟨a, kvs, rfl, hd, hr⟩ := ((O1.mono G2).rn R2 e1).dict fz_sub nt
  rw [(O2.rn R2 e2).key]
  rcases hr.look key with ⟨_, z⟩ | ⟨w, d', z1, z2, z3⟩
  · rw [e3] at z; cases z
  · rw [e3] at z2; cases z2
    refine ⟨a, w, rfl, .inl ⟨kvs, key, .inl hd, rfl, z1.symm⟩, ?_⟩
    exact k w H2 g2 ρ2 (.fz d) R2 (G1.trans G2) z3 q2
/-- d.get(k) -/
def dDGet1 (dd dk : DE) : DE := fun ρ Q => dd ρ fun r ρ1 => wDE (res ρ1 r) fun _ => dk ρ1 fun q ρ2 => wDE (res ρ2 r) fun es => wK (res ρ2 q) fun k => ∃ d, (lookE es k).getD .none = d ∧ Q (.fz d) ρ2
theorem le_dget1 (h : LE K td dd) (h' : LE K ty dk) : LE K (tDGet1 td ty) (dDGet1 dd dk) := by
  intro f g σ H ρ Q R hK hR hd k
  refine h.opd hK hR hd fun v H1 g1 ρ1 r1 R1 G1 O1 q1 => ?_
  obtain ⟨es0, e0, nt0, q1⟩ := wDE_some q1
  obtain ⟨a, kvs0, rfl, hd0, _⟩ := (O1.rn R1 e0).dict fz_sub nt0
  refine ⟨a, rfl, .inl ⟨kvs0, .inl hd0⟩, ?_⟩
  refine h'.opd hK R1 q1 fun u H2 g2 ρ2 r2 R2 G2 O2 q2 => ?_
  obtain ⟨es, e1, nt, q2⟩ := wDE_some q2
  obtain ⟨key, e2, q2⟩ := wK_some q2
  obtain ⟨a', kvs, ea, hd, hr⟩ := ((O1.mono G2).rn R2 e1).dict fz_sub nt
  cases ea
  rw [(O2.rn R2 e2).key]
  obtain ⟨_, rfl, q2⟩ := q2
  refine ⟨valV kvs key, .inl ⟨kvs, key, .inl hd, rfl, rfl⟩, ?_⟩
  rcases hr.look key with ⟨z0, z⟩ | ⟨w, d', z1, z2, z3⟩
  · rw [z0]
    rw [z] at q2
    exact k .non H2 g2 ρ2 (.fz .none) R2 (G1.trans G2) Rp.non q2
  · rw [z1]
    rw [z2] at q2
    exact k w H2 g2 ρ2 (.fz d') R2 (G1.trans G2) z3 q2
/-- k in d -/
def dDIn (neg : Bool) (dk dd : DE) : DE := fun ρ Q => dk ρ fun q ρ1 => dd ρ1 fun r ρ2 => wDE (res ρ2 r) fun es => wK (res ρ2 q) fun k => ∃ b, (lookE es k).isSome = b ∧ Q (.fz (.bool (neg != b))) ρ2
theorem le_din (h' : LE K ty dk) (h : LE K td dd) : LE K (tDIn ty td) (dDIn false dk dd) := by
  intro f g σ H ρ Q R hK hR hd k
  refine h'.opd hK hR hd fun u H1 g1 ρ1 r1 R1 G1 O1 q1 => ?_
  refine h.opd hK R1 q1 fun v H2 g2 ρ2 r2 R2 G2 O2 q2 => ?_
  obtain ⟨es, e1, nt, q2⟩ := wDE_some q2
  obtain ⟨key, e2, q2⟩ := wK_some q2
  obtain ⟨a, kvs, rfl, hd, hr⟩ := (O2.rn R2 e1).dict fz_sub nt
  rw [((O1.mono G2).rn R2 e2).key]
  refine ⟨a, valV kvs key, rfl, .inl ⟨kvs, key, .inl hd, rfl, rfl⟩, ?_⟩
  have e : (valV kvs key).isSome = (lookE es key).isSome := by
    rcases hr.look key with ⟨z0, z⟩ | ⟨w, d', z1, z2, z3⟩
    · rw [z0, z]; rfl
    · rw [z1, z2]; rfl
  obtain ⟨_, rfl, q2⟩ := q2
  rw [e]
  exact k _ H2 g2 ρ2 (.fz (.bool _)) R2 (G1.trans G2) (Rp.bl _) (by simpa using q2)
theorem le_dnin (h' : LE K ty dk) (h : LE K td dd) : LE K (tDNotIn ty td) (dDIn true dk dd) := by
  intro f g σ H ρ Q R hK hR hd k
  refine h'.opd hK hR hd fun u H1 g1 ρ1 r1 R1 G1 O1 q1 => ?_
  refine h.opd hK R1 q1 fun v H2 g2 ρ2 r2 R2 G2 O2 q2 => ?_
  obtain ⟨es, e1, nt, q2⟩ := wDE_some q2
  obtain ⟨key, e2, q2⟩ := wK_some q2
  obtain ⟨a, kvs, rfl, hd, hr⟩ := (O2.rn R2 e1).dict fz_sub nt
  rw [((O1.mono G2).rn R2 e2).key]
  refine ⟨a, valV kvs key, rfl, .inl ⟨kvs, key, .inl hd, rfl, rfl⟩, ?_⟩
  have e : (valV kvs key).isSome = (lookE es key).isSome := by
    rcases hr.look key with ⟨z0, z⟩ | ⟨w, d', z1, z2, z3⟩
    · rw [z0, z]; rfl
    · rw [z1, z2]; rfl
  obtain ⟨_, rfl, q2⟩ := q2
  rw [e]
  exact k _ H2 g2 ρ2 (.fz (.bool _)) R2 (G1.trans G2) (Rp.bl _) (by simpa using q2)
/-- {} -/
def dDNew : DE := fun ρ Q => Q (.nw (.dict [])) ρ
def dDNewT : DE := fun ρ Q => Q (.nw (.dict [tmark])) ρ
theorem le_dnew : LE K tDNewK dDNew := by
  intro f g σ H ρ Q R hK hR hd k p hp
  obtain ⟨R3, G3, V3⟩ := hR.own (o := .dK []) (d := .dict []) hp (.dic upd_same .nil)
  exact k _ _ _ ρ _ R3 G3 V3 hd
theorem le_dnewT : LE K tDNewT dDNewT := by
  intro f g σ H ρ Q R hK hR hd k p hp
  obtain ⟨R3, G3, V3⟩ := hR.own (o := .dT []) (d := .dict [tmark]) hp (.dct upd_same .nil)
  exact k _ _ _ ρ _ R3 G3 V3 hd
/-- d[k] = v, d one's own -/
def ownD (ρ : Rho) (i : Nat) : Option (List (D × D)) := match ρ[i]? with
  | some (some (.ow (.dict es))) => if isT es = true then none else some es
  | _ => none
theorem ownD_some {ρ : Rho} {i : Nat} {es : List (D × D)} (h : ownD ρ i = some es) : ρ[i]? = some (some (.ow (.dict es))) ∧ isT es = false := by
  unfold ownD at h
  split at h
  · rename_i xs e
    split at h
    · cases h
    · rename_i n
      cases h
      exact ⟨e, by simpa using n⟩
  · cases h
def wO (o : Option (List (D × D))) (k : List (D × D) → Prop) : Prop := match o with
  | some es => k es
  | none => False
theorem wO_some {o : Option (List (D × D))} {k : List (D × D) → Prop} (h : wO o k) : ∃ b, o = some b ∧ k b := by
  cases o with
  | some x => exact ⟨x, rfl, h⟩
  | none => exact h.elim
def dDPut (i : Nat) (dk dv : DE) : DS := fun DD ρ => dv ρ fun r ρ1 => wF (frz ρ1 r) fun d ρ2 => (∃ es, ρ2[i]? = some (some (.ow (.dict es))) ∧ isT es = false) ∧ dk ρ2 fun q ρ3 => ∃ es, ρ3[i]? = some (some (.ow (.dict es))) ∧ isT es = false ∧ wK (res ρ3 q) fun k => es.length < sizeLine ∧ DD.nx (ρ3.set i (some (.ow (.dict (putE es k d)))))
theorem ls_dput (h : LE K ty dk) (h' : LE K tv dv) : LS K (sDPut (tVar i) ty tv) (dDPut i dk dv) := by
  intro f g σ H ρ DD E hK R hd l
  refine h'.opd hK R hd fun v H1 g1 ρ1 r1 R1 G1 O1 q1 => ?_
  obtain ⟨d, ρ2, e2, q1⟩ := wF_some q1
  obtain ⟨g2, R2, G2, hv⟩ := O1.frz R1 e2
  obtain ⟨⟨es0, e0, _⟩, q1⟩ := q1
  obtain ⟨w, w1, a, wa, m, h0, ns, rr⟩ := R2.slot i _ e0
  subst wa
  refine ⟨.ref a, w1, ?_⟩
  refine h.opd hK R2 q1 fun u H3 g3 ρ3 r3 R3 G3 O3 q3 => ?_
  obtain ⟨es, s4, nt, q3⟩ := q3
  obtain ⟨key, e5, hl, q3⟩ := wK_some q3
  obtain ⟨w', w2, a', wa', m', h0', ns', r4⟩ := R3.slot i _ s4
  rw [w1] at w2; cases w2; cases wa'
  rw [(O3.rn R3 e5).key]
  obtain ⟨a2, kvs, ea, hk, hr⟩ := (show RN f.K (Fz H3 g3.M) H3 (.ref a) (.dict es) from .inr ⟨a, rfl, r4⟩).dict fz_sub nt
  cases ea
  refine ⟨a, _, rfl, DPut.k (k := key) hk (by rw [hr.length]; exact hl), ?_⟩
  obtain ⟨R5, G5⟩ := R3.mutOwn (o := .dK (putK kvs key v)) (d' := .dict (putE es key d)) s4 w1 (.dic upd_same (hr.put key (hv.mono G3.fz)))
  exact l.nx g3 σ _ _ R5 (((G1.trans G2).trans G3).trans G5) q3
end
/-! ### chains -/
def dChain (F F' : F2) (da db dc : DE) : DE := fun ρ Q => da ρ fun r1 ρ1 => db ρ1 fun r2 ρ2 => wD (res ρ2 r1) fun x => wD (res ρ2 r2) fun y => F x y fun b => wB (res ρ2 b) fun b => useB b (dc ρ2 fun r3 ρ3 => wD (res ρ3 r2) fun y => wD (res ρ3 r3) fun z => F' y z fun r => Q r ρ3) (Q (.fz (.bool false)) ρ2)
theorem le_chain {K : PySem.W.Frag} {ta tb tc : TE} {da db dc : DE} {r r' : R2} {F F' : F2} (ha : LE K ta da) (hb : LE K tb db) (hc : LE K tc dc) (ho : OpL K r F) (ho' : OpL K r' F') : LE K (tChain r r' ta tb tc) (dChain F F' da db dc) := by
  intro f g σ H ρ Q R hK hR hd k
  refine ha.opd hK hR hd fun v H1 g1 ρ1 r1 R1 G1 O1 q1 => ?_
  refine hb.opd hK R1 q1 fun u H2 g2 ρ2 r2 R2 G2 O2 q2 => ?_
  obtain ⟨x, e1, q2⟩ := wD_some q2
  obtain ⟨y, e2, q2⟩ := wD_some q2
  subst hK
  refine ho f g2 σ H2 ρ2 v u x y _ _ rfl R2 ((O1.mono G2).rn R2 e1) (O2.rn R2 e2) q2 fun z H3 g3 r R3 G3 V3 q3 => ?_
  obtain ⟨b, e3, q3⟩ := wB_some q3
  obtain ⟨g4, R4, G4, O4⟩ := V3.opd R3
  refine ⟨b, (O4.rn R4 e3).bool, ?_⟩
  cases b with
  | false =>
    rw [if_neg Bool.false_ne_true]
    replace q3 := useB_f q3
    exact k _ H3 g4 ρ2 (.fz (.bool false)) R4 ((G1.trans G2).trans (G3.trans G4)) (Rp.bl false) q3
  | true =>
    rw [if_pos rfl]
    replace q3 := useB_t q3
    refine hc.opd rfl R4 q3 fun w H5 g5 ρ5 r5 R5 G5 O5 q5 => ?_
    obtain ⟨y', e6, q5⟩ := wD_some q5
    obtain ⟨z', e7, q5⟩ := wD_some q5
    exact ho' f g5 σ H5 ρ5 u w y' z' _ R rfl R5 ((((O2.mono G3).mono G4).mono G5).rn R5 e6) (O5.rn R5 e7) q5 fun z H6 g6 r R6 G6 V6 q6 => k z H6 g6 ρ5 r R6 ((((G1.trans G2).trans (G3.trans G4)).trans G5).trans G6) V6 q6
/-! ### truth -/
def dTru (da : DE) : DT := fun ρ Q => da ρ fun r ρ1 => wD (res ρ1 r) fun x => (strOk0 x ∧ (match x with | .dict es => isT es = false | _ => True)) ∧ Q (truD x) ρ1
theorem emp_eq {K : PySem.W.Frag} {F : Hp} {vs : List V} {ds : List D} (h : RpA K F vs ds) : (!ds.isEmpty) = !vs.isEmpty := by
  cases ds <;> cases h <;> rfl
theorem lt_truth {K : PySem.W.Frag} {ta : TE} {da : DE} (h : LE K ta da) : LT K (fun σ H Q => ta σ H fun x H' => ∃ k, TruV K x H' k ∧ Q k H') (dTru da) := by
  intro f g σ H ρ Q R hK hR hd k
  refine h.opd hK hR hd fun v H1 g1 ρ1 r1 R1 G1 O1 q1 => ?_
  obtain ⟨x, e1, ⟨hs, nt⟩, q1⟩ := wD_some q1
  subst hK
  have rn := O1.rn R1 e1
  refine ⟨truD x, ?_, k _ H1 g1 ρ1 R1 G1 q1⟩
  cases x with
  | none => obtain rfl := rn.non; rfl
  | bool b => obtain rfl := rn.bool; rfl
  | int b => obtain rfl := rn.int; rfl
  | str z => obtain rfl := rn.str; exact ⟨hs, rfl⟩
  | list ds =>
    obtain ⟨a, xs, rfl, e2, r2⟩ := rn.list fz_sub
    exact .inl ⟨xs, .inl (.inl e2), emp_eq r2⟩
  | tuple ds =>
    obtain ⟨a, xs, rfl, e2, r2, _⟩ := rn.tuple fz_sub
    exact .inr (.inl ⟨xs, e2, emp_eq r2⟩)
  | dict es =>
    obtain ⟨a, kvs, rfl, e2, r2⟩ := rn.dict fz_sub nt
    refine .inr (.inr ⟨kvs, e2, ?_⟩)
    cases es <;> cases r2 <;> rfl
end DL

set_option Elab.async false
set_option linter.all false
set_option maxRecDepth 100000
set_option maxHeartbeats 4000000
set_option autoImplicit false
namespace DL
open PySem L2

/-! ### loops by what holds -/
theorem dLoop_of {dg : DG} {db : DS} {DD : DEnds} (ds : List D) (I : Nat → Rho → Prop) {ρ : Rho} (h0 : I 0 ρ)
    (hs : ∀ (i : Nat) (d : D) (ρ : Rho) (k : Rho → Prop), ds[i]? = some d → I i ρ → (∀ ρ', I (i + 1) ρ' → k ρ') → dg (.fz d) ρ fun ρ1 => db { nx := k, ct := k, bk := DD.nx, rt := DD.rt } ρ1)
    (hd : ∀ ρ, I ds.length ρ → DD.nx ρ) : dLoop dg db DD ds ρ := by
  suffices h : ∀ (n i : Nat) (ρ : Rho), i + n = ds.length → I i ρ → dLoop dg db DD (ds.drop i) ρ by
    have := h ds.length 0 ρ (by simp) h0
    simpa using this
  intro n
  induction n with
  | zero =>
    intro i ρ e hi
    have e : i = ds.length := by omega
    subst e
    rw [List.drop_length]
    exact hd ρ hi
  | succ n ih =>
    intro i ρ e hi
    have hlt : i < ds.length := by omega
    rw [List.drop_eq_getElem_cons hlt]
    exact hs i _ ρ _ (by simp [hlt]) hi fun ρ' h => ih (i + 1) ρ' (by omega) h
theorem dLcGo_of {dg : DG} {dt : DT} {de : DE} {vs : List Nat} {Q : Rv → Rho → Prop} (ds : List D) (I : Nat → List D → Rho → Prop) {ρ : Rho} (h0 : I 0 [] ρ)
    (hs : ∀ (i : Nat) (x : D) (acc : List D) (ρ : Rho) (k : List D → Rho → Prop), ds[i]? = some x → I i acc ρ → (∀ acc' ρ', I (i + 1) acc' ρ' → k acc' ρ') →
      dg (.fz x) (wipeR ρ vs) fun ρ1 => dt ρ1 fun b ρ2 => useB b (de ρ2 fun r ρ3 => wF (frz ρ3 r) fun d ρ4 => acc.length < sizeLine ∧ k (acc ++ [d]) (bckR ρ ρ4 vs)) (k acc (bckR ρ ρ2 vs)))
    (hd : ∀ acc ρ, I ds.length acc ρ → Q (.nw (.list acc)) ρ) : dLcGo dg dt de vs Q ds [] ρ := by
  suffices h : ∀ (n i : Nat) (acc : List D) (ρ : Rho), i + n = ds.length → I i acc ρ → dLcGo dg dt de vs Q (ds.drop i) acc ρ by
    have := h ds.length 0 [] ρ (by simp) h0
    simpa using this
  intro n
  induction n with
  | zero =>
    intro i acc ρ e hi
    have e : i = ds.length := by omega
    subst e
    rw [List.drop_length]
    exact hd acc ρ hi
  | succ n ih =>
    intro i acc ρ e hi
    have hlt : i < ds.length := by omega
    rw [List.drop_eq_getElem_cons hlt]
    exact hs i _ acc ρ _ (by simp [hlt]) hi fun acc' ρ' h => ih (i + 1) acc' ρ' (by omega) h
/-- an element by element list, the slots as they were -/
theorem dLcGo_map {dg : DG} {de : DE} {vs : List Nat} {Q : Rv → Rho → Prop} (ds : List D) (f : D → D) {ρ : Rho} (hl : ds.length ≤ sizeLine)
    (hs : ∀ (x : D) (k : D → Rho → Prop), x ∈ ds → k (f x) ρ → dg (.fz x) (wipeR ρ vs) fun ρ1 => de ρ1 fun r ρ3 => wF (frz ρ3 r) fun d ρ4 => k d (bckR ρ ρ4 vs))
    (hd : Q (.nw (.list (ds.map f))) ρ) : dLcGo dg dYes de vs Q ds [] ρ := by
  suffices h : ∀ (xs acc : List D), acc.length + xs.length ≤ sizeLine → (∀ x ∈ xs, x ∈ ds) → Q (.nw (.list (acc ++ xs.map f))) ρ → dLcGo dg dYes de vs Q xs acc ρ from
    h ds [] (by simpa using hl) (fun _ h => h) (by simpa using hd)
  intro xs
  induction xs with
  | nil => intro acc _ _ q; simpa [dLcGo] using q
  | cons x xs ih =>
    intro acc hl hm q
    show dg (.fz x) (wipeR ρ vs) fun ρ1 => useB true _ _
    have hu : ∀ (A B : Prop), useB true A B = A := fun A B => propext ⟨useB_t, useB_y rfl⟩
    simp only [hu]
    have hl' : acc.length < sizeLine := by simp at hl; omega
    have := hs x (fun d ρ' => acc.length < sizeLine ∧ dLcGo dg dYes de vs Q xs (acc ++ [d]) ρ') (hm x List.mem_cons_self) ⟨hl', ih (acc ++ [f x]) (by simp at hl ⊢; omega) (fun y hy => hm y (List.mem_cons_of_mem _ hy)) (by simpa using q)⟩
    exact this

/-! ### the source's dict -/
theorem nCL : ¬ ((Str.ofString "cells") = Str.ofString "left") := by decide +kernel
theorem nCM : ¬ ((Str.ofString "cells") = Str.ofString "mixed") := by decide +kernel
theorem nCT : ¬ ((Str.ofString "cells") = Str.ofString "turn") := by decide +kernel
theorem nCR : ¬ ((Str.ofString "cells") = Str.ofString "room") := by decide +kernel
theorem nLC : ¬ ((Str.ofString "left") = Str.ofString "cells") := by decide +kernel
theorem nLM : ¬ ((Str.ofString "left") = Str.ofString "mixed") := by decide +kernel
theorem nLT : ¬ ((Str.ofString "left") = Str.ofString "turn") := by decide +kernel
theorem nLR : ¬ ((Str.ofString "left") = Str.ofString "room") := by decide +kernel
theorem nMC : ¬ ((Str.ofString "mixed") = Str.ofString "cells") := by decide +kernel
theorem nML : ¬ ((Str.ofString "mixed") = Str.ofString "left") := by decide +kernel
theorem nMT : ¬ ((Str.ofString "mixed") = Str.ofString "turn") := by decide +kernel
theorem nMR : ¬ ((Str.ofString "mixed") = Str.ofString "room") := by decide +kernel
theorem nTC : ¬ ((Str.ofString "turn") = Str.ofString "cells") := by decide +kernel
theorem nTL : ¬ ((Str.ofString "turn") = Str.ofString "left") := by decide +kernel
theorem nTM : ¬ ((Str.ofString "turn") = Str.ofString "mixed") := by decide +kernel
theorem nTR : ¬ ((Str.ofString "turn") = Str.ofString "room") := by decide +kernel
theorem nRC : ¬ ((Str.ofString "room") = Str.ofString "cells") := by decide +kernel
theorem nRL : ¬ ((Str.ofString "room") = Str.ofString "left") := by decide +kernel
theorem nRM : ¬ ((Str.ofString "room") = Str.ofString "mixed") := by decide +kernel
theorem nRT : ¬ ((Str.ofString "room") = Str.ofString "turn") := by decide +kernel
section
variable {c : Addr} {l m t : Int} {more : List (Key × V)}
theorem src_cells : valV (srcKvs c l m t more) (Sum.inr "cells") = some (.ref c) := by simp [srcKvs, valV, nCL, nCM, nCT, nCR, nLC, nLM, nLT, nLR, nMC, nML, nMT, nMR, nTC, nTL, nTM, nTR, nRC, nRL, nRM, nRT]
theorem src_left : valV (srcKvs c l m t more) (Sum.inr "left") = some (.int l) := by simp [srcKvs, valV, nCL, nCM, nCT, nCR, nLC, nLM, nLT, nLR, nMC, nML, nMT, nMR, nTC, nTL, nTM, nTR, nRC, nRL, nRM, nRT]
theorem src_mixed : valV (srcKvs c l m t more) (Sum.inr "mixed") = some (.int m) := by simp [srcKvs, valV, nCL, nCM, nCT, nCR, nLC, nLM, nLT, nLR, nMC, nML, nMT, nMR, nTC, nTL, nTM, nTR, nRC, nRL, nRM, nRT]
theorem src_turn : valV (srcKvs c l m t more) (Sum.inr "turn") = some (.int t) := by simp [srcKvs, valV, nCL, nCM, nCT, nCR, nLC, nLM, nLT, nLR, nMC, nML, nMT, nMR, nTC, nTL, nTM, nTR, nRC, nRL, nRM, nRT]
def MoreOk (more : List (Key × V)) : Prop := more = [] ∨ ∃ r : Int, more = [((Sum.inr "room" : Key), V.int r)]
theorem put_left (h : MoreOk more) (x : Int) : putK (srcKvs c l m t more) (Sum.inr "left") (.int x) = srcKvs c x m t more := by
  rcases h with rfl | ⟨r, rfl⟩ <;> simp [srcKvs, putK, nCL, nCM, nCT, nCR, nLC, nLM, nLT, nLR, nMC, nML, nMT, nMR, nTC, nTL, nTM, nTR, nRC, nRL, nRM, nRT]
theorem put_mixed (h : MoreOk more) (x : Int) : putK (srcKvs c l m t more) (Sum.inr "mixed") (.int x) = srcKvs c l x t more := by
  rcases h with rfl | ⟨r, rfl⟩ <;> simp [srcKvs, putK, nCL, nCM, nCT, nCR, nLC, nLM, nLT, nLR, nMC, nML, nMT, nMR, nTC, nTL, nTM, nTR, nRC, nRL, nRM, nRT]
theorem put_turn (h : MoreOk more) (x : Int) : putK (srcKvs c l m t more) (Sum.inr "turn") (.int x) = srcKvs c l m x more := by
  rcases h with rfl | ⟨r, rfl⟩ <;> simp [srcKvs, putK, nCL, nCM, nCT, nCR, nLC, nLM, nLT, nLR, nMC, nML, nMT, nMR, nTC, nTL, nTM, nTR, nRC, nRL, nRM, nRT]
theorem put_room (h : MoreOk more) (x : Int) : ∃ more', MoreOk more' ∧ putK (srcKvs c l m t more) (Sum.inr "room") (.int x) = srcKvs c l m t more' := by
  rcases h with rfl | ⟨r, rfl⟩
  · exact ⟨_, .inr ⟨x, rfl⟩, by simp [srcKvs, putK, nCL, nCM, nCT, nCR, nLC, nLM, nLT, nLR, nMC, nML, nMT, nMR, nTC, nTL, nTM, nTR, nRC, nRL, nRM, nRT]⟩
  · exact ⟨_, .inr ⟨x, rfl⟩, by simp [srcKvs, putK, nCL, nCM, nCT, nCR, nLC, nLM, nLT, nLR, nMC, nML, nMT, nMR, nTC, nTL, nTM, nTR, nRC, nRL, nRM, nRT]⟩
theorem src_len (h : MoreOk more) : (srcKvs c l m t more).length < sizeLine := by
  rcases h with rfl | ⟨r, rfl⟩ <;> (show _ < 16777216; simp [srcKvs])
end
end DL

set_option Elab.async false
set_option linter.all false
set_option maxRecDepth 100000
set_option maxHeartbeats 4000000
set_option autoImplicit false
namespace DL
open PySem L2

/-! ### what stands of the source, for its own defs -/
structure Sx (c : Addr) (H : Hp) (p : Addr) (ns : List Int) (l m t : Int) (more : List (Key × V)) : Prop where
  hp : H p = some (.dK (srcKvs c l m t more))
  hc : H c = some (.lst (ns.map V.int))
  nn : ∀ n ∈ ns, 0 ≤ n
  l0 : 0 ≤ l
  m0 : 0 ≤ m
  m1 : m < 2147483647
  mo : MoreOk more
structure Fm (H : Hp) (p c : Addr) (H' : Hp) : Prop where
  keep : ∀ a o, H a = some o → a ≠ p → a ≠ c → H' a = some o
  dom : ∀ a, H' a = none → H a = none
section
variable {H H' : Hp} {p c : Addr} {ns : List Int} {l m t x : Int} {more : List (Key × V)}
theorem SrcOk.sx (h : SrcOk H p c) : ∃ ns l m t more, Sx c H p ns l m t more := by
  obtain ⟨ns, l, m, t, more, h1, h2, h3, h4, h5, h6, h7⟩ := h
  exact ⟨ns, l, m, t, more, h1, h2, h3, h4, h5, h6, h7⟩
theorem Sx.ok (h : Sx c H p ns l m t more) : SrcOk H p c := ⟨ns, l, m, t, more, h.hp, h.hc, h.nn, h.l0, h.m0, h.m1, h.mo⟩
theorem Fm.refl : Fm H p c H := ⟨fun a o h _ _ => h, fun a h => h⟩
theorem Fm.updP {o : HO} (h : Fm H p c H') : Fm H p c (upd H' p o) := by
  refine ⟨fun a u e n1 n2 => by rw [upd_ne n1]; exact h.keep a u e n1 n2, fun a e => ?_⟩
  by_cases q : a = p
  · rw [q, upd_same] at e; cases e
  · rw [upd_ne q] at e; exact h.dom a e
theorem Fm.updC {o : HO} (h : Fm H p c H') : Fm H p c (upd H' c o) := by
  refine ⟨fun a u e n1 n2 => by rw [upd_ne n2]; exact h.keep a u e n1 n2, fun a e => ?_⟩
  by_cases q : a = c
  · rw [q, upd_same] at e; cases e
  · rw [upd_ne q] at e; exact h.dom a e
theorem Sx.gC (h : Sx c H p ns l m t more) : DGet H p (.str "cells") (some (.ref c)) := .inl ⟨_, .inr "cells", .inl h.hp, rfl, src_cells.symm⟩
theorem Sx.gL (h : Sx c H p ns l m t more) : DGet H p (.str "left") (some (.int l)) := .inl ⟨_, .inr "left", .inl h.hp, rfl, src_left.symm⟩
theorem Sx.gM (h : Sx c H p ns l m t more) : DGet H p (.str "mixed") (some (.int m)) := .inl ⟨_, .inr "mixed", .inl h.hp, rfl, src_mixed.symm⟩
theorem Sx.gT (h : Sx c H p ns l m t more) : DGet H p (.str "turn") (some (.int t)) := .inl ⟨_, .inr "turn", .inl h.hp, rfl, src_turn.symm⟩
theorem Sx.pL (h : Sx c H p ns l m t more) : DPut H p (.str "left") (.int x) (upd H p (.dK (srcKvs c x m t more))) := .inl ⟨_, .inr "left", h.hp, rfl, src_len h.mo, by rw [put_left h.mo]⟩
theorem Sx.pM (h : Sx c H p ns l m t more) : DPut H p (.str "mixed") (.int x) (upd H p (.dK (srcKvs c l x t more))) := .inl ⟨_, .inr "mixed", h.hp, rfl, src_len h.mo, by rw [put_mixed h.mo]⟩
theorem Sx.pT (h : Sx c H p ns l m t more) : DPut H p (.str "turn") (.int x) (upd H p (.dK (srcKvs c l m x more))) := .inl ⟨_, .inr "turn", h.hp, rfl, src_len h.mo, by rw [put_turn h.mo]⟩
theorem Sx.setL (h : Sx c H p ns l m t more) (n : c ≠ p) (hx : 0 ≤ x) : Sx c (upd H p (.dK (srcKvs c x m t more))) p ns x m t more := ⟨upd_same, by rw [upd_ne n]; exact h.hc, h.nn, hx, h.m0, h.m1, h.mo⟩
theorem Sx.setM (h : Sx c H p ns l m t more) (n : c ≠ p) (hx : 0 ≤ x) (hy : x < 2147483647) : Sx c (upd H p (.dK (srcKvs c l x t more))) p ns l x t more := ⟨upd_same, by rw [upd_ne n]; exact h.hc, h.nn, h.l0, hx, hy, h.mo⟩
theorem Sx.setT (h : Sx c H p ns l m t more) (n : c ≠ p) : Sx c (upd H p (.dK (srcKvs c l m x more))) p ns l m x more := ⟨upd_same, by rw [upd_ne n]; exact h.hc, h.nn, h.l0, h.m0, h.m1, h.mo⟩
theorem Sx.setC (h : Sx c H p ns l m t more) (n : c ≠ p) {ms : List Int} (hm : ∀ n ∈ ms, 0 ≤ n) : Sx c (upd H c (.lst (ms.map V.int))) p ms l m t more := ⟨by rw [upd_ne (Ne.symm n)]; exact h.hp, upd_same, hm, h.l0, h.m0, h.m1, h.mo⟩
end
theorem log_pick {m : Int} (h1 : 1 ≤ m) (h2 : m < 100000000000000000000000000000000000000000) : m.natAbs.log2 < 9000 := by
  have : m.natAbs.log2 < 140 := (Nat.log2_lt (by omega)).mpr (by omega)
  omega
/-- a draw -/
def Cpick : Con := fun ds Q => ∃ m : Int, ds = [.none, .int m] ∧ (1 ≤ m ∧ m < 100000000000000000000000000000000000000000) ∧ ∀ k : Int, 0 ≤ k → k < m → Q (.fz (.int k))
/-- a drawn member -/
def Cof : Con := fun ds Q => ∃ xs : List D, (ds = [.none, .list xs] ∨ ds = [.none, .tuple xs]) ∧ (1 ≤ xs.length ∧ xs.length < 1073741824) ∧ ∀ x ∈ xs, Q (.fz x)
theorem ite_b {c : Bool} {A B : Prop} (h1 : c = true → A) (h2 : c = false → B) : if c = true then A else B := by
  cases c with
  | true => rw [if_pos rfl]; exact h1 rfl
  | false => rw [if_neg Bool.false_ne_true]; exact h2 rfl
/-- the arguments of a draw's def -/
theorem pre_src2 {K : PySem.W.Frag} {M0 : AP} {src : Option (Addr × Addr)} {H : Hp} {vs : List V} {m : Int} (P : PreC K M0 src [] (.fl []) H [.src, .bo] vs [.none, .int m]) : ∃ p c, vs = [.ref p, .int m] ∧ src = some (p, c) ∧ p ≠ c ∧ SrcOk H p c := by
  obtain ⟨_, sok, args, _⟩ := P
  cases args with
  | cons h r =>
    cases r with
    | cons h' r =>
      cases r
      obtain ⟨_, p, c, e, rfl⟩ := h
      obtain ⟨h1, _, _, h4⟩ := sok p c e
      rcases h' with h' | ⟨a, _, h', _⟩
      · cases h'; exact ⟨p, c, rfl, e, h1, h4⟩
      · cases h'
theorem pre_src1 {K : PySem.W.Frag} {M0 : AP} {src : Option (Addr × Addr)} {H : Hp} {vs : List V} {d : D} (P : PreC K M0 src [] (.fl []) H [.src] vs [d]) : ∃ p c, vs = [.ref p] ∧ src = some (p, c) ∧ p ≠ c ∧ SrcOk H p c := by
  obtain ⟨_, sok, args, _⟩ := P
  cases args with
  | cons h r =>
    cases r
    obtain ⟨_, p, c, e, rfl⟩ := h
    obtain ⟨h1, _, _, h4⟩ := sok p c e
    exact ⟨p, c, rfl, e, h1, h4⟩
/-- a scalar handed back, the source changed -/
theorem Fm.post {K : PySem.W.Frag} {M0 : AP} {p c : Addr} {H H' : Hp} {v : V} {d : D} (h : Fm H p c H') (hs : SrcOk H' p c) (hv : ∀ F, Rp K F v d) : PostC K M0 (some (p, c)) [] (.fl []) H H' v (.fz d) :=
  ⟨fun a o e n _ => h.keep a o e (n p c rfl).1 (n p c rfl).2, h.dom, (fun q d e => by cases e; exact hs), hv _, (fun _ _ h => nomatch h)⟩
/-- the source made from the script -/
def spSrc (K : PySem.W.Frag) : Sp := fun vs H Q _ => ∃ (a : Addr) (ns : List Int), vs = [.ref a] ∧ SqL K H a (ns.map V.int) ∧ ns.length ≤ 63 ∧
  ∀ (p c : Addr) (H' : Hp), p ≠ c → H p = none → H c = none → (∀ x o, H x = some o → H' x = some o) → (∀ x, H' x = none → H x = none) → SrcOk H' p c → Q (.ref p) H'
theorem ite_t {A B : Prop} (h : A) : if true = true then A else B := h
end DL

set_option Elab.async false
set_option linter.all false
set_option maxRecDepth 100000
set_option maxHeartbeats 4000000
set_option autoImplicit false
namespace DL
open PySem L2
/-- what is promised of law itself -/
def spLaw (K : PySem.W.Frag) : Sp := fun vs H Q _ => ∃ (a : Addr) (ns : List Int), vs = [.ref a] ∧ SqL K H a (ns.map V.int) ∧ ns.length ≤ 63 ∧ ∀ H', Q (.bl true) H'
def sayYes : DEnds := { nx := fun _ => False, rt := fun r _ => r = .fz (.bool true) }
/-- law: the source is made, the rest on data -/
theorem law_rest {K : PySem.W.Frag} {N : List Str} {tR : TS} {dR : DS} {vs : List V} {H : Hp} {Q : VK} {E XE : XK} (h : spLaw K vs H Q XE) (hN : 2 ≤ N.length) (hl : LS K tR dR)
    (hd : dR sayYes (some .scr :: some .src :: List.replicate (N.length - 2) none)) :
    tSeq (tAsg (tCall (spSrc K) [] E (tCons (tVar 0) tNil)) (gName 1)) tR { nx := fun _ H' => Q .non H', rt := Q } (L2.start N vs) H := by
  obtain ⟨a, ns, rfl, hs, hlen, hQ⟩ := h
  have hs' : SqL K (Fz H (srcSet none [])) a (ns.map V.int) := by
    have e : ∀ x o, H x = some o → Fz H (srcSet none []) x = some o := fun x o h => fz_of h (NoS.set (fun _ _ z => nomatch z) List.not_mem_nil)
    exact hs.elim (fun h1 => .inl (h1.elim (fun h2 => .inl (e _ _ h2)) fun ⟨o, h2⟩ => .inr ⟨o, e _ _ h2⟩)) fun h1 => .inr h1
  have P : PreC K (fun _ => False) none [] (.fl []) H [.scr] [.ref a] [.none] := ⟨fun _ z => z.elim, (fun _ _ z => nomatch z), .cons ⟨rfl, a, ns, rfl, hs', hlen⟩ .nil, (fun _ h => nomatch h), List.nodup_nil, (fun _ _ h => nomatch h)⟩
  have R0 := rel_start (N := N) P rfl
  refine ⟨_, rfl, a, ns, rfl, hs, hlen, fun p c H' hpc hp hc hk hdm ok => ?_⟩
  obtain ⟨R1, G1⟩ := R0.mkSrc rfl hp hc hpc hk hdm ok
  have R2 := R1.set (i := 1) (v := .ref p) (s := .src) ⟨p, c, rfl, rfl⟩ (fun d z => nomatch z)
  have e : (startM N.length (.fl []) [.scr] [.none]).set 1 (some .src) = some .scr :: some .src :: List.replicate (N.length - 2) none := by
    obtain ⟨n, e⟩ : ∃ n, N.length = n + 2 := ⟨N.length - 2, by omega⟩
    rw [e]
    rfl
  rw [e] at R2
  refine hl _ _ _ _ _ sayYes _ rfl R2 hd ⟨fun g' σ' H' ρ' _ _ q => q.elim, fun g' σ' H' ρ' v r R' G' V' q => ?_, fun g' σ' H' ρ' _ _ q => q.elim, fun g' σ' H' ρ' _ _ q => q.elim⟩
  have q : r = .fz (.bool true) := q
  subst q
  have V' : Rp _ _ v (.bool true) := V'
  cases V'
  exact hQ _
end DL

set_option Elab.async false
set_option linter.all false
set_option maxRecDepth 100000
set_option maxHeartbeats 4000000
set_option autoImplicit false
namespace DL
open PySem L2

/-! ### a dict display -/
def mergeE (es more : List (D × D)) : List (D × D) := more.foldl (fun acc e => match keyOf e.1 with
  | some k => putE acc k e.2
  | none => acc) es
theorem RpK.merge {K : PySem.W.Frag} {F : Hp} {more : List (Key × V)} {mo : List (D × D)} (hm : RpK K F more mo) : ∀ {kvs : List (Key × V)} {es : List (D × D)}, RpK K F kvs es → RpK K F (mergeK kvs more) (mergeE es mo) := by
  induction mo generalizing more with
  | nil => intro kvs es h; cases hm; exact h
  | cons e mo ih =>
    intro kvs es h
    cases hm with
    | @cons k v d vs ds hv hr =>
      have := ih hr (h.put k hv)
      unfold mergeE mergeK at this ⊢
      rw [List.foldl_cons, List.foldl_cons]
      show RpK K F _ (List.foldl _ (match keyOf (keyD k) with
        | some k => putE es k d
        | none => es) _)
      rw [keyOf_keyD]
      exact this
abbrev DP := Rho → (List (D × D) → Rho → Prop) → Prop
def LP (K : PySem.W.Frag) (t : List (TE × TE)) (d : DP) : Prop := ∀ (f : Fr) (g : Gs) (σ : L2.St) (H : Hp) (ρ : Rho) (Q : List (D × D) → Rho → Prop) (R : List (V × V) → Hp → Prop), f.K = K → Rel f g σ H ρ → d ρ Q →
  (∀ (kvs : List (Key × V)) (es : List (D × D)) (H' : Hp) (g' : Gs) (ρ' : Rho), Rel f g' σ H' ρ' → Gro g H g' H' → RpK f.K (Fz H' g'.M) kvs es → Q es ρ' → R (kvs.map fun kv => (kV kv.1, kv.2)) H') → tPairs t σ H R
def dPNil : DP := fun ρ Q => Q [] ρ
def dPCons (dk dv : DE) (dr : DP) : DP := fun ρ Q => dk ρ fun q ρ1 => dv ρ1 fun r ρ2 => wF (frz ρ2 r) fun d ρ3 => wK (res ρ3 q) fun k => dr ρ3 fun es ρ4 => Q ((keyD k, d) :: es) ρ4
section
variable {K : PySem.W.Frag} {tk tv : TE} {dk dv : DE} {tr : List (TE × TE)} {dr : DP}
theorem lp_nil : LP K [] dPNil := fun f g σ H ρ Q R hK hR hd k => k [] [] H g ρ hR Gro.refl .nil hd
theorem lp_cons (h : LE K tk dk) (h' : LE K tv dv) (hr : LP K tr dr) : LP K ((tk, tv) :: tr) (dPCons dk dv dr) := by
  intro f g σ H ρ Q R hK hR hd k
  refine h.opd hK hR hd fun u H1 g1 ρ1 q R1 G1 O1 q1 => ?_
  refine h'.opd hK R1 q1 fun v H2 g2 ρ2 r R2 G2 O2 q2 => ?_
  obtain ⟨d, ρ3, e3, q3⟩ := wF_some q2
  obtain ⟨g3, R3, G3, hv⟩ := O2.frz R2 e3
  obtain ⟨key, e4, q4⟩ := wK_some q3
  have hu := (((O1.mono G2).mono G3).rn R3 e4).key
  subst hu
  refine hr f g3 σ H2 ρ3 _ _ hK R3 q4 fun kvs es H4 g4 ρ4 R4 G4 r4 q5 => ?_
  exact k ((key, v) :: kvs) ((keyD key, d) :: es) H4 g4 ρ4 R4 (((G1.trans G2).trans G3).trans G4) (.cons (hv.mono G4.fz) r4) q5
def dDisp (dp : DP) : DE := fun ρ Q => dp ρ fun es ρ1 => es.length ≤ 15 ∧ Q (.nw (.dict (mergeE [] es))) ρ1
theorem le_disp (h : LP K tr dr) : LE K (tDisp tr) (dDisp dr) := by
  intro f g σ H ρ Q R hK hR hd k
  intro D0 hD
  have h0 : f.H0 D0 = none := hR.dom D0 hD
  obtain ⟨R2, G2, V2⟩ := hR.own (o := .dK []) (d := .dict []) hD (.dic upd_same .nil)
  obtain ⟨a, ea, m2, _, ns2, _, t2, u2⟩ := V2
  cases ea
  have R3 : Rel f ((g.add D0).push D0) σ (upd H D0 (.dK [])) ρ := ⟨R2.keep, R2.dom, R2.m0, R2.m00, R2.mU, R2.src, R2.len, R2.slot, R2.uq, fun b hb => by
    rcases List.mem_cons.mp hb with rfl | hb
    · exact ⟨m2, ns2, u2⟩
    · exact R2.tmp b hb, R2.fpM, R2.fpn, R2.mq⟩
  refine h f _ σ _ ρ _ _ hK R3 hd fun kvs es H4 g4 ρ4 R4 G4 r4 q => ?_
  have T4 : g4.T = D0 :: g.T := G4.tm.trans (congrArg (D0 :: ·) G2.tm)
  have e4 : H4 D0 = some (.dK []) := (G4.th D0 List.mem_cons_self).trans upd_same
  refine ⟨e4, kvs, rfl, by rw [r4.length]; exact q.1, ?_⟩
  have hm4 : D0 ∈ g4.T := by rw [T4]; exact List.mem_cons_self
  obtain ⟨R5, S5⟩ := R4.mutTmp (o := .dK (mergeK [] kvs)) hm4 h0
  obtain ⟨m', ns', u'⟩ := R5.tmp D0 hm4
  refine k _ _ (g4.pop g.T) ρ4 (.nw _) (R5.pop (T := g.T) fun a ha => by rw [T4]; exact List.mem_cons_of_mem _ ha) ⟨(G2.fz.trans G4.fz).trans S5, fun pc h => G4.src pc (G2.src pc h), rfl, fun b hb => ?_, G4.fp.trans G2.fp⟩ ⟨D0, rfl, m', h0, ns', .dic upd_same ((RpK.merge r4 .nil).mono S5), ?_, u'⟩ q.2
  · rw [upd_ne]
    · exact (G4.th b (List.mem_cons_of_mem _ (by rw [G2.tm]; exact hb))).trans (G2.th b hb)
    · rintro rfl
      exact hR.mH b hD (hR.tmp b hb).1
  · intro ha
    exact hR.mH D0 hD (hR.tmp D0 ha).1
end
end DL

set_option Elab.async false
set_option linter.all false
set_option maxRecDepth 100000
set_option maxHeartbeats 4000000
set_option autoImplicit false
namespace DL
open PySem L2

/-! ### repr of a dict that holds no list -/
mutual
def plainD : D → Bool
  | .list _ => false
  | .tuple ds => plainAll ds
  | .dict es => !isT es && plainEnts es
  | _ => true
def plainAll : List D → Bool
  | [] => true
  | d :: ds => plainD d && plainAll ds
def plainEnts : List (D × D) → Bool
  | [] => true
  | (_, d) :: es => plainD d && plainEnts es
end
section
variable {X : Cx} {pins : List (Addr × Obj)} {σ : L2.St} {H F : Hp} {s : Shared}
theorem keyIs_reads {k : Key} {u : Value} {P : Program} {w : World} (h : (mixKind P w).is k u = true) : Reads s.heap u (keyD k) [] := by
  rcases keyIs_shape h with ⟨i, t, rfl, rfl⟩ | ⟨x, t, rfl, rfl⟩
  · exact .int i t
  · exact .str x t
mutual
theorem Rp.readsP (I : Inv X pins σ H s) (e : Same F H) : ∀ {v : V} {d : D}, Rp X.K F v d → plainD d = true → ∀ u, RelV v u → ∃ as, Reads s.heap u d as ∧ sysModules ∉ as
  | _, _, .non, _, u, r => by cases r; exact ⟨_, .none, by simp⟩
  | _, _, .bl b, _, u, r => by cases r; exact ⟨_, .bool b, by simp⟩
  | _, _, .int b, _, u, r => by obtain ⟨t, rfl⟩ := r; exact ⟨_, .int b t, by simp⟩
  | _, _, .str b, _, u, r => by obtain ⟨t, rfl⟩ := r; exact ⟨_, .str b t, by simp⟩
  | _, _, .lst h r, hp, _, _ => by simp [plainD] at hp
  | _, _, .tup h r, hp, u, q => by
    cases q
    obtain ⟨its, rv, ⟨o, ho, hc, n, hd⟩, _⟩ := I.tuple (.inl (.inl (e _ _ h)))
    obtain ⟨as, hr, hn⟩ := RpA.readsP I e r (by simpa [plainD] using hp) its rv
    exact ⟨_, .tuple ho hc hd hr, hn⟩
  | _, _, .dic h r, hp, u, q => by
    cases q
    simp only [plainD, Bool.and_eq_true] at hp
    obtain ⟨z, hm, vs, rel, o, es, ep, ho, hx, hd, _, hpr, _⟩ := dk_of I.hok (e _ _ h)
    obtain ⟨as, bs, h1, h2, n1, n2⟩ := RpK.readsP I e r hp.2 vs rel es.toList hpr
    refine ⟨_, .dict ho hx.1 hd h1 h2, ?_⟩
    simp only [List.cons_append, List.mem_cons, List.mem_append, not_or]
    exact ⟨fun z => by rw [← z] at hm; simp at hm, n1, n2⟩
  | _, _, .dct h r, hp, _, _ => by simp [plainD, isT] at hp
theorem RpA.readsP (I : Inv X pins σ H s) (e : Same F H) : ∀ {vs : List V} {ds : List D}, RpA X.K F vs ds → plainAll ds = true → ∀ us, Vals vs us → ∃ as, ReadsAll s.heap us ds as ∧ sysModules ∉ as
  | _, _, .nil, _, us, r => by cases r; exact ⟨_, .nil, by simp⟩
  | _, _, .cons h r, hp, us, q => by
    simp only [plainAll, Bool.and_eq_true] at hp
    cases q with
    | cons q1 q2 =>
      obtain ⟨as, a1, a2⟩ := Rp.readsP I e h hp.1 _ q1
      obtain ⟨bs, b1, b2⟩ := RpA.readsP I e r hp.2 _ q2
      exact ⟨_, .cons a1 b1, by simp [a2, b2]⟩
theorem RpK.readsP (I : Inv X pins σ H s) (e : Same F H) : ∀ {kvs : List (Key × V)} {es : List (D × D)}, RpK X.K F kvs es → plainEnts es = true → ∀ vs, KV kvs vs → ∀ ens : List DictEntry, Pairs (mixKind X.prog X.w) ens vs →
    ∃ as bs, ReadsAll s.heap (ens.map (·.key)) (es.map (·.1)) as ∧ ReadsAll s.heap (ens.map (·.val)) (es.map (·.2)) bs ∧ sysModules ∉ as ∧ sysModules ∉ bs
  | _, _, .nil, _, vs, r, ens, p => by cases r; cases p; exact ⟨_, _, .nil, .nil, by simp, by simp⟩
  | _, _, .cons h r, hp, vs, q, ens, p => by
    simp only [plainEnts, Bool.and_eq_true] at hp
    cases q with
    | cons q1 q2 =>
      cases p with
      | cons p1 p2 p3 =>
        obtain ⟨k1, v1⟩ := q1
        dsimp only at k1 v1
        subst k1
        obtain ⟨as, a1, a2⟩ := Rp.readsP I e h hp.1 _ v1
        obtain ⟨bs, cs, b1, b2, b3, b4⟩ := RpK.readsP I e r hp.2 _ q2 _ p3
        rw [← p2] at a1
        exact ⟨[] ++ bs, as ++ cs, .cons (keyIs_reads p1) b1, .cons a1 b2, by simp [b3], by simp [a2, b4]⟩
end
def rReprP (K : PySem.W.Frag) : List V → Hp → VK → Prop := fun xs H Q => ∃ v d, xs = [v] ∧ (∃ F, Same F H ∧ RN K F H v d) ∧ d.showable = true ∧ (d.hasDict = false ∨ plainD d = true) ∧ d.depth ≤ 60 ∧ d.shown.length ≤ sizeLine ∧ Q (.str d.shown) H
theorem RN.same {K : PySem.W.Frag} {v : V} {d : D} (e : Same F H) (h : RN K F H v d) : Rp K H v d := by
  rcases h with h | ⟨a, rfl, h⟩
  · exact h.mono e
  · exact h.rp e fun _ h => h
theorem call_reprP (hA : X.A.guards = some []) (hu : X.A.units + 64 < cLine) : CallR X (.builtin "repr") (rReprP X.K) := by
  intro pins s σ H xs us Q I r h
  obtain ⟨v, d, rfl, ⟨F, hs1, hd⟩, hs, hnd, hdp, hz, q⟩ := h
  have hd := hd.same hs1
  cases r with
  | @cons _ uu _ _ r rr =>
    cases rr
    have key : ∀ (u : Tok) (tk : Nat) (h' : Heap), (∀ b o, s.heap.get? b = some o → h'.get? b = some o) → EP X pins σ Q (.str d.shown u) { s with heap := h', toks := tk } := fun u tk h' hk => ⟨.str d.shown, H, I.kept hk, ⟨_, rfl⟩, q⟩
    have hr : ∃ as, Reads s.heap uu d as ∧ (d.hasDict = true → sysModules ∉ as) := by
      rcases hnd with hnd | hp
      · obtain ⟨as, rd⟩ := Dp.reads I d v _ (hd.dp hnd) r
        exact ⟨as, rd, fun z => by rw [hnd] at z; cases z⟩
      · obtain ⟨as, rd, n⟩ := hd.readsP I (Same.refl _) hp _ r
        exact ⟨as, rd, fun _ => n⟩
    obtain ⟨as, rd, nd⟩ := hr
    cases rd with
    | none => exact PySem.P.repr_of_none ⟨.str _, H, I.tok _, ⟨_, rfl⟩, q⟩
    | bool b => exact PySem.P.repr_of_bool ⟨.str _, H, I.tok _, ⟨_, rfl⟩, by cases b <;> exact q⟩
    | int i t => exact PySem.P.repr_of_int (by simpa [PyData.showable] using hs) ⟨.str _, H, I.tok _, ⟨_, rfl⟩, q⟩
    | str x t => exact PySem.P.repr_of_str ⟨.str _, H, I.tok _, ⟨_, rfl⟩, q⟩ hz
    | list h1 h2 h3 h4 => exact repr_of_reads' (.list h1 h2 h3 h4) hs nd hA (by omega) (fun _ _ h => h) (fun h' u tk hk => key u tk h' hk) hz
    | tuple h1 h2 h3 h4 => exact repr_of_reads' (.tuple h1 h2 h3 h4) hs nd hA (by omega) (fun _ _ h => h) (fun h' u tk hk => key u tk h' hk) hz
    | dict h1 h2 h3 h4 h5 => exact repr_of_reads' (.dict h1 h2 h3 h4 h5) hs nd hA (by omega) (fun _ _ h => h) (fun h' u tk hk => key u tk h' hk) hz
end
def reprOkP (d : D) : Prop := d.showable = true ∧ (d.hasDict = false ∨ plainD d = true) ∧ d.depth ≤ 60 ∧ d.shown.length ≤ sizeLine
def fReprP : F1 := fun x Q => reprOkP x ∧ Q (.fz (.str x.shown))
theorem cl_reprP {K : PySem.W.Frag} : CaL K (rReprP K) (fA1 fReprP) := by
  intro f g σ H ρ vs ds Q R hK hR hA hF0 k
  subst hK
  obtain ⟨d, rfl, hF⟩ := fA1_some hF0
  obtain ⟨v, rfl, h⟩ := hA.one
  obtain ⟨⟨h1, h2, h3, h4⟩, q⟩ := hF
  exact ⟨v, d, rfl, ⟨_, fz_sub, h⟩, h1, h2, h3, h4, OEnd.fz k hR (.str _) q⟩
end DL

set_option Elab.async false
set_option linter.all false
set_option maxRecDepth 100000
set_option maxHeartbeats 4000000
set_option autoImplicit false
namespace DL
open PySem L2

section
variable {K : PySem.W.Frag} {ta tb tc : TE} {da db dc : DE}
def dPar3 (i j l : Nat) (da db dc : DE) : DS := fun DD ρ => da ρ fun r ρ1 => wP (plainV ρ1 r) fun r1 ρ2 => db ρ2 fun q ρ3 => wP (plainV ρ3 q) fun q1 ρ4 => dc ρ4 fun s ρ5 => wP (plainV ρ5 s) fun s1 ρ6 => DD.nx (setR (setR (setR ρ6 i r1) j q1) l s1)
theorem ls_par3 {i j l : Nat} (h : LE K ta da) (h' : LE K tb db) (h'' : LE K tc dc) : LS K (tPar3 i j l (tCons ta (tCons tb (tCons tc tNil)))) (dPar3 i j l da db dc) := by
  intro f g σ H ρ DD E hK R hd lk
  refine h f g σ H ρ _ _ hK R hd fun v H1 g1 ρ1 r R1 G1 V1 q1 => ?_
  obtain ⟨r1, ρ2, e1, q1⟩ := wP_some q1
  obtain ⟨g2, R2, G2, V2, p2⟩ := V1.plain R1 e1
  obtain ⟨g3, R3, hh⟩ := V2.held R2 p2
  refine h' f g3 σ H1 ρ2 _ _ hK R3 q1 fun w H4 g4 ρ4 q R4 G4 V4 q4 => ?_
  obtain ⟨qq, ρ5, e5, q5⟩ := wP_some q4
  obtain ⟨g5, R5, G5, V5, p5⟩ := V4.plain R4 e5
  obtain ⟨g6, R6, kk⟩ := V5.held R5 p5
  refine h'' f g6 σ H4 ρ5 _ _ hK R6 q5 fun z H7 g7 ρ7 s R7 G7 V7 q7 => ?_
  obtain ⟨ss, ρ8, e8, q8⟩ := wP_some q7
  obtain ⟨g8, R8, G8, V8, p8⟩ := V7.plain R7 e8
  obtain ⟨g9, R9, G9, V9, kk9⟩ := kk g8 H7 ρ8 R8 (G7.trans G8) (fun i z => by rw [z] at p5; exact p5.elim)
  obtain ⟨W9, n9⟩ := kk9 z ss V8
  obtain ⟨g10, R10, G10, V10, hh10⟩ := hh g9 H7 ρ8 R9 ((G4.trans G5).trans G9) (fun i z => by rw [z] at p2; exact p2.elim)
  obtain ⟨Wb, nb⟩ := hh10 w qq V9
  obtain ⟨Wc, nc⟩ := hh10 z ss W9
  refine ⟨v, w, z, rfl, ?_⟩
  have R11 := V10.put R10 p2 i
  have B11 := Wb.putO R10 p2 p5 (fun d e z1 z2 => nb d e z1 z2) i
  have C11 := Wc.putO R10 p2 p8 (fun d e z1 z2 => nc d e z1 z2) i
  have R12 := B11.put R11 p5 j
  have C12 := C11.putO R11 p5 p8 (fun d e z1 z2 => n9 d e z1 z2) j
  exact lk.nx g10 _ H7 _ (C12.put R12 p8 l) ((G1.trans G2).trans G10) q8
theorem atI0 {x : D} {xs : List D} : atI (x :: xs) 0 = some x := by simp [atI, ixN]
theorem atI1 {x y : D} {xs : List D} : atI (x :: y :: xs) 1 = some y := by simp [atI, ixN, show (1 : Int) < (xs.length : Int) + 1 + 1 by omega]
theorem atI2 {x y z : D} {xs : List D} : atI (x :: y :: z :: xs) 2 = some z := by simp [atI, ixN, show (2 : Int) < (xs.length : Int) + 1 + 1 + 1 by omega]
theorem strOk0_tuple {xs : List D} : strOk0 (.tuple xs) = True := rfl
theorem strOk0_list {xs : List D} : strOk0 (.list xs) = True := rfl
theorem ite_y {c : Bool} {A B : Prop} (h : c = true) (a : A) : if c = true then A else B := by rw [if_pos h]; exact a
theorem ite_n {c : Bool} {A B : Prop} (h : c = false) (a : B) : if c = true then A else B := by rw [h, if_neg Bool.false_ne_true]; exact a
theorem src_room {c : Addr} {l m t : Int} {more : List (Key × V)} (h : MoreOk more) : ∃ r : Int, ((valV (srcKvs c l m t more) (Sum.inr "room")).getD (.int 150)) = .int r := by
  rcases h with rfl | ⟨r, rfl⟩
  · exact ⟨150, by simp [srcKvs, valV, nCR, nLR, nMR, nTR]⟩
  · exact ⟨r, by simp [srcKvs, valV, nCR, nLR, nMR, nTR]⟩
theorem room_put {c : Addr} {l m t : Int} {more : List (Key × V)} (h : MoreOk more) (x : Int) : valV (putK (srcKvs c l m t more) (Sum.inr "room") (.int x)) (Sum.inr "room") = some (.int x) := by
  rcases h with rfl | ⟨r, rfl⟩ <;> simp [srcKvs, putK, valV, nCR, nLR, nMR, nTR]
/-- the source's room set -/
def isInt : D → Prop
  | .int _ => True
  | _ => False
def dSrcPut (i : Nat) (da : DE) : DS := fun DD ρ => da ρ fun r ρ1 => wD (res ρ1 r) fun d => isInt d ∧ ρ1[i]? = some (some .src) ∧ DD.nx ρ1
theorem ls_sput {i : Nat} (h : LE K ta da) : LS K (sDPut (tVar i) (tC (.str "room")) ta) (dSrcPut i da) := by
  intro f g σ H ρ DD E hK R hd l
  refine h.opd hK R hd fun v H1 g1 ρ1 r1 R1 G1 O1 q1 => ?_
  obtain ⟨d, e2, hi, hs, q1⟩ := wD_some q1
  obtain ⟨n, rfl⟩ : ∃ n, d = .int n := by cases d <;> first | exact ⟨_, rfl⟩ | exact hi.elim
  have hv := (O1.rn R1 e2).int
  subst hv
  obtain ⟨w, w1, p, c, e3, rfl⟩ := R1.slot i _ hs
  obtain ⟨hpc, mp, mc, _, _, ok⟩ := R1.src p c e3
  obtain ⟨ns, lf, m, t, more, S⟩ := ok.sx
  obtain ⟨more', hm', e4⟩ := put_room (c := c) (l := lf) (m := m) (t := t) S.mo n
  refine ⟨.ref p, w1, p, _, rfl, DPut.k (k := .inr "room") S.hp (src_len S.mo), ?_⟩
  rw [e4]
  have ok' : SrcOk (upd H1 p (.dK (srcKvs c lf m t more'))) p c := (⟨upd_same, by rw [upd_ne (Ne.symm hpc)]; exact S.hc, S.nn, S.l0, S.m0, S.m1, hm'⟩ : Sx c _ p ns lf m t more').ok
  obtain ⟨R2, G2⟩ := R1.step (g' := g1) (H' := upd H1 p (.dK (srcKvs c lf m t more'))) (fun _ => Iff.rfl) rfl rfl (fun a o e n => by rw [upd_ne (n p c e3).1]; exact e) (fun a e => by
    by_cases q : a = p
    · rw [q, upd_same] at e; cases e
    · rw [upd_ne q] at e; exact e) (fun p' c' e => by rw [e3] at e; cases e; exact ok')
  exact l.nx g1 σ _ _ R2 (G1.trans G2) q1
/-- d.get(k, x) -/
def dDGet2 (dd dk dx : DE) : DE := fun ρ Q => dd ρ fun r ρ1 => wDE (res ρ1 r) fun _ => dk ρ1 fun q ρ2 => dx ρ2 fun s ρ3 => wF (frz ρ3 s) fun x ρ4 => wDE (res ρ4 r) fun es => wK (res ρ4 q) fun k => ∃ d, (lookE es k).getD x = d ∧ Q (.fz d) ρ4
theorem le_dget2 {td ty tx : TE} {dd dk dx : DE} (h : LE K td dd) (h' : LE K ty dk) (h'' : LE K tx dx) : LE K (tDGet2 td ty tx) (dDGet2 dd dk dx) := by
  intro f g σ H ρ Q R hK hR hd k
  refine h.opd hK hR hd fun v H1 g1 ρ1 r1 R1 G1 O1 q1 => ?_
  obtain ⟨es0, e0, nt0, q1⟩ := wDE_some q1
  obtain ⟨a, kvs0, rfl, hd0, _⟩ := (O1.rn R1 e0).dict fz_sub nt0
  refine ⟨a, rfl, .inl ⟨kvs0, .inl hd0⟩, ?_⟩
  refine h'.opd hK R1 q1 fun u H2 g2 ρ2 r2 R2 G2 O2 q2 => ?_
  refine h''.opd hK R2 q2 fun x H3 g3 ρ3 r3 R3 G3 O3 q3 => ?_
  obtain ⟨xd, ρ4, e3, q4⟩ := wF_some q3
  obtain ⟨g4, R4, G4, hx⟩ := O3.frz R3 e3
  obtain ⟨es, e1, nt, q4⟩ := wDE_some q4
  obtain ⟨key, e2, q4⟩ := wK_some q4
  obtain ⟨a', kvs, ea, hd, hr⟩ := ((((O1.mono G2).mono G3).mono G4).rn R4 e1).dict fz_sub nt
  cases ea
  rw [(((O2.mono G3).mono G4).rn R4 e2).key]
  obtain ⟨_, rfl, q4⟩ := q4
  refine ⟨valV kvs key, .inl ⟨kvs, key, .inl hd, rfl, rfl⟩, ?_⟩
  rcases hr.look key with ⟨z0, z⟩ | ⟨w, d', z1, z2, z3⟩
  · rw [z0]
    rw [z] at q4
    exact k x H3 g4 ρ4 (.fz xd) R4 (((G1.trans G2).trans G3).trans G4) hx q4
  · rw [z1]
    rw [z2] at q4
    exact k w H3 g4 ρ4 (.fz d') R4 (((G1.trans G2).trans G3).trans G4) z3 q4
end
end DL

set_option Elab.async false
set_option linter.all false
set_option maxRecDepth 100000
set_option maxHeartbeats 4000000
set_option autoImplicit false
namespace DL
open PySem PySem.Spec PyProof.Rows L2

/-! ### a list or a tuple, whichever: what its iterator draws -/
def SqB (K : PySem.W.Frag) (b : Bool) (H : Hp) (a : Addr) (xs : List V) : Prop := match b with
  | true => SqT K H a xs
  | false => SqL K H a xs
def ItB (b : Bool) (h : Heap) (it a : Addr) (i : Nat) : Prop := match b with
  | true => h.IsTupleIter it a i
  | false => h.IsListIter it a i
def SeB (b : Bool) (h : Heap) (a : Addr) (its : Array Value) : Prop := match b with
  | true => h.IsTuple a its
  | false => h.IsList a its
def itO (b : Bool) (a : Addr) : Obj := match b with
  | true => { cls := .type "tuple_iterator", data := .fields #[.ref a, .int 0 0] }
  | false => { cls := .type "list_iterator", data := .fields #[.ref a, .int 0 0] }
section
variable {X : Cx} {pins : List (Addr × Obj)} {σ : L2.St} {H : Hp} {s : Shared} {b : Bool} {a it : Addr} {xs ys : List V} {h h' : Heap} {i : Nat} {its : Array Value}
theorem Inv.seqB (I : L2.Inv X pins σ H s) (q : SqB X.K b H a xs) : ∃ its : List Value, Vals xs its ∧ SeB b s.heap a its.toArray := by
  cases b with
  | true => obtain ⟨its, r, p, _⟩ := I.tuple q; exact ⟨its, r, p⟩
  | false => obtain ⟨its, r, p, _⟩ := I.list q; exact ⟨its, r, p.isList⟩
theorem Inv.seqB_inj (I : L2.Inv X pins σ H s) (q : SqB X.K b H a xs) (q' : SqB X.K b H a ys) : xs = ys := by
  cases b with
  | true => exact I.tuple_inj q q'
  | false => exact I.list_inj q q'
theorem draws_b {P : Program} {w : World} {A : Around} (hh : A.handled = none) (hne : a ≠ it) : Draws P w A it [it, a] its.size (fun i v => its[i]? = some v) (fun i h => ItB b h it a i ∧ SeB b h a its) := by
  cases b with
  | true => exact Draws.tuple hh it a hne its
  | false => exact Draws.list hh it a hne its
theorem begins_b : Begins (.ref a) (itO b a) (fun h => SeB b h a its) := by
  cases b with
  | true => exact begins_tuple a its
  | false => exact begins_list a its
theorem ItB.obj (t : ItB b h it a i) : ∃ o v, h.get? it = some o ∧ o.data = .fields v ∧ ∃ n, o.cls = .type n ∧ n ≠ "tuple" ∧ n ≠ "list" := by
  cases b with
  | true => obtain ⟨o, e, c, d⟩ := t; exact ⟨o, _, e, d, _, c, by decide, by decide⟩
  | false => obtain ⟨o, e, c, d⟩ := t; exact ⟨o, _, e, d, _, c, by decide, by decide⟩
theorem SeB.obj (t : SeB b h a its) : ∃ o n, h.get? a = some o ∧ o.data = .seq its n := by
  cases b with
  | true => obtain ⟨o, e, c, n, d⟩ := t; exact ⟨o, n, e, d⟩
  | false => obtain ⟨o, e, c, n, d⟩ := t; exact ⟨o, n, e, d⟩
theorem ItB.at (t : ItB b h it a i) (k : ∀ o, h.get? it = some o → h'.get? it = some o) : ItB b h' it a i := by
  cases b with
  | true => obtain ⟨o, e, c, d⟩ := t; exact ⟨o, k o e, c, d⟩
  | false => obtain ⟨o, e, c, d⟩ := t; exact ⟨o, k o e, c, d⟩
theorem SeB.at (t : SeB b h a its) (k : ∀ o, h.get? a = some o → h'.get? a = some o) : SeB b h' a its := by
  cases b with
  | true => obtain ⟨o, e, c, n, d⟩ := t; exact ⟨o, k o e, c, n, d⟩
  | false => obtain ⟨o, e, c, n, d⟩ := t; exact ⟨o, k o e, c, n, d⟩
theorem ItB.begun (e : h.get? it = some (itO b a)) : ItB b h it a 0 := by
  cases b with
  | true => exact ⟨_, e, rfl, rfl⟩
  | false => exact ⟨_, e, rfl, rfl⟩
theorem seb_ne (t : SeB b h a its) (e : ItB b h it a i) : a ≠ it := by
  rintro rfl
  obtain ⟨o, n, e1, d1⟩ := t.obj
  obtain ⟨o2, v, e2, d2, _⟩ := e.obj
  rw [e1] at e2; cases e2
  rw [d1] at d2; cases d2
end
/-! ### enumerate -/
def IteB (b : Bool) (K : PySem.W.Frag) (a : Addr) : It :=
  ⟨fun i H => ∃ (xs : List V) (x : V), SqB K b H a xs ∧ xs[i]? = some x, fun i H v H' => ∃ T x, v = .ref T ∧ H T = none ∧ H' = upd H T (.tup [.int (i : Nat), x]) ∧ ∀ xs, SqB K b H a xs → xs[i]? = some x, fun i H => ∃ xs : List V, SqB K b H a xs ∧ xs.length = i⟩
theorem turn_enumB {b : Bool} {P : Program} {w : World} {K : PySem.W.Frag} {elts : List Expr} {kk : Nat} {tpos : Pos} (a e it : Addr) :
    Turn P w K (.Tuple elts kk tpos) (IteB b K a) [e, it] e (fun i h => (∃ old, IsEnum h e it ((i : Nat) : Int) old) ∧ ItB b h it a i ∧ e ≠ it) where
  mem := by simp
  obj := fun i h st c hc => by
    obtain ⟨⟨old, he⟩, hi, _⟩ := st
    obtain ⟨o, v, ho, hd, _⟩ := hi.obj
    have e' : c = e ∨ c = it := by simpa using hc
    rcases e' with z | z
    · rw [z]; exact ⟨_, he, fun v q => nomatch q⟩
    · rw [z]; exact ⟨o, ho, fun v q => by rw [hd] at q; cases q⟩
  keep := fun i h h' st k => let ⟨⟨old, he⟩, hi, hne⟩ := st; ⟨⟨old, k e (by simp) _ he⟩, hi.at fun o q => k it (by simp) o q, hne⟩
  item := by
    intro X hP hw hK hc i pins s σ H E I hf st hg
    subst hP hw hK
    obtain ⟨⟨old, he⟩, hit, hne⟩ := st
    obtain ⟨xs, x, hq, hx⟩ := hg
    obtain ⟨its, rv, p⟩ := Inv.seqB I hq
    obtain ⟨u, hu, ru⟩ := rv.get hx
    have hai := seb_ne p hit
    have hae : e ≠ a := by
      rintro rfl
      obtain ⟨o, n, e1, d1⟩ := p.obj
      rw [he] at e1; cases e1; cases d1
    have hel : e < s.heap.objs.size := Heap.lt_size he
    have hil : it < s.heap.objs.size := by obtain ⟨_, _, q, _⟩ := hit.obj; exact Heap.lt_size q
    have hlt : i < its.toArray.size := by
      have := (List.getElem?_eq_some_iff.mp hu).1
      simpa using this
    refine wpAny_pyNext_enum_itemC (c := (i : Int)) (draws_b (b := b) (A := X.A.in1) (I.ok.hd hc) hai) he ⟨hit, p⟩ hlt hne (by simp [hne, hae]) fun x2 h' tk hP ho st' hT hsz hk => ?_
    have hxu : x2 = u := by
      have h1 : its.toArray[i]? = some u := by simpa using hu
      rw [h1] at hP; exact (Option.some.inj hP).symm
    subst hxu
    refine ⟨_, rfl, wpAny_letOwnedTupleGo_enum (s := { s with heap := h', toks := tk + 1 }) ho fun h'' he' sb => ?_⟩
    have hT2 : h''.get? s.heap.objs.size = some { cls := .type "tuple", data := .seq #[.int i tk, x2] } := (sb.2 _ (Nat.ne_of_gt hel)).trans hT
    have new : ObjOk X.prog X.w (upd H s.heap.objs.size (.tup [.int (i : Nat), x])) h'' s.heap.objs.size (.tup [.int (i : Nat), x]) :=
      ⟨by show 2 ≤ sizeLine; decide, [.int i tk, x2], .cons ⟨_, rfl⟩ (.cons ru .nil), ⟨_, hT2, rfl, _, rfl⟩⟩
    have I1 : L2.Inv X pins σ (upd H s.heap.objs.size (.tup [.int (i : Nat), x])) { s with heap := h'', toks := tk + 1 } :=
      I.turnedNew (t' := tk + 1) (ch := [e, it]) (fun c ob hb q => (sb.2 c (fun z => hb (by simp [z]))).trans (hk c ob (fun z => hb (by simp [z])) (fun z => hb (by simp [z])) q)) hf (Nat.le_refl _) new
    refine ⟨.ref s.heap.objs.size, _, I1, rfl, ⟨_, x, rfl, I.hok.fresh (Nat.le_refl _), rfl, fun ys hy => by rw [Inv.seqB_inj I hy hq]; exact hx⟩, ⟨⟨x2, ?_⟩, st'.1.at fun o q => (sb.2 it (Ne.symm hne)).trans q, hne⟩, fun c hcm => ?_⟩
    · have e1 : ((i + 1 : Nat) : Int) = (i : Int) + 1 := by omega
      rw [e1]; exact he'
    · have hb' : c < s.heap.objs.size := by
        have e' : c = e ∨ c = it := by simpa using hcm
        rcases e' with z | z
        · rw [z]; exact hel
        · rw [z]; exact hil
      rw [upd_ne (Nat.ne_of_lt hb')]
      exact (hf c hcm).1
  done := by
    intro X hP hw hK hc i pins s σ H E I hf st hg
    subst hP hw hK
    obtain ⟨⟨old, he⟩, hit, hne⟩ := st
    obtain ⟨xs, hq, hx⟩ := hg
    obtain ⟨its, rv, p⟩ := Inv.seqB I hq
    obtain ⟨f0, f1, f2, f3, f4, f5⟩ := hf it (by simp)
    have hl := rv.length
    have hi : i = its.toArray.size := by simp; omega
    subst hi
    exact wpAny_pyNext_enum_endD (draws_b (b := b) (A := X.A.in1) (I.ok.hd hc) (seb_ne p hit)) he ⟨hit, p⟩ fun h' eb => ⟨rfl, I.turned (t' := s.toks) (fun b o hb q => eb b o hb q) f0 f1 f3 f4 f5⟩
  self := fun A i s Q E st h => let ⟨⟨_, he⟩, _⟩ := st; wpAny_pyIter_enum he h
set_option maxHeartbeats 8000000 in
theorem meets_enum_b {v : Value} {o : Obj} {H : Heap → Prop} (B : Begins v o H) :
    Meets (Builtin.«enumerate.__new__» ⟨[.type "enumerate", v], []⟩) (fun _ R s => H s.heap ∧
      R (.ok (.ret (.ref (s.heap.push o).objs.size))) { s with heap := (s.heap.push o).push { cls := .type "enumerate", data := .fields #[.none, .bool false, .ref s.heap.objs.size, rawInt 0, .none, .none] } }) :=
  .of_wp fun prog w A R s h => by
    obtain ⟨hp, g, d, tk, os⟩ := s; obtain ⟨h1, h⟩ := h
    have hsub := sub_enumerate
    have q1 : ∀ {A' : Around} {E : Value → Shared → Prop} {Q : Value → Shared → Prop}, Q (.ref hp.objs.size) ⟨hp.push o, g, d, tk, os⟩ → wpAny (model prog w) A' (pyIter v) Q E ⟨hp, g, d, tk, os⟩ :=
      fun q => B.iter prog w _ _ ⟨hp, g, d, tk, os⟩ _ h1 q
    wp_walk using q1
    refine wpAny_stack_any fun st => wpAny_pure ?_
    split
    · rename_i c _ _ _ _ _
      cases (c == Value.type "enumerate")
      · wp_walk using q1
        exact ⟨_, rfl, h⟩
      · wp_walk using q1
        exact ⟨_, rfl, h⟩
    · wp_walk using q1
      exact ⟨_, rfl, h⟩
theorem call_enum_b {prog : Program} {w : World} {A : Around} {E : Value → Shared → Prop} {s : Shared} {v : Value} {o : Obj} {H : Heap → Prop} {Q : Value → Shared → Prop} (B : Begins v o H) (h1 : H s.heap)
    (h : ∀ h', IsEnum h' (s.heap.objs.size + 1) s.heap.objs.size 0 .none → h'.get? s.heap.objs.size = some o → h'.objs.size = s.heap.objs.size + 2 →
      (∀ b o, s.heap.get? b = some o → h'.get? b = some o) → Q (.ref (s.heap.objs.size + 1)) { s with heap := h' }) :
    wpAny (model prog w) A (call (.type "enumerate") [v]) Q E s := by
  refine callType_new F.called_enumerate (by decide) (F.typeCall_enumerate_1 _) (F.newCall_enumerate_1 _) (fun obj => F.args_object_init_2 obj _) F.entry_enumerate_new
    (meets_enum_b B) ⟨h1, ?_⟩
  have hz : (s.heap.push o).objs.size = s.heap.objs.size + 1 := Heap.size_push ..
  show _ ∧ _
  rw [hz]
  have he : IsEnum ((s.heap.push o).push { cls := .type "enumerate", data := .fields #[.none, .bool false, .ref s.heap.objs.size, rawInt 0, .none, .none] }) (s.heap.objs.size + 1) s.heap.objs.size 0 .none := by
    have := Heap.get?_push_size (s.heap.push o) (o := { cls := .type "enumerate", data := .fields #[.none, .bool false, .ref s.heap.objs.size, rawInt 0, .none, .none] }) rfl
    rw [hz] at this; exact this
  refine ⟨⟨_, he, rfl⟩, h _ he (Heap.get?_push_of_some _ (Heap.get?_push_size _ B.free)) (by rw [Heap.size_push, hz]) fun b o x => Heap.get?_push_of_some _ (Heap.get?_push_of_some _ x)⟩
def iEnumA (K : PySem.W.Frag) (ta : TA) : TI := fun σ H R => ta σ H fun vs H1 => ∃ a b xs, vs = [.ref a] ∧ SqB K b H1 a xs ∧ R (IteB b K a) H1
theorem pi_enumA {X : Cx} {e : Expr} {ta : TA} {p pos tpos : Pos} {elts : List Expr} {kk : Nat} (hg : Gl X "enumerate") (hm : X.mg "enumerate" = none) (ha : PA X [e] ta) (hs : starEach [e] X.env = [(false, eval e X.env)] := by rfl) :
    PI X (.Tuple elts kk tpos) (.Call (.Name "enumerate" p) [e] [] pos) (iEnumA X.K ta) := by
  refine ⟨fun pins s σ H R I h => ?_⟩
  refine Call_ (ld_blt I hg hm boot_enumerate (PyProof.Rows.callWith_type1 (thn (ha.run pos pins s σ H _ I h) fun us s1 ⟨vs, H1, I1, r1, q1⟩ => ?_) hs rfl))
  obtain ⟨a, b, xs, ex, hq, q⟩ := q1
  subst ex
  cases r1 with
  | cons r rr =>
    cases rr
    cases r
    obtain ⟨its, rv, p'⟩ := Inv.seqB I1 hq
    refine call_enum_b begins_b p' fun h' he hit hsz hk => wpAny_pyIter_enum he ?_
    have I2 : L2.Inv X pins σ H1 { s1 with heap := h' } := I1.kept (t' := s1.toks) hk
    refine ⟨s1.heap.objs.size + 1, [s1.heap.objs.size + 1, s1.heap.objs.size], _, _, H1, rfl, I2, turn_enumB a (s1.heap.objs.size + 1) s1.heap.objs.size, ⟨⟨.none, he⟩, ItB.begun hit, Nat.succ_ne_self _⟩, fun b hb => ?_, q⟩
    have e' : b = s1.heap.objs.size + 1 ∨ b = s1.heap.objs.size := by simpa using hb
    have hle : s1.heap.objs.size ≤ b := by
      rcases e' with z | z
      · rw [z]; exact Nat.le_add_right _ _
      · rw [z]; exact Nat.le_refl _
    exact I1.fpOk hle (I1.hok.fresh hle)
end DL

set_option Elab.async false
set_option linter.all false
set_option maxRecDepth 100000
set_option maxHeartbeats 4000000
set_option autoImplicit false
namespace DL
open PySem PySem.Spec PyProof.Rows L2
/-! ### a strict zip -/
abbrev IsZipS (h : Heap) (z TI TO : Addr) (f0 : Value) : Prop :=
  h.get? z = some { cls := .type "zip", dict := none, data := .fields #[f0, .bool false, .bool true, .ref TI, .ref TO], slots := #[] }
section
variable {prog : Program} {w : World} {A : Around} {E : Value → Shared → Prop} {s : Shared} {z TI TO i1 i2 : Addr} {fp1 fp2 : List Addr} {n1 n2 i : Nat} {P1 P2 : Nat → Value → Prop} {St1 St2 : Nat → Heap → Prop} {a1 a2 : Value}
theorem wpAny_no {α : Type} {c : Prop} [Decidable c] {a b : Sem α} {Q : α → Shared → Prop} (hc : ¬ c) (h : wpAny (model prog w) A b Q E s) : wpAny (model prog w) A (if c then a else b) Q E s := by rw [if_neg hc]; exact h
theorem nextOrEnd_item {it : Addr} {fp : List Addr} {n : Nat} {P : Nat → Value → Prop} {St : Nat → Heap → Prop} (D : Draws prog w A it fp n P St) {Q : Option Value → Shared → Prop} (hi : i < n) (st : St i s.heap)
    (hQ : ∀ x h' tk, P i x → St (i + 1) h' → Heap.SameBut it s.heap h' → Q (some x) { s with heap := h', toks := tk }) : wpAny (model prog w) A (Builtin.SmallTypes.nextOrEnd (.ref it)) Q E s := by
  unfold Builtin.SmallTypes.nextOrEnd
  exact wpAny_bind (wpAny_attempt (D.item i s _ _ hi st fun x h' tk hp hs hb => wpAny_pure (hQ x h' tk hp hs hb)))
theorem nextOrEnd_end {it : Addr} {fp : List Addr} {n : Nat} {P : Nat → Value → Prop} {St : Nat → Heap → Prop} (D : Draws prog w A it fp n P St) {Q : Option Value → Shared → Prop} (st : St n s.heap)
    (hQ : ∀ h', Heap.ExtBut it s.heap h' → Q none { s with heap := h' }) : wpAny (model prog w) A (Builtin.SmallTypes.nextOrEnd (.ref it)) Q E s := by
  unfold Builtin.SmallTypes.nextOrEnd
  refine wpAny_bind (wpAny_attempt (D.done s _ _ st fun h' e hb ⟨o, ho, hc⟩ => ?_))
  exact wpAny_bind (wpAny_isInstance (T := "StopIteration") (b := true) ⟨o, ho, hc⟩ isSubtype_stop (wpAny_pure (hQ h' hb)))
theorem zipS_next_item {Q : Value → Shared → Prop} (S : ZipSep2 z TI TO i1 i2 fp1 fp2) (D1 : Draws prog w A i1 fp1 n1 P1 St1) (D2 : Draws prog w A i2 fp2 n2 P2 St2)
    (hz : IsZipS s.heap z TI TO .none) (hTI : IsTupOf2 s.heap TI (.ref i1) (.ref i2)) (hTO : IsTupOf2 s.heap TO a1 a2) (st1 : St1 i s.heap) (st2 : St2 i s.heap) (hlt1 : i < n1) (hlt2 : i < n2)
    (hQ : ∀ x1 x2 h' tk, P1 i x1 → P2 i x2 → IsZipS h' z TI TO (rawInt s.heap.objs.size) → IsTupOf2 h' TO x1 x2 → St1 (i + 1) h' → St2 (i + 1) h' → IsTupOf2 h' s.heap.objs.size x1 x2 → h'.objs.size = s.heap.objs.size + 1 →
      (∀ c o, c ≠ z → c ≠ TO → c ≠ i1 → c ≠ i2 → s.heap.get? c = some o → h'.get? c = some o) → Q (.ref s.heap.objs.size) { s with heap := h', toks := tk }) :
    wpAny (model prog w) A (Builtin.«zip.__next__» ⟨[.ref z], []⟩) (fun fin s' => ∃ v, fin = .done (.ret v) ∧ Q v s') E s := by
  obtain ⟨hp, g, d, tk0, os⟩ := s
  show wpAny _ _ (field (.ref z) 2 >>= _) _ _ _
  refine wpAny_bind (wpAny_field hz rfl (x := .bool true) rfl ?_)
  show wpAny _ _ (field (.ref z) 3 >>= _) _ _ _
  refine wpAny_bind (wpAny_field hz rfl (x := .ref TI) rfl ?_)
  refine wpAny_bind (wpAny_seqItems hTI rfl ?_)
  show wpAny _ _ (Builtin.SmallTypes.ownedTupleIsFree (.ref z) >>= _) _ _ _
  refine wpAny_bind ?_
  unfold Builtin.SmallTypes.ownedTupleIsFree
  refine wpAny_bind (wpAny_field hz rfl (x := .none) rfl (wpAny_pure ?_))
  simp only [if_true]
  refine wpAny_bind (wpAny_rule ?_)
  refine wpAny_bind (wpAny_field hz rfl (x := .ref TO) rfl ?_)
  refine wpAny_bind (wpAny_setField_rec hz (by simp) fun g0 hz0 hs0 => ?_)
  replace hz0 : IsZipS g0 z TI TO .ellipsis := hz0
  replace hs0 : Heap.SameBut z hp g0 := hs0
  refine wpAny_bind ?_
  simp only [List.zipIdx_cons, List.zipIdx_nil, List.forIn_cons, List.forIn_nil]
  refine wpAny_bind (wpAny_bind (wpAny_onRaise ?_))
  show wpAny _ _ (Builtin.SmallTypes.nextOrEnd (.ref i1)) _ _ ⟨g0, g, d, tk0, os⟩
  refine nextOrEnd_item D1 hlt1 (D1.over st1 hs0 S.zf1) fun x1 p1 tk1 hx1 sn1 hp1 => ?_
  replace hp1 : Heap.SameBut i1 g0 p1 := hp1
  have hU1 : IsTupOf2 p1 TO a1 a2 := hp1.extBut _ _ S.Ti1 (hs0.extBut _ _ S.TOz hTO)
  refine wpAny_bind (wpAny_seqItems (s := ⟨p1, g, d, tk1, os⟩) hU1 rfl ?_)
  refine wpAny_bind (updateSeq_IsTupOf2 (s := ⟨p1, g, d, tk1, os⟩) hU1 fun g1 hT1 hs1 => ?_)
  replace hT1 : IsTupOf2 g1 TO x1 a2 := hT1
  replace hs1 : Heap.SameBut TO p1 g1 := hs1
  refine wpAny_bind (wpAny_letGo (wpAny_pure ?_))
  refine wpAny_bind (wpAny_bind (wpAny_onRaise ?_))
  show wpAny _ _ (Builtin.SmallTypes.nextOrEnd (.ref i2)) _ _ ⟨g1, g, d, tk1, os⟩
  refine nextOrEnd_item D2 hlt2 (D2.over (D2.over (D2.over st2 hs0 S.zf2) hp1 S.sep1_2) hs1 S.Tf2) fun x2 p2 tk2 hx2 sn2 hp2 => ?_
  replace hp2 : Heap.SameBut i2 g1 p2 := hp2
  have hU2 : IsTupOf2 p2 TO x1 a2 := hp2.extBut _ _ S.Ti2 hT1
  refine wpAny_bind (wpAny_seqItems (s := ⟨p2, g, d, tk2, os⟩) hU2 rfl ?_)
  refine wpAny_bind (updateSeq_IsTupOf2 (s := ⟨p2, g, d, tk2, os⟩) hU2 fun g2 hT2 hs2 => ?_)
  replace hT2 : IsTupOf2 g2 TO x1 x2 := hT2
  replace hs2 : Heap.SameBut TO p2 g2 := hs2
  refine wpAny_bind (wpAny_letGo (wpAny_pure (wpAny_pure ?_)))
  refine wpAny_bind (wpAny_seqItems (s := ⟨g2, g, d, tk2, os⟩) hT2 rfl ?_)
  refine wpAny_bind (wpAny_newTuple ?_)
  have hsz : g2.objs.size = hp.objs.size := by rw [hs2.1, hp2.1, hs1.1, hp1.1, hs0.1]
  have hzz : IsZipS g2 z TI TO .ellipsis := (hs2.extBut _ _ S.TOz.symm (hp2.extBut _ _ S.zi2 (hs1.extBut _ _ S.TOz.symm (hp1.extBut _ _ S.zi1 hz0))))
  have hkk : ∀ c o, c ≠ z → c ≠ TO → c ≠ i1 → c ≠ i2 → hp.get? c = some o → g2.get? c = some o := fun c o cz cT c1 c2 e =>
    (hs2.extBut _ _ cT (hp2.extBut _ _ c2 (hs1.extBut _ _ cT (hp1.extBut _ _ c1 (hs0.extBut _ _ cz e)))))
  have hj1 : St1 (i + 1) g2 := (D1.over (D1.over (D1.over sn1 hs1 S.Tf1) hp2 S.sep2_1) hs2 S.Tf1)
  have hj2 : St2 (i + 1) g2 := (D2.over sn2 hs2 S.Tf2)
  have hzlt : z < g2.objs.size := Heap.lt_size hzz
  show wpAny _ _ (Builtin.SmallTypes.ownedTupleHandOut (.ref z) (.ref g2.objs.size) >>= _) _ _ ⟨g2.push { cls := .type "tuple", data := .seq #[x1, x2] }, g, d, tk2, os⟩
  refine wpAny_bind ?_
  unfold Builtin.SmallTypes.ownedTupleHandOut
  have hz₆ : IsZipS (g2.push { cls := .type "tuple", data := .seq #[x1, x2] }) z TI TO .ellipsis := Heap.get?_push_of_some _ hzz
  refine wpAny_bind (wpAny_setField_rec hz₆ (by simp) fun h₇ hz₇ hs₇ => ?_)
  replace hz₇ : IsZipS h₇ z TI TO (rawInt g2.objs.size) := hz₇
  refine wpAny_setField_rec hz₇ (by simp) fun h₈ hz₈ hs₈ => ?_
  replace hz₈ : IsZipS h₈ z TI TO (rawInt g2.objs.size) := hz₈
  replace hs₇ : Heap.SameBut z (g2.push { cls := .type "tuple", data := .seq #[x1, x2] }) h₇ := hs₇
  replace hs₈ : Heap.SameBut z h₇ h₈ := hs₈
  have up : ∀ c o, c ≠ z → g2.get? c = some o → h₈.get? c = some o := fun c o c1 e => hs₈.extBut _ _ c1 (hs₇.extBut _ _ c1 (Heap.get?_push_of_some _ e))
  have hT₈ : IsTupOf2 h₈ g2.objs.size x1 x2 := hs₈.extBut _ _ (Nat.ne_of_gt hzlt) (hs₇.extBut _ _ (Nat.ne_of_gt hzlt) (Heap.get?_push_size _ rfl))
  have hz8 : h₈.objs.size = g2.objs.size + 1 := by rw [hs₈.1, hs₇.1, Heap.size_push]
  rw [hsz] at hz₈ hT₈ hz8
  refine wpAny_pure ⟨_, rfl, ?_⟩
  show Q (.ref g2.objs.size) ⟨h₈, g, d, tk2, os⟩
  rw [hsz]
  exact hQ x1 x2 h₈ tk2 hx1 hx2 hz₈ (up _ _ S.TOz hT2) (D1.frame _ _ _ hj1 fun b hb o e => up b o (fun q => S.zf1 (q ▸ hb)) e) (D2.frame _ _ _ hj2 fun b hb o e => up b o (fun q => S.zf2 (q ▸ hb)) e) hT₈ hz8 fun c o cz cT c1 c2 e => up c o cz (hkk c o cz cT c1 c2 e)
theorem zipS_next_end {Q : Fin → Shared → Prop} (hh : A.handled = none) (S : ZipSep2 z TI TO i1 i2 fp1 fp2) (D1 : Draws prog w A i1 fp1 n1 P1 St1) (D2 : Draws prog w A i2 fp2 n2 P2 St2)
    (hz : IsZipS s.heap z TI TO .none) (hTI : IsTupOf2 s.heap TI (.ref i1) (.ref i2)) (hTO : IsTupOf2 s.heap TO a1 a2) (st1 : St1 i s.heap) (st2 : St2 i s.heap) (e1 : i = n1) (e2 : i = n2)
    (hE : ∀ h' tk e, (∀ c o, c ≠ z → c ≠ TO → c ≠ i1 → c ≠ i2 → s.heap.get? c = some o → h'.get? c = some o) → (∃ o, h'.get? e = some o ∧ o.cls = .type "StopIteration") → E (.ref e) { s with heap := h', toks := tk }) :
    wpAny (model prog w) A (Builtin.«zip.__next__» ⟨[.ref z], []⟩) Q E s := by
  obtain ⟨hp, g, d, tk0, os⟩ := s
  show wpAny _ _ (field (.ref z) 2 >>= _) _ _ _
  refine wpAny_bind (wpAny_field hz rfl (x := .bool true) rfl ?_)
  show wpAny _ _ (field (.ref z) 3 >>= _) _ _ _
  refine wpAny_bind (wpAny_field hz rfl (x := .ref TI) rfl ?_)
  refine wpAny_bind (wpAny_seqItems hTI rfl ?_)
  show wpAny _ _ (Builtin.SmallTypes.ownedTupleIsFree (.ref z) >>= _) _ _ _
  refine wpAny_bind ?_
  unfold Builtin.SmallTypes.ownedTupleIsFree
  refine wpAny_bind (wpAny_field hz rfl (x := .none) rfl (wpAny_pure ?_))
  simp only [if_true]
  refine wpAny_bind (wpAny_rule ?_)
  refine wpAny_bind (wpAny_field hz rfl (x := .ref TO) rfl ?_)
  refine wpAny_bind (wpAny_setField_rec hz (by simp) fun g0 hz0 hs0 => ?_)
  replace hz0 : IsZipS g0 z TI TO .ellipsis := hz0
  replace hs0 : Heap.SameBut z hp g0 := hs0
  refine wpAny_bind ?_
  simp only [List.zipIdx_cons, List.zipIdx_nil, List.forIn_cons, List.forIn_nil]
  refine wpAny_bind (wpAny_bind (wpAny_onRaise ?_))
  show wpAny _ _ (Builtin.SmallTypes.nextOrEnd (.ref i1)) _ _ ⟨g0, g, d, tk0, os⟩
  refine nextOrEnd_end D1 (by rw [← e1]; exact D1.over st1 hs0 S.zf1) fun q hq => ?_
  replace hq : Heap.ExtBut i1 g0 q := hq
  have hzq : IsZipS q z TI TO .ellipsis := hq _ _ S.zi1 hz0
  refine wpAny_bind (wpAny_setField_rec (s := ⟨q, g, d, tk0, os⟩) hzq (by simp) fun q' hzq' hq' => ?_)
  replace hq' : Heap.SameBut z q q' := hq'
  refine wpAny_bind ?_
  show wpAny _ _ (forIn (List.zipIdx (List.drop 1 [Value.ref i1, Value.ref i2]) 1) PUnit.unit _ >>= _) _ _ _
  simp only [List.drop_succ_cons, List.drop_zero, List.zipIdx_cons, List.zipIdx_nil, List.forIn_cons, List.forIn_nil]
  refine wpAny_bind (wpAny_bind (wpAny_bind (nextOrEnd_end D2 (by rw [← e2]; exact D2.over (D2.frame _ _ _ (D2.over st2 hs0 S.zf2) fun b hb o e => hq b o (fun x => S.sep1_2 (x ▸ hb)) e) hq' S.zf2) fun q2 hq2 => ?_)))
  replace hq2 : Heap.ExtBut i2 q' q2 := hq2
  rw [if_neg (show ¬ ((none : Option Value).isSome = true) from Bool.false_ne_true)]
  refine wpAny_pure (wpAny_pure (wpAny_bind (wpAny_rule ?_)))
  show wpAny _ _ (newExc (.type "StopIteration") [] >>= _) _ _ _
  refine wpAny_bind ?_
  simp only [newExc, newTuple]
  refine wpAny_bind (wpAny_newObj_type ?_ (by size_fits))
  refine wpAny_bind (m := firstArgMember _ _) (wpAny_of_eq (a := Value.none) (by first | rfl | (simp only [firstArgMember]; rfl)) ?_)
  refine wpAny_newObj_type ?_ (by size_fits)
  simp only [raiseNew]
  refine wpAny_bind (wpAny_handled ?_)
  rw [hh]
  refine wpAny_bind (wpAny_pure (wpAny_throw ?_))
  have hk : ∀ c o, c ≠ z → c ≠ TO → c ≠ i1 → c ≠ i2 → hp.get? c = some o → q2.get? c = some o := fun c o cz cT c1 c2 x => hq2 _ _ c2 (hq'.extBut _ _ cz (hq _ _ c1 (hs0.extBut _ _ cz x)))
  exact hE _ tk0 _ (fun c o cz cT c1 c2 x => Heap.get?_push_of_some _ (Heap.get?_push_of_some _ (hk c o cz cT c1 c2 x))) ⟨_, Heap.get?_push_size _ rfl, rfl⟩
theorem pyNext_zipS_item {Q : Option Value → Shared → Prop} (S : ZipSep2 z TI TO i1 i2 fp1 fp2) (D1 : Draws prog w A.in1 i1 fp1 n1 P1 St1) (D2 : Draws prog w A.in1 i2 fp2 n2 P2 St2)
    (hz : IsZipS s.heap z TI TO .none) (hTI : IsTupOf2 s.heap TI (.ref i1) (.ref i2)) (hTO : IsTupOf2 s.heap TO a1 a2) (st1 : St1 i s.heap) (st2 : St2 i s.heap) (hlt1 : i < n1) (hlt2 : i < n2)
    (hQ : ∀ x1 x2 h' tk, P1 i x1 → P2 i x2 → IsZipS h' z TI TO (rawInt s.heap.objs.size) → IsTupOf2 h' TO x1 x2 → St1 (i + 1) h' → St2 (i + 1) h' → IsTupOf2 h' s.heap.objs.size x1 x2 → h'.objs.size = s.heap.objs.size + 1 →
      (∀ c o, c ≠ z → c ≠ TO → c ≠ i1 → c ≠ i2 → s.heap.get? c = some o → h'.get? c = some o) → Q (some (.ref s.heap.objs.size)) { s with heap := h', toks := tk }) :
    wpAny (model prog w) A (pyNext (.ref z)) Q E s := by
  have hT : s.TypeIs (.ref z) "zip" := ⟨_, hz, rfl⟩
  unfold pyNext
  exact wpAny_bind (wpAny_attempt (wpAny_callSpecial?_slot (name := Str.ofString "__next__") hT F.slot_zip_next
    (wpAny_call_entry F.slot_zip_next hT F.entry_zip_next
      (zipS_next_item S D1 D2 hz hTI hTO st1 st2 hlt1 hlt2 fun x1 x2 h' tk y1 y2 b1 b2 d1 d2 b5 b6 b7 => wpAny_pure (hQ x1 x2 h' tk y1 y2 b1 b2 d1 d2 b5 b6 b7)) (F.args_zip_next_1 _))))
theorem pyNext_zipS_end {Q : Option Value → Shared → Prop} (hh : A.handled = none) (S : ZipSep2 z TI TO i1 i2 fp1 fp2) (D1 : Draws prog w A.in1 i1 fp1 n1 P1 St1) (D2 : Draws prog w A.in1 i2 fp2 n2 P2 St2)
    (hz : IsZipS s.heap z TI TO .none) (hTI : IsTupOf2 s.heap TI (.ref i1) (.ref i2)) (hTO : IsTupOf2 s.heap TO a1 a2) (st1 : St1 i s.heap) (st2 : St2 i s.heap) (e1 : i = n1) (e2 : i = n2)
    (hQ : ∀ h' tk, (∀ c o, c ≠ z → c ≠ TO → c ≠ i1 → c ≠ i2 → s.heap.get? c = some o → h'.get? c = some o) → Q none { s with heap := h', toks := tk }) : wpAny (model prog w) A (pyNext (.ref z)) Q E s := by
  have hT : s.TypeIs (.ref z) "zip" := ⟨_, hz, rfl⟩
  unfold pyNext
  refine wpAny_bind (wpAny_attempt (wpAny_callSpecial?_slot (name := Str.ofString "__next__") hT F.slot_zip_next
    (wpAny_call_entry F.slot_zip_next hT F.entry_zip_next (zipS_next_end (A := A.in1) hh S D1 D2 hz hTI hTO st1 st2 e1 e2 fun h' tk e hk he => ?_) (F.args_zip_next_1 _))))
  obtain ⟨o, ho, hc⟩ := he
  refine wpAny_bind (wpAny_isInstance (T := "StopIteration") (b := true) ⟨o, ho, hc⟩ isSubtype_stop ?_)
  exact wpAny_pure (hQ _ _ hk)
theorem letGo_zipS {elts : List Expr} {x1} {pos : Pos} {z TI TO T : Addr} {Q : Unit → Shared → Prop} (hz : IsZipS s.heap z TI TO (rawInt T))
    (hQ : ∀ h', IsZipS h' z TI TO .none → Heap.SameBut z s.heap h' → Q () { s with heap := h' }) :
    wpAny (model prog w) A (letOwnedTupleGo (.Tuple elts x1 pos) (.ref z) (.ref T)) Q E s := by
  unfold letOwnedTupleGo
  refine wpAny_bind (wpAny_load hz ?_)
  show wpAny _ _ (if (["enumerate", "zip", "dict_itemiterator", "dict_reverseitemiterator", "odict_iterator", "itertools.zip_longest", "itertools.pairwise"].contains "zip" &&
      (#[rawInt T, .bool false, .bool true, .ref TI, .ref TO] : Array Value)[0]? == some (rawInt T)) = true then _ else _) Q E s
  rw [if_pos (by simp)]
  refine wpAny_bind (wpAny_rule ?_)
  show wpAny _ _ (setField (.ref z) 0 .none) Q E s
  exact wpAny_setField_rec hz (by simp) fun h' hz' hs' => hQ h' hz' hs'
theorem pyIter_zipS {z TI TO : Addr} {f0 : Value} {Q : Value → Shared → Prop} (hz : IsZipS s.heap z TI TO f0) (h : Q (.ref z) s) : wpAny (model prog w) A (pyIter (.ref z)) Q E s := by
  have hT : s.TypeIs (.ref z) "zip" := ⟨_, hz, rfl⟩
  refine wpAny_pyIter_slot hT F.slot_zip_iter (wpAny_call_entry F.slot_zip_iter hT F.entry_zip_iter ?_ (F.args_zip_iter_1 _))
  show wpAny _ _ (ret (.ref z)) _ _ s
  exact wpAny_pure ⟨_, rfl, "zip", _, hT, F.slot_zip_next.lookup, h⟩
end
end DL

set_option Elab.async false
set_option linter.all false
set_option maxRecDepth 100000
set_option maxHeartbeats 4000000
set_option autoImplicit false
namespace DL
open PySem PySem.Spec PyProof.Rows L2
/-! ### zip of two sequences, strict or not -/
abbrev IsZf (sf : Bool) (h : Heap) (z TI TO : Addr) (f0 : Value) : Prop :=
  h.get? z = some { cls := .type "zip", dict := none, data := .fields #[f0, .bool false, .bool sf, .ref TI, .ref TO], slots := #[] }
section
variable {prog : Program} {w : World} {A : Around} {E : Value → Shared → Prop} {s : Shared} {z TI TO i1 i2 : Addr} {fp1 fp2 : List Addr} {n1 n2 i : Nat} {P1 P2 : Nat → Value → Prop} {St1 St2 : Nat → Heap → Prop} {a1 a2 : Value} {sf : Bool}
theorem pyNext_zf_item {Q : Option Value → Shared → Prop} (S : ZipSep2 z TI TO i1 i2 fp1 fp2) (D1 : Draws prog w A.in1 i1 fp1 n1 P1 St1) (D2 : Draws prog w A.in1 i2 fp2 n2 P2 St2)
    (hz : IsZf sf s.heap z TI TO .none) (hTI : IsTupOf2 s.heap TI (.ref i1) (.ref i2)) (hTO : IsTupOf2 s.heap TO a1 a2) (st1 : St1 i s.heap) (st2 : St2 i s.heap) (hlt1 : i < n1) (hlt2 : i < n2)
    (hQ : ∀ x1 x2 h' tk, P1 i x1 → P2 i x2 → IsZf sf h' z TI TO (rawInt s.heap.objs.size) → IsTupOf2 h' TO x1 x2 → St1 (i + 1) h' → St2 (i + 1) h' → IsTupOf2 h' s.heap.objs.size x1 x2 → h'.objs.size = s.heap.objs.size + 1 →
      (∀ c o, c ≠ z → c ≠ TO → c ≠ i1 → c ≠ i2 → s.heap.get? c = some o → h'.get? c = some o) → Q (some (.ref s.heap.objs.size)) { s with heap := h', toks := tk }) :
    wpAny (model prog w) A (pyNext (.ref z)) Q E s := by
  cases sf with
  | true => exact pyNext_zipS_item S D1 D2 hz hTI hTO st1 st2 hlt1 hlt2 hQ
  | false => exact wpAny_pyNext_zipD2_item S D1 D2 hz hTI hTO st1 st2 hlt1 hlt2 hQ
/-- how a zip ends -/
def Zend (sf : Bool) (i n1 n2 : Nat) : Prop := match sf with
  | true => i = n1 ∧ i = n2
  | false => i ≤ n1 ∧ i ≤ n2 ∧ (i = n1 ∨ i = n2)
theorem pyNext_zf_end {Q : Option Value → Shared → Prop} (hh : A.handled = none) (S : ZipSep2 z TI TO i1 i2 fp1 fp2) (D1 : Draws prog w A.in1 i1 fp1 n1 P1 St1) (D2 : Draws prog w A.in1 i2 fp2 n2 P2 St2)
    (hz : IsZf sf s.heap z TI TO .none) (hTI : IsTupOf2 s.heap TI (.ref i1) (.ref i2)) (hTO : IsTupOf2 s.heap TO a1 a2) (st1 : St1 i s.heap) (st2 : St2 i s.heap) (e : Zend sf i n1 n2)
    (hQ : ∀ h' tk, (∀ c o, c ≠ z → c ≠ TO → c ≠ i1 → c ≠ i2 → s.heap.get? c = some o → h'.get? c = some o) → Q none { s with heap := h', toks := tk }) : wpAny (model prog w) A (pyNext (.ref z)) Q E s := by
  cases sf with
  | true => exact pyNext_zipS_end hh S D1 D2 hz hTI hTO st1 st2 e.1 e.2 hQ
  | false => exact wpAny_pyNext_zipD2_end S D1 D2 hz hTI hTO st1 st2 e.1 e.2.1 e.2.2 hQ
theorem letGo_zf {elts : List Expr} {x1} {pos : Pos} {z TI TO T : Addr} {Q : Unit → Shared → Prop} (hz : IsZf sf s.heap z TI TO (rawInt T))
    (hQ : ∀ h', IsZf sf h' z TI TO .none → Heap.SameBut z s.heap h' → Q () { s with heap := h' }) :
    wpAny (model prog w) A (letOwnedTupleGo (.Tuple elts x1 pos) (.ref z) (.ref T)) Q E s := by
  cases sf with
  | true => exact letGo_zipS hz hQ
  | false => exact wpAny_letOwnedTupleGo_zip hz hQ
theorem pyIter_zf {z TI TO : Addr} {f0 : Value} {Q : Value → Shared → Prop} (hz : IsZf sf s.heap z TI TO f0) (h : Q (.ref z) s) : wpAny (model prog w) A (pyIter (.ref z)) Q E s := by
  cases sf with
  | true => exact pyIter_zipS hz h
  | false => exact wpAny_pyIter_zip hz h
end
def ItzB (sf b1 b2 : Bool) (K : PySem.W.Frag) (a b : Addr) : It :=
  ⟨fun i H => ∃ (xs ys : List V) (x y : V), SqB K b1 H a xs ∧ SqB K b2 H b ys ∧ xs[i]? = some x ∧ ys[i]? = some y,
    fun i H v H' => ∃ T x y, v = .ref T ∧ H T = none ∧ H' = upd H T (.tup [x, y]) ∧ (∀ xs, SqB K b1 H a xs → xs[i]? = some x) ∧ ∀ ys, SqB K b2 H b ys → ys[i]? = some y,
    fun i H => ∃ xs ys : List V, SqB K b1 H a xs ∧ SqB K b2 H b ys ∧ Zend sf i xs.length ys.length⟩
theorem turn_zipB {sf b1 b2 : Bool} {P : Program} {w : World} {K : PySem.W.Frag} {elts : List Expr} {kk : Nat} {tpos : Pos} {a b z TI TO i1 i2 : Addr} (D : ZipSep2 z TI TO i1 i2 [i1, a] [i2, b]) :
    Turn P w K (.Tuple elts kk tpos) (ItzB sf b1 b2 K a b) [z, TI, TO, i1, i2] z (fun i h => IsZf sf h z TI TO .none ∧ IsTupOf2 h TI (.ref i1) (.ref i2) ∧ (∃ x y, IsTupOf2 h TO x y) ∧ ItB b1 h i1 a i ∧ ItB b2 h i2 b i) where
  mem := by simp
  obj := fun i h st c hc => by
    obtain ⟨hz, hTI, ⟨x, y, hTO⟩, t1, t2⟩ := st
    obtain ⟨o1, v1, e1, d1, _⟩ := t1.obj
    obtain ⟨o2, v2, e2, d2, _⟩ := t2.obj
    have e' : c = z ∨ c = TI ∨ c = TO ∨ c = i1 ∨ c = i2 := by simpa using hc
    rcases e' with q | q | q | q | q
    · rw [q]; exact ⟨_, hz, fun v q => nomatch q⟩
    · rw [q]; exact ⟨_, hTI, fun v q => nomatch q⟩
    · rw [q]; exact ⟨_, hTO, fun v q => nomatch q⟩
    · rw [q]; exact ⟨o1, e1, fun v q => by rw [d1] at q; cases q⟩
    · rw [q]; exact ⟨o2, e2, fun v q => by rw [d2] at q; cases q⟩
  keep := fun i h h' st k => by
    obtain ⟨hz, hTI, ⟨x, y, hTO⟩, h1, h2⟩ := st
    exact ⟨k z (by simp) _ hz, k TI (by simp) _ hTI, ⟨x, y, k TO (by simp) _ hTO⟩, h1.at fun o q => k i1 (by simp) o q, h2.at fun o q => k i2 (by simp) o q⟩
  item := by
    intro X hP hw hK hc i pins s σ H E I hf st hg
    subst hP hw hK
    obtain ⟨hz, hTI, ⟨x0, y0, hTO⟩, h1, h2⟩ := st
    obtain ⟨xs, ys, x, y, hqx, hqy, hx, hy⟩ := hg
    obtain ⟨its, rv, p⟩ := Inv.seqB I hqx
    obtain ⟨its2, rv2, p2⟩ := Inv.seqB I hqy
    obtain ⟨u, hu, ru⟩ := rv.get hx
    obtain ⟨u2, hu2, ru2⟩ := rv2.get hy
    have hzl : z < s.heap.objs.size := Heap.lt_size hz
    have l1 : i < its.toArray.size := by
      have := (List.getElem?_eq_some_iff.mp hu).1
      simpa using this
    have l2 : i < its2.toArray.size := by
      have := (List.getElem?_eq_some_iff.mp hu2).1
      simpa using this
    refine pyNext_zf_item D (draws_b (b := b1) (A := X.A.in1) (I.ok.hd hc) (seb_ne p h1)) (draws_b (b := b2) (A := X.A.in1) (I.ok.hd hc) (seb_ne p2 h2)) hz hTI hTO ⟨h1, p⟩ ⟨h2, p2⟩ l1 l2 fun w1 w2 h' tk q1 q2 z' TO' n1 n2 hT hsz hk => ?_
    have e1 : w1 = u := by
      have h3 : its.toArray[i]? = some u := by simpa using hu
      rw [h3] at q1; exact (Option.some.inj q1).symm
    have e2 : w2 = u2 := by
      have h3 : its2.toArray[i]? = some u2 := by simpa using hu2
      rw [h3] at q2; exact (Option.some.inj q2).symm
    subst e1 e2
    refine ⟨_, rfl, letGo_zf (s := { s with heap := h', toks := tk }) z' fun h'' z'' sb => ?_⟩
    have hT2 : h''.get? s.heap.objs.size = some { cls := .type "tuple", data := .seq #[w1, w2] } := (sb.2 _ (Nat.ne_of_gt hzl)).trans hT
    have new : ObjOk X.prog X.w (upd H s.heap.objs.size (.tup [x, y])) h'' s.heap.objs.size (.tup [x, y]) :=
      ⟨by show 2 ≤ sizeLine; decide, [w1, w2], .cons ru (.cons ru2 .nil), ⟨_, hT2, rfl, _, rfl⟩⟩
    have I1 : L2.Inv X pins σ (upd H s.heap.objs.size (.tup [x, y])) { s with heap := h'', toks := tk } :=
      I.turnedNew (t' := tk) (ch := [z, TI, TO, i1, i2]) (fun c o hb q => (sb.2 c (fun q' => hb (by simp [q']))).trans (hk c o (fun q' => hb (by simp [q'])) (fun q' => hb (by simp [q'])) (fun q' => hb (by simp [q'])) (fun q' => hb (by simp [q'])) q)) hf (Nat.le_refl _) new
    refine ⟨.ref s.heap.objs.size, _, I1, rfl, ⟨_, x, y, rfl, I.hok.fresh (Nat.le_refl _), rfl, fun l hl => by rw [Inv.seqB_inj I hl hqx]; exact hx, fun l hl => by rw [Inv.seqB_inj I hl hqy]; exact hy⟩, ⟨z'', ?_, ⟨w1, w2, ?_⟩, ?_, ?_⟩, fun c hcm => ?_⟩
    · exact (sb.2 _ D.TIz).trans (hk _ _ D.TIz D.TITO D.TIi1 D.TIi2 hTI)
    · exact (sb.2 _ D.TOz).trans TO'
    · exact n1.1.at fun o q => (sb.2 _ D.zi1.symm).trans q
    · exact n2.1.at fun o q => (sb.2 _ D.zi2.symm).trans q
    · have hlt : c < s.heap.objs.size := by
        obtain ⟨_, _, e1, _⟩ := h1.obj
        obtain ⟨_, _, e2, _⟩ := h2.obj
        have e' : c = z ∨ c = TI ∨ c = TO ∨ c = i1 ∨ c = i2 := by simpa using hcm
        rcases e' with q | q | q | q | q
        · rw [q]; exact hzl
        · rw [q]; exact Heap.lt_size hTI
        · rw [q]; exact Heap.lt_size hTO
        · rw [q]; exact Heap.lt_size e1
        · rw [q]; exact Heap.lt_size e2
      rw [upd_ne (Nat.ne_of_lt hlt)]
      exact (hf c hcm).1
  done := by
    intro X hP hw hK hc i pins s σ H E I hf st hg
    subst hP hw hK
    obtain ⟨hz, hTI, ⟨x0, y0, hTO⟩, h1, h2⟩ := st
    obtain ⟨xs, ys, hqx, hqy, hend⟩ := hg
    obtain ⟨its, rv, p⟩ := Inv.seqB I hqx
    obtain ⟨its2, rv2, p2⟩ := Inv.seqB I hqy
    have e1 : xs.length = its.toArray.size := by rw [rv.length]; simp
    have e2 : ys.length = its2.toArray.size := by rw [rv2.length]; simp
    rw [e1, e2] at hend
    exact pyNext_zf_end (I.ok.hd hc) D (draws_b (b := b1) (A := X.A.in1) (I.ok.hd hc) (seb_ne p h1)) (draws_b (b := b2) (A := X.A.in1) (I.ok.hd hc) (seb_ne p2 h2)) hz hTI hTO ⟨h1, p⟩ ⟨h2, p2⟩ hend fun h' tk hk => ⟨rfl, I.turnedL (t' := tk) (ch := [z, TI, TO, i1, i2]) (fun c o hb q =>
      hk c o (fun q' => hb (by simp [q'])) (fun q' => hb (by simp [q'])) (fun q' => hb (by simp [q'])) (fun q' => hb (by simp [q'])) q) hf⟩
  self := fun A i s Q E st h => pyIter_zf st.1 h
def iZipB (sf : Bool) (K : PySem.W.Frag) (ta : TA) : TI := fun σ H R => ta σ H fun vs H1 => ∃ a b b1 b2 xs ys, vs = [.ref a, .ref b] ∧ SqB K b1 H1 a xs ∧ SqB K b2 H1 b ys ∧ R (ItzB sf b1 b2 K a b) H1
theorem SeB.lt {b : Bool} {h : Heap} {a : Addr} {its : Array Value} (t : SeB b h a its) : a < h.objs.size := by
  obtain ⟨o, n, e, _⟩ := t.obj
  exact Heap.lt_size e
theorem zipB_fresh {X : Cx} {pins : List (Addr × Obj)} {σ : L2.St} {H1 : Hp} {s1 : Shared} (I1 : L2.Inv X pins σ H1 s1) : ∀ c, c ∈ [s1.heap.objs.size + 4, s1.heap.objs.size + 2, s1.heap.objs.size + 3, s1.heap.objs.size, s1.heap.objs.size + 1] → FpOk X pins H1 c := fun c hcm => by
  have e' : c = s1.heap.objs.size + 4 ∨ c = s1.heap.objs.size + 2 ∨ c = s1.heap.objs.size + 3 ∨ c = s1.heap.objs.size ∨ c = s1.heap.objs.size + 1 := by simpa using hcm
  have hle : s1.heap.objs.size ≤ c := by
    rcases e' with z | z | z | z | z
    · rw [z]; exact Nat.le_add_right _ _
    · rw [z]; exact Nat.le_add_right _ _
    · rw [z]; exact Nat.le_add_right _ _
    · rw [z]; exact Nat.le_refl _
    · rw [z]; exact Nat.le_add_right _ _
  exact I1.fpOk hle (I1.hok.fresh hle)
/-- zip(a, b) -/
theorem pi_zipB {X : Cx} {e e2 : Expr} {ta : TA} {p pos tpos : Pos} {elts : List Expr} {kk : Nat} (hg : Gl X "zip") (hm : X.mg "zip" = none) (ha : PA X [e, e2] ta)
    (hs : starEach [e, e2] X.env = (false, eval e X.env) :: starEach [e2] X.env := by rfl) (hpl : (backTo pos (starEach [e2] X.env)).any (·.1) = false := by rfl) :
    PI X (.Tuple elts kk tpos) (.Call (.Name "zip" p) [e, e2] [] pos) (iZipB false X.K ta) := by
  refine ⟨fun pins s σ H R I h => ?_⟩
  refine Call_ (ld_blt I hg hm PyProof.Rows.boot_zip (PyProof.Rows.callWith_type1 (thn (ha.run pos pins s σ H _ I h) fun us s1 ⟨vs, H1, I1, r1, q1⟩ => ?_) hs hpl))
  obtain ⟨a, b, b1, b2, xs, ys, ex, hqx, hqy, q⟩ := q1
  subst ex
  cases r1 with
  | cons r rr =>
    cases rr with
    | cons r' rr =>
      cases rr
      cases r
      cases r'
      obtain ⟨its, rv, p1⟩ := Inv.seqB I1 hqx
      obtain ⟨its2, rv2, p2⟩ := Inv.seqB I1 hqy
      refine zip_begins2 begins_b begins_b p1 p2 fun h' hz hTI hTO h1 h2 hsz hk => wpAny_pyIter_zip hz ?_
      have I2 : L2.Inv X pins σ H1 { s1 with heap := h' } := I1.kept (t' := s1.toks) hk
      exact ⟨s1.heap.objs.size + 4, [s1.heap.objs.size + 4, s1.heap.objs.size + 2, s1.heap.objs.size + 3, s1.heap.objs.size, s1.heap.objs.size + 1], _, _, H1, rfl, I2,
        turn_zipB (sf := false) (zip_sep2 (fp1 := [a]) (fp2 := [b]) (fun c hc => by rw [List.mem_singleton.mp hc]; exact p1.lt) (fun c hc => by rw [List.mem_singleton.mp hc]; exact p2.lt)),
        ⟨hz, hTI, ⟨_, _, hTO⟩, ItB.begun h1, ItB.begun h2⟩, zipB_fresh I1, q⟩
end DL

set_option Elab.async false
set_option linter.all false
set_option maxRecDepth 100000
set_option maxHeartbeats 4000000
set_option autoImplicit false
namespace DL
open PySem PySem.Spec PyProof.Rows L2
/-! ### zip(a, b, strict=..) -/
abbrev gzS2 (sf : Bool) (h : Heap) (o1 o2 : Obj) : Heap := (gzO2 h o1 o2).push { cls := .type "zip", data := .fields #[.none, .bool false, .bool sf, .ref ((h.push o1).push o2).objs.size, .ref (gzT2 h o1 o2).objs.size] }
theorem typeCall_zip_strict (a b c : Value) : checkTypeCall "zip" ⟨[a, b], [(Str.ofString "strict", c)]⟩ = pure () := by kernel_rfl
theorem newCall_zip_strict (a b c : Value) : checkBuiltinCall "zip.__new__" ⟨[.type "zip", a, b], [(Str.ofString "strict", c)]⟩ = pure () := by kernel_rfl
theorem args_object_init_strict (obj a b c : Value) : argsOk "object.__init__" ⟨[obj, a, b], [(Str.ofString "strict", c)]⟩ := by unfold argsOk; kernel_rfl
set_option maxHeartbeats 8000000 in
theorem meets_zip_newS {v1 v2 : Value} {o1 o2 : Obj} {H1 H2 : Heap → Prop} (B1 : Begins v1 o1 H1) (B2 : Begins v2 o2 H2) (sf : Bool) :
    Meets (Builtin.«zip.__new__» ⟨[.type "zip", v1, v2], [(Str.ofString "strict", .bool sf)]⟩) (fun _ R s => (H1 s.heap ∧ H2 s.heap) ∧
      R (.ok (.ret (.ref (gzO2 s.heap o1 o2).objs.size))) { s with heap := gzS2 sf s.heap o1 o2 }) :=
  .of_wp fun prog w A R s h => by
    obtain ⟨hp, g, d, tk, os⟩ := s; obtain ⟨⟨h1, h2⟩, h⟩ := h
    have hsub := sub_zip
    have e2 : (Str.ofString "strict" != ("strict" : Str)) = false := by decide +kernel
    have q1 : ∀ {A' : Around} {E : Value → Shared → Prop} {Q : Value → Shared → Prop}, Q (.ref hp.objs.size) ⟨(hp.push o1), g, d, tk, os⟩ → wpAny (model prog w) A' (pyIter v1) Q E ⟨hp, g, d, tk, os⟩ :=
      fun q => B1.iter prog w _ _ ⟨hp, g, d, tk, os⟩ _ (B1.keeps _ _ h1 fun b o' e => e) q
    have q2 : ∀ {A' : Around} {E : Value → Shared → Prop} {Q : Value → Shared → Prop}, Q (.ref (hp.push o1).objs.size) ⟨((hp.push o1).push o2), g, d, tk, os⟩ → wpAny (model prog w) A' (pyIter v2) Q E ⟨(hp.push o1), g, d, tk, os⟩ :=
      fun q => B2.iter prog w _ _ ⟨(hp.push o1), g, d, tk, os⟩ _ (B2.keeps _ _ h2 fun b o' e => (Heap.get?_push_of_some _ e)) q
    wp_walk using q1, q2
    exact ⟨_, rfl, h⟩
section
variable {prog : Program} {w : World} {A : Around} {E : Value → Shared → Prop} {s : Shared}
theorem zip_beginsS {v1 v2 : Value} {o1 o2 : Obj} {H1 H2 : Heap → Prop} {Q : Value → Shared → Prop} {sf : Bool} (B1 : Begins v1 o1 H1) (B2 : Begins v2 o2 H2) (h1 : H1 s.heap) (h2 : H2 s.heap)
    (h : ∀ h', IsZf sf h' (s.heap.objs.size + 4) (s.heap.objs.size + 2) (s.heap.objs.size + 3) .none → IsTupOf2 h' (s.heap.objs.size + 2) (.ref s.heap.objs.size) (.ref (s.heap.objs.size + 1)) →
      IsTupOf2 h' (s.heap.objs.size + 3) .none .none → h'.get? s.heap.objs.size = some o1 → h'.get? (s.heap.objs.size + 1) = some o2 → h'.objs.size = s.heap.objs.size + 5 →
      (∀ c o, s.heap.get? c = some o → h'.get? c = some o) → Q (.ref (s.heap.objs.size + 4)) { s with heap := h' }) :
    wpAny (model prog w) A (call (.type "zip") [v1, v2] [(Str.ofString "strict", .bool sf)]) Q E s := by
  refine callType_newKw F.called_zip (by decide) (typeCall_zip_strict _ _ _) (newCall_zip_strict _ _ _) (fun obj => args_object_init_strict obj _ _ _) F.entry_zip_new
    (meets_zip_newS B1 B2 sf) ⟨⟨h1, h2⟩, ?_⟩
  have z1 : (s.heap.push o1).objs.size = s.heap.objs.size + 1 := by rw [Heap.size_push]
  have z2 : ((s.heap.push o1).push o2).objs.size = s.heap.objs.size + 2 := by rw [Heap.size_push, z1]
  have zT : (gzT2 s.heap o1 o2).objs.size = s.heap.objs.size + 3 := by rw [Heap.size_push, z2]
  have zO : (gzO2 s.heap o1 o2).objs.size = s.heap.objs.size + 4 := by rw [Heap.size_push, zT]
  have zZ : (gzS2 sf s.heap o1 o2).objs.size = s.heap.objs.size + 5 := by rw [Heap.size_push, zO]
  have gZ : (gzS2 sf s.heap o1 o2).get? (gzO2 s.heap o1 o2).objs.size = some { cls := .type "zip", data := .fields #[.none, .bool false, .bool sf, .ref ((s.heap.push o1).push o2).objs.size, .ref (gzT2 s.heap o1 o2).objs.size] } := Heap.get?_push_size _ rfl
  have gO : (gzS2 sf s.heap o1 o2).get? (gzT2 s.heap o1 o2).objs.size = some { cls := .type "tuple", data := .seq #[.none, .none] } := Heap.get?_push_of_some _ (Heap.get?_push_size _ rfl)
  have gT : (gzS2 sf s.heap o1 o2).get? ((s.heap.push o1).push o2).objs.size = some { cls := .type "tuple", data := .seq #[.ref s.heap.objs.size, .ref (s.heap.push o1).objs.size] } := Heap.get?_push_of_some _ (Heap.get?_push_of_some _ (Heap.get?_push_size _ rfl))
  have g1 : (gzS2 sf s.heap o1 o2).get? s.heap.objs.size = some o1 := Heap.get?_push_of_some _ (Heap.get?_push_of_some _ (Heap.get?_push_of_some _ (Heap.get?_push_of_some _ (Heap.get?_push_size _ B1.free))))
  have g2 : (gzS2 sf s.heap o1 o2).get? (s.heap.push o1).objs.size = some o2 := Heap.get?_push_of_some _ (Heap.get?_push_of_some _ (Heap.get?_push_of_some _ (Heap.get?_push_size _ B2.free)))
  rw [zO, zT, z2] at gZ
  rw [zT] at gO
  rw [z2, z1] at gT
  rw [z1] at g2
  show _ ∧ _
  rw [zO]
  exact ⟨⟨_, gZ, rfl⟩, h _ gZ gT gO g1 g2 zZ fun c o e => Heap.get?_push_of_some _ (Heap.get?_push_of_some _ (Heap.get?_push_of_some _ (Heap.get?_push_of_some _ (Heap.get?_push_of_some _ e))))⟩
end
section
variable {M : Model} {A : Around} {E : Value → Shared → Prop} {s : Shared} {env : Env}
theorem callWith_type_kwB {pos : Pos} {T : String} {first : List Value} {args : List (Bool × Sem Value)} {keywords : List (Option Str × Sem Value)} {Q : Value → Shared → Prop}
    (hplain : args.any (·.1) = false) (hkw : keywords.any (·.1.isNone) = false)
    (h : wpAny M A (evalArgs (.type T) true args keywords) (fun a s₁ => wpAny M A (call (.type T) (first ++ a.pos) a.kw) Q E s₁) E s) :
    wpAny M A (callWith pos (.type T) first args keywords) Q E s := by
  unfold callWith
  refine wpAny_bind (wpAny_holding (wpAny_mono h (fun a s₁ h₁ => wpAny_bind (wpAny_standAt ?_)) fun _ _ x => x))
  simp only [hplain, hkw, Bool.or_false]
  refine wpAny_bind (wpAny_pure ?_)
  exact wpAny_bind (wpAny_mono h₁ (fun r s₂ hr => wpAny_bind (wpAny_holding (wpAny_point (wpAny_pure hr)))) fun _ _ x => x)
theorem callWith_typeKw {pos : Pos} {T : String} {e : Expr} {rest : List Expr} {kws : List Keyword} {Q : Value → Shared → Prop}
    (h : wpAny M A (spliced (backTo pos (starEach (e :: rest) env))) (fun vs s₁ => wpAny M A (evalAll ((backToKw pos (keywordEach kws env)).map (·.2)))
      (fun kvs s₂ => wpAny M A (call (.type T) vs (((backToKw pos (keywordEach kws env)).filterMap (·.1)).zip kvs)) Q E s₂) E s₁) E s)
    (he : backTo pos (starEach (e :: rest) env) = (false, eval e env) :: backTo pos (starEach rest env) := by rfl)
    (hplain : (backTo pos (starEach (e :: rest) env)).any (·.1) = false := by rfl)
    (hall : (backToKw pos (keywordEach kws env)).all (·.1.isSome) = true := by rfl)
    (hkw : (backToKw pos (keywordEach kws env)).any (·.1.isNone) = false := by rfl) :
    wpAny M A (callWith pos (.type T) [] (backTo pos (starEach (e :: rest) env)) (backToKw pos (keywordEach kws env))) Q E s := by
  refine callWith_type_kwB hplain hkw ?_
  rw [he] at h ⊢
  exact evalArgs_kwB hall h
end
theorem pi_zipS {X : Cx} {e e2 : Expr} {ta : TA} {p pos tpos kp kp2 : Pos} {elts : List Expr} {kk k3 : Nat} {sf : Bool} (hg : Gl X "zip") (hm : X.mg "zip" = none) (ha : PA X [e, e2] ta)
    (he : backTo pos (starEach [e, e2] X.env) = (false, eval e X.env) :: backTo pos (starEach [e2] X.env) := by rfl) (hpl : (backTo pos (starEach [e, e2] X.env)).any (·.1) = false := by rfl) :
    PI X (.Tuple elts kk tpos) (.Call (.Name "zip" p) [e, e2] [⟨some "strict", .Constant (.bool sf) k3 kp, kp2⟩] pos) (iZipB sf X.K ta) := by
  refine ⟨fun pins s σ H R I h => ?_⟩
  refine wpAny_Call_Name_kw (ld_blt I hg hm PyProof.Rows.boot_zip (callWith_typeKw (thn (ha.run pos pins s σ H _ I h) fun us s1 ⟨vs, H1, I1, r1, q1⟩ => ?_) he hpl))
  obtain ⟨a, b, b1, b2, xs, ys, ex, hqx, hqy, q⟩ := q1
  subst ex
  cases r1 with
  | cons r rr =>
    cases rr with
    | cons r' rr =>
      cases rr
      cases r
      cases r'
      obtain ⟨its, rv, p1⟩ := Inv.seqB I1 hqx
      obtain ⟨its2, rv2, p2⟩ := Inv.seqB I1 hqy
      refine kws_cons ((pe_bl (X := X) (b := sf)).run pins s1 σ H1 (fun v H2 => v = .bl sf ∧ H2 = H1) I1 ⟨rfl, rfl⟩ |> fun hx => thn hx fun v s2 ⟨x, H2, I2, rx, ex, eh⟩ => ?_)
      subst ex eh
      cases rx
      refine kws_nil ?_
      show wpAny _ _ (call (.type "zip") [.ref a, .ref b] [(Str.ofString "strict", .bool sf)]) _ _ s2
      obtain ⟨its, rv, p1⟩ := Inv.seqB I2 hqx
      obtain ⟨its2, rv2, p2⟩ := Inv.seqB I2 hqy
      refine zip_beginsS begins_b begins_b p1 p2 fun h' hz hTI hTO h1 h2 hsz hk => pyIter_zf hz ?_
      have I3 : L2.Inv X pins σ H2 { s2 with heap := h' } := I2.kept (t' := s2.toks) hk
      exact ⟨s2.heap.objs.size + 4, [s2.heap.objs.size + 4, s2.heap.objs.size + 2, s2.heap.objs.size + 3, s2.heap.objs.size, s2.heap.objs.size + 1], _, _, H2, rfl, I3,
        turn_zipB (sf := sf) (zip_sep2 (fp1 := [a]) (fp2 := [b]) (fun c hc => by rw [List.mem_singleton.mp hc]; exact p1.lt) (fun c hc => by rw [List.mem_singleton.mp hc]; exact p2.lt)),
        ⟨hz, hTI, ⟨_, _, hTO⟩, ItB.begun h1, ItB.begun h2⟩, zipB_fresh I2, q⟩
end DL

set_option Elab.async false
set_option linter.all false
set_option maxRecDepth 100000
set_option maxHeartbeats 4000000
set_option autoImplicit false
namespace DL
open PySem L2
/-! ### enumerate and zip as data -/
def seq2 : D → Option (List D)
  | .list ds => some ds
  | .tuple ds => some ds
  | _ => none
def itS (ρ : Rho) (r : Rv) : Option (List D × Rho) := match itD ρ r with
  | some (d, ρ1) => match seq2 d with
    | some ds => some (ds, ρ1)
    | none => none
  | none => none
theorem itS_some {ρ ρ2 : Rho} {r : Rv} {ds : List D} (h : itS ρ r = some (ds, ρ2)) : ∃ d, itD ρ r = some (d, ρ2) ∧ seq2 d = some ds := by
  unfold itS at h
  split at h
  · rename_i d ρ1 e
    split at h
    · rename_i xs e2
      cases h
      exact ⟨d, e, e2⟩
    · cases h
  · cases h
def enumD (ds : List D) : List D := ds.mapIdx fun i d => .tuple [.int (i : Nat), d]
def zipD (xs ys : List D) : List D := List.zipWith (fun x y => .tuple [x, y]) xs ys
def dEnum (da : DA) : DI := fun ρ Q => da ρ fun rs ρ1 => match rs with
  | [r] => wFA (itS ρ1 r) fun ds ρ2 => Q (enumD ds) ρ2
  | _ => False
def dZip (sf : Bool) (da : DA) : DI := fun ρ Q => da ρ fun rs ρ1 => match rs with
  | [r, q] => wFA (itS ρ1 r) fun xs ρ2 => wFA (itS ρ2 q) fun ys ρ3 => (sf = true → xs.length = ys.length) ∧ Q (zipD xs ys) ρ3
  | _ => False
section
variable {K : PySem.W.Frag} {f : Fr} {g g' : Gs} {σ : L2.St} {H H' : Hp} {ρ ρ' : Rho} {v : V} {r : Rv} {d : D} {b b1 b2 sf : Bool} {a a2 : Addr} {xs ys : List V} {ta : TA} {da : DA}
theorem walk_enumB : Walk (IteB b K a) xs.length (fun H => SqB K b H a xs) (YPair (fun i => some (.int (i : Nat))) (fun i => xs[i]?)) := by
  refine ⟨fun i _ hi q => ⟨xs, xs[i], q, by simp [hi]⟩, fun _ q => ⟨xs, q, rfl⟩, fun i H v H' _ q y => ?_⟩
  obtain ⟨T, x, h1, h2, h3, h4⟩ := y
  exact ⟨T, .int (i : Nat), x, h1, h2, h3, rfl, h4 xs q⟩
theorem walk_zipB {n : Nat} (hn : Zend sf n xs.length ys.length) (hn2 : n ≤ xs.length ∧ n ≤ ys.length) : Walk (ItzB sf b1 b2 K a a2) n (fun H => SqB K b1 H a xs ∧ SqB K b2 H a2 ys) (YPair (fun i => xs[i]?) (fun i => ys[i]?)) := by
  refine ⟨fun i _ hi q => ?_, fun _ q => ⟨xs, ys, q.1, q.2, hn⟩, fun i H v H' _ q y => ?_⟩
  · have h1 : i < xs.length := by omega
    have h2 : i < ys.length := by omega
    exact ⟨xs, ys, xs[i], ys[i], q.1, q.2, by simp [h1], by simp [h2]⟩
  · obtain ⟨T, x, z, h1, h2, h3, h4, h5⟩ := y
    exact ⟨T, x, z, h1, h2, h3, h4 xs q.1, h5 ys q.2⟩
theorem BoV.seqB {F : Hp} {ds : List D} (h : BoV f F v d) (e : seq2 d = some ds) : ∃ b a xs, v = .ref a ∧ RpA f.K F xs ds ∧ ∀ g2 σ2 H2 ρ2, Rel f g2 σ2 H2 ρ2 → Same F (Fz H2 g2.M) → SqB f.K b H2 a xs := by
  cases d with
  | list xs => cases e; obtain ⟨a, ys, e1, e2, e3⟩ := h.list; exact ⟨false, a, ys, e1, e2, e3⟩
  | tuple xs => cases e; obtain ⟨a, ys, e1, e2, e3⟩ := h.tuple; exact ⟨true, a, ys, e1, e2, e3⟩
  | none => cases e
  | bool _ => cases e
  | int _ => cases e
  | str _ => cases e
  | dict _ => cases e
theorem itOk_pair {fx fy : Nat → Option V} {ds : List D} {G : Hp → Prop} (hf : ∀ (i : Nat) (d : D), ds[i]? = some d → ∃ dx dy, d = .tuple [dx, dy] ∧ (∀ x, fx i = some x → Rp f.K (Fz H g.M) x dx) ∧ ∀ y, fy i = some y → Rp f.K (Fz H g.M) y dy)
    (hG : ∀ g2 σ2 H2 ρ2, Rel f g2 σ2 H2 ρ2 → Same (Fz H g.M) (Fz H2 g2.M) → G H2) : ItOk f g H G (YPair fx fy) ds := by
  refine ⟨hG, fun g2 σ2 H2 ρ2 R2 e i v H3 d hd y => ?_⟩
  obtain ⟨T, x, y, rfl, hT, rfl, h1, h2⟩ := y
  obtain ⟨dx, dy, rfl, q1, q2⟩ := hf i d hd
  obtain ⟨R3, G3, e3⟩ := R2.new (o := .tup [x, y]) hT
  exact ⟨g2, R3, G3, .tup e3 (.cons (((q1 x h1).mono e).mono G3.fz) (.cons (((q2 y h2).mono e).mono G3.fz) .nil))⟩
theorem li_enum (h : LA K ta da) : LI K (iEnumA K ta) (dEnum da) := by
  intro f g σ H ρ Q R hK hR hd k
  refine h f g σ H ρ _ _ hK hR hd fun vs H1 g1 ρ1 rs R1 G1 O1 q1 => ?_
  subst hK
  cases O1 with
  | nil => exact q1.elim
  | cons o or' =>
    cases or' with
    | cons _ _ => exact q1.elim
    | nil =>
      obtain ⟨ds, ρ2, e2, q2⟩ := wFA_some q1
      obtain ⟨d, e3, e4⟩ := itS_some e2
      obtain ⟨g2, R2, G2, B⟩ := itD_ok R1 o e3
      obtain ⟨b, a, xs, rfl, hr, hs⟩ := B.seqB e4
      refine ⟨a, b, xs, rfl, hs g2 σ H1 ρ2 R2 (Same.refl _), k _ H1 g2 ρ2 _ _ (enumD ds) R2 (G1.trans G2) (by unfold enumD; rw [List.length_mapIdx, ← hr.length]; exact walk_enumB) (itOk_pair (fun i d hd => ?_) hs) q2⟩
      unfold enumD at hd
      rw [List.getElem?_mapIdx] at hd
      cases hi : ds[i]? with
      | none => rw [hi] at hd; cases hd
      | some x =>
        rw [hi] at hd
        cases hd
        refine ⟨_, _, rfl, fun x e => by cases e; exact .int _, fun y e => ?_⟩
        obtain ⟨w, e1, q⟩ := hr.get hi
        rw [e] at e1; cases e1
        exact q
theorem li_zip (h : LA K ta da) : LI K (iZipB sf K ta) (dZip sf da) := by
  intro f g σ H ρ Q R hK hR hd k
  refine h f g σ H ρ _ _ hK hR hd fun vs H1 g1 ρ1 rs R1 G1 O1 q1 => ?_
  subst hK
  cases O1 with
  | nil => exact q1.elim
  | cons o or' =>
    cases or' with
    | nil => exact q1.elim
    | cons o2 or2 =>
      cases or2 with
      | cons _ _ => exact q1.elim
      | nil =>
        obtain ⟨ds, ρ2, e2, q2⟩ := wFA_some q1
        obtain ⟨d, e3, e4⟩ := itS_some e2
        obtain ⟨g2, R2, G2, B⟩ := itD_ok R1 o e3
        obtain ⟨es, ρ3, e5, hl, q3⟩ := wFA_some q2
        obtain ⟨d', e6, e7⟩ := itS_some e5
        obtain ⟨g3, R3, G3, B'⟩ := itD_ok R2 (o2.mono G2) e6
        obtain ⟨b1, a, xs, rfl, hr, hs⟩ := (B.mono G3.fz).seqB e4
        obtain ⟨b2, a2, ys, rfl, hr', hs'⟩ := B'.seqB e7
        have hlen : (zipD ds es).length = min ds.length es.length := by unfold zipD; rw [List.length_zipWith]
        refine ⟨a, a2, b1, b2, xs, ys, rfl, hs g3 σ H1 ρ3 R3 (Same.refl _), hs' g3 σ H1 ρ3 R3 (Same.refl _), k _ H1 g3 ρ3 _ _ (zipD ds es) R3 ((G1.trans G2).trans G3) (walk_zipB (xs := xs) (ys := ys) ?_ ?_) (itOk_pair (fun i d hd => ?_) fun g2 σ2 H2 ρ2 R2 e => ⟨hs g2 σ2 H2 ρ2 R2 e, hs' g2 σ2 H2 ρ2 R2 e⟩) q3⟩
        · rw [hlen, hr.length, hr'.length]
          cases sf with
          | true => have := hl rfl; exact ⟨by omega, by omega⟩
          | false => exact ⟨by omega, by omega, by omega⟩
        · rw [hlen, hr.length, hr'.length]; exact ⟨by omega, by omega⟩
        · unfold zipD at hd
          rw [List.getElem?_zipWith] at hd
          cases hi : ds[i]? with
          | none => rw [hi] at hd; cases hd
          | some x =>
            rw [hi] at hd
            cases hj : es[i]? with
            | none => rw [hj] at hd; cases hd
            | some y =>
              rw [hj] at hd
              cases hd
              refine ⟨_, _, rfl, fun x e => ?_, fun y e => ?_⟩
              · obtain ⟨w, e1, q⟩ := hr.get hi
                rw [e] at e1; cases e1
                exact q
              · obtain ⟨w, e1, q⟩ := hr'.get hj
                rw [e] at e1; cases e1
                exact q
end
end DL

set_option Elab.async false
set_option linter.all false
set_option maxRecDepth 100000
set_option maxHeartbeats 4000000
set_option autoImplicit false
namespace DL
open PySem L2
/-! ### what repr asks, from bounds -/
theorem reprOk_of {d : D} (h1 : d.showable = true) (h2 : d.hasDict = false ∨ plainD d = true) (h3 : d.leavesShort 25 = true) (h4 : d.weight ≤ 500000) (h5 : d.depth ≤ 60) : reprOkP d := by
  refine ⟨h1, h2, h5, ?_⟩
  have := PyData.shown_le 25 (by decide) d h3
  rw [sizeLine_eq]
  omega
/-- ints of at most 64 bits -/
def small (n : Int) : Prop := n.natAbs < 2 ^ 65
theorem small_log {i : Int} (h : small i) : i.natAbs.log2 < 65 := by
  by_cases e : i.natAbs = 0
  · rw [e]; decide
  · rw [Nat.log2_lt e]; exact h
theorem small_int {i : Int} (h : small i) : PyData.showable (.int i) = true ∧ PyData.leavesShort 25 (.int i) = true ∧ PyData.weight (.int i) ≤ 65 ∧ PyData.depth (.int i) ≤ 1 ∧ PyData.hasDict (.int i) = false := by
  have hl := small_log h
  refine ⟨?_, ?_, ?_, ?_, rfl⟩
  · simp only [PyData.showable, decide_eq_true_eq]; omega
  · simp only [PyData.leavesShort, decide_eq_true_eq]
    have e := int_text_length_le10 (a := i) (k := 20) (by decide) (Nat.lt_trans h (by decide))
    show (Str.ofString (toString i)).length ≤ 25
    rw [ofString_length]; omega
  · simp only [PyData.weight]
    split <;> omega
  · simp [PyData.depth]
theorem small_ints {ns : List Int} (h : ∀ n ∈ ns, small n) : PyData.showableAll (ns.map PyData.int) = true ∧ PyData.leavesShortAll 25 (ns.map PyData.int) = true ∧ PyData.weightAll (ns.map PyData.int) ≤ 66 * ns.length ∧ PyData.depthAll (ns.map PyData.int) ≤ 2 ∧ PyData.hasDictAll (ns.map PyData.int) = false := by
  induction ns with
  | nil => exact ⟨rfl, rfl, Nat.le_refl _, by simp [PyData.depthAll], rfl⟩
  | cons n ns ih =>
    obtain ⟨a1, a2, a3, a4, a5⟩ := ih fun x hx => h x (List.mem_cons_of_mem _ hx)
    obtain ⟨b1, b2, b3, b4, b5⟩ := small_int (h n List.mem_cons_self)
    refine ⟨?_, ?_, ?_, ?_, ?_⟩
    · simp only [List.map_cons, PyData.showableAll, a1, b1, Bool.and_true]
    · simp only [List.map_cons, PyData.leavesShortAll, a2, b2, Bool.and_true]
    · simp only [List.map_cons, PyData.weightAll, List.length_cons]; omega
    · simp only [List.map_cons, PyData.depthAll]; omega
    · simp only [List.map_cons, PyData.hasDictAll, a5, b5, Bool.or_false]
theorem repr_int {i : Int} (h : small i) : reprOkP (.int i) := by
  obtain ⟨b1, b2, b3, b4, b5⟩ := small_int h
  exact reprOk_of b1 (.inl b5) b2 (by omega) (by omega)
theorem repr_ints {ns : List Int} (h : ∀ n ∈ ns, small n) (hl : ns.length ≤ 5000) : reprOkP (.tuple (ns.map PyData.int)) ∧ reprOkP (.list (ns.map PyData.int)) := by
  obtain ⟨a1, a2, a3, a4, a5⟩ := small_ints h
  constructor <;> refine reprOk_of ?_ (.inl ?_) ?_ ?_ ?_ <;> first
    | (simp only [PyData.showable]; exact a1)
    | (simp only [PyData.hasDict]; exact a5)
    | (simp only [PyData.leavesShort]; exact a2)
    | (simp only [PyData.weight]; omega)
    | (simp only [PyData.depth]; omega)
theorem repr_two {ns ms : List Int} (h : ∀ n ∈ ns, small n) (h' : ∀ n ∈ ms, small n) (hl : ns.length ≤ 3000) (hl' : ms.length ≤ 3000) : reprOkP (.list [.tuple (ns.map PyData.int), .tuple (ms.map PyData.int)]) := by
  obtain ⟨a1, a2, a3, a4, a5⟩ := small_ints h
  obtain ⟨b1, b2, b3, b4, b5⟩ := small_ints h'
  refine reprOk_of ?_ (.inl ?_) ?_ ?_ ?_
  · simp only [PyData.showable, PyData.showableAll, a1, b1]; rfl
  · simp only [PyData.hasDict, PyData.hasDictAll, a5, b5]; rfl
  · simp only [PyData.leavesShort, PyData.leavesShortAll, a2, b2]; rfl
  · simp only [PyData.weight, PyData.weightAll]; omega
  · simp only [PyData.depth, PyData.depthAll]; omega
theorem eqv_str (a b : Str) : PyData.eqv (.str a) (.str b) = decide (a = b) := by simp only [PyData.eqv]; by_cases h : a = b <;> simp [h]
theorem eqv_int (a b : Int) : PyData.eqv (.int a) (.int b) = decide (a = b) := by simp only [PyData.eqv]; by_cases h : a = b <;> simp [h]
def isI : D → Bool
  | .int _ => true
  | _ => false
def isS : D → Bool
  | .str _ => true
  | _ => false
theorem mem_int {xs : List D} {x : D} (h : xs.all isI = true) (hx : x ∈ xs) : ∃ i, x = .int i := by
  have := List.all_eq_true.mp h x hx
  cases x <;> first | exact ⟨_, rfl⟩ | cases this
theorem mem_str {xs : List D} {x : D} (h : xs.all isS = true) (hx : x ∈ xs) : ∃ i, x = .str i := by
  have := List.all_eq_true.mp h x hx
  cases x <;> first | exact ⟨_, rfl⟩ | cases this
theorem atI_mem {xs : List D} {k : Int} (h1 : 0 ≤ k) (h2 : k < xs.length) : ∃ x, x ∈ xs ∧ atI xs k = some x := by
  refine ⟨xs[k.toNat]'(by omega), List.getElem_mem _, ?_⟩
  unfold atI ixN
  rw [if_pos h1, if_pos h2]
  show xs[k.toNat]? = _
  rw [List.getElem?_eq_getElem]
theorem huOf {A : Around} {k : Nat} (hr : Room k A) : A.units + 1 < cLine := Nat.lt_of_le_of_lt (Nat.add_le_add_left (by decide : 1 ≤ 64) _) hr.units
end DL

set_option Elab.async false
set_option linter.all false
set_option maxRecDepth 100000
set_option maxHeartbeats 4000000
set_option autoImplicit false
namespace DL
open PySem L2
/-! ### the rules with the fragment told apart (inside a comprehension the frame's K must not hang on the block) -/
section
variable {X : Cx} {K : PySem.W.Frag}
theorem k_add (h : X.K = K) : OpR X (binaryOp .Add) (rAddA K) := by subst h; exact op_addA
theorem k_eq (h : X.K = K) (hu : X.A.units + 64 < cLine) : OpR X (compareOp .Eq) (fun x y H Q => rEq x y H Q ∨ rEqD K x y H Q) := by subst h; exact op_eq.or (op_eqD hu)
theorem k_ne (h : X.K = K) (hu : X.A.units + 64 < cLine) : OpR X (compareOp .NotEq) (fun x y H Q => rNe x y H Q ∨ rNeD K x y H Q) := by subst h; exact op_ne.or (op_neD hu)
theorem k_in (h : X.K = K) : OpR X (compareOp .In) (rIn K false) := by subst h; exact op_in_seq
theorem k_nin (h : X.K = K) : OpR X (compareOp .NotIn) (rIn K true) := by subst h; exact op_notIn_seq
theorem k_ix (h : X.K = K) : IxR X (rIx K) := by subst h; exact ix_seq
theorem k_sl (h : X.K = K) : L2.SlR X (rSlAny K) := by subst h; exact sl_any
theorem k_repr (h : X.K = K) (hA : X.A.guards = some []) (hu : X.A.units + 64 < cLine) : CallR X (.builtin "repr") (rReprP K) := by subst h; exact call_reprP hA hu
theorem k_sum (h : X.K = K) (hc : X.calm = true) : CallR X (.builtin "sum") (rSum K) := by subst h; exact cr_sum hc
theorem k_max (h : X.K = K) (hc : X.calm = true) : CallR X (.builtin "max") (rMax K) := by subst h; exact cr_max hc
theorem k_min (h : X.K = K) (hc : X.calm = true) : CallR X (.builtin "min") (rMin K) := by subst h; exact cr_min hc
theorem k_any (h : X.K = K) (hc : X.calm = true) : CallR X (.builtin "any") (rAny K) := by subst h; exact cr_any hc
theorem k_all (h : X.K = K) (hc : X.calm = true) : CallR X (.builtin "all") (rAll K) := by subst h; exact cr_all hc
theorem k_sorted (h : X.K = K) : CallR X (.builtin "sorted") (rSortedI K) := by subst h; exact cr_sortedI
theorem k_list (h : X.K = K) : CallR X (.type "list") (fun xs H Q => ∃ p ys, xs = [.ref p] ∧ (SqL K H p ys ∨ SqT K H p ys) ∧ ∀ l, H l = none → Q (.ref l) (upd H l (.lst ys))) := by subst h; exact call_list_of
theorem k_tuple (h : X.K = K) : CallR X (.type "tuple") (fun xs H Q => ∃ p ys, xs = [.ref p] ∧ ((SqL K H p ys ∧ ∀ l, H l = none → Q (.ref l) (upd H l (.tup ys))) ∨ (SqT K H p ys ∧ Q (.ref p) H))) := by subst h; exact call_tuple_of
theorem k_len (h : X.K = K) : CallR X (.builtin "len") (fun xs H Q => ∃ x n, xs = [x] ∧ LenV K x H n ∧ Q (.int n) H) := by subst h; exact call_len
theorem k_gtup {es : List Expr} {k : Nat} {t : TGs} {n : Nat} {pos : Pos} (h : X.K = K) (hc : X.calm = true) (hp : PGs X es t) (hn : (assignEach es X.env).length = n := by rfl) (hst : (assignEach es X.env).findIdx? (·.1) = none := by rfl) : PG X (.Tuple es k pos) (gTup K n t) := by subst h; exact pg_tup hc hp hn hst
section
variable {tg : Expr} {tl : TE} {l : Expr} {ta : TA} {e e2 : Expr} {p pos tpos kp kp2 : Pos} {elts : List Expr} {kk k3 : Nat} {sf : Bool}
theorem k_iany (h : X.K = K) (hl : PE X l tl) : PI X tg l (iAny K tl) := by subst h; exact pi_any hl
theorem k_enum (h : X.K = K) (hg : Gl X "enumerate") (hm : X.mg "enumerate" = none) (ha : PA X [e] ta) (hs : starEach [e] X.env = [(false, eval e X.env)] := by rfl) :
    PI X (.Tuple elts kk tpos) (.Call (.Name "enumerate" p) [e] [] pos) (iEnumA K ta) := by subst h; exact pi_enumA hg hm ha hs
theorem k_zip (h : X.K = K) (hg : Gl X "zip") (hm : X.mg "zip" = none) (ha : PA X [e, e2] ta)
    (hs : starEach [e, e2] X.env = (false, eval e X.env) :: starEach [e2] X.env := by rfl) (hpl : (backTo pos (starEach [e2] X.env)).any (·.1) = false := by rfl) :
    PI X (.Tuple elts kk tpos) (.Call (.Name "zip" p) [e, e2] [] pos) (iZipB false K ta) := by subst h; exact pi_zipB hg hm ha hs hpl
theorem k_zips (h : X.K = K) (hg : Gl X "zip") (hm : X.mg "zip" = none) (ha : PA X [e, e2] ta)
    (he : backTo pos (starEach [e, e2] X.env) = (false, eval e X.env) :: backTo pos (starEach [e2] X.env) := by rfl) (hpl : (backTo pos (starEach [e, e2] X.env)).any (·.1) = false := by rfl) :
    PI X (.Tuple elts kk tpos) (.Call (.Name "zip" p) [e, e2] [⟨some "strict", .Constant (.bool sf) k3 kp, kp2⟩] pos) (iZipB sf K ta) := by subst h; exact pi_zipS hg hm ha he hpl
end
end
end DL

set_option Elab.async false
set_option linter.all false
set_option maxRecDepth 100000
set_option maxHeartbeats 4000000
set_option autoImplicit false
namespace DL
open PySem PySem.Spec PyProof.Rows L2
/-! ### tuple(d) -/
section
variable {prog : Program} {w : World} {A : Around} {E : Value → Shared → Prop} {s : Shared} {T : String} {r d : Addr} {n : Nat} {P : Nat → Value → Prop} {OK : Heap → Prop}
theorem code_tuple_new_kdl {Q₁ : Value → Shared → Prop} (K : PySem.W.KdlSrc prog w T r d n P OK) (hh : A.handled = none) (hok : OK s.heap) (hn : n ≤ sizeLine)
    (h : ∀ (h' : Heap) (tk : Nat) (acc : Array Value), (∀ b o, s.heap.get? b = some o → h'.get? b = some o) → ItemsOf P acc n →
      Q₁ (.ref h'.objs.size) { s with heap := h'.push { cls := .type "tuple", data := .seq acc }, toks := tk }) :
    codeAny (model prog w) A (.call (.builtin "tuple.__new__") ⟨[.type "tuple", .ref r], []⟩) (wants Q₁ E) s := by
  refine codeAny_of_tree ?_
  show wpAny _ A.in1 (do checkBuiltinCall "tuple.__new__" ⟨[.type "tuple", .ref r], []⟩; again (.builtin "tuple.__new__" ⟨[.type "tuple", .ref r], []⟩)) _ _ s
  refine wpAny_bind (wpAny_of_eq (F.newCall_tuple_1 _) (wpAny_pure ⟨plainId_quiet F.plain_tuple_new _, codeAny_builtin F.entry_tuple_new ?_⟩))
  rw [Around.under_plainId F.plain_tuple_new _]
  have hsub := sub_tuple_self
  have hinit := init_tuple_lookup
  have hmh := madeHere_tuple
  have hTI : s.TypeIs (.ref r) T := K.type s hok
  have hnt : (Value.type T == Value.type "tuple") = false := K.notTuple
  have hh1 : A.in1.handled = none := hh
  wp_walk using wpAny_typeOf hTI, PySem.W.kdu_collect (A := A.in1) K hh1 hok hn
  intro h' tk acc hk hacc
  show wpAny _ _ (Builtin.Tuple.tupleExact acc.toList.toArray >>= fun v => ret v) _ _ _
  unfold Builtin.Tuple.tupleExact
  refine wpAny_bind (wpAny_newObj_type ?_ (by show acc.toList.toArray.size ≤ sizeLine; simp only [Array.toArray_toList]; rw [hacc.1]; exact hn))
  refine wpAny_pure ?_
  have e : acc.toList.toArray = acc := by simp
  rw [e]
  exact h h' tk acc hk hacc
end

/-! ### tuple(d), list(d), len(d): keys of a dict -/
section
variable {X : Cx}
theorem call_tuple_dT (hc : X.calm = true) : CallR X (.type "tuple") (fun xs H Q => ∃ d kvs, xs = [V.ref d] ∧ Rd H d (.dT kvs) ∧ ∀ p bs, H p = none → IsKeys H kvs bs → Q (.ref p) (upd H p (.tup (bs.map V.ref)))) := by
  intro pins s σ H xs us Q I r h
  obtain ⟨d, kvs, rfl, hd, q⟩ := h
  obtain ⟨u, rfl, rx⟩ := r.one
  cases rx
  obtain ⟨z, hs, ks, pr, o, es, ep, ho, hx, hdt, he, hn⟩ := (show ObjOk X.prog X.w H s.heap d (.dT kvs) from hd.ok I.hok)
  have l1 : es.size = ks.length := size_of_entries he
  have l2 : kvs.length = ks.length := Paired.length pr
  have hz : ((ks.map fun x => x.2.1).map V.ref).length ≤ sizeLine := by rw [List.length_map, List.length_map]; omega
  refine callType_codes (Q₁ := fun obj s₁ => s₁.TypeIs obj "tuple" ∧ EP X pins σ Q obj s₁) F.called_tuple (F.typeCall_tuple_1 _) F.entry_object_init
    (code_tuple_new_kdl (A := X.A.in1) (kdl_raw hs hx hdt) (I.ok.hd hc) ho (by omega) fun h' tk acc hk it => ⟨⟨_, Heap.get?_push_size _ rfl, rfl⟩, ?_⟩) fun obj s₁ h₁ => ?_
  · have ea : acc.toList = ks.map fun x => Value.ref x.2.1 := by
      have hl : acc.toList.length = ks.length := by rw [Array.length_toList, it.1]; exact l1
      apply List.ext_getElem?
      intro j
      rw [List.getElem?_map]
      cases hj : acc.toList[j]? with
      | none =>
        have h1 := List.getElem?_eq_none_iff.mp hj
        rw [List.getElem?_eq_none (by omega)]
        all_goals rfl
      | some v =>
        obtain ⟨en, hen, hv⟩ := it.2 j v (by rw [← Array.getElem?_toList]; exact hj)
        have qe := entry_at he j
        rw [hen] at qe
        cases hb : ks[j]? with
        | none =>
          rw [hb] at qe
          exact nomatch (show some en = none from qe)
        | some b =>
          rw [hb] at qe
          have e2 : en = entryOfKey (tupleKind (mixKind X.prog X.w)) b := Option.some.inj qe
          rw [hv, e2]
          all_goals rfl
    have eb : acc.toList = (ks.map fun x => x.2.1).map Value.ref := by rw [ea, List.map_map]; all_goals rfl
    have rv : Vals ((ks.map fun x => x.2.1).map V.ref) acc.toList := by rw [eb]; exact vals_refs _
    have I1 : Inv X pins σ H { s with heap := h', toks := tk } := I.kept hk
    have ht : ({ cls := .type "tuple", data := .seq acc } : Obj) = { cls := .type "tuple", data := .seq acc.toList.toArray } := by rw [Array.toArray_toList]
    have I2 : Inv X pins σ (upd H h'.objs.size (.tup ((ks.map fun x => x.2.1).map V.ref))) { s with heap := h'.push { cls := .type "tuple", data := .seq acc }, toks := tk } :=
      I1.laid (t' := tk) (fun c o e => Heap.get?_push_of_some _ e) (Nat.le_refl _) (show ObjOk X.prog X.w _ _ _ (.tup ((ks.map fun x => x.2.1).map V.ref)) from ⟨hz, acc.toList, rv, by rw [ht]; exact IsTup.new _ _⟩)
    exact ⟨.ref h'.objs.size, _, I2, rfl, q _ _ (I1.hok.fresh (Nat.le_refl _)) (isKeys_of pr)⟩
  · exact ⟨h₁.1, F.args_object_init_2 obj _, object_init_meets F.called_tuple.init.lookup F.called_tuple.made (by decide) X.prog X.w X.A.in1 _ s₁ ⟨h₁.1, rfl, h₁.2⟩⟩
theorem k_tupleA {K : PySem.W.Frag} (h : X.K = K) (hc : X.calm = true) : CallR X (.type "tuple") (fun xs H Q => (∃ p ys, xs = [.ref p] ∧ ((SqL K H p ys ∧ ∀ l, H l = none → Q (.ref l) (upd H l (.tup ys))) ∨ (SqT K H p ys ∧ Q (.ref p) H))) ∨
    ∃ d kvs, xs = [V.ref d] ∧ Rd H d (.dT kvs) ∧ ∀ p bs, H p = none → IsKeys H kvs bs → Q (.ref p) (upd H p (.tup (bs.map V.ref)))) := (k_tuple h).or (call_tuple_dT hc)
theorem k_listA {K : PySem.W.Frag} (h : X.K = K) (hc : X.calm = true) : CallR X (.type "list") (fun xs H Q => (∃ p ys, xs = [.ref p] ∧ (SqL K H p ys ∨ SqT K H p ys) ∧ ∀ l, H l = none → Q (.ref l) (upd H l (.lst ys))) ∨
    ((∃ d kvs, xs = [V.ref d] ∧ Rd H d (.dT kvs) ∧ ∀ p bs, H p = none → IsKeys H kvs bs → Q (.ref p) (upd H p (.lst (bs.map V.ref)))) ∨ rListD xs H Q)) := (k_list h).or ((call_list_dT hc).or (call_list_dK hc))
def rLenDK : List V → Hp → VK → Prop := fun xs H Q => ∃ d kvs, xs = [.ref d] ∧ H d = some (.dK kvs) ∧ Q (.int ((kvs.length : Nat) : Int)) H
end
/-! ### keys as data -/
theorem rp_key {K : PySem.W.Frag} {F : Hp} (k : Key) : Rp K F (kV k) (keyD k) := by
  cases k with
  | inl i => exact .int i
  | inr x => exact .str x
theorem rpA_key {K : PySem.W.Frag} {F : Hp} (k : List Key) : RpA K F (k.map kV) (k.map keyD) := by
  induction k with
  | nil => exact .nil
  | cons a k ih => exact .cons (rp_key a) ih
/-- the keys of a dict with tuples as keys -/
def keysT (es : List (D × D)) : List D := es.map (·.1)
theorem rpA_keysT {K : PySem.W.Frag} {F H : Hp} {M : AP} (hF : F = Fz H M) (hm : ∀ a, M a → MuO (H a)) {kvs : List (List Key × V)} {es : List (D × D)} (r : RpT K F kvs es) {bs : List Addr} (h : IsKeys H kvs bs) : RpA K F (bs.map V.ref) (keysT es) := by
  induction es generalizing kvs bs with
  | nil => cases r; cases h; exact .nil
  | cons e es ih =>
    cases r with
    | cons r rr =>
      cases h with
      | cons h hh =>
        refine .cons (.tup ?_ (rpA_key _)) (ih rr hh)
        rw [hF]
        refine fz_of h fun m => ?_
        have := hm _ m
        rw [h] at this
        exact this
theorem rpA_keysK {K : PySem.W.Frag} {F : Hp} {kvs : List (Key × V)} {es : List (D × D)} (r : RpK K F kvs es) : RpA K F (kvs.map fun kv => kV kv.1) (es.map (·.1)) := by
  induction es generalizing kvs with
  | nil => cases r; exact .nil
  | cons e es ih => cases r with | cons r rr => exact .cons (rp_key _) (ih rr)
/-- what tuple(x), list(x) walk -/
def itemsD : D → Option (List D)
  | .list ds => some ds
  | .tuple ds => some ds
  | .dict es => match es with
    | (.none, .none) :: r => some (keysT r)
    | es => some (es.map (·.1))
  | _ => none
section
variable {K : PySem.W.Frag}
theorem isT_true {es : List (D × D)} (h : isT es = true) : ∃ r, es = tmark :: r := by
  unfold isT at h
  split at h
  · exact ⟨_, rfl⟩
  · cases h
theorem RpT.length {F : Hp} {kvs : List (List Key × V)} {es : List (D × D)} (h : RpT K F kvs es) : kvs.length = es.length := by
  induction es generalizing kvs with
  | nil => cases h; rfl
  | cons e es ih => cases h with | cons h r => simp [ih r]
def fTupleA : F1 := fun x Q => match x with
  | .list ds => Q (.fz (.tuple ds))
  | .tuple ds => Q (.fz (.tuple ds))
  | .dict es => match es with
    | [] => False
    | e :: r => e = tmark ∧ Q (.fz (.tuple (keysT r)))
  | _ => False
theorem cl_tupleA : CaL K (fun xs H Q => (∃ p ys, xs = [.ref p] ∧ ((SqL K H p ys ∧ ∀ l, H l = none → Q (.ref l) (upd H l (.tup ys))) ∨ (SqT K H p ys ∧ Q (.ref p) H))) ∨
    ∃ d kvs, xs = [V.ref d] ∧ Rd H d (.dT kvs) ∧ ∀ p bs, H p = none → IsKeys H kvs bs → Q (.ref p) (upd H p (.tup (bs.map V.ref)))) (fA1 fTupleA) := by
  intro f g σ H ρ vs ds Q R hK hR hA hF0 k
  subst hK
  obtain ⟨d, rfl, hF⟩ := fA1_some hF0
  obtain ⟨v, rfl, h⟩ := hA.one
  cases d with
  | list ds =>
    obtain ⟨a, xs, rfl, e1, r1⟩ := h.list fz_sub
    exact .inl ⟨a, xs, rfl, .inl ⟨.inl (.inl e1), OEnd.tup k hR r1 hF⟩⟩
  | tuple ds =>
    obtain ⟨a, xs, rfl, e1, r1, z1⟩ := h.tuple fz_sub
    exact .inl ⟨a, xs, rfl, .inr ⟨e1, OEnd.fz k hR (.tup z1 r1) hF⟩⟩
  | dict es =>
    cases es with
    | nil => exact hF.elim
    | cons e es =>
      obtain ⟨rfl, hF⟩ := hF
      obtain ⟨a, kvs, rfl, e1, r1⟩ := h.dictT fz_sub
      exact .inr ⟨a, kvs, rfl, .inl e1, fun p bs hp hb => OEnd.tup k hR (rpA_keysT rfl hR.mU r1 hb) hF p hp⟩
  | none => exact hF.elim
  | bool _ => exact hF.elim
  | int _ => exact hF.elim
  | str _ => exact hF.elim
def fListA : F1 := fun x Q => match x with
  | .list ds => Q (.nw (.list ds))
  | .tuple ds => Q (.nw (.list ds))
  | .dict es => useB (isT es) (Q (.nw (.list (keysT es.tail)))) (Q (.nw (.list (es.map (·.1)))))
  | _ => False
theorem cl_listA : CaL K (fun xs H Q => (∃ p ys, xs = [.ref p] ∧ (SqL K H p ys ∨ SqT K H p ys) ∧ ∀ l, H l = none → Q (.ref l) (upd H l (.lst ys))) ∨
    ((∃ d kvs, xs = [V.ref d] ∧ Rd H d (.dT kvs) ∧ ∀ p bs, H p = none → IsKeys H kvs bs → Q (.ref p) (upd H p (.lst (bs.map V.ref)))) ∨ rListD xs H Q)) (fA1 fListA) := by
  intro f g σ H ρ vs ds Q R hK hR hA hF0 k
  subst hK
  obtain ⟨d, rfl, hF⟩ := fA1_some hF0
  obtain ⟨v, rfl, h⟩ := hA.one
  cases d with
  | list ds =>
    obtain ⟨a, xs, rfl, e1, r1⟩ := h.list fz_sub
    exact .inl ⟨a, xs, rfl, .inl (.inl (.inl e1)), OEnd.lst k hR r1 hF⟩
  | tuple ds =>
    obtain ⟨a, xs, rfl, e1, r1, z1⟩ := h.tuple fz_sub
    exact .inl ⟨a, xs, rfl, .inr e1, OEnd.lst k hR r1 hF⟩
  | dict es =>
    have hF : useB (isT es) (Q (.nw (.list (keysT es.tail)))) (Q (.nw (.list (es.map (·.1))))) := hF
    cases e : isT es with
    | true =>
      rw [e] at hF
      replace hF := useB_t hF
      obtain ⟨r, rfl⟩ := isT_true e
      obtain ⟨a, kvs, rfl, e1, r1⟩ := h.dictT fz_sub
      exact .inr (.inl ⟨a, kvs, rfl, .inl e1, fun p bs hp hb => OEnd.lst k hR (rpA_keysT rfl hR.mU r1 hb) hF p hp⟩)
    | false =>
      rw [e] at hF
      replace hF := useB_f hF
      obtain ⟨a, kvs, rfl, e1, r1⟩ := h.dict fz_sub e
      exact .inr (.inr ⟨a, kvs, rfl, e1, OEnd.lst k hR (rpA_keysK r1) hF⟩)
  | none => exact hF.elim
  | bool _ => exact hF.elim
  | int _ => exact hF.elim
  | str _ => exact hF.elim
/-- len(x), dicts too -/
def lenDA : D → Option Nat
  | .list ds => some ds.length
  | .tuple ds => some ds.length
  | .str z => if z.length ≤ sizeLine then some z.length else none
  | .dict es => if isT es = true then some (es.length - 1) else none
  | _ => none
def fLenA : F1 := fun x Q => match lenDA x with
  | some n => Q (.fz (.int (n : Int)))
  | none => False
theorem cl_lenA : CaL K (fun xs H Q => (∃ x n, xs = [x] ∧ LenV K x H n ∧ Q (.int n) H) ∨ rLenT xs H Q) (fA1 fLenA) := by
  intro f g σ H ρ vs ds Q R hK hR hA hF0 k
  have hF0' := hF0
  obtain ⟨d, rfl, hF⟩ := fA1_some hF0
  cases d with
  | dict es =>
    subst hK
    obtain ⟨v, rfl, h⟩ := hA.one
    unfold fLenA lenDA at hF
    dsimp only at hF
    split at hF
    · rename_i n e
      split at e
      · rename_i ht
        obtain ⟨r, rfl⟩ := isT_true ht
        cases e
        obtain ⟨a, kvs, rfl, e1, r1⟩ := h.dictT fz_sub
        refine .inr ⟨a, kvs, rfl, e1, OEnd.fz k hR (.int _) ?_⟩
        rw [r1.length]
        exact hF
      · cases e
    · exact hF.elim
  | list ds => exact .inl (cl_len f g σ H ρ vs _ Q R hK hR hA (show fA1 fLen [.list ds] Q from hF) k)
  | tuple ds => exact .inl (cl_len f g σ H ρ vs _ Q R hK hR hA (show fA1 fLen [.tuple ds] Q from hF) k)
  | str z => exact .inl (cl_len f g σ H ρ vs _ Q R hK hR hA (show fA1 fLen [.str z] Q from hF) k)
  | none => exact hF.elim
  | bool _ => exact hF.elim
  | int _ => exact hF.elim
theorem k_lenA {X : Cx} (h : X.K = K) : CallR X (.builtin "len") (fun xs H Q => (∃ x n, xs = [x] ∧ LenV K x H n ∧ Q (.int n) H) ∨ rLenT xs H Q) := (k_len h).or call_len_dT
end
end DL

set_option Elab.async false
set_option linter.all false
set_option maxRecDepth 100000
set_option maxHeartbeats 4000000
set_option autoImplicit false
namespace DL
open PySem L2

/-! ### dicts with tuples as keys -/
def keysOf : List D → Option (List Key)
  | [] => some []
  | d :: ds => match keyOf d with
    | some k => match keysOf ds with
      | some ks => some (k :: ks)
      | none => none
    | none => none
def tkOf : D → Option (List Key)
  | .tuple ds => keysOf ds
  | _ => none
theorem keysOf_keyD (ks : List Key) : keysOf (ks.map keyD) = some ks := by
  induction ks with
  | nil => rfl
  | cons k ks ih => simp only [List.map_cons, keysOf, keyOf_keyD, ih]
theorem tkOf_key (ks : List Key) : tkOf (.tuple (ks.map keyD)) = some ks := keysOf_keyD ks
theorem kV_of_keys {K : PySem.W.Frag} {F : Hp} {ks : List Key} {vs : List V} (h : RpA K F vs (ks.map keyD)) : vs = ks.map kV := by
  induction ks generalizing vs with
  | nil => cases h; rfl
  | cons k ks ih =>
    cases h with
    | cons h r => rw [ih r, keyOf_kV h (keyOf_keyD k)]; rfl
def lookT : List (D × D) → List Key → Option D
  | [], _ => none
  | (a, d) :: r, k => if tkOf a = some k then some d else lookT r k
def hasT (es : List (D × D)) (k : List Key) : Bool := es.any fun e => decide (tkOf e.1 = some k)
def putT (es : List (D × D)) (k : List Key) (x : D) : List (D × D) := if hasT es k = true then es.map (fun e => if tkOf e.1 = some k then (e.1, x) else e) else es ++ [(.tuple (k.map keyD), x)]
section
variable {K : PySem.W.Frag} {F : Hp}
theorem RpT.look {kvs : List (List Key × V)} {es : List (D × D)} (h : RpT K F kvs es) (k : List Key) : (valV kvs k = none ∧ lookT es k = none) ∨ ∃ v d, valV kvs k = some v ∧ lookT es k = some d ∧ Rp K F v d := by
  induction es generalizing kvs with
  | nil => cases h; exact .inl ⟨rfl, rfl⟩
  | cons e es ih =>
    cases h with
    | @cons k0 v0 d0 vs ds h r =>
      unfold lookT
      rw [tkOf_key]
      by_cases q : k0 = k
      · subst q
        refine .inr ⟨v0, d0, ?_, by rw [if_pos rfl], h⟩
        simp [valV]
      · rw [if_neg (fun z => q (Option.some.inj z))]
        have e1 : valV ((k0, v0) :: vs) k = valV vs k := by simp [valV, q]
        rw [e1]
        exact ih r
theorem RpT.has {kvs : List (List Key × V)} {es : List (D × D)} (h : RpT K F kvs es) (k : List Key) : (kvs.any fun kv => decide (kv.1 = k)) = hasT es k := by
  induction es generalizing kvs with
  | nil => cases h; rfl
  | cons e es ih =>
    cases h with
    | @cons k0 v0 d0 vs ds h r =>
      show (decide (k0 = k) || _) = (decide (tkOf (.tuple (k0.map keyD)) = some k) || hasT es k)
      rw [ih r, tkOf_key]
      congr 1
      by_cases q : k0 = k
      · rw [q]; simp
      · simp [q]
theorem RpT.append {kvs kvs' : List (List Key × V)} {es es' : List (D × D)} (h : RpT K F kvs es) (h' : RpT K F kvs' es') : RpT K F (kvs ++ kvs') (es ++ es') := by
  induction es generalizing kvs with
  | nil => cases h; exact h'
  | cons e es ih => cases h with | cons h r => exact .cons h (ih r)
theorem RpT.put {kvs : List (List Key × V)} {es : List (D × D)} (h : RpT K F kvs es) (k : List Key) {v : V} {d : D} (hv : Rp K F v d) : RpT K F (putK kvs k v) (putT es k d) := by
  unfold putK putT
  rw [h.has k]
  by_cases q : hasT es k = true
  · rw [if_pos q, if_pos q]
    clear q
    induction es generalizing kvs with
    | nil => cases h; exact .nil
    | cons e es ih =>
      cases h with
      | @cons k0 v0 d0 vs ds h r =>
        rw [List.map_cons, List.map_cons]
        by_cases q : k0 = k
        · rw [if_pos q, if_pos (by rw [tkOf_key, q])]
          exact .cons hv (ih r)
        · rw [if_neg q, if_neg (by rw [tkOf_key]; exact fun z => q (Option.some.inj z))]
          exact .cons h (ih r)
  · rw [if_neg q, if_neg q]
    exact h.append (.cons hv .nil)
theorem RN.keys {H : Hp} {v : V} {ks : List Key} (e : Same F H) (h : RN K F H v (.tuple (ks.map keyD))) : ∃ b, v = .ref b ∧ F b = some (.tup (ks.map kV)) := by
  obtain ⟨a, xs, rfl, _, r, q⟩ := h.tuple e
  rw [kV_of_keys r] at q
  exact ⟨a, rfl, q⟩
end
section
variable {K : PySem.W.Frag} {td ty tv : TE} {dd dk dv : DE} {i : Nat}
def wDT (o : Option D) (k : List (D × D) → Prop) : Prop := match o with
  | some (.dict (e :: es)) => e = tmark ∧ k es
  | _ => False
theorem wDT_some {o : Option D} {k : List (D × D) → Prop} (h : wDT o k) : ∃ es, o = some (.dict (tmark :: es)) ∧ k es := by
  unfold wDT at h
  split at h
  · obtain ⟨rfl, h⟩ := h
    exact ⟨_, rfl, h⟩
  · exact h.elim
/-- d[k], k a tuple -/
def dDGetT (dd dk : DE) : DE := fun ρ Q => dd ρ fun r ρ1 => dk ρ1 fun q ρ2 => wDT (res ρ2 r) fun es => ∃ ks, res ρ2 q = some (.tuple (ks.map keyD)) ∧ ∃ d, lookT es ks = some d ∧ Q (.fz d) ρ2
theorem le_dgetT (h : LE K td dd) (h' : LE K ty dk) : LE K (tDGet td ty) (dDGetT dd dk) := by
  intro f g σ H ρ Q R hK hR hd k
  refine h.opd hK hR hd fun v H1 g1 ρ1 r1 R1 G1 O1 q1 => ?_
  refine h'.opd hK R1 q1 fun u H2 g2 ρ2 r2 R2 G2 O2 q2 => ?_
  obtain ⟨es, e1, ks, e2, d, e3, q2⟩ := wDT_some q2
  obtain ⟨a, kvs, rfl, hd, hr⟩ := ((O1.mono G2).rn R2 e1).dictT fz_sub
  obtain ⟨b, rfl, hb⟩ := (O2.rn R2 e2).keys fz_sub
  rcases hr.look ks with ⟨_, z⟩ | ⟨w, d', z1, z2, z3⟩
  · rw [e3] at z; cases z
  · rw [e3] at z2; cases z2
    refine ⟨a, w, rfl, .inr ⟨kvs, ks, b, .inl hd, rfl, fz_sub _ _ hb, z1.symm⟩, ?_⟩
    exact k w H2 g2 ρ2 (.fz d) R2 (G1.trans G2) z3 q2
/-- k in d, k a tuple -/
def dDInT (neg : Bool) (dk dd : DE) : DE := fun ρ Q => dk ρ fun q ρ1 => dd ρ1 fun r ρ2 => wDT (res ρ2 r) fun es => ∃ ks, res ρ2 q = some (.tuple (ks.map keyD)) ∧ ∃ b, (lookT es ks).isSome = b ∧ Q (.fz (.bool (neg != b))) ρ2
theorem le_dinT (h' : LE K ty dk) (h : LE K td dd) : LE K (tDIn ty td) (dDInT false dk dd) := by
  intro f g σ H ρ Q R hK hR hd k
  refine h'.opd hK hR hd fun u H1 g1 ρ1 r1 R1 G1 O1 q1 => ?_
  refine h.opd hK R1 q1 fun v H2 g2 ρ2 r2 R2 G2 O2 q2 => ?_
  obtain ⟨es, e1, ks, e2, _, rfl, q2⟩ := wDT_some q2
  obtain ⟨a, kvs, rfl, hd, hr⟩ := (O2.rn R2 e1).dictT fz_sub
  obtain ⟨b, rfl, hb⟩ := ((O1.mono G2).rn R2 e2).keys fz_sub
  refine ⟨a, valV kvs ks, rfl, .inr ⟨kvs, ks, b, .inl hd, rfl, fz_sub _ _ hb, rfl⟩, ?_⟩
  have e : (valV kvs ks).isSome = (lookT es ks).isSome := by
    rcases hr.look ks with ⟨z0, z⟩ | ⟨w, d', z1, z2, z3⟩
    · rw [z0, z]; rfl
    · rw [z1, z2]; rfl
  rw [e]
  exact k _ H2 g2 ρ2 (.fz (.bool _)) R2 (G1.trans G2) (Rp.bl _) (by simpa using q2)
theorem le_dninT (h' : LE K ty dk) (h : LE K td dd) : LE K (tDNotIn ty td) (dDInT true dk dd) := by
  intro f g σ H ρ Q R hK hR hd k
  refine h'.opd hK hR hd fun u H1 g1 ρ1 r1 R1 G1 O1 q1 => ?_
  refine h.opd hK R1 q1 fun v H2 g2 ρ2 r2 R2 G2 O2 q2 => ?_
  obtain ⟨es, e1, ks, e2, _, rfl, q2⟩ := wDT_some q2
  obtain ⟨a, kvs, rfl, hd, hr⟩ := (O2.rn R2 e1).dictT fz_sub
  obtain ⟨b, rfl, hb⟩ := ((O1.mono G2).rn R2 e2).keys fz_sub
  refine ⟨a, valV kvs ks, rfl, .inr ⟨kvs, ks, b, .inl hd, rfl, fz_sub _ _ hb, rfl⟩, ?_⟩
  have e : (valV kvs ks).isSome = (lookT es ks).isSome := by
    rcases hr.look ks with ⟨z0, z⟩ | ⟨w, d', z1, z2, z3⟩
    · rw [z0, z]; rfl
    · rw [z1, z2]; rfl
  rw [e]
  exact k _ H2 g2 ρ2 (.fz (.bool _)) R2 (G1.trans G2) (Rp.bl _) (by simpa using q2)
/-- d[k] = v, d one's own, k a tuple -/
def dDPutT (i : Nat) (dk dv : DE) : DS := fun DD ρ => dv ρ fun r ρ1 => wF (frz ρ1 r) fun d ρ2 => (∃ es, ρ2[i]? = some (some (.ow (.dict (tmark :: es))))) ∧ dk ρ2 fun q ρ3 => ∃ es, ρ3[i]? = some (some (.ow (.dict (tmark :: es)))) ∧ ∃ ks, res ρ3 q = some (.tuple (ks.map keyD)) ∧ es.length < sizeLine ∧ DD.nx (ρ3.set i (some (.ow (.dict (tmark :: putT es ks d)))))
theorem ls_dputT (h : LE K ty dk) (h' : LE K tv dv) : LS K (sDPut (tVar i) ty tv) (dDPutT i dk dv) := by
  intro f g σ H ρ DD E hK R hd l
  refine h'.opd hK R hd fun v H1 g1 ρ1 r1 R1 G1 O1 q1 => ?_
  obtain ⟨d, ρ2, e2, q1⟩ := wF_some q1
  obtain ⟨g2, R2, G2, hv⟩ := O1.frz R1 e2
  obtain ⟨⟨es0, e0⟩, q1⟩ := q1
  obtain ⟨w, w1, a, wa, m, h0, ns, rr⟩ := R2.slot i _ e0
  subst wa
  refine ⟨.ref a, w1, ?_⟩
  refine h.opd hK R2 q1 fun u H3 g3 ρ3 r3 R3 G3 O3 q3 => ?_
  obtain ⟨es, s4, ks, e5, hl, q3⟩ := q3
  obtain ⟨w', w2, a', wa', m', h0', ns', r4⟩ := R3.slot i _ s4
  rw [w1] at w2; cases w2; cases wa'
  obtain ⟨b, rfl, hb⟩ := (O3.rn R3 e5).keys fz_sub
  obtain ⟨a2, kvs, ea, hk, hr⟩ := (show RN f.K (Fz H3 g3.M) H3 (.ref a) (.dict (tmark :: es)) from .inr ⟨a, rfl, r4⟩).dictT fz_sub
  cases ea
  refine ⟨a, _, rfl, DPut.t (k := ks) hk (fz_sub _ _ hb) (by rw [hr.length]; exact hl), ?_⟩
  obtain ⟨R5, G5⟩ := R3.mutOwn (o := .dT (putK kvs ks v)) (d' := .dict (tmark :: putT es ks d)) s4 w1 (.dct upd_same (hr.put ks (hv.mono G3.fz)))
  exact l.nx g3 σ _ _ R5 (((G1.trans G2).trans G3).trans G5) q3
end
end DL

set_option Elab.async false
set_option linter.all false
set_option maxRecDepth 100000
set_option maxHeartbeats 4000000
set_option autoImplicit false
namespace L2
open PySem PySem.Spec PyProof.Rows HT
section
variable {prog : Program} {w : World} {A : Around} {E : Value → Shared → Prop} {s : Shared}
theorem dl_sliceRev {sl : Addr} {vs : Value} {n : Nat} {Q : Int × Int × Nat → Shared → Prop} (hs : s.heap.IsSliceOf sl .none .none vs) (ps : IsPart vs (some (-1)))
    (h : Q ((n : Int) - 1, -1, n) s) : wpAny (model prog w) A (Builtin.Slice.sliceApplied (.ref sl) (pure (n : Int))) Q E s := by
  obtain ⟨os, hos, hcs, hds⟩ := id hs
  unfold Builtin.Slice.sliceApplied Builtin.Slice.sliceFields
  refine wpAny_bind (wpAny_bind (wpAny_field hos hds (x := .none) rfl (wpAny_bind (wpAny_field hos hds (x := .none) rfl (wpAny_bind (wpAny_field hos hds (x := vs) rfl (wpAny_pure ?_)))))))
  refine wpAny_bind (slicePart_ ps ?_)
  show wpAny _ _ (if ((-1 : Int) == 0) = true then _ else _) _ _ s
  rw [if_neg (by decide)]
  refine wpAny_bind (slicePart_none (wpAny_bind (slicePart_none (wpAny_bind (wpAny_pure ?_)))))
  have e1 : Builtin.Slice.sliceAdjust none none (-1) (n : Int) = ((n : Int) - 1, -1) := rfl
  have e2 : Builtin.Slice.slicePlaces ((n : Int) - 1) (-1) (-1) = n := by
    unfold Builtin.Slice.slicePlaces
    have h1 : ¬ ((-1 : Int) > 0) := by omega
    simp only [h1, if_false, show (- -1 : Int) = 1 by decide, Int.ediv_one]
    split <;> omega
  show wpAny _ _ (match Builtin.Slice.sliceAdjust none none (-1) (n : Int) with | (lo, hi) => pure (lo, (-1 : Int), Builtin.Slice.slicePlaces lo hi (-1))) _ _ s
  rw [e1]
  show wpAny _ _ (pure ((n : Int) - 1, (-1 : Int), Builtin.Slice.slicePlaces ((n : Int) - 1) (-1) (-1))) _ _ s
  rw [e2]
  exact wpAny_pure h
theorem dl_filterMap {f : Nat → Option Value} {g : Nat → Value} (l : List Nat) (h : ∀ m ∈ l, f m = some (g m)) : l.filterMap f = l.map g := by
  induction l with
  | nil => rfl
  | cons a l ih =>
    rw [List.filterMap_cons, h a List.mem_cons_self, List.map_cons]
    simp only
    rw [ih fun m hm => h m (List.mem_cons_of_mem _ hm)]
theorem dl_pickRev (xs : Array Value) : ((List.range xs.size).filterMap fun (m : Nat) => xs[(((xs.size : Nat) : Int) - 1 + (m : Int) * (-1)).toNat]?).toArray = xs.toList.reverse.toArray := by
  have hs : ∀ m (hm : m < xs.size), xs[(((xs.size : Nat) : Int) - 1 + (m : Int) * (-1)).toNat]? = some (xs.toList.reverse[m]'(by simpa using hm)) := fun m hm => by
    have e : (((xs.size : Nat) : Int) - 1 + (m : Int) * (-1)).toNat = xs.size - 1 - m := by omega
    rw [e, Array.getElem?_eq_getElem (by omega), List.getElem_reverse]
    simp
  rw [dl_filterMap (g := fun m => if hm : m < xs.size then xs.toList.reverse[m]'(by simpa using hm) else .none) _ fun m hm => by
    have hm := List.mem_range.mp hm
    rw [hs m hm, dif_pos hm]]
  congr 1
  apply List.ext_getElem
  · simp
  · intro i h1 h2
    have hi : i < xs.size := by simpa using h2
    rw [List.getElem_map]
    simp only [List.getElem_range]
    rw [dif_pos hi]
theorem dl_getItem_tuple_rev {t sl : Addr} {items : Array Value} {vs : Value} {Q : Value → Shared → Prop} (ht : IsTup s.heap t items) (hs : s.heap.IsSliceOf sl .none .none vs) (ps : IsPart vs (some (-1)))
    (h : Q (.ref s.heap.objs.size) { s with heap := s.heap.push { cls := .type "tuple", data := .seq items.toList.reverse.toArray } })
    (hsz : items.size ≤ sizeLine) : wpAny (model prog w) A (getItem (.ref t) (.ref sl)) Q E s := by
  have htake : sizeOk (.seq items.toList.reverse.toArray) := by
    show items.toList.reverse.toArray.size ≤ sizeLine
    rw [List.size_toArray, List.length_reverse, Array.length_toList]
    exact hsz
  obtain ⟨os, hos, hcs, hds⟩ := id hs
  have hTs : s.TypeIs (.ref sl) "slice" := ⟨os, hos, hcs⟩
  unfold getItem
  try with_reducible refine wpAny_holding ?_
  first | refine wpAny_bind (wpAny_pure ?_) | skip
  refine wpAny_bind (wpAny_sequenceKey ht.typeIs (by decide) ?_)
  refine wpAny_bind (wpAny_callSpecial?_slot (name := Str.ofString "__getitem__") ht.typeIs PyProof.Rows.slot_tuple_getitem
    (wpAny_call_entry PyProof.Rows.slot_tuple_getitem ht.typeIs entry_tuple_getitem ?_ (args_tuple_getitem _ _)))
  show wpAny _ _ (Builtin.Tuple.tupleItemsOf (.ref t) >>= _) _ _ s
  refine wpAny_bind (tupleItemsOf_ ht ?_)
  refine wpAny_bind (wpAny_typeOf hTs ?_)
  rw [if_pos (by decide)]
  refine wpAny_bind (dl_sliceRev hs ps ?_)
  have hno : ¬ ((((items.size : Nat) : Int) - 1 == 0 && (-1 : Int) == 1 && items.size == items.size) = true) := by
    intro q
    rw [Bool.and_eq_true, Bool.and_eq_true] at q
    exact absurd q.1.2 (by decide)
  show wpAny _ _ (if ((((items.size : Nat) : Int) - 1 == 0 && (-1 : Int) == 1 && items.size == items.size) = true) then _ else _) _ _ s
  rw [if_neg hno, dl_pickRev]
  first
    | exact wpAny_bind (m := Builtin.Tuple.tupleExact _) (wpAny_newObj_type (wpAny_pure ⟨_, rfl, wpAny_pure h⟩) htake)
    | exact wpAny_bind (m := Builtin.Tuple.tupleExact _) (wpAny_newObj_type (wpAny_bind (wpAny_pure (wpAny_pure ⟨_, rfl, wpAny_pure h⟩))) htake)
    | exact wpAny_bind (wpAny_bind (m := Builtin.Tuple.tupleExact _) (wpAny_newObj_type (wpAny_pure (wpAny_pure ⟨_, rfl, wpAny_pure h⟩)) htake))
    | exact wpAny_bind (wpAny_bind (m := Builtin.Tuple.tupleExact _) (wpAny_newObj_type (wpAny_pure ⟨_, rfl, wpAny_pure h⟩) htake))
end
/-- x[::-1] of a list or a tuple -/
def tRevA (K : PySem.W.Frag) (te : TE) : TE := fun σ H Q => te σ H fun x H1 => ∃ a xs, x = .ref a ∧
  ((SqL K H1 a xs ∧ ∀ p, H1 p = none → Q (.ref p) (upd H1 p (.lst xs.reverse))) ∨ (SqT K H1 a xs ∧ ∀ p, H1 p = none → Q (.ref p) (upd H1 p (.tup xs.reverse))))
section
variable {X : Cx} {K : PySem.W.Frag}
theorem pe_revA {e : Expr} {te : TE} {k : Nat} {p1 p2 p3 pos : Pos} (hK : X.K = K) (he : PE X e te) : PE X (.Subscript e (.Slice none none (some (.UnaryOp .USub (.Constant (.int 1) k p1) p2)) p3) pos) (tRevA K te) := by
  subst hK
  refine ⟨fun pins s σ H Q I h => ?_⟩
  refine Subscript_ (thn (he.run pins s σ H _ I h) fun v s1 ⟨x, H1, I1, r1, q1⟩ => ?_)
  obtain ⟨a, xs, ex, hx⟩ := q1
  subst ex
  cases r1
  have hst : PO X (some (.UnaryOp .USub (.Constant (.int 1) k p1) p2)) (tPart (tUn (rU fun i => .int (-i)) (tC (.int 1)))) := po_some (pe_un un_neg pe_int)
  refine wpAny_Slice (thn (po_none.run pins s1 σ H1 (fun o H2 => o = none ∧ H2 = H1) I1 ⟨rfl, rfl⟩) fun vl s2 ⟨l, H2, I2, pl, el, e2⟩ => ?_)
  subst el e2
  refine thn (po_none.run pins s2 σ H2 (fun o H3 => o = none ∧ H3 = H2) I2 ⟨rfl, rfl⟩) fun vu s3 ⟨u, H3, I3, pu, eu, e3⟩ => ?_
  subst eu e3
  refine thn (hst.run pins s3 σ H3 (fun o H4 => o = some (-1) ∧ H4 = H3) I3 ⟨1, rfl, -1, rfl, rfl, rfl⟩) fun vs s4 ⟨o, H4, I4, ps, eo, e4⟩ => ?_
  subst eo e4
  have I5 : Inv X pins σ H4 { s4 with heap := s4.heap.push { cls := .type "slice", data := .fields #[vl, vu, vs] } } := I4.kept (t' := s4.toks) fun b ob q => Heap.get?_push_of_some _ q
  show wpAny (model X.prog X.w) X.A (subscriptTail e (.Slice none none (some (.UnaryOp .USub (.Constant (.int 1) k p1) p2)) p3) (.ref a) (.ref s4.heap.objs.size)) (EP X pins σ Q) X.xe { s4 with heap := s4.heap.push { cls := .type "slice", data := .fields #[vl, vu, vs] } }
  rcases hx with ⟨hx, q⟩ | ⟨hx, q⟩
  · obtain ⟨its, r, ht, hz⟩ := I5.list hx
    have hlen := r.length
    refine tail_any (ops := [.ref a, .ref s4.heap.objs.size]) ht.isList.typeIs (PySem.slot_list_getitem.lookup) ?_ (by with_unfolding_all rfl)
    refine wpAny_getItem_list_slice ht.isList (Heap.IsSliceOf.new _ vl vu vs) pl pu ps (by decide) ?_ (by rw [List.size_toArray]; omega)
    rw [PySem.W.krv_pick]
    refine ⟨.ref _, _, I5.laid (t' := s4.toks) (o := .lst xs.reverse) (fun b ob q => Heap.get?_push_of_some _ q) (Nat.le_refl _) ?_, rfl, q _ (I5.hok.fresh (Nat.le_refl _))⟩
    exact ⟨by rw [List.length_reverse]; exact hz, _, 0, r.reverse, Heap.get?_push_size _ rfl⟩
  · cases pl
    cases pu
    obtain ⟨its, r, ht, hz⟩ := I5.tuple hx
    have hlen := r.length
    refine tail_any (ops := [.ref a, .ref s4.heap.objs.size]) ht.typeIs (PyProof.Rows.slot_tuple_getitem.lookup) ?_ (by with_unfolding_all rfl)
    refine dl_getItem_tuple_rev ht (Heap.IsSliceOf.new _ .none .none vs) ps ?_ (by rw [List.size_toArray]; omega)
    refine ⟨.ref _, _, I5.laid (t' := s4.toks) (o := .tup xs.reverse) (fun b ob q => Heap.get?_push_of_some _ q) (Nat.le_refl _) ?_, rfl, q _ (I5.hok.fresh (Nat.le_refl _))⟩
    exact ⟨by rw [List.length_reverse]; exact hz, its.reverse, r.reverse, IsTup.new _ _⟩
end
end L2
namespace DL
open PySem L2
def fRev (x : D) (Q : Rv → Prop) : Prop := match x with
  | .list ds => Q (.nw (.list ds.reverse))
  | .tuple ds => Q (.fz (.tuple ds.reverse))
  | _ => False
def dRev (da : DE) : DE := fun ρ Q => da ρ fun r ρ1 => wD (res ρ1 r) fun x => fRev x fun q => Q q ρ1
theorem le_rev {K : PySem.W.Frag} {ta : TE} {da : DE} (h : LE K ta da) : LE K (tRevA K ta) (dRev da) := by
  intro f g σ H ρ Q R hK hR hd k
  refine h.opd hK hR hd fun v H1 g1 ρ1 r1 R1 G1 O1 q1 => ?_
  obtain ⟨x, e, q⟩ := wD_some q1
  subst hK
  have hx := O1.rn R1 e
  have k' : OEnd f g1 σ H1 ρ1 (fun q => Q q ρ1) R := fun z H' g' r R' G' V' q' => k z H' g' ρ1 r R' (G1.trans G') V' q'
  cases x with
  | list ds =>
    obtain ⟨a, xs, rfl, e1, r1⟩ := hx.list fz_sub
    exact ⟨a, xs, rfl, .inl ⟨.inl (.inl e1), OEnd.lst k' R1 r1.reverse q⟩⟩
  | tuple ds =>
    obtain ⟨a, xs, rfl, e1, r1, z1⟩ := hx.tuple fz_sub
    exact ⟨a, xs, rfl, .inr ⟨e1, OEnd.tup k' R1 r1.reverse q⟩⟩
  | none => exact q.elim
  | bool _ => exact q.elim
  | int _ => exact q.elim
  | dict _ => exact q.elim
  | str _ => exact q.elim
end DL

set_option Elab.async false
set_option linter.all false
set_option maxRecDepth 100000
set_option maxHeartbeats 4000000
set_option autoImplicit false
namespace DL
open PySem L2
open StX (tStar pa_star)

/-! ### stars in a display -/
abbrev DF := Rho → (List D → Rho → Prop) → Prop
/-- elements, frozen -/
def LF (K : PySem.W.Frag) (t : TA) (d : DF) : Prop := ∀ (f : Fr) (g : Gs) (σ : L2.St) (H : Hp) (ρ : Rho) (Q : List D → Rho → Prop) (R : List V → Hp → Prop), f.K = K → Rel f g σ H ρ → d ρ Q →
  (∀ (vs : List V) (H' : Hp) (g' : Gs) (ρ' : Rho) (ds : List D), Rel f g' σ H' ρ' → Gro g H g' H' → RpA f.K (Fz H' g'.M) vs ds → Q ds ρ' → R vs H') → t σ H R
def starOf : D → Option (List D)
  | .list ds => some ds
  | .tuple ds => some ds
  | _ => none
def dFNil : DF := fun ρ Q => Q [] ρ
def dFCons (da : DE) (dr : DF) : DF := fun ρ Q => da ρ fun r ρ1 => wF (frz ρ1 r) fun d ρ2 => dr ρ2 fun ds ρ3 => Q (d :: ds) ρ3
def dFStar (da : DE) (dr : DF) : DF := fun ρ Q => da ρ fun r ρ1 => wD (res ρ1 r) fun x => wA (starOf x) fun ds => dr ρ1 fun es ρ2 => Q (ds ++ es) ρ2
section
variable {K : PySem.W.Frag} {ta : TE} {da : DE} {tr : TA} {dr : DF}
theorem lf_nil : LF K tNil dFNil := fun f g σ H ρ Q R hK hR hd k => k [] H g ρ [] hR Gro.refl .nil hd
theorem lf_cons (h : LE K ta da) (h' : LF K tr dr) : LF K (tCons ta tr) (dFCons da dr) := by
  intro f g σ H ρ Q R hK hR hd k
  refine h.opd hK hR hd fun v H1 g1 ρ1 r1 R1 G1 O1 q1 => ?_
  obtain ⟨d, ρ2, e2, q1⟩ := wF_some q1
  obtain ⟨g2, R2, G2, hv⟩ := O1.frz R1 e2
  subst hK
  exact h' f g2 σ H1 ρ2 _ _ rfl R2 q1 fun vs H3 g3 ρ3 ds R3 G3 O3 q3 => k _ H3 g3 ρ3 _ R3 ((G1.trans G2).trans G3) (.cons (hv.mono G3.fz) O3) q3
theorem lf_star (h : LE K ta da) (h' : LF K tr dr) : LF K (tStar K ta tr) (dFStar da dr) := by
  intro f g σ H ρ Q R hK hR hd k
  refine h.opd hK hR hd fun v H1 g1 ρ1 r1 R1 G1 O1 q1 => ?_
  obtain ⟨x, e, q1⟩ := wD_some q1
  obtain ⟨ds, e', q1⟩ := wA_some q1
  subst hK
  have hx := O1.rn R1 e
  cases x with
  | list es =>
    cases e'
    obtain ⟨a, xs, rfl, e1, r1⟩ := hx.list fz_sub
    refine ⟨a, xs, rfl, .inr (.inl (.inl e1)), ?_⟩
    exact h' f g1 σ H1 ρ1 _ _ rfl R1 q1 fun vs H2 g2 ρ2 rs R2 G2 O2 q2 => k _ H2 g2 ρ2 _ R2 (G1.trans G2) ((r1.mono G2.fz).append O2) q2
  | tuple es =>
    cases e'
    obtain ⟨a, xs, rfl, e1, r1, _⟩ := hx.tuple fz_sub
    refine ⟨a, xs, rfl, .inl e1, ?_⟩
    exact h' f g1 σ H1 ρ1 _ _ rfl R1 q1 fun vs H2 g2 ρ2 rs R2 G2 O2 q2 => k _ H2 g2 ρ2 _ R2 (G1.trans G2) ((r1.mono G2.fz).append O2) q2
  | none => cases e'
  | bool _ => cases e'
  | int _ => cases e'
  | dict _ => cases e'
  | str _ => cases e'
def dLstF (da : DF) : DE := fun ρ Q => da ρ fun ds ρ1 => ds.length ≤ sizeLine ∧ Q (.nw (.list ds)) ρ1
def dTupF (da : DF) : DE := fun ρ Q => da ρ fun ds ρ1 => ds.length ≤ sizeLine ∧ Q (.fz (.tuple ds)) ρ1
theorem le_lstF (h : LF K tr dr) : LE K (tLst tr) (dLstF dr) := by
  intro f g σ H ρ Q R hK hR hd k
  refine h f g σ H ρ _ _ hK hR hd fun vs H1 g1 ρ1 ds R1 G1 q2 q1 => ?_
  obtain ⟨hl, q1⟩ := q1
  refine ⟨by rw [q2.length]; exact hl, fun p hp => ?_⟩
  obtain ⟨R3, G3, V3⟩ := R1.own (o := .lst vs) (d := .list ds) hp (.lst upd_same q2)
  exact k _ _ _ ρ1 _ R3 (G1.trans G3) V3 q1
theorem le_tupF (h : LF K tr dr) : LE K (tTup tr) (dTupF dr) := by
  intro f g σ H ρ Q R hK hR hd k
  refine h f g σ H ρ _ _ hK hR hd fun vs H1 g1 ρ1 ds R1 G1 q2 q1 => ?_
  obtain ⟨hl, q1⟩ := q1
  refine ⟨by rw [q2.length]; exact hl, fun p hp => ?_⟩
  obtain ⟨R3, G3, e3⟩ := R1.new (o := .tup vs) hp
  exact k _ _ g1 ρ1 (.fz (.tuple ds)) R3 (G1.trans G3) (Rp.tup e3 (q2.mono G3.fz)) q1
end
theorem k_star {X : Cx} {K : PySem.W.Frag} {e : Expr} {te : TE} {es : List Expr} {t : TA} {p : Pos} (hK : X.K = K) (he : PE X e te) (hr : PA X es t) (hs : starEach (.Starred e p :: es) X.env = (true, eval e X.env) :: starEach es X.env := by rfl) : PA X (.Starred e p :: es) (tStar K te t) := by
  subst hK; exact pa_star he hr hs
/-! ### a list unpacked -/
def wL (o : Option D) (k : List D → Prop) : Prop := match o with
  | some (.list ds) => k ds
  | _ => False
theorem wL_some {o : Option D} {k : List D → Prop} (h : wL o k) : ∃ b, o = some (.list b) ∧ k b := by
  unfold wL at h
  split at h
  · exact ⟨_, rfl, h⟩
  · exact h.elim
def dgL (n : Nat) (dgs : DGs) : DG := fun r ρ Q => wL (res ρ r) fun ds => ds.length = n ∧ dgs ds ρ Q
theorem lg_lst {K : PySem.W.Frag} {n : Nat} {ts : TGs} {dgs : DGs} (h : LGs K ts dgs) : LG K (gLst K n ts) (dgL n dgs) := by
  intro f g σ H ρ v r Q R hK hR V q k
  obtain ⟨ds, e, hl, q⟩ := wL_some q
  obtain ⟨g1, R1, G1, O1⟩ := V.opd hR
  subst hK
  obtain ⟨a, xs, rfl, hs, hr⟩ := (O1.rn R1 e).list fz_sub
  refine ⟨a, xs, rfl, .inl (.inl hs), by rw [hr.length]; exact hl, ?_⟩
  exact h f g1 σ H ρ xs ds Q R rfl R1 hr q fun g2 σ2 H2 ρ2 R2 G2 q2 => k g2 σ2 H2 ρ2 R2 (G1.trans G2) q2
theorem k_glst {X : Cx} {K : PySem.W.Frag} {es : List Expr} {k : Nat} {t : TGs} {n : Nat} {pos : Pos} (h : X.K = K) (hc : X.calm = true) (hp : PGs X es t) (hn : (assignEach es X.env).length = n := by rfl) (hst : (assignEach es X.env).findIdx? (·.1) = none := by rfl) : PG X (.Tuple es k pos) (gLst K n t) := by
  subst h; exact pg_lst hc hp hn hst
/-! ### repr([..]): the list is made and dropped, its members stay one's own -/
def dReprL (dr : DA) : DE := fun ρ Q => dr ρ fun rs ρ1 => wA (resA ρ1 rs) fun ds => ds.length ≤ sizeLine ∧ reprOkP (.list ds) ∧ Q (.fz (.str (PyData.shown (.list ds)))) ρ1
theorem RNA.rp {K : PySem.W.Frag} {F H : Hp} {vs : List V} {ds : List D} (e : Same F H) (h : RNA K F H vs ds) : RpA K H vs ds := by
  induction h with
  | nil => exact .nil
  | cons h _ ih => exact .cons (h.same e) ih
theorem le_reprL {K : PySem.W.Frag} {tr : TA} {dr : DA} (h : LA K tr dr) : LE K (tCB (rReprP K) (tCons (tLst tr) tNil)) (dReprL dr) := by
  intro f g σ H ρ Q R hK hR hd k
  refine h f g σ H ρ _ _ hK hR hd fun vs H1 g1 ρ1 rs R1 G1 O1 q1 => ?_
  obtain ⟨ds, e1, hl, hr, q1⟩ := wA_some q1
  subst hK
  have ra := RNA.rp fz_sub (O1.rn R1 e1)
  refine ⟨by rw [ra.length]; exact hl, fun p hp => ?_⟩
  obtain ⟨R3, G3, e3⟩ := R1.new (o := .lst vs) hp
  obtain ⟨h1, h2, h3, h4⟩ := hr
  have up : Same H1 (upd H1 p (.lst vs)) := fun a o e => by rw [upd_ne (ne_of_none e hp)]; exact e
  refine ⟨.ref p, .list ds, rfl, ⟨_, Same.refl _, .inl (.lst upd_same (ra.mono up))⟩, h1, h2, h3, h4, ?_⟩
  exact k _ _ g1 ρ1 (.fz (.str _)) R3 (G1.trans G3) (.str _) q1
end DL

set_option Elab.async false
set_option linter.all false
set_option maxRecDepth 100000
set_option maxHeartbeats 4000000
set_option autoImplicit false
namespace DL
open PySem L2
/-! ### what repr asks, built up -/
structure RB (w n : Nat) (d : D) : Prop where
  sh : d.showable = true
  lv : d.leavesShort 25 = true
  wt : d.weight ≤ w
  dp : d.depth ≤ n
  nd : d.hasDict = false
structure RBs (w n : Nat) (ds : List D) : Prop where
  sh : PyData.showableAll ds = true
  lv : PyData.leavesShortAll 25 ds = true
  wt : PyData.weightAll ds ≤ w
  dp : PyData.depthAll ds ≤ n
  nd : PyData.hasDictAll ds = false
theorem RB.mono {w w' n n' : Nat} {d : D} (h : RB w n d) (hw : w ≤ w') (hn : n ≤ n') : RB w' n' d := ⟨h.sh, h.lv, Nat.le_trans h.wt hw, Nat.le_trans h.dp hn, h.nd⟩
theorem RBs.mono {w w' n n' : Nat} {d : List D} (h : RBs w n d) (hw : w ≤ w') (hn : n ≤ n') : RBs w' n' d := ⟨h.sh, h.lv, Nat.le_trans h.wt hw, Nat.le_trans h.dp hn, h.nd⟩
theorem RB.int {i : Int} (h : small i) : RB 65 1 (.int i) := by
  obtain ⟨a, b, c, d, e⟩ := small_int h
  exact ⟨a, b, c, d, e⟩
theorem RB.bool (b : Bool) : RB 0 1 (.bool b) := ⟨rfl, by cases b <;> decide +kernel, Nat.le_refl _, Nat.zero_le _, rfl⟩
theorem RB.none : RB 0 1 .none := ⟨rfl, by decide +kernel, Nat.le_refl _, Nat.zero_le _, rfl⟩
theorem RBs.nil : RBs 0 0 [] := ⟨rfl, rfl, Nat.le_refl _, by simp [PyData.depthAll], rfl⟩
theorem RBs.cons {w w' n : Nat} {d : D} {ds : List D} (h : RB w n d) (h' : RBs w' n ds) : RBs (w + 1 + w') n (d :: ds) := by
  refine ⟨?_, ?_, ?_, ?_, ?_⟩
  · simp only [PyData.showableAll, h.sh, h'.sh, Bool.and_self]
  · simp only [PyData.leavesShortAll, h.lv, h'.lv, Bool.and_self]
  · have := h.wt; have := h'.wt; simp only [PyData.weightAll]; omega
  · have := h.dp; have := h'.dp; simp only [PyData.depthAll]; omega
  · simp only [PyData.hasDictAll, h.nd, h'.nd, Bool.or_self]
theorem RBs.one {w n : Nat} {d : D} (h : RB w n d) : RBs (w + 1 + 0) n [d] := .cons h (RBs.nil.mono (Nat.le_refl _) (Nat.zero_le _))
theorem RBs.all {w n k : Nat} {ds : List D} (h : ∀ d ∈ ds, RB w n d) (hl : ds.length ≤ k) : RBs ((w + 1) * k) n ds := by
  refine RBs.mono (w := (w + 1) * ds.length) ?_ (Nat.mul_le_mul_left _ hl) (Nat.le_refl _)
  clear hl
  induction ds with
  | nil => exact RBs.nil.mono (by simp) (Nat.zero_le _)
  | cons d ds ih =>
    refine (RBs.cons (h d List.mem_cons_self) (ih fun x hx => h x (List.mem_cons_of_mem _ hx))).mono ?_ (Nat.le_refl _)
    rw [List.length_cons, Nat.mul_succ]
    omega
theorem RB.list {w n : Nat} {ds : List D} (h : RBs w n ds) : RB w (n + 1) (.list ds) := ⟨h.sh, h.lv, h.wt, by have := h.dp; simp only [PyData.depth]; omega, h.nd⟩
theorem RB.tuple {w n : Nat} {ds : List D} (h : RBs w n ds) : RB w (n + 1) (.tuple ds) := ⟨h.sh, h.lv, h.wt, by have := h.dp; simp only [PyData.depth]; omega, h.nd⟩
theorem RB.ok {w n : Nat} {d : D} (h : RB w n d) (hw : w ≤ 500000) (hn : n ≤ 60) : reprOkP d := reprOk_of h.sh (.inl h.nd) h.lv (Nat.le_trans h.wt hw) (Nat.le_trans h.dp hn)
theorem RBs.ints {ns : List Int} {k : Nat} (h : ∀ n ∈ ns, small n) (hl : ns.length ≤ k) : RBs (66 * k) 1 (ns.map PyData.int) := .all (fun d hd => by
  obtain ⟨n, hn, rfl⟩ := List.mem_map.mp hd
  exact .int (h n hn)) (by simpa using hl)
/-! ### bits as ints -/
def bit (n : Int) : Prop := n = 0 ∨ n = 1
theorem bit.small {n : Int} (h : bit n) : small n := by rcases h with rfl | rfl <;> (unfold DL.small; decide)
theorem RB.bit {n : Int} (h : bit n) : RB 1 1 (.int n) := by
  have := RB.int h.small
  exact ⟨this.sh, this.lv, by rcases h with rfl | rfl <;> decide, this.dp, this.nd⟩
theorem RBs.bits {ns : List Int} {k : Nat} (h : ∀ n ∈ ns, DL.bit n) (hl : ns.length ≤ k) : RBs (2 * k) 1 (ns.map PyData.int) := .all (fun d hd => by
  obtain ⟨n, hn, rfl⟩ := List.mem_map.mp hd
  exact .bit (h n hn)) (by simpa using hl)
theorem bit_xor {a b : Int} (h : bit a) (h' : bit b) : bit (Builtin.bitXor a b) := by
  rcases h with rfl | rfl <;> rcases h' with rfl | rfl
  · exact .inl (by decide)
  · exact .inr (by decide)
  · exact .inr (by decide)
  · exact .inl (by decide)
theorem bit_and {a b : Int} (h : bit a) (h' : bit b) : bit (Builtin.bitAnd a b) := by
  rcases h with rfl | rfl <;> rcases h' with rfl | rfl
  · exact .inl (by decide)
  · exact .inl (by decide)
  · exact .inl (by decide)
  · exact .inr (by decide)
theorem bit_mod (l : Int) : bit (l.fmod 2) := by
  have h1 := Int.fmod_nonneg_of_pos l (b := 2) (by decide)
  have h2 := Int.fmod_lt_of_pos l (b := 2) (by decide)
  rcases (by omega : l.fmod 2 = 0 ∨ l.fmod 2 = 1) with h | h
  · exact .inl h
  · exact .inr h
/-! ### indices -/
theorem atI_ok {xs : List D} {k : Int} (h1 : 0 ≤ k) (h2 : k < xs.length) : L2.atI xs k = some (xs[k.toNat]'(by omega)) := by
  unfold L2.atI ixN
  rw [if_pos h1, if_pos h2]
  show xs[k.toNat]? = _
  rw [List.getElem?_eq_getElem]
theorem atI_ints {xs : List Int} {k : Int} (h1 : 0 ≤ k) (h2 : k < xs.length) : L2.atI (xs.map PyData.int) k = some (.int (xs.getD k.toNat 0)) := by
  rw [atI_ok h1 (by simpa using h2)]
  simp only [List.getElem_map]
  rw [List.getD_eq_getElem?_getD, List.getElem?_eq_getElem (by omega)]
  rfl
theorem atI_last {xs : List D} {x : D} : L2.atI (xs ++ [x]) (-1) = some x := by
  unfold L2.atI ixN
  rw [if_neg (by omega), if_pos (by simp; omega)]
  have e : (-1 + ((xs ++ [x]).length : Int)).toNat = xs.length := by simp; omega
  show (xs ++ [x])[(-1 + ((xs ++ [x]).length : Int)).toNat]? = _
  rw [e]
  simp
theorem useB_d {p : Prop} [Decidable p] {A B : Prop} (h1 : p → A) (h2 : ¬ p → B) : useB (decide p) A B := by
  by_cases h : p
  · exact useB_y (decide_eq_true h) (h1 h)
  · exact useB_n (decide_eq_false h) (h2 h)
/-! ### a, b = x, y by way of a tuple (one of the names is a cell) -/
section
variable {K : PySem.W.Frag} {ta tb tc : TE} {da db dc : DE} {i j : Nat}
theorem ls_parT (h : LE K ta da) (h' : LE K tb db) : LS K (tAsg (tTup (tCons ta (tCons tb tNil))) (gTup K 2 (gCons (gName i) (gCons (gName j) gNil)))) (dPar i j da db) := by
  intro f g σ H ρ DD E hK R hd l
  refine h f g σ H ρ _ _ hK R hd fun v H1 g1 ρ1 r R1 G1 V1 q1 => ?_
  obtain ⟨r1, ρ2, e1, q1⟩ := wP_some q1
  obtain ⟨g2, R2, G2, V2, p2⟩ := V1.plain R1 e1
  obtain ⟨g3, R3, hh⟩ := V2.held R2 p2
  refine h' f g3 σ H1 ρ2 _ _ hK R3 q1 fun w H4 g4 ρ4 q R4 G4 V4 q4 => ?_
  obtain ⟨qq, ρ5, e5, q5⟩ := wP_some q4
  obtain ⟨g5, R5, G5, V5, p5⟩ := V4.plain R4 e5
  obtain ⟨g6, R6, G6, V6, hh6⟩ := hh g5 H4 ρ5 R5 (G4.trans G5) (fun i z => by rw [z] at p2; exact p2.elim)
  obtain ⟨W6, n6⟩ := hh6 w qq V5
  refine ⟨by show 2 ≤ sizeLine; rw [sizeLine_eq]; decide, fun p hp => ⟨p, [v, w], rfl, .inl (.inl upd_same), rfl, v, [w], rfl, w, [], rfl, rfl, ?_⟩⟩
  have R7 := V6.put R6 p2 i
  have W7 := W6.putO R6 p2 p5 (fun d e z1 z2 => n6 d e z1 z2) i
  obtain ⟨R9, G9, _⟩ := (W7.put R7 p5 j).new (o := .tup [v, w]) hp
  exact l.nx g6 _ _ _ R9 (((G1.trans G2).trans G6).trans G9) q5
theorem ls_par3T {i j l : Nat} (h : LE K ta da) (h' : LE K tb db) (h'' : LE K tc dc) : LS K (tAsg (tTup (tCons ta (tCons tb (tCons tc tNil)))) (gTup K 3 (gCons (gName i) (gCons (gName j) (gCons (gName l) gNil))))) (dPar3 i j l da db dc) := by
  intro f g σ H ρ DD E hK R hd lk
  refine h f g σ H ρ _ _ hK R hd fun v H1 g1 ρ1 r R1 G1 V1 q1 => ?_
  obtain ⟨r1, ρ2, e1, q1⟩ := wP_some q1
  obtain ⟨g2, R2, G2, V2, p2⟩ := V1.plain R1 e1
  obtain ⟨g3, R3, hh⟩ := V2.held R2 p2
  refine h' f g3 σ H1 ρ2 _ _ hK R3 q1 fun w H4 g4 ρ4 q R4 G4 V4 q4 => ?_
  obtain ⟨qq, ρ5, e5, q5⟩ := wP_some q4
  obtain ⟨g5, R5, G5, V5, p5⟩ := V4.plain R4 e5
  obtain ⟨g6, R6, kk⟩ := V5.held R5 p5
  refine h'' f g6 σ H4 ρ5 _ _ hK R6 q5 fun z H7 g7 ρ7 s R7 G7 V7 q7 => ?_
  obtain ⟨ss, ρ8, e8, q8⟩ := wP_some q7
  obtain ⟨g8, R8, G8, V8, p8⟩ := V7.plain R7 e8
  obtain ⟨g9, R9, G9, V9, kk9⟩ := kk g8 H7 ρ8 R8 (G7.trans G8) (fun i z => by rw [z] at p5; exact p5.elim)
  obtain ⟨W9, n9⟩ := kk9 z ss V8
  obtain ⟨g10, R10, G10, V10, hh10⟩ := hh g9 H7 ρ8 R9 ((G4.trans G5).trans G9) (fun i z => by rw [z] at p2; exact p2.elim)
  obtain ⟨Wb, nb⟩ := hh10 w qq V9
  obtain ⟨Wc, nc⟩ := hh10 z ss W9
  refine ⟨by show 3 ≤ sizeLine; rw [sizeLine_eq]; decide, fun p hp => ⟨p, [v, w, z], rfl, .inl (.inl upd_same), rfl, v, [w, z], rfl, w, [z], rfl, z, [], rfl, rfl, ?_⟩⟩
  have R11 := V10.put R10 p2 i
  have B11 := Wb.putO R10 p2 p5 (fun d e z1 z2 => nb d e z1 z2) i
  have C11 := Wc.putO R10 p2 p8 (fun d e z1 z2 => nc d e z1 z2) i
  have R12 := B11.put R11 p5 j
  have C12 := C11.putO R11 p5 p8 (fun d e z1 z2 => n9 d e z1 z2) j
  obtain ⟨Rn, Gn, _⟩ := (C12.put R12 p8 l).new (o := .tup [v, w, z]) hp
  exact lk.nx g10 _ _ _ Rn (((G1.trans G2).trans G10).trans Gn) q8
end
/-- a comprehension within one -/
theorem look_relabel {env : Env} {y : Str} : ∀ {names : List (Str × NameKind)}, (match names.lookup y with | some .cell => true | some .free => true | _ => false) = true →
    (match (names.map fun (n, k) => if (k == NameKind.free && env.scope.kind == .function && env.kindOf n == some .cell) then (n, NameKind.cell) else (n, k)).lookup y with | some .cell => true | some .free => true | _ => false) = true
  | [], h => h
  | (n, k) :: r, h => by
    have ih := @look_relabel env y r
    rw [List.map_cons]
    cases hx : y == n with
    | true =>
      simp only [List.lookup_cons, hx] at h ⊢
      by_cases q : (k == NameKind.free && env.scope.kind == .function && env.kindOf n == some .cell) = true
      · rw [if_pos q]; simp [List.lookup_cons, hx]
      · rw [if_neg q]; simp only [List.lookup_cons, hx]; exact h
    | false =>
      simp only [List.lookup_cons, hx] at h ⊢
      have e : ∀ (z : Str × NameKind) (l : List (Str × NameKind)), z.1 = n → (z :: l).lookup y = l.lookup y := fun z l e => by
        obtain ⟨z1, z2⟩ := z
        have e : z1 = n := e
        subst e
        rw [List.lookup_cons, hx]
      rw [e _ _ (by split <;> rfl)]
      exact ih h
theorem blkC_relabel {N : List Str} {sc scope : Scope} {own : List (Str × Nat)} {env : Env} (h : blkC N sc scope own = true) : blkC N (relabel sc env) scope own = true := by
  unfold blkC at h ⊢
  rw [Bool.and_eq_true] at h ⊢
  refine ⟨h.1, ?_⟩
  have h2 := h.2
  rw [List.all_eq_true] at h2 ⊢
  intro y hy
  have := h2 y hy
  revert this
  cases y.2 with
  | free => exact fun this => look_relabel this
  | _ => exact fun this => this
theorem blkOk_in {X : Cx} {s : Shared} {H : Hp} {cl : List (Str × Addr)} {C : Addr} {env : Env} {fp : List Addr} {N : List Str} {sc scope : Scope} {own : List (Str × Nat)} (h : blkC N sc scope own = true) : BlkOk N (X.blk s H sc (compEnvC sc cl C env) fp).env.scope scope own := blkOk_by (blkC_relabel h)
theorem mem_rng {lo : Int} {n : Nat} {d : D} (h : d ∈ rngD lo n) : ∃ j : Int, d = .int j ∧ lo ≤ j ∧ j < lo + n := by
  obtain ⟨i, hi, rfl⟩ := List.mem_map.mp h
  rw [List.mem_range] at hi
  exact ⟨_, rfl, by omega, by omega⟩
theorem eqv_strs {a : Str} : PyData.eqv (.str a) (.str a) = true := by simp [PyData.eqv]
/-! ### comprehensions of draws -/
theorem dLcGo_eachI {dg : DG} {de : DE} {vs : List Nat} {Q : Rv → Rho → Prop} (ds : List D) (p : Nat → D → Prop) (I : Rho → Prop) {ρ : Rho} (hl : ds.length ≤ sizeLine) (h0 : I ρ)
    (hs : ∀ (i : Nat) (x : D) (ρ : Rho) (k : D → Rho → Prop), ds[i]? = some x → I ρ → (∀ d ρ', p i d → I ρ' → k d ρ') → dg (.fz x) (wipeR ρ vs) fun ρ1 => de ρ1 fun r ρ3 => wF (frz ρ3 r) fun d ρ4 => k d (bckR ρ ρ4 vs))
    (hd : ∀ (acc : List D) (ρ : Rho), I ρ → acc.length = ds.length → (∀ i d, acc[i]? = some d → p i d) → Q (.nw (.list acc)) ρ) : dLcGo dg dYes de vs Q ds [] ρ := by
  have hu : ∀ (A B : Prop), useB true A B = A := fun A B => propext ⟨useB_t, useB_y rfl⟩
  refine dLcGo_of ds (fun i acc ρ => I ρ ∧ acc.length = i ∧ ∀ j d, acc[j]? = some d → p j d) ⟨h0, rfl, fun j d h => by simp at h⟩ ?_ ?_
  · rintro i x acc ρ k hx ⟨hI, hal, hap⟩ next
    have hi : i < ds.length := (List.getElem?_eq_some_iff.mp hx).1
    have := hs i x ρ (fun d ρ' => acc.length < sizeLine ∧ k (acc ++ [d]) ρ') hx hI fun d ρ' hd hI' => ⟨by omega, next _ _ ⟨hI', by simp; omega, fun j e he => ?_⟩⟩
    · show dg (.fz x) (wipeR ρ vs) fun ρ1 => useB true _ _
      simp only [hu]
      exact this
    · by_cases hj : j < acc.length
      · rw [List.getElem?_append_left hj] at he; exact hap j e he
      · have hlt := (List.getElem?_eq_some_iff.mp he).1
        rw [List.length_append, List.length_singleton] at hlt
        have e1 : j = acc.length := by omega
        subst e1
        rw [List.getElem?_append_right (Nat.le_refl _), Nat.sub_self] at he
        cases he
        rw [hal]; exact hd
  · rintro acc ρ ⟨hI, hal, hap⟩
    exact hd acc ρ hI hal hap
theorem dLcGo_each {dg : DG} {de : DE} {vs : List Nat} {Q : Rv → Rho → Prop} (ds : List D) (p : Nat → D → Prop) {ρ : Rho} (hl : ds.length ≤ sizeLine)
    (hs : ∀ (i : Nat) (x : D) (k : D → Rho → Prop), ds[i]? = some x → (∀ d, p i d → k d ρ) → dg (.fz x) (wipeR ρ vs) fun ρ1 => de ρ1 fun r ρ3 => wF (frz ρ3 r) fun d ρ4 => k d (bckR ρ ρ4 vs))
    (hd : ∀ acc : List D, acc.length = ds.length → (∀ i d, acc[i]? = some d → p i d) → Q (.nw (.list acc)) ρ) : dLcGo dg dYes de vs Q ds [] ρ :=
  dLcGo_eachI ds p (fun ρ' => ρ' = ρ) hl rfl (fun i x ρ' k hx e q => by subst e; exact hs i x k hx fun d hp => q d _ hp rfl) (fun acc ρ' e h1 h2 => by subst e; exact hd acc h1 h2)
theorem maps_of {α : Type} {f : α → D} {p : α → Prop} {acc : List D} (h : ∀ (i : Nat) (d : D), acc[i]? = some d → ∃ b, d = f b ∧ p b) : ∃ bs : List α, acc = bs.map f ∧ bs.length = acc.length ∧ ∀ b ∈ bs, p b := by
  induction acc with
  | nil => exact ⟨[], rfl, rfl, fun _ h => nomatch h⟩
  | cons d acc ih =>
    obtain ⟨b, rfl, hb⟩ := h 0 d rfl
    obtain ⟨bs, rfl, hl, hp⟩ := ih fun i e he => h (i + 1) e (by simpa using he)
    refine ⟨b :: bs, rfl, by simp, fun x hx => ?_⟩
    rcases List.mem_cons.mp hx with rfl | hx
    · exact hb
    · exact hp x hx
theorem bit_of {b : Int} (h1 : 0 ≤ b) (h2 : b < 2) : bit b := by unfold bit; omega
theorem rngLe {n : Nat} (h : n ≤ 16777216) {lo : Int} : (rngD lo n).length ≤ sizeLine := by rw [rngD_length, sizeLine_eq]; exact h
theorem ne_same {a b : Str} (h : a = b) : (true != PyData.eqv (.str a) (.str b)) = false := by rw [h, eqv_strs]; rfl
end DL

set_option Elab.async false
set_option linter.all false
set_option maxRecDepth 100000
set_option maxHeartbeats 4000000
set_option autoImplicit false
namespace DL
open PySem L2
section
variable {K : PySem.W.Frag} {ta tb te : TE} {da db de : DE} {i : Nat}
/-! ### n += e, ints -/
theorem slD_some {ρ : Rho} {d : D} (h : slD ρ[i]? = some d) : ∃ s, ρ[i]? = some (some s) ∧ (s = .sh d ∨ s = .bo d ∨ s = .ow d) := by
  unfold slD at h
  split at h
  · rename_i e; cases h; exact ⟨_, e, .inl rfl⟩
  · rename_i e; cases h; exact ⟨_, e, .inr (.inl rfl)⟩
  · rename_i e; cases h; exact ⟨_, e, .inr (.inr rfl)⟩
  · cases h
def dAugI (i : Nat) (G : Int → Int → Int) (de : DE) : DS := fun DD ρ => wI (slD ρ[i]?) fun n => de ρ fun r ρ1 => wI (res ρ1 r) fun m => DD.nx (ρ1.set i (some (.sh (.int (G n m)))))
theorem ls_augI {G : Int → Int → Int} (h : LE K te de) : LS K (tAug i te (rI0 fun a b => .int (G a b))) (dAugI i G de) := by
  intro f g σ H ρ DD E hK R hd l
  obtain ⟨n, e0, hd⟩ := wI_some hd
  obtain ⟨s, e1, hs⟩ := slD_some e0
  obtain ⟨v, e2, hv⟩ := R.slot i s e1
  have ev := (hv.rn R _ hs).int
  subst ev
  refine ⟨_, e2, ?_⟩
  refine h.opd hK R hd fun u H1 g1 ρ1 r1 R1 G1 O1 q1 => ?_
  obtain ⟨m, e3, q1⟩ := wI_some q1
  have eu := (O1.rn R1 e3).int
  subst eu
  refine ⟨n, m, rfl, rfl, ?_⟩
  exact l.nx g1 _ H1 _ (R1.set (i := i) (v := .int (G n m)) (s := .sh (.int (G n m))) (.int _) (fun d z => nomatch z)) G1 q1
/-! ### xs.pop(j), xs one's own -/
def dPopAt (i : Nat) (de : DE) : DE := fun ρ Q => wA (ownL ρ i) fun _ => de ρ fun r ρ1 => wI (res ρ1 r) fun j => ∃ xs, ρ1[i]? = some (some (.ow (.list xs))) ∧ 0 ≤ j ∧ j < xs.length ∧ xs.length ≤ sizeLine ∧ ∃ d, xs[j.toNat]? = some d ∧ Q (.fz d) (ρ1.set i (some (.ow (.list (xs.eraseIdx j.toNat)))))
theorem RpA.erase {F : Hp} {vs : List V} {ds : List D} (h : RpA K F vs ds) : ∀ n, RpA K F (vs.eraseIdx n) (ds.eraseIdx n) := by
  induction ds generalizing vs with
  | nil => cases h; intro n; exact .nil
  | cons x ds ih =>
    cases h with
    | cons h r =>
      intro n
      cases n with
      | zero => exact r
      | succ n => exact .cons h (ih r n)
theorem le_popAt (h : LE K te de) : LE K (tBM K "list" rPopAt (tVar i) (tCons te tNil)) (dPopAt i de) := by
  intro f g σ H ρ Q R hK hR hd k
  obtain ⟨xs0, e0, hd⟩ := wA_some hd
  obtain ⟨w, e1, a, e2, m, h0, ns, r⟩ := hR.slot i _ (ownL_some e0)
  subst e2
  refine ⟨.ref a, e1, ?_, ?_⟩
  · cases r with | lst h r => exact .inl ⟨rfl, _, .inl (.inl h)⟩
  · refine h.opd hK hR hd fun v H1 g1 ρ1 r1 R1 G1 O1 q1 => ?_
    obtain ⟨j, e3, xs, s2, j0, j1, hl, d, hd, q1⟩ := wI_some q1
    have ev := (O1.rn R1 e3).int
    subst ev
    obtain ⟨w2, e5, a2, e6, m2, h02, ns2, r2⟩ := R1.slot i _ s2
    rw [e1] at e5; cases e5; cases e6
    cases r2 with
    | lst hh rr =>
      obtain ⟨y, ey, ry⟩ := rr.get hd
      have hlen := rr.length
      refine ⟨a, _, j, j.toNat, y, rfl, rfl, hh, by omega, by rw [sizeLine_eq] at hl; omega, ?_, ey, ?_⟩
      · rw [hlen]
        unfold seqIndex?
        rw [if_neg (show ¬ j < 0 by omega)]
        dsimp only
        rw [if_pos (by simp only [Bool.and_eq_true, decide_eq_true_eq]; exact ⟨j0, j1⟩)]
      · obtain ⟨R3, G3⟩ := R1.mutOwn (o := .lst (_)) (d' := .list (xs.eraseIdx j.toNat)) s2 e1 (.lst upd_same (rr.erase j.toNat))
        exact k y _ g1 _ (.fz d) R3 (G1.trans G3) (ry.mono G3.fz) q1
/-! ### list(range(a, b)) -/
theorem rp_rg {F : Hp} (a b : Int) : RpA K F (rgV a b) (rngD a (b - a).toNat) := by
  have e1 : rgV a b = ((List.range (b - a).toNat).map fun (k : Nat) => a + (k : Int)).map V.int := by unfold rgV; rw [List.map_map]; rfl
  have e2 : rngD a (b - a).toNat = ((List.range (b - a).toNat).map fun (k : Nat) => a + (k : Int)).map PyData.int := by unfold rngD; rw [List.map_map]; rfl
  rw [e1, e2]
  exact RpA.of_ints _
def dLstRg (da db : DE) : DE := fun ρ Q => da ρ fun r ρ1 => db ρ1 fun q ρ2 => wI (res ρ2 r) fun a => wI (res ρ2 q) fun b => RgOk a b ∧ Q (.nw (.list (rngD a (b - a).toNat))) ρ2
theorem le_listRg (h : LE K ta da) (h' : LE K tb db) : LE K (tLstRg (tRg2 ta tb)) (dLstRg da db) := by
  intro f g σ H ρ Q R hK hR hd k
  refine h.opd hK hR hd fun v H1 g1 ρ1 r1 R1 G1 O1 q1 => ?_
  refine h'.opd hK R1 q1 fun u H2 g2 ρ2 r2 R2 G2 O2 q2 => ?_
  obtain ⟨a, e1, q2⟩ := wI_some q2
  obtain ⟨b, e2, ok, q2⟩ := wI_some q2
  refine ⟨a, b, ((O1.mono G2).rn R2 e1).int, (O2.rn R2 e2).int, ok, fun p hp => ?_⟩
  obtain ⟨R3, G3, V3⟩ := R2.own (o := .lst (rgV a b)) (d := .list (rngD a (b - a).toNat)) hp (.lst upd_same (rp_rg a b))
  exact k _ _ _ ρ2 _ R3 ((G1.trans G2).trans G3) V3 q2
def dLstRg1 (da : DE) : DE := fun ρ Q => da ρ fun r ρ1 => wI (res ρ1 r) fun b => RgOk 0 b ∧ Q (.nw (.list (rngD 0 (b - 0).toNat))) ρ1
theorem le_listRg1 (h : LE K ta da) : LE K (tLstRg (tRg1 ta)) (dLstRg1 da) := by
  intro f g σ H ρ Q R hK hR hd k
  refine h.opd hK hR hd fun v H1 g1 ρ1 r1 R1 G1 O1 q1 => ?_
  obtain ⟨b, e1, ok, q2⟩ := wI_some q1
  refine ⟨b, (O1.rn R1 e1).int, ok, fun p hp => ?_⟩
  obtain ⟨R3, G3, V3⟩ := R1.own (o := .lst (rgV 0 b)) (d := .list (rngD 0 (b - 0).toNat)) hp (.lst upd_same (rp_rg 0 b))
  exact k _ _ _ ρ1 _ R3 (G1.trans G3) V3 q2
/-! ### isinstance(x, T), T a built-in type -/
def tyN : D → String
  | .none => "NoneType"
  | .bool _ => "bool"
  | .int _ => "int"
  | .str _ => "str"
  | .list _ => "list"
  | .tuple _ => "tuple"
  | .dict _ => "dict"
def isInt' : D → Bool
  | .int _ => true
  | .bool _ => true
  | _ => false
def isBool : D → Bool
  | .bool _ => true
  | _ => false
def isStr : D → Bool
  | .str _ => true
  | _ => false
def isList : D → Bool
  | .list _ => true
  | _ => false
def isTuple : D → Bool
  | .tuple _ => true
  | _ => false
def isDict : D → Bool
  | .dict _ => true
  | _ => false
theorem ki_int (x : D) : kitB (tyN x) "int" = some (isInt' x) := by cases x <;> (simp only [tyN, isInt']; decide +kernel)
theorem ki_bool (x : D) : kitB (tyN x) "bool" = some (isBool x) := by cases x <;> (simp only [tyN, isBool]; decide +kernel)
theorem ki_str (x : D) : kitB (tyN x) "str" = some (isStr x) := by cases x <;> (simp only [tyN, isStr]; decide +kernel)
theorem ki_list (x : D) : kitB (tyN x) "list" = some (isList x) := by cases x <;> (simp only [tyN, isList]; decide +kernel)
theorem ki_tuple (x : D) : kitB (tyN x) "tuple" = some (isTuple x) := by cases x <;> (simp only [tyN, isTuple]; decide +kernel)
theorem ki_dict (x : D) : kitB (tyN x) "dict" = some (isDict x) := by cases x <;> (simp only [tyN, isDict]; decide +kernel)
theorem RN.tyX {F H : Hp} {v : V} {d : D} (e : Same F H) (h : RN K F H v d) : TyX K H v (.type (tyN d)) := by
  cases d with
  | none => have ev := h.non; subst ev; exact .base .non
  | bool b => have ev := h.bool; subst ev; exact .base (.bl b)
  | int b => have ev := h.int; subst ev; exact .base (.int b)
  | str b => have ev := h.str; subst ev; exact .base (.str b)
  | list ds => obtain ⟨a, xs, rfl, e1, _⟩ := h.list e; exact .base (.lst e1)
  | tuple ds => obtain ⟨a, xs, rfl, _, _, e1⟩ := h.tuple e; exact .base (.tup (e _ _ e1))
  | dict es =>
    cases q : isT es with
    | true =>
      obtain ⟨r, rfl⟩ := isT_true q
      obtain ⟨a, kvs, rfl, e1, _⟩ := h.dictT e
      exact .base (.dT e1)
    | false =>
      obtain ⟨a, kvs, rfl, e1, _⟩ := h.dict e q
      exact .base (.dK e1)
def dIsi (p : D → Bool) (da : DE) : DE := fun ρ Q => da ρ fun r ρ1 => wD (res ρ1 r) fun x => Q (.fz (.bool (p x))) ρ1
theorem le_isi {T : String} {p : D → Bool} (hp : ∀ x : D, kitB (tyN x) T = some (p x)) (h : LE K ta da) : LE K (tCB (rIsi K) (tCons ta (tCons (tC (.ty T)) tNil))) (dIsi p da) := by
  intro f g σ H ρ Q R hK hR hd k
  refine h.opd hK hR hd fun v H1 g1 ρ1 r1 R1 G1 O1 q1 => ?_
  obtain ⟨x, e1, q1⟩ := wD_some q1
  subst hK
  exact ⟨v, .ty T, _, _, p x, rfl, .ty T, (O1.rn R1 e1).tyX fz_sub, kit_ty (hp x), k _ H1 g1 ρ1 (.fz (.bool _)) R1 G1 (.bl _) q1⟩
theorem k_isi {X : Cx} (h : X.K = K) : CallR X (.builtin "isinstance") (rIsi K) := by subst h; exact call_isi
end
section
variable {X : Cx} {K : PySem.W.Frag} {o e : Expr} {es : List Expr} {to : TE} {t : TA} {name : Str} {apos cpos : Pos} {T id : String} {r : V → List V → Hp → VK → Prop}
theorem k_bm (h : X.K = K) (pa : PlainAttrs T) (slot : Slot T name id) (hty : typeOf (.builtin id) = pure (.type "method_descriptor")) (hm : MtR X id r) (ho : PE X o to) (ha : PA X (e :: es) t)
    (hbase : attributeBase o name X.env (eval o X.env) = eval o X.env := by rfl)
    (hfew : ((backTo cpos (starEach (e :: es) X.env)).all (fun x => !x.1) && (backToKw cpos (keywordEach [] X.env)).all (fun x => x.1.isSome)
      && decide ((e :: es).length + ([] : List Keyword).length + (if ([] : List Keyword).isEmpty then 0 else 1) < 30)) = true := by rfl)
    (hline : (apos.endLine == cpos.line) = true := by rfl) (hs : starEach (e :: es) X.env = (false, eval e X.env) :: starEach es X.env := by rfl) (hplain : (backTo cpos (starEach es X.env)).any (·.1) = false := by rfl) :
    PE X (.Call (.Attribute o name apos) (e :: es) [] cpos) (tBM K T r to t) := by
  subst h
  exact pe_bm pa slot hty hm ho ha hbase hfew hline hs hplain
end
/-- an element by element list, the slots by an invariant -/
theorem dLcGo_mapI {dg : DG} {de : DE} {vs : List Nat} {Q : Rv → Rho → Prop} (ds : List D) (f : D → D) (I : Rho → Prop) {ρ : Rho} (hl : ds.length ≤ sizeLine) (h0 : I ρ)
    (hs : ∀ (x : D) (ρ : Rho) (k : D → Rho → Prop), x ∈ ds → I ρ → (∀ ρ', I ρ' → k (f x) ρ') → dg (.fz x) (wipeR ρ vs) fun ρ1 => de ρ1 fun r ρ3 => wF (frz ρ3 r) fun d ρ4 => k d (bckR ρ ρ4 vs))
    (hd : ∀ ρ : Rho, I ρ → Q (.nw (.list (ds.map f))) ρ) : dLcGo dg dYes de vs Q ds [] ρ := by
  refine dLcGo_eachI ds (fun i d => ∃ x, ds[i]? = some x ∧ d = f x) I hl h0 (fun i x ρ k hx hI q => hs x ρ k (List.mem_of_getElem? hx) hI fun ρ' h => q _ _ ⟨x, hx, rfl⟩ h) fun acc ρ hI hal hap => ?_
  have e : acc = ds.map f := by
    apply List.ext_getElem?
    intro i
    rw [List.getElem?_map]
    by_cases hi : i < acc.length
    · obtain ⟨x, hx, e⟩ := hap i acc[i] (List.getElem?_eq_getElem hi)
      rw [List.getElem?_eq_getElem hi, hx, e]; rfl
    · rw [List.getElem?_eq_none (by omega), List.getElem?_eq_none (by omega)]; rfl
  rw [e]
  exact hd ρ hI
end DL

set_option Elab.async false
set_option linter.all false
set_option maxRecDepth 100000
set_option maxHeartbeats 4000000
set_option autoImplicit false
namespace DL
open PySem L2
section
variable {K : PySem.W.Frag} {ta tb te tk tv : TE} {da db de dk dv : DE} {i : Nat}
theorem set_same {σ : L2.St} {v : Option V} (h : σ[i]? = some v) : σ.set i v = σ := by
  apply List.ext_getElem?
  intro j
  by_cases e : i = j
  · subst e
    have hl := (List.getElem?_eq_some_iff.mp h).1
    rw [List.getElem?_set_self hl, h]
  · rw [List.getElem?_set_ne e]
/-! ### xs += e, xs.extend(e), xs one's own list -/
def dAugL (i : Nat) (de : DE) : DS := fun DD ρ => wA (ownL ρ i) fun _ => de ρ fun r ρ1 => wA ((res ρ1 r).bind listOf) fun ds => ∃ xs, ρ1[i]? = some (some (.ow (.list xs))) ∧ xs.length + ds.length ≤ sizeLine ∧ DD.nx (ρ1.set i (some (.ow (.list (xs ++ ds)))))
theorem listOf_some {d : D} {ds : List D} (h : listOf d = some ds) : d = .list ds := by
  cases d with
  | list xs => cases h; rfl
  | _ => cases h
theorem bind_list {ρ : Rho} {r : Rv} {ds : List D} (h : (res ρ r).bind listOf = some ds) : res ρ r = some (.list ds) := by
  cases e : res ρ r with
  | none => rw [e] at h; cases h
  | some d => rw [e] at h; rw [listOf_some h]
theorem ls_augL (h : LE K te de) : LS K (tAug i te rExt2) (dAugL i de) := by
  intro f g σ H ρ DD E hK R hd l
  obtain ⟨xs0, e0, hd⟩ := wA_some hd
  obtain ⟨w, e1, a, e2, m, h0, ns, r⟩ := R.slot i _ (ownL_some e0)
  subst e2
  refine ⟨.ref a, e1, ?_⟩
  refine h.opd hK R hd fun v H1 g1 ρ1 r1 R1 G1 O1 q1 => ?_
  obtain ⟨ds, e3, xs, s2, hl, q1⟩ := wA_some q1
  subst hK
  obtain ⟨b, zs, rfl, hb, rz⟩ := (O1.rn R1 (bind_list e3)).list fz_sub
  obtain ⟨w2, e5, a2, e6, m2, h02, ns2, r2⟩ := R1.slot i _ s2
  rw [e1] at e5; cases e5; cases e6
  cases r2 with
  | lst hh rr =>
    refine ⟨a, b, _, zs, rfl, rfl, hh, hb, by rw [rr.length, rz.length]; exact hl, ?_⟩
    obtain ⟨R3, G3⟩ := R1.mutOwn (o := .lst (_ ++ zs)) (d' := .list (xs ++ ds)) s2 e1 (.lst upd_same (rr.append rz))
    rw [set_same e1]
    exact l.nx g1 σ _ _ R3 (G1.trans G3) q1
theorem ls_extL (h : LE K te de) : LS K (tDrop (tBM K "list" rExtend (tVar i) (tCons te tNil))) (dAugL i de) := by
  intro f g σ H ρ DD E hK R hd l
  obtain ⟨xs0, e0, hd⟩ := wA_some hd
  obtain ⟨w, e1, a, e2, m, h0, ns, r⟩ := R.slot i _ (ownL_some e0)
  subst e2
  refine ⟨.ref a, e1, ?_, ?_⟩
  · cases r with | lst h r => exact .inl ⟨rfl, _, .inl (.inl h)⟩
  refine h.opd hK R hd fun v H1 g1 ρ1 r1 R1 G1 O1 q1 => ?_
  obtain ⟨ds, e3, xs, s2, hl, q1⟩ := wA_some q1
  subst hK
  obtain ⟨b, zs, rfl, hb, rz⟩ := (O1.rn R1 (bind_list e3)).list fz_sub
  obtain ⟨w2, e5, a2, e6, m2, h02, ns2, r2⟩ := R1.slot i _ s2
  rw [e1] at e5; cases e5; cases e6
  cases r2 with
  | lst hh rr =>
    refine ⟨a, b, _, zs, rfl, rfl, hh, hb, by rw [rr.length, rz.length]; exact hl, ?_⟩
    obtain ⟨R3, G3⟩ := R1.mutOwn (o := .lst (_ ++ zs)) (d' := .list (xs ++ ds)) s2 e1 (.lst upd_same (rr.append rz))
    exact l.nx g1 σ _ _ R3 (G1.trans G3) q1
/-! ### xs[k] = v, xs one's own list -/
def dSetL (i : Nat) (dk dv : DE) : DS := fun DD ρ => dv ρ fun r ρ1 => wF (frz ρ1 r) fun d ρ2 => (∃ xs, ρ2[i]? = some (some (.ow (.list xs)))) ∧ dk ρ2 fun q ρ3 => wI (res ρ3 q) fun k => ∃ xs, ρ3[i]? = some (some (.ow (.list xs))) ∧ 0 ≤ k ∧ k < xs.length ∧ DD.nx (ρ3.set i (some (.ow (.list (xs.set k.toNat d)))))
theorem ls_setL (h : LE K tk dk) (h' : LE K tv dv) : LS K (tAsg tv (gSub (tVar i) tk rSetL)) (dSetL i dk dv) := by
  intro f g σ H ρ DD E hK R hd l
  refine h'.opd hK R hd fun v H1 g1 ρ1 r1 R1 G1 O1 q1 => ?_
  obtain ⟨d, ρ2, e2, q1⟩ := wF_some q1
  obtain ⟨g2, R2, G2, hv⟩ := O1.frz R1 e2
  obtain ⟨⟨xs0, e0⟩, q1⟩ := q1
  obtain ⟨w, w1, a, wa, m, h0, ns, rr⟩ := R2.slot i _ e0
  subst wa
  refine ⟨.ref a, w1, ?_⟩
  refine h.opd hK R2 q1 fun u H3 g3 ρ3 r3 R3 G3 O3 q3 => ?_
  obtain ⟨k, e3, xs, s4, k0, k1, q3⟩ := wI_some q3
  have eu := (O3.rn R3 e3).int
  subst eu
  obtain ⟨w', w2, a', wa', m', h0', ns', r4⟩ := R3.slot i _ s4
  rw [w1] at w2; cases w2; cases wa'
  cases r4 with
  | lst hh rr =>
    have hlen := rr.length
    refine ⟨a, _, k, k.toNat, rfl, rfl, hh, ?_, ?_⟩
    · unfold ixN
      rw [if_pos k0, if_pos (by omega)]
    · obtain ⟨R5, G5⟩ := R3.mutOwn (o := .lst (_)) (d' := .list (xs.set k.toNat d)) s4 w1 (.lst upd_same (rr.set (hv.mono G3.fz) k.toNat))
      exact l.nx g3 σ _ _ R5 (((G1.trans G2).trans G3).trans G5) q3
/-! ### xs.index(e), flat items -/
def dIndex (da de : DE) : DE := fun ρ Q => da ρ fun r ρ1 => wA ((res ρ1 r).bind listOf) fun _ => de ρ1 fun q ρ2 => wA ((res ρ2 r).bind listOf) fun ds => wD (res ρ2 q) fun e => flatP e = true ∧ ds.all flatP = true ∧ ∃ (j : Nat) (z : D), ds[j]? = some z ∧ PyData.eqv z e = true ∧ (∀ (m : Nat) (z' : D), m < j → ds[m]? = some z' → PyData.eqv z' e = false) ∧ Q (.fz (.int (j : Int))) ρ2
theorem le_index (h : LE K ta da) (h' : LE K te de) : LE K (tBM K "list" (rIndex K) ta (tCons te tNil)) (dIndex da de) := by
  intro f g σ H ρ Q R hK hR hd k
  refine h.opd hK hR hd fun v H1 g1 ρ1 r1 R1 G1 O1 q1 => ?_
  obtain ⟨ds0, e0, q1⟩ := wA_some q1
  subst hK
  obtain ⟨a, ys0, rfl, ha0, _⟩ := (O1.rn R1 (bind_list e0)).list fz_sub
  refine ⟨.inl ⟨rfl, _, .inl (.inl ha0)⟩, ?_⟩
  refine h'.opd rfl R1 q1 fun u H2 g2 ρ2 r2 R2 G2 O2 q2 => ?_
  obtain ⟨ds, e1, q2⟩ := wA_some q2
  obtain ⟨e, e2, fe, fd, j, z, hz, hze, hno, q2⟩ := wD_some q2
  obtain ⟨a', ys, ea, ha, ry⟩ := ((O1.mono G2).rn R2 (bind_list e1)).list fz_sub
  cases ea
  have re := (O2.rn R2 e2).flat fe
  obtain ⟨y, hy, rz⟩ := ry.get hz
  have fz : flatP z = true := List.all_eq_true.mp fd z (List.mem_of_getElem? hz)
  refine ⟨a, ys, u, j, y, rfl, rfl, .inl (.inl ha), flat_of re fe, flatA_of ry fd, hy, by rw [eqV_of rz re fz fe]; exact hze, fun m y' hm hy' => ?_, k _ H2 g2 ρ2 (.fz (.int _)) R2 (G1.trans G2) (.int _) q2⟩
  obtain ⟨z', hz', rz'⟩ := ry.getV hy'
  rw [eqV_of rz' re (List.all_eq_true.mp fd z' (List.mem_of_getElem? hz')) fe]
  exact hno m z' hm hz'
/-! ### sorted(d) of a dict of ints -/
def keysI (es : List (D × D)) : Option (List Int) := intsOf (es.map (·.1))
theorem RpK.keysI {F : Hp} {kvs : List (Key × V)} {es : List (D × D)} (h : RpK K F kvs es) {ns : List Int} (e : keysI es = some ns) : kvs.map (·.1) = ns.map Sum.inl := by
  unfold DL.keysI at e
  induction es generalizing kvs ns with
  | nil => cases h; cases e; rfl
  | cons x es ih =>
    cases h with
    | @cons k0 v0 d0 vs ds h r =>
      cases k0 with
      | inl n =>
        have e : (match intsOf (es.map (·.1)) with | some ms => some (n :: ms) | none => none) = some ns := e
        split at e
        · rename_i ms e2
          cases e
          rw [List.map_cons, List.map_cons, ih r e2]
        · cases e
      | inr x => cases e
def fSortedD : F1 := fun x Q => match x with
  | .list _ => fSorted x Q
  | .dict es => isT es = false ∧ wN (keysI es) fun ns => ns.length < 64 ∧ ∀ ms : List Int, ms.Perm ns → ms.Pairwise (· ≤ ·) → Q (.nw (.list (ms.map PyData.int)))
  | _ => False
def rSortedD (K : PySem.W.Frag) : List V → Hp → VK → Prop := fun xs H Q => rSortedI K xs H Q ∨ ∃ (a : Addr) (kvs : List (Key × V)) (ks : List Int), xs = [.ref a] ∧ Rd H a (.dK kvs) ∧ kvs.map (·.1) = ks.map Sum.inl ∧ ks.length < 64 ∧
    ∀ (ys : List Int) (p : Addr), ys.Perm ks → ys.Pairwise (· ≤ ·) → H p = none → Q (.ref p) (upd H p (.lst (ys.map V.int)))
theorem k_sortedD {X : Cx} (h : X.K = K) (hc : X.calm = true) : CallR X (.builtin "sorted") (rSortedD K) := (k_sorted h).or (call_sortedDI hc)
theorem cl_sortedD : CaL K (rSortedD K) (fA1 fSortedD) := by
  intro f g σ H ρ vs ds Q R hK hR hA hF0 k
  obtain ⟨d, rfl, hF⟩ := fA1_some hF0
  cases d with
  | list xs => exact .inl (cl_sorted f g σ H ρ vs _ Q R hK hR hA (show fA1 fSorted [.list xs] Q from hF) k)
  | dict es =>
    subst hK
    obtain ⟨v, rfl, h⟩ := hA.one
    obtain ⟨nt, hF⟩ := hF
    obtain ⟨ns, e, hl, q⟩ := wN_some hF
    obtain ⟨a, kvs, rfl, e1, r1⟩ := h.dict fz_sub nt
    exact .inr ⟨a, kvs, ns, rfl, .inl e1, r1.keysI e, hl, fun ys p hp hs hn => OEnd.lst k hR (RpA.of_ints ys) (q ys hp hs) p hn⟩
  | none => exact hF.elim
  | bool _ => exact hF.elim
  | int _ => exact hF.elim
  | str _ => exact hF.elim
  | tuple _ => exact hF.elim
end
/-! ### a, b, c, d = .. by way of a tuple -/
section
variable {K : PySem.W.Frag} {ta tb tc td : TE} {da db dc dd : DE}
def dPar4 (i j l m : Nat) (da db dc dd : DE) : DS := fun DD ρ => da ρ fun r ρ1 => wP (plainV ρ1 r) fun r1 ρ2 => db ρ2 fun q ρ3 => wP (plainV ρ3 q) fun q1 ρ4 => dc ρ4 fun s ρ5 => wP (plainV ρ5 s) fun s1 ρ6 => dd ρ6 fun y ρ7 => wP (plainV ρ7 y) fun y1 ρ8 => DD.nx (setR (setR (setR (setR ρ8 i r1) j q1) l s1) m y1)
theorem ls_par4T {i j l m : Nat} (h : LE K ta da) (h' : LE K tb db) (h'' : LE K tc dc) (h4 : LE K td dd) : LS K (tAsg (tTup (tCons ta (tCons tb (tCons tc (tCons td tNil))))) (gTup K 4 (gCons (gName i) (gCons (gName j) (gCons (gName l) (gCons (gName m) gNil)))))) (dPar4 i j l m da db dc dd) := by
  intro f g σ H ρ DD E hK R hd lk
  refine h f g σ H ρ _ _ hK R hd fun v H1 g1 ρ1 r R1 G1 V1 q1 => ?_
  obtain ⟨r1, ρ2, e1, q1⟩ := wP_some q1
  obtain ⟨g2, R2, G2, V2, p2⟩ := V1.plain R1 e1
  obtain ⟨g3, R3, hh⟩ := V2.held R2 p2
  refine h' f g3 σ H1 ρ2 _ _ hK R3 q1 fun w H4 g4 ρ4 q R4 G4 V4 q4 => ?_
  obtain ⟨qq, ρ5, e5, q5⟩ := wP_some q4
  obtain ⟨g5, R5, G5, V5, p5⟩ := V4.plain R4 e5
  obtain ⟨g6, R6, kk⟩ := V5.held R5 p5
  refine h'' f g6 σ H4 ρ5 _ _ hK R6 q5 fun z H7 g7 ρ7 s R7 G7 V7 q7 => ?_
  obtain ⟨ss, ρ8, e8, q8⟩ := wP_some q7
  obtain ⟨g8, R8, G8, V8, p8⟩ := V7.plain R7 e8
  obtain ⟨g9, R9, ll⟩ := V8.held R8 p8
  refine h4 f g9 σ H7 ρ8 _ _ hK R9 q8 fun y Ha ga ρa b Ra Ga Va qa => ?_
  obtain ⟨bb, ρb, eb, qb⟩ := wP_some qa
  obtain ⟨gb, Rb, Gb, Vb, pb⟩ := Va.plain Ra eb
  obtain ⟨gc, Rc, Gc, Vc, ll2⟩ := ll gb Ha ρb Rb (Ga.trans Gb) (fun i z => by rw [z] at p8; exact p8.elim)
  obtain ⟨Wc, nc⟩ := ll2 y bb Vb
  obtain ⟨gd, Rd, Gd, Vd, kk2⟩ := kk gc Ha ρb Rc ((G7.trans G8).trans Gc) (fun i z => by rw [z] at p5; exact p5.elim)
  obtain ⟨Wd, nd1⟩ := kk2 z ss Vc
  obtain ⟨Xd, nd2⟩ := kk2 y bb Wc
  obtain ⟨ge, Re, Ge, Ve, hh2⟩ := hh gd Ha ρb Rd ((G4.trans G5).trans Gd) (fun i z => by rw [z] at p2; exact p2.elim)
  obtain ⟨We, ne1⟩ := hh2 w qq Vd
  obtain ⟨Xe, ne2⟩ := hh2 z ss Wd
  obtain ⟨Ye, ne3⟩ := hh2 y bb Xd
  refine ⟨by show 4 ≤ sizeLine; rw [sizeLine_eq]; decide, fun p hp => ⟨p, [v, w, z, y], rfl, .inl (.inl upd_same), rfl, v, [w, z, y], rfl, w, [z, y], rfl, z, [y], rfl, y, [], rfl, rfl, ?_⟩⟩
  have S1 := Ve.put Re p2 i
  have B1 := We.putO Re p2 p5 (fun d e z1 z2 => ne1 d e z1 z2) i
  have C1 := Xe.putO Re p2 p8 (fun d e z1 z2 => ne2 d e z1 z2) i
  have D1 := Ye.putO Re p2 pb (fun d e z1 z2 => ne3 d e z1 z2) i
  have S2 := B1.put S1 p5 j
  have C2 := C1.putO S1 p5 p8 (fun d e z1 z2 => nd1 d e z1 z2) j
  have D2 := D1.putO S1 p5 pb (fun d e z1 z2 => nd2 d e z1 z2) j
  have S3 := C2.put S2 p8 l
  have D3 := D2.putO S2 p8 pb (fun d e z1 z2 => nc d e z1 z2) l
  obtain ⟨Rn, Gn, _⟩ := (D3.put S3 pb m).new (o := .tup [v, w, z, y]) hp
  exact lk.nx ge _ _ _ Rn (((G1.trans G2).trans Ge).trans Gn) qb
end
/-! ### xs.pop() -/
def dPop (i : Nat) : DE := fun ρ Q => ∃ xs d, ρ[i]? = some (some (.ow (.list (xs ++ [d])))) ∧ Q (.fz d) (ρ.set i (some (.ow (.list xs))))
theorem le_pop {K : PySem.W.Frag} {i : Nat} : LE K (tBM0 K "list" rPop (tVar i)) (dPop i) := by
  intro f g σ H ρ Q R hK hR hd k
  obtain ⟨xs, d, e0, hd⟩ := hd
  obtain ⟨w, e1, a, e2, m, h0, ns, r⟩ := hR.slot i _ e0
  subst e2
  cases r with
  | lst hh rr =>
    rename_i vs
    have hlen := rr.length
    rw [List.length_append, List.length_singleton] at hlen
    obtain ⟨y, ey, ry⟩ := rr.get (i := xs.length) (d := d) (by simp)
    have hdl : RpA f.K (Fz H g.M) vs.dropLast xs := by
      have h1 := rr.take xs.length
      rw [List.take_left] at h1
      rw [List.dropLast_eq_take, show vs.length - 1 = xs.length by omega]
      exact h1
    refine ⟨.ref a, e1, .inl ⟨rfl, _, .inl (.inl hh)⟩, a, _, y, rfl, rfl, hh, by rw [show vs.length - 1 = xs.length by omega]; exact ey, ?_⟩
    obtain ⟨R3, G3⟩ := hR.mutOwn (o := .lst vs.dropLast) (d' := .list xs) e0 e1 (.lst upd_same hdl)
    exact k y _ g _ (.fz d) R3 G3 (ry.mono G3.fz) hd
/-! ### shapes for == -/
structure SH (n : Nat) (d : D) : Prop where
  nd : d.hasDict = false
  cl : PyData.canLay0 d = true
  dp : d.depth ≤ n
structure SHs (n : Nat) (ds : List D) : Prop where
  nd : PyData.hasDictAll ds = false
  cl : PyData.canLayAll0 ds = true
  dp : PyData.depthAll ds ≤ n
theorem SH.int (i : Int) : SH 0 (.int i) := ⟨rfl, rfl, Nat.le_refl _⟩
theorem SH.mono {n m : Nat} {d : D} (h : SH n d) (e : n ≤ m) : SH m d := ⟨h.nd, h.cl, Nat.le_trans h.dp e⟩
theorem SHs.all {n : Nat} {ds : List D} (h : ∀ d ∈ ds, SH n d) : SHs n ds := by
  induction ds with
  | nil => exact ⟨rfl, rfl, by simp [PyData.depthAll]⟩
  | cons d ds ih =>
    have h1 := h d List.mem_cons_self
    have h2 := ih fun x hx => h x (List.mem_cons_of_mem _ hx)
    refine ⟨?_, ?_, ?_⟩
    · simp only [PyData.hasDictAll, h1.nd, h2.nd, Bool.or_self]
    · simp only [PyData.canLayAll0, h1.cl, h2.cl, Bool.and_self]
    · have := h1.dp; have := h2.dp; simp only [PyData.depthAll]; omega
theorem SH.list {n : Nat} {ds : List D} (h : SHs n ds) : SH (n + 1) (.list ds) := ⟨h.nd, h.cl, by have := h.dp; simp only [PyData.depth]; omega⟩
theorem SH.tuple {n : Nat} {ds : List D} (h : SHs n ds) : SH (n + 1) (.tuple ds) := ⟨h.nd, h.cl, by have := h.dp; simp only [PyData.depth]; omega⟩
theorem SHs.ints (ns : List Int) : SHs 0 (ns.map PyData.int) := .all fun d hd => by
  obtain ⟨n, _, rfl⟩ := List.mem_map.mp hd
  exact .int n
theorem SHs.cons {n : Nat} {d : D} {ds : List D} (h1 : SH n d) (h2 : SHs n ds) : SHs n (d :: ds) := by
  refine ⟨?_, ?_, ?_⟩
  · simp only [PyData.hasDictAll, h1.nd, h2.nd, Bool.or_self]
  · simp only [PyData.canLayAll0, h1.cl, h2.cl, Bool.and_self]
  · have := h1.dp; have := h2.dp; simp only [PyData.depthAll]; omega
theorem SHs.nil {n : Nat} : SHs n [] := ⟨rfl, rfl, by simp [PyData.depthAll]⟩
theorem SH.ok {n : Nat} {d : D} (h : SH n d) (hn : n ≤ 64) : eqOk d = true := by
  have h1 := h.nd
  have h2 := h.cl
  have h3 := h.dp
  simp only [eqOk, h1, SeqAt.shaped, h2, Bool.not_false, Bool.true_and, decide_eq_true_eq]
  omega
theorem SH.ok2 {n m : Nat} {d e : D} (h : SH n d) (h' : SH m e) (hn : n ≤ 64) (hm : m ≤ 64) : eqOk2 d e = true := by
  unfold eqOk2
  rw [h.ok hn, h'.ok hm]
  simp
end DL

set_option Elab.async false
set_option linter.all false
set_option maxRecDepth 100000
set_option maxHeartbeats 4000000
set_option autoImplicit false
namespace DL
open PySem L2
/-! ### two new lists told in a list, compared, then changed there -/
section
variable {f : Fr} {g g2 : Gs} {σ : L2.St} {H H2 : Hp} {ρ ρ2 : Rho} {a : Addr} {v : V} {i : Nat} {o : HO} {d : D}
theorem Rel.push (R : Rel f g σ H ρ) (m : g.M a) (ns : NoSrc g a) (u : ∀ (i : Nat) (e : D), ρ[i]? = some (some (.ow e)) → σ[i]? ≠ some (some (.ref a))) : Rel f (g.push a) σ H ρ := by
  refine ⟨R.keep, R.dom, R.m0, R.m00, R.mU, R.src, R.len, R.slot, R.uq, fun b hb => ?_, R.fpM, R.fpn, R.mq⟩
  rcases List.mem_cons.mp hb with rfl | hb
  · exact ⟨m, ns, u⟩
  · exact R.tmp b hb
theorem Rel.pop2 (R : Rel f g2 σ H2 ρ2) (G : Gro (g.push a) H g2 H2) : Rel f ⟨g2.M, g2.src, g.T, g2.fp⟩ σ H2 ρ2 ∧ Gro g H ⟨g2.M, g2.src, g.T, g2.fp⟩ H2 :=
  ⟨⟨R.keep, R.dom, R.m0, R.m00, R.mU, R.src, R.len, R.slot, R.uq, fun b hb => R.tmp b (by rw [G.tm]; exact List.mem_cons_of_mem _ hb), R.fpM, R.fpn, R.mq⟩, G.fz, G.src, rfl, (fun b hb => G.th b (List.mem_cons_of_mem _ hb)), G.fp⟩
theorem Rel.hide (R : Rel f g σ H ρ) : Rel f g (σ.set i (some v)) H (ρ.set i none) := by
  have ow : ∀ (j : Nat) (e : D), (ρ.set i none)[j]? = some (some (.ow e)) → j ≠ i ∧ ρ[j]? = some (some (.ow e)) := fun j e h => by
    rcases getset h with ⟨rfl, z⟩ | ⟨ne, z⟩
    · cases z
    · exact ⟨ne.symm, z⟩
  refine ⟨R.keep, R.dom, R.m0, R.m00, R.mU, R.src, by rw [List.length_set, List.length_set]; exact R.len, fun j s e => ?_, fun j k l d e h1 h2 h3 h4 => ?_, fun b hb => ⟨(R.tmp b hb).1, (R.tmp b hb).2.1, fun j e h1 h2 => ?_⟩, R.fpM, R.fpn, mq_set R.mq (fun _ z => nomatch z)⟩
  · rcases getset e with ⟨rfl, z⟩ | ⟨ne, z⟩
    · cases z
    · obtain ⟨w, e1, h⟩ := R.slot j s z
      exact ⟨w, by rw [List.getElem?_set_ne ne]; exact e1, h⟩
  · obtain ⟨n1, h1⟩ := ow j d h1
    obtain ⟨n2, h2⟩ := ow k e h2
    rw [List.getElem?_set_ne n1.symm] at h3
    rw [List.getElem?_set_ne n2.symm] at h4
    exact R.uq j k l d e h1 h2 h3 h4
  · obtain ⟨n1, h1⟩ := ow j e h1
    rw [List.getElem?_set_ne n1.symm] at h2
    exact (R.tmp b hb).2.2 j e h1 h2
/-- a thing that nothing tells of is changed -/
theorem Rel.mutFree (R : Rel f g σ H ρ) (m : g.M a) (h0 : f.H0 a = none) (ns : NoSrc g a) (ht : a ∉ g.T) (u : ∀ (i : Nat) (e : D), ρ[i]? = some (some (.ow e)) → σ[i]? ≠ some (some (.ref a))) (ho : MuO (some o)) :
    Rel f g σ (upd H a o) ρ ∧ Gro g H g (upd H a o) := by
  have hk : ∀ b o', H b = some o' → b ≠ a → upd H a o b = some o' := fun b o' e n => by rw [upd_ne n]; exact e
  have hG : Same (Fz H g.M) (Fz (upd H a o) g.M) := fz_mono fun b o' e n => ⟨hk b o' e fun q => n (q ▸ m), n⟩
  have hd : ∀ b, upd H a o b = none → H b = none := fun b e => by
    by_cases q : b = a
    · rw [q, upd_same] at e; cases e
    · rw [upd_ne q] at e; exact e
  refine ⟨⟨fun b o' e n => hk b o' (R.keep b o' e n) (fun q => by rw [q, h0] at e; cases e), fun b e => R.dom b (hd b e), R.m0, R.m00, fun b m => by
    by_cases q : b = a
    · rw [q, upd_same]; exact ho
    · rw [upd_ne q]; exact R.mU b m, fun p c e => ?_, R.len, fun j s e => ?_, R.uq, R.tmp, R.fpM, R.fpn, R.mq⟩, ⟨hG, fun _ h => h, rfl, (fun b hb => upd_ne fun q => ht (q ▸ hb)), rfl⟩⟩
  · obtain ⟨h1, h2, h3, h4, h5, h6⟩ := R.src p c e
    exact ⟨h1, h2, h3, h4, h5, srcOk_upd h6 (Ne.symm (ns.1 p c e).1) (Ne.symm (ns.1 p c e).2)⟩
  · obtain ⟨w, e1, q1⟩ := R.slot j s e
    refine ⟨w, e1, ?_⟩
    cases s with
    | sh d => exact Rp.mono hG q1
    | bo d => exact BoV.mono hG q1
    | ow d =>
      obtain ⟨b, e2, m', h0', ns', r⟩ := q1
      refine ⟨b, e2, m', h0', ns', r.mono hG fun o' e' => hk b o' e' fun z => u j d e ?_⟩
      rw [e1, e2, z]
    | src => exact q1
    | scr => exact q1
    | mu m2 =>
      obtain ⟨p, as, e2, e3, r⟩ := q1
      exact ⟨p, as, e2, e3, r.mono hG fun b hb o' e' => hk b o' e' fun z => ns.2 (by rw [e2, ← z]; exact hb)⟩
end
def nwL (r : Rv) (k : List D → Prop) : Prop := ∃ xs, r = .nw (.list xs) ∧ k xs
def dTold2 (i : Nat) (da db : DE) (dr : DF) (de dt : DE) : DS := fun DD ρ => da ρ fun r1 ρ1 => nwL r1 fun d1 => db ρ1 fun r2 ρ2 => nwL r2 fun d2 => dr ρ2 fun ds ρ3 =>
  i < ρ3.length ∧ ds.length + 2 ≤ sizeLine ∧ reprOkP (.list (.list d1 :: .list d2 :: ds)) ∧ de (ρ3.set i none) fun r ρ4 => wD (res ρ4 r) fun y =>
    eqOk2 (.str (PyData.shown (.list (.list d1 :: .list d2 :: ds)))) y = true ∧ useB (true != PyData.eqv (.str (PyData.shown (.list (.list d1 :: .list d2 :: ds)))) y) (dt ρ4 DD.rt) (d1.length < sizeLine ∧ d2.length < sizeLine ∧ DD.nx ρ4)
theorem Rt.lstOf {K : PySem.W.Frag} {F G : Hp} {a : Addr} {ds : List D} (h : Rt K F G a (.list ds)) : ∃ xs, G a = some (.lst xs) ∧ RpA K F xs ds := by
  cases h with
  | lst h r => exact ⟨_, h, r⟩
theorem ls_told2 {K : PySem.W.Frag} {i : Nat} {ta tb te t : TE} {da db de dt : DE} {tr : TA} {dr : DF} (h1 : LE K ta da) (h2 : LE K tb db) (h3 : LF K tr dr) (h4 : LE K te de) (h5 : LE K t dt) :
    LS K (tSeq (tAsg (tLst (tCons ta (tCons tb tr))) (gName i)) (tSeq (tIfS (tTest (tOp (fun x y H Q => rNe x y H Q ∨ rNeD K x y H Q) (tCB (rReprP K) (tCons (tVar i) tNil)) te)) (tRet t) tNext)
      (tSeq (tDrop (tBM K "list" rAppend (tOp (rIx K) (tVar i) (tC (.int 0))) (tCons (tC .non) tNil))) (tDrop (tBM K "list" rAppend (tOp (rIx K) (tVar i) (tC (.int 1))) (tCons (tC .non) tNil)))))) (dTold2 i da db dr de dt) := by
  intro f g σ H ρ DD E hK hR hd l
  subst hK
  refine h1 f g σ H ρ _ _ rfl hR hd fun v1 H1 g1 ρ1 r1 R1 G1 V1 q1 => ?_
  obtain ⟨d1, rfl, q1⟩ := q1
  obtain ⟨a1, rfl, m1, z1, n1, t1, nt1, u1⟩ := V1
  have P1 := R1.push m1 n1 u1
  refine h2 f _ σ H1 ρ1 _ _ rfl P1 q1 fun v2 H2 g2 ρ2 r2 R2 G2 V2 q2 => ?_
  obtain ⟨d2, rfl, q2⟩ := q2
  obtain ⟨a2, rfl, m2, z2, n2, t2, nt2, u2⟩ := V2
  have P2 := R2.push m2 n2 u2
  refine h3 f _ σ H2 ρ2 _ _ rfl P2 q2 fun vs H3 g3 ρ3 ds R3 G3 O3 q3 => ?_
  obtain ⟨hi, hl, hr, q3⟩ := q3
  refine ⟨by show vs.length + 2 ≤ sizeLine; rw [O3.length]; exact hl, fun p hp => ?_⟩
  obtain ⟨R4, G4, e4⟩ := R3.new (o := .lst (.ref a1 :: .ref a2 :: vs)) hp
  have G24 := G3.trans G4
  have R5 := R4.hide (i := i) (v := .ref p)
  have hi' : i < σ.length := by rw [← R3.len]; exact hi
  have hσ : (σ.set i (some (.ref p)))[i]? = some (some (.ref p)) := List.getElem?_set_self hi'
  -- the lists are where they were
  have w1 : upd H3 p (.lst (.ref a1 :: .ref a2 :: vs)) a1 = H1 a1 := by
    rw [← G2.th a1 List.mem_cons_self]
    exact G24.th a1 (List.mem_cons_of_mem _ (by rw [G2.tm]; exact List.mem_cons_self))
  have w2 : upd H3 p (.lst (.ref a1 :: .ref a2 :: vs)) a2 = H2 a2 := G24.th a2 List.mem_cons_self
  have f12 : Same (Fz H1 g1.M) (Fz H2 g2.M) := G2.fz
  have f24 : Same (Fz H2 g2.M) (Fz (upd H3 p (.lst (.ref a1 :: .ref a2 :: vs))) g3.M) := G24.fz
  have rp : Rp f.K (upd H3 p (.lst (.ref a1 :: .ref a2 :: vs))) (.ref p) (.list (.list d1 :: .list d2 :: ds)) := by
    refine .lst (xs := .ref a1 :: .ref a2 :: vs) upd_same (.cons ?_ (.cons ?_ (O3.mono (G4.fz.trans fz_sub))))
    · exact t1.rp ((f12.trans f24).trans fz_sub) fun o e => w1.trans e
    · exact t2.rp (f24.trans fz_sub) fun o e => w2.trans e
  obtain ⟨s1, s2, s3, s4⟩ := hr
  refine ⟨.ref p, hσ, .ref p, .list (.list d1 :: .list d2 :: ds), rfl, ⟨_, Same.refl _, .inl rp⟩, s1, s2, s3, s4, ?_⟩
  refine h4.opd rfl R5 q3 fun v6 H6 g6 ρ6 r6 R6 G6 O6 q6 => ?_
  obtain ⟨y, e6, hq, q6⟩ := wD_some q6
  have G26 := G24.trans G6
  refine ol_ne f g6 _ H6 ρ6 _ v6 _ y (fun r => r = .fz (.bool (true != PyData.eqv (.str (PyData.shown (.list (.list d1 :: .list d2 :: ds)))) y))) _ rfl R6 (.inl (.str _)) (O6.rn R6 e6) ⟨hq, rfl⟩ ?_
  rintro z H7 g7 _ R7 G7 V7 rfl
  obtain rfl := RN.bool (K := f.K) (F := Fz H7 g7.M) (H := H7) (.inl V7)
  refine ⟨_, rfl, ?_⟩
  have G27 := G26.trans G7
  obtain ⟨R8, G8⟩ := R7.pop2 G27
  obtain ⟨R9, G9⟩ := R8.pop2 (g := g1) (a := a1) (G2.trans G8)
  have l9 := l.mono (G1.trans G9)
  cases hb : (true != PyData.eqv (.str (PyData.shown (.list (.list d1 :: .list d2 :: ds)))) y) with
  | true =>
    rw [hb] at q6
    exact h5 f _ _ H7 ρ6 _ _ rfl R9 (useB_t q6) fun v8 H8 g8 ρ8 r8 R8 G8 V8 q8 => l9.rt g8 _ H8 ρ8 v8 r8 R8 G8 V8 q8
  | false =>
    rw [hb] at q6
    obtain ⟨hl1, hl2, q6⟩ := useB_f q6
    have hp7 : H7 p = some (.lst (.ref a1 :: .ref a2 :: vs)) := (of_fz ((G6.trans G7).fz _ _ e4)).1
    obtain ⟨xs1, b1, c1⟩ := t1.lstOf
    obtain ⟨xs2, b2, c2⟩ := t2.lstOf
    have k1 : H7 a1 = some (.lst xs1) := ((G27.th a1 (List.mem_cons_of_mem _ (by rw [G2.tm]; exact List.mem_cons_self))).trans (G2.th a1 List.mem_cons_self)).trans b1
    have k2 : H7 a2 = some (.lst xs2) := (G27.th a2 List.mem_cons_self).trans b2
    have ne12 : a2 ≠ a1 := fun e => nt2 (by rw [G2.tm, e]; exact List.mem_cons_self)
    have hT2 : g7.T = a2 :: g2.T := G27.tm
    have hT1 : g2.T = a1 :: g1.T := G2.tm
    have tm1 := R7.tmp a1 (by rw [hT2, hT1]; exact List.mem_cons_of_mem _ List.mem_cons_self)
    have tm2 := R7.tmp a2 (by rw [hT2]; exact List.mem_cons_self)
    obtain ⟨RA, GA⟩ := R9.mutFree (a := a1) (o := .lst (xs1 ++ [.non])) tm1.1 z1 tm1.2.1 nt1 tm1.2.2 trivial
    obtain ⟨RB, GB⟩ := RA.mutFree (a := a2) (o := .lst (xs2 ++ [.non])) tm2.1 z2 tm2.2.1 (fun z => nt2 (by rw [hT1]; exact List.mem_cons_of_mem _ z)) tm2.2.2 trivial
    have npa1 : p ≠ a1 := fun e => by
      have := (of_fz e4).2
      rw [e] at this
      exact this (R4.tmp a1 (by rw [G3.tm]; exact List.mem_cons_of_mem _ (by rw [hT1]; exact List.mem_cons_self))).1
    refine ⟨.ref p, hσ, ?_⟩
    refine .inl ⟨p, _, 0, .ref a1, rfl, rfl, .inl (.inl hp7), (by simp [atI, ixN, show (0 : Int) < (vs.length : Int) + 1 + 1 by omega]), ?_⟩
    refine ⟨.inl ⟨rfl, _, .inl (.inl k1)⟩, a1, xs1, .non, rfl, rfl, k1, by rw [c1.length]; exact hl1, ?_⟩
    refine ⟨.ref p, hσ, ?_⟩
    refine .inl ⟨p, _, 1, .ref a2, rfl, rfl, .inl (.inl (by rw [upd_ne npa1]; exact hp7)), (by simp [atI, ixN, show (1 : Int) < (vs.length : Int) + 1 + 1 by omega]), ?_⟩
    have k2' : upd H7 a1 (.lst (xs1 ++ [.non])) a2 = some (.lst xs2) := by rw [upd_ne ne12]; exact k2
    refine ⟨.inl ⟨rfl, _, .inl (.inl k2')⟩, a2, xs2, .non, rfl, rfl, k2', by rw [c2.length]; exact hl2, ?_⟩
    exact l9.nx _ _ _ ρ6 RB (GA.trans GB) q6
end DL

set_option Elab.async false
set_option linter.all false
set_option maxRecDepth 100000
set_option maxHeartbeats 4000000
set_option autoImplicit false
namespace DL
open PySem L2
/-! ### what is passed by reference: reading and changing its lists -/
def keyAt : List (Key × List D) → Key → Option Nat
  | [], _ => none
  | e :: es, k => if e.1 = k then some 0 else (keyAt es k).map (· + 1)
theorem keyAt_val {es : List (Key × List D)} {as : List Addr} {k : Key} {n : Nat} (h : keyAt es k = some n) (hl : as.length = es.length) : ∃ a, as[n]? = some a ∧ valV ((es.map (·.1)).zip (as.map V.ref)) k = some (.ref a) := by
  induction es generalizing as n with
  | nil => cases h
  | cons e es ih =>
    cases as with
    | nil => simp at hl
    | cons a as =>
      unfold keyAt at h
      by_cases q : e.1 = k
      · rw [if_pos q] at h
        cases h
        exact ⟨a, rfl, by simp [valV, q]⟩
      · rw [if_neg q] at h
        obtain ⟨m, e1, rfl⟩ := Option.map_eq_some_iff.mp h
        obtain ⟨b, h1, h2⟩ := ih (as := as) e1 (by simpa using hl)
        refine ⟨b, by simpa using h1, ?_⟩
        rw [List.map_cons, List.map_cons, List.zip_cons_cons, valV_neg q]
        exact h2
/-- x[k], x a dict of lists of one's own -/
def dMuGet (i : Nat) (dk : DE) : DE := fun ρ Q => dk ρ fun q ρ1 => wK (res ρ1 q) fun key => ∃ es n, ρ1[i]? = some (some (.mu (.dl es))) ∧ keyAt es key = some n ∧ Q (.mi i n) ρ1
/-- x[k], x a list of lists of one's own -/
def dMuIx (i : Nat) (dk : DE) : DE := fun ρ Q => dk ρ fun q ρ1 => ∃ es n, res ρ1 q = some (.int n) ∧ ρ1[i]? = some (some (.mu (.ll es))) ∧ (0 ≤ n ∧ n < es.length) ∧ Q (.mi i n.toNat) ρ1
section
variable {K : PySem.W.Frag} {tk te to : TE} {dk de do' : DE} {i : Nat} {f : Fr} {g : Gs} {σ : L2.St} {H H' : Hp} {ρ : Rho}
/-- the root's address -/
theorem Rel.muAt {m : MD} (R : Rel f g σ H ρ) (h : ρ[i]? = some (some (.mu m))) : ∃ p as, σ[i]? = some (some (.ref p)) ∧ g.fp = p :: as ∧ Rm f.K (Fz H g.M) H p as m := by
  obtain ⟨w, e1, p, as, e2, rfl, h⟩ := R.slot i _ h
  exact ⟨p, as, e1, e2, h⟩
def isMu (ρ : Rho) (i : Nat) : Bool := match ρ[i]? with
  | some (some (.mu _)) => true
  | _ => false
theorem isMu_some (h : isMu ρ i = true) : ∃ m, ρ[i]? = some (some (.mu m)) := by
  unfold isMu at h
  split at h
  · exact ⟨_, by assumption⟩
  · cases h
def dMuGetV (i : Nat) (dk : DE) : DE := fun ρ Q => isMu ρ i = true ∧ dMuGet i dk ρ Q
def dMuIxV (i : Nat) (dk : DE) : DE := fun ρ Q => isMu ρ i = true ∧ dMuIx i dk ρ Q
theorem le_muGetV (h : LE K tk dk) : LE K (tDGet (tVar i) tk) (dMuGetV i dk) := by
  intro f g σ H ρ Q R hK hR hd k
  obtain ⟨h0, hd⟩ := hd
  obtain ⟨m0, h0⟩ := isMu_some h0
  obtain ⟨p0, as0, e0, f0, _⟩ := hR.muAt h0
  refine ⟨_, e0, ?_⟩
  refine h.opd hK hR hd fun u H1 g1 ρ1 r1 R1 G1 O1 q1 => ?_
  obtain ⟨key, e1, q1⟩ := wK_some q1
  obtain ⟨es, n, h1, h2, q1⟩ := q1
  obtain ⟨p, as, e2, f1, h3, h4⟩ := R1.muAt h1
  rw [e0] at e2; cases e2
  subst hK
  rw [(O1.rn R1 e1).key]
  obtain ⟨a, h5, h6⟩ := keyAt_val h2 (by rw [h4.1, List.length_map])
  refine ⟨p0, .ref a, rfl, .inl ⟨_, key, .inl h3, rfl, h6.symm⟩, ?_⟩
  exact k _ H1 g1 ρ1 (.mi i n) R1 G1 ⟨_, p0, as, a, h1, f1, h5, rfl⟩ q1
theorem le_muIxV (h : LE K tk dk) : LE K (tOp (rIx K) (tVar i) tk) (dMuIxV i dk) := by
  intro f g σ H ρ Q R hK hR hd k
  obtain ⟨h0, hd⟩ := hd
  obtain ⟨m0, h0⟩ := isMu_some h0
  obtain ⟨p0, as0, e0, f0, _⟩ := hR.muAt h0
  refine ⟨_, e0, ?_⟩
  refine h.opd hK hR hd fun u H1 g1 ρ1 r1 R1 G1 O1 q1 => ?_
  obtain ⟨es, n, e1, h1, ⟨n1, n2⟩, q1⟩ := q1
  obtain ⟨p, as, e2, f1, h3, h4⟩ := R1.muAt h1
  rw [e0] at e2; cases e2
  subst hK
  obtain rfl := (O1.rn R1 e1).int
  have hl : as.length = es.length := h4.1
  have hn : n.toNat < as.length := by omega
  refine .inl ⟨p0, _, n, .ref as[n.toNat], rfl, rfl, .inl (.inl h3), ?_, ?_⟩
  · unfold L2.atI ixN
    rw [if_pos n1, if_pos (by rw [List.length_map]; omega)]
    show (as.map V.ref)[n.toNat]? = _
    rw [List.getElem?_map, List.getElem?_eq_getElem hn]
    rfl
  · exact k _ H1 g1 ρ1 (.mi i n.toNat) R1 G1 ⟨_, p0, as, _, h1, f1, List.getElem?_eq_getElem hn, rfl⟩ q1
/-! ### appending -/
theorem nodup_ix {as : List Addr} (h : as.Nodup) {i j : Nat} (hi : i < as.length) (hj : j < as.length) (e : as[i] = as[j]) : i = j := by
  have key : ∀ {a b : Nat} (ha : a < as.length) (hb : b < as.length), a < b → as[a] ≠ as[b] := fun ha hb hab => List.pairwise_iff_getElem.mp h _ _ ha hb hab
  rcases Nat.lt_trichotomy i j with z | z | z
  · exact absurd e (key hi hj z)
  · exact z
  · exact absurd e.symm (key hj hi z)
def putMi (k : Nat) (ds : List D) : MD → MD
  | .fl xs => .fl xs
  | .ll es => .ll (es.set k ds)
  | .dl es => match es[k]? with
    | some e => .dl (es.set k (e.1, ds))
    | none => .dl es
theorem RmA.put {F : Hp} {as : List Addr} {es : List (List D)} {n : Nat} {a : Addr} {ds : List D} {vs : List V} (h : RmA K F H as es) (ha : as[n]? = some a) (hnd : as.Nodup) (hr : RpA K F vs ds) : RmA K F (upd H a (.lst vs)) as (es.set n ds) := by
  refine ⟨by rw [List.length_set]; exact h.1, fun k b es' h1 h2 => ?_⟩
  by_cases e : n = k
  · subst e
    rw [ha] at h1; cases h1
    rcases getset h2 with ⟨_, z⟩ | ⟨z, _⟩
    · rw [z]; exact ⟨vs, upd_same, hr⟩
    · exact absurd rfl z
  · rw [List.getElem?_set_ne e] at h2
    obtain ⟨ws, h3, h4⟩ := h.2 k b es' h1 h2
    refine ⟨ws, ?_, h4⟩
    rw [upd_ne]
    · exact h3
    · rintro rfl
      obtain ⟨hk1, e1⟩ := List.getElem?_eq_some_iff.mp h1
      obtain ⟨hn1, e2⟩ := List.getElem?_eq_some_iff.mp ha
      exact e (nodup_ix hnd hn1 hk1 (e2.trans e1.symm))
theorem Rel.mutMu {m m' : MD} {a : Addr} {o : HO} (R : Rel f g σ H ρ) (hs : ρ[i]? = some (some (.mu m))) (ha : a ∈ g.fp) (hrm : ∀ p as, g.fp = p :: as → Rm f.K (Fz (upd H a o) g.M) (upd H a o) p as m') :
    Rel f g σ (upd H a o) (ρ.set i (some (.mu m'))) ∧ Gro g H g (upd H a o) := by
  have hk : ∀ b o', H b = some o' → NoS g.src b → b ∉ g.fp → upd H a o b = some o' := fun b o' e _ n => by rw [upd_ne (fun (z : b = a) => n (by rw [z]; exact ha))]; exact e
  have hd : ∀ b, upd H a o b = none → H b = none := fun b e => by
    by_cases q : b = a
    · rw [q, upd_same] at e; cases e
    · rw [upd_ne q] at e; exact e
  have hsrc : ∀ p c, g.src = some (p, c) → SrcOk (upd H a o) p c := fun p c e => by
    have := (R.fpM a ha).2.2 p c e
    exact srcOk_upd (R.src p c e).2.2.2.2.2 (Ne.symm this.1) (Ne.symm this.2)
  exact R.stepG (M' := g.M) (fun _ h => h) (fun _ h => .inl h) hs hk hd hsrc hrm
theorem fz_updM {F : Hp} {a : Addr} {o : HO} {M : AP} (m : M a) : Same (Fz H M) (Fz (upd H a o) M) := fz_mono fun b o' e n => ⟨by rw [upd_ne (fun (z : b = a) => n (by rw [z]; exact m))]; exact e, n⟩
def dAppMi (do' de : DE) : DS := fun DD ρ => do' ρ fun r ρ1 => ∃ i n, r = .mi i n ∧ (miD n ρ1[i]?).isSome = true ∧ de ρ1 fun q ρ2 => wF (frz ρ2 q) fun d ρ3 => ∃ m ds, ρ3[i]? = some (some (.mu m)) ∧ miD n (some (some (.mu m))) = some (.list ds) ∧ ds.length < sizeLine ∧ DD.nx (ρ3.set i (some (.mu (putMi n (ds ++ [d]) m))))
theorem ls_appMi (ho : LE K to do') (h : LE K te de) : LS K (tDrop (tBM K "list" rAppend to (tCons te tNil))) (dAppMi do' de) := by
  intro f g σ H ρ DD E hK hR hd l
  refine ho f g σ H ρ _ _ hK hR hd fun x H1 g1 ρ1 r1 R1 G1 V1 q1 => ?_
  obtain ⟨i, n, rfl, hsm, q1⟩ := q1
  obtain ⟨m0, p0, as0, a, hm0, f0, ha0, rfl⟩ := V1
  obtain ⟨d0, hd0⟩ := Option.isSome_iff_exists.mp hsm
  rw [hm0] at hd0
  obtain ⟨ds0, vs0, _, hv0, _⟩ := R1.inner hm0 f0 ha0 hd0
  refine ⟨.inl ⟨rfl, vs0, .inl (.inl hv0)⟩, ?_⟩
  refine h.opd hK R1 q1 fun v H2 g2 ρ2 r2 R2 G2 O2 q2 => ?_
  obtain ⟨d, ρ3, e3, q2⟩ := wF_some q2
  obtain ⟨g3, R3, G3, hv⟩ := O2.frz R2 e3
  obtain ⟨m, ds, hm, hi, hl, q2⟩ := q2
  have f3 : g3.fp = p0 :: as0 := (G3.fp.trans G2.fp).trans f0
  obtain ⟨ds', vs, e4, hh, rr⟩ := R3.inner hm f3 ha0 hi
  cases e4
  have ham : a ∈ g3.fp := by rw [f3]; exact List.mem_cons_of_mem _ (List.mem_of_getElem? ha0)
  have hnd := R3.fpn
  rw [f3] at hnd
  obtain ⟨hp0, hnd⟩ := List.nodup_cons.mp hnd
  have hpa : p0 ≠ a := fun z => hp0 (z ▸ List.mem_of_getElem? ha0)
  have mo := fz_updM (H := H2) (F := H2) (o := .lst (vs ++ [v])) (R3.fpM a ham).1
  have rr2 := (rr.append (.cons hv .nil)).mono mo
  refine ⟨a, vs, v, rfl, rfl, hh, by rw [rr.length]; exact hl, ?_⟩
  obtain ⟨R4, G4⟩ := R3.mutMu (a := a) (o := .lst (vs ++ [v])) (m' := putMi n (ds ++ [d]) m) hm ham (fun p as e => by
    rw [f3] at e; cases e
    obtain ⟨p', as', _, e5, hr⟩ := R3.muAt hm
    rw [f3] at e5; cases e5
    cases m with
    | fl xs => cases hi
    | ll es => exact ⟨by rw [upd_ne hpa]; exact hr.1, (hr.2.mono mo (fun _ _ _ z => z)).put ha0 hnd rr2⟩
    | dl es =>
      simp only [miD] at hi
      obtain ⟨x, e6, e7⟩ := Option.map_eq_some_iff.mp hi
      simp only [putMi, e6]
      have ek : (es.set n (x.1, ds ++ [d])).map (·.1) = es.map (·.1) := by
        rw [List.map_set]
        apply List.ext_getElem?
        intro j
        by_cases ej : n = j
        · subst ej
          have hn := (List.getElem?_eq_some_iff.mp e6).1
          rw [List.getElem?_set_self (by rw [List.length_map]; exact hn), List.getElem?_map, e6]
          rfl
        · rw [List.getElem?_set_ne ej]
      refine ⟨by rw [upd_ne hpa, ek]; exact hr.1, ?_⟩
      have := (hr.2.mono mo (fun _ _ _ z => z)).put ha0 hnd rr2
      rw [List.map_set]
      exact this)
  exact l.nx g3 σ _ _ R4 (((G1.trans G2).trans G3).trans G4) q2
/-- a flat one -/
def dAppFl (i : Nat) (de : DE) : DS := fun DD ρ => isMu ρ i = true ∧ (mrD ρ[i]?).isSome = true ∧ de ρ fun q ρ2 => wF (frz ρ2 q) fun d ρ3 => ∃ ds, ρ3[i]? = some (some (.mu (.fl ds))) ∧ ds.length < sizeLine ∧ DD.nx (ρ3.set i (some (.mu (.fl (ds ++ [d])))))
theorem ls_appFl (h : LE K te de) : LS K (tDrop (tBM K "list" rAppend (tVar i) (tCons te tNil))) (dAppFl i de) := by
  intro f g σ H ρ DD E hK hR hd l
  obtain ⟨h0, hsm, hd⟩ := hd
  obtain ⟨m0, h0⟩ := isMu_some h0
  obtain ⟨ds0, e0⟩ : ∃ ds, m0 = .fl ds := by
    rw [h0] at hsm
    cases m0 with
    | fl ds => exact ⟨ds, rfl⟩
    | _ => cases hsm
  subst e0
  obtain ⟨p, vs0, f0, e0, hv0, _⟩ := hR.flat h0
  refine ⟨_, e0, .inl ⟨rfl, vs0, .inl (.inl hv0)⟩, ?_⟩
  refine h.opd hK hR hd fun v H2 g2 ρ2 r2 R2 G2 O2 q2 => ?_
  obtain ⟨d, ρ3, e3, q2⟩ := wF_some q2
  obtain ⟨g3, R3, G3, hv⟩ := O2.frz R2 e3
  obtain ⟨ds, hm, hl, q2⟩ := q2
  obtain ⟨p', vs, f3, e4, hh, rr⟩ := R3.flat hm
  rw [e0] at e4; cases e4
  have ham : p ∈ g3.fp := by rw [f3]; exact List.mem_cons_self
  have mo := fz_updM (H := H2) (F := H2) (o := .lst (vs ++ [v])) (R3.fpM p ham).1
  refine ⟨p, vs, v, rfl, rfl, hh, by rw [rr.length]; exact hl, ?_⟩
  obtain ⟨R4, G4⟩ := R3.mutMu (a := p) (o := .lst (vs ++ [v])) (m' := .fl (ds ++ [d])) hm ham (fun q as e => by
    rw [f3] at e; cases e
    exact ⟨rfl, _, upd_same, (rr.append (.cons hv .nil)).mono mo⟩)
  exact l.nx g3 σ _ _ R4 ((G2.trans G3).trans G4) q2
end
end DL

set_option Elab.async false
set_option linter.all false
set_option maxRecDepth 100000
set_option maxHeartbeats 4000000
set_option autoImplicit false
namespace DL
open PySem L2
/-! ### the scope of what is passed by reference -/
def killS : Option Sl → Option Sl
  | some (.mu _) => none
  | o => o
def killMu (ρ : Rho) : Rho := ρ.map killS
theorem killMu_get {ρ : Rho} {i : Nat} {s : Sl} (h : (killMu ρ)[i]? = some (some s)) : ρ[i]? = some (some s) ∧ ∀ m, s ≠ .mu m := by
  unfold killMu at h
  rw [List.getElem?_map] at h
  cases e : ρ[i]? with
  | none => rw [e] at h; cases h
  | some o =>
    rw [e] at h
    have h : killS o = some s := Option.some.inj h
    unfold killS at h
    split at h
    · cases h
    · rename_i hn
      subst h
      exact ⟨rfl, fun m z => hn m (by rw [z])⟩
theorem killMu_of {ρ : Rho} {i : Nat} {s : Sl} (h : ρ[i]? = some (some s)) (hn : ∀ m, s ≠ .mu m) : (killMu ρ)[i]? = some (some s) := by
  unfold killMu
  rw [List.getElem?_map, h]
  show some (killS (some s)) = _
  cases s with
  | mu m => exact absurd rfl (hn m)
  | _ => rfl
def noMuR (ρ : Rho) : Bool := ρ.all fun o => match o with
  | some (.mu _) => false
  | _ => true
theorem noMuR_get {ρ : Rho} (h : noMuR ρ = true) {i : Nat} {m : MD} : ρ[i]? ≠ some (some (.mu m)) := fun e => by
  have := List.all_eq_true.mp h _ (List.mem_of_getElem? e)
  cases this
def outR (ρ : Rho) : Rv → Option Rv
  | .mr i => (mrD ρ[i]?).map .nw
  | .mi _ _ => none
  | r => some r
def dOut (DD : DEnds) : DEnds where
  nx ρ := DD.nx (killMu ρ)
  rt r ρ := ∃ r', outR ρ r = some r' ∧ DD.rt r' (killMu ρ)
  bk ρ := DD.bk (killMu ρ)
  ct ρ := DD.ct (killMu ρ)
section
variable {f : Fr} {g g0 : Gs} {σ : L2.St} {H H' : Hp} {ρ : Rho} {v : V} {r r' : Rv} {i : Nat} {m : MD}
theorem Rel.leave (R : Rel f g σ H ρ) (hT : g.T = g0.fp ++ g0.T) (hw : ∀ a ∈ g0.fp, Wr f a) (hn : g0.fp.Nodup) (hdj : ∀ a ∈ g0.T, a ∉ g0.fp) : Rel f ⟨g.M, g.src, g0.T, g0.fp⟩ σ H (killMu ρ) := by
  have inT : ∀ a ∈ g0.fp, a ∈ g.T := fun a h => by rw [hT]; exact List.mem_append_left _ h
  refine ⟨R.keep, R.dom, R.m0, R.m00, R.mU, R.src, by unfold killMu; rw [List.length_map]; exact R.len, fun i s e => ?_, fun i j l d e h1 h2 => R.uq i j l d e (killMu_get h1).1 (killMu_get h2).1, fun a h => ?_, fun a h => ?_, hn, fun i j d e h1 _ => absurd rfl ((killMu_get h1).2 d)⟩
  · obtain ⟨h1, h2⟩ := killMu_get e
    obtain ⟨v, e1, h⟩ := R.slot i s h1
    refine ⟨v, e1, ?_⟩
    cases s with
    | sh d => exact h
    | bo d => exact h
    | ow d =>
      obtain ⟨a, e2, m, h0, ns, r⟩ := h
      exact ⟨a, e2, m, h0, ⟨ns.1, fun z => (R.tmp a (inT a z)).2.2 i d h1 (by rw [e1, e2])⟩, r⟩
    | src => exact h
    | scr => exact h
    | mu m => exact absurd rfl (h2 m)
  · have ha : a ∈ g.T := by rw [hT]; exact List.mem_append_right _ h
    obtain ⟨h1, h2, h3⟩ := R.tmp a ha
    refine ⟨h1, ⟨h2.1, hdj a h⟩, fun j e h4 => h3 j e (killMu_get h4).1⟩
  · obtain ⟨h1, h2, _⟩ := R.tmp a (inT a h)
    exact ⟨h1, hw a h, h2.1⟩
theorem VR.leave (R : Rel f g σ H ρ) (hT : g.T = g0.fp ++ g0.T) (hz : ∀ a ∈ g.fp, f.H0 a = none) (V : VR f g σ H ρ v r) (e : outR ρ r = some r') : VR f ⟨g.M, g.src, g0.T, g0.fp⟩ σ H (killMu ρ) v r' := by
  have inT : ∀ a ∈ g0.fp, a ∈ g.T := fun a h => by rw [hT]; exact List.mem_append_left _ h
  have inT2 : ∀ a ∈ g0.T, a ∈ g.T := fun a h => by rw [hT]; exact List.mem_append_right _ h
  cases r with
  | fz d => cases e; exact V
  | nw d =>
    cases e
    obtain ⟨a, rfl, m, h0, ns, r, t, u⟩ := V
    exact ⟨a, rfl, m, h0, ⟨ns.1, fun z => t (inT a z)⟩, r, fun z => t (inT2 a z), fun j e h => u j e (killMu_get h).1⟩
  | vr i =>
    cases e
    obtain ⟨s, h1, h2, h3⟩ := V
    exact ⟨s, killMu_of h1 (fun m z => by rw [z] at h2; exact h2), h2, h3⟩
  | src => cases e; exact V
  | scr => cases e; exact V
  | mi _ _ => cases e
  | mr i =>
    have e : (mrD ρ[i]?).map Rv.nw = some r' := e
    obtain ⟨d, e1, rfl⟩ := Option.map_eq_some_iff.mp e
    obtain ⟨m, h1, h2⟩ := V
    rw [h1] at e1
    cases m with
    | fl ds =>
      cases e1
      obtain ⟨p, vs, f1, e2, h3, h4⟩ := R.flat h1
      rw [h2] at e2; cases e2
      have hp : p ∈ g.fp := by rw [f1]; exact List.mem_cons_self
      have nT : p ∉ g.T := fun z => (R.tmp p z).2.1.2 hp
      refine ⟨p, rfl, (R.fpM p hp).1, hz p hp, ⟨(R.fpM p hp).2.2, fun z => nT (inT p z)⟩, .lst h3 h4, fun z => nT (inT2 p z), fun j e h5 h6 => ?_⟩
      obtain ⟨w, e3, b, e4, _, _, ns, _⟩ := R.slot j _ (killMu_get h5).1
      rw [h6] at e3; cases e3; cases e4
      exact ns.2 hp
    | _ => cases e1
theorem Rel.enter {nf : List Addr} {M' : AP} {p : Addr} {as : List Addr} (R : Rel f g σ H ρ) (hnm : noMuR ρ = true) (hi : i < ρ.length) (hM1 : ∀ a, g.M a → M' a) (hM2 : ∀ a, M' a → g.M a ∨ a ∈ nf)
    (hnf : ∀ a ∈ nf, M' a ∧ f.H0 a = none ∧ NoSrc g a ∧ a ∉ g.T ∧ (∀ j e, ρ[j]? = some (some (.ow e)) → j ≠ i → σ[j]? ≠ some (some (.ref a))) ∧ (¬ g.M a → H a = none)) (hnd : nf.Nodup)
    (hk : ∀ a o, H a = some o → H' a = some o) (hd : ∀ a, H' a = none → H a = none) (enf : nf = p :: as) (hrm : Rm f.K (Fz H' M') H' p as m) :
    Rel f ⟨M', g.src, g.fp ++ g.T, nf⟩ (σ.set i (some (.ref p))) H' (ρ.set i (some (.mu m))) ∧ Same (Fz H g.M) (Fz H' M') := by
  have hG : Same (Fz H g.M) (Fz H' M') := fz_mono fun a o e n => ⟨hk a o e, fun z => (hM2 a z).elim n fun z => by rw [(hnf a z).2.2.2.2.2 n] at e; cases e⟩
  have ow : ∀ (j : Nat) (e : D), (ρ.set i (some (.mu m)))[j]? = some (some (.ow e)) → j ≠ i ∧ ρ[j]? = some (some (.ow e)) := fun j e h => by
    rcases getset h with ⟨_, z⟩ | ⟨ne, z⟩
    · cases z
    · exact ⟨ne.symm, z⟩
  have onT : ∀ a, g.M a → (∀ (j : Nat) (e : D), ρ[j]? = some (some (.ow e)) → σ[j]? ≠ some (some (.ref a))) → ∀ (j : Nat) (e : D), (ρ.set i (some (.mu m)))[j]? = some (some (.ow e)) → (σ.set i (some (.ref p)))[j]? ≠ some (some (.ref a)) := fun a _ h j e h1 => by
    obtain ⟨n, h2⟩ := ow j e h1
    rw [List.getElem?_set_ne n.symm]
    exact h j e h2
  refine ⟨⟨fun a o e n => hk a o (R.keep a o e n), fun a e => R.dom a (hd a e), fun a m => hM1 a (R.m0 a m), R.m00, fun a z => ?_, fun q c e => ?_, by rw [List.length_set, List.length_set]; exact R.len, fun j s e => ?_, fun j k l d e h1 h2 h3 h4 => ?_, fun a h => ?_, fun a h => ⟨(hnf a h).1, .inr (hnf a h).2.1, (hnf a h).2.2.1.1⟩, hnd, fun j k d e h1 h2 => ?_⟩, hG⟩
  · rcases hM2 a z with z | z
    · have h := R.mU a z
      cases e : H a with
      | none => rw [e] at h; exact h.elim
      | some o => rw [hk a o e, ← e]; exact h
    · exact hrm.mu a (enf ▸ z)
  · obtain ⟨h1, h2, h3, h4, h5, ns, l, m, t, more, e1, e2, r⟩ := R.src q c e
    exact ⟨h1, hM1 _ h2, hM1 _ h3, h4, h5, ns, l, m, t, more, hk _ _ e1, hk _ _ e2, r⟩
  · rcases getset e with ⟨rfl, z⟩ | ⟨ne, z⟩
    · cases z
      exact ⟨.ref p, List.getElem?_set_self (by rw [← R.len]; exact hi), p, as, enf, rfl, hrm⟩
    · obtain ⟨w, e1, h⟩ := R.slot j s z
      refine ⟨w, by rw [List.getElem?_set_ne ne]; exact e1, ?_⟩
      cases s with
      | sh d => exact Rp.mono hG h
      | bo d => exact BoV.mono hG h
      | ow d =>
        obtain ⟨a, e2, m, h0, ns, r⟩ := h
        exact ⟨a, e2, hM1 a m, h0, ⟨ns.1, fun z2 => (hnf a z2).2.2.2.2.1 j d z ne.symm (by rw [e1, e2])⟩, r.mono hG fun o e => hk a o e⟩
      | src => exact h
      | scr => exact h
      | mu m2 => exact absurd z (noMuR_get hnm)
  · obtain ⟨n1, h1⟩ := ow j d h1
    obtain ⟨n2, h2⟩ := ow k e h2
    rw [List.getElem?_set_ne n1.symm] at h3
    rw [List.getElem?_set_ne n2.symm] at h4
    exact R.uq j k l d e h1 h2 h3 h4
  · rcases List.mem_append.mp h with h | h
    · have hm := (R.fpM a h).1
      refine ⟨hM1 a hm, ⟨(R.fpM a h).2.2, fun z => (hnf a z).2.2.1.2 h⟩, onT a hm fun j e h1 h2 => ?_⟩
      obtain ⟨w, e3, b, e4, _, _, ns, _⟩ := R.slot j _ h1
      rw [h2] at e3; cases e3; cases e4
      exact ns.2 h
    · obtain ⟨h1, h2, h3⟩ := R.tmp a h
      exact ⟨hM1 a h1, ⟨h2.1, fun z => (hnf a z).2.2.2.1 h⟩, onT a h1 h3⟩
  · have one : ∀ (j : Nat) (d : MD), (ρ.set i (some (.mu m)))[j]? = some (some (.mu d)) → j = i := fun j d h => by
      rcases getset h with ⟨z, _⟩ | ⟨_, z⟩
      · exact z.symm
      · exact absurd z (noMuR_get hnm)
    rw [one j d h1, one k e h2]
/-- the rest, run in the scope -/
theorem scope_run {K : PySem.W.Frag} {t : TS} {d : DS} {nf : List Addr} {M' : AP} {σ' : L2.St} {ρ' : Rho} {DD : DEnds} {E : Ends} (h : LS K t d) (hK : f.K = K) (R : Rel f g σ H ρ)
    (R1 : Rel f ⟨M', g.src, g.fp ++ g.T, nf⟩ σ' H' ρ') (S1 : Same (Fz H g.M) (Fz H' M')) (hk : ∀ a o, H a = some o → H' a = some o) (hz : ∀ a ∈ nf, f.H0 a = none) (l : LkE f g H DD E) (hd : d (dOut DD) ρ') : t E σ' H' := by
  have lv : ∀ (g2 : Gs) (σ2 : L2.St) (H2 : Hp) (ρ2 : Rho), Rel f g2 σ2 H2 ρ2 → Gro ⟨M', g.src, g.fp ++ g.T, nf⟩ H' g2 H2 → Rel f ⟨g2.M, g2.src, g.T, g.fp⟩ σ2 H2 (killMu ρ2) ∧ Gro g H ⟨g2.M, g2.src, g.T, g.fp⟩ H2 := fun g2 σ2 H2 ρ2 R2 G2 => by
    refine ⟨R2.leave (g0 := g) G2.tm (fun a h => (R.fpM a h).2.1) R.fpn (fun a h => (R.tmp a h).2.1.2), S1.trans G2.fz, G2.src, rfl, fun a h => ?_, rfl⟩
    have e1 : H2 a = H' a := G2.th a (List.mem_append_right _ h)
    cases e : H a with
    | none => exact absurd (R.tmp a h).1 (R.mH a e)
    | some o => rw [e1, hk a o e]
  refine h f _ σ' H' ρ' (dOut DD) E hK R1 hd ⟨fun g2 σ2 H2 ρ2 R2 G2 q => ?_, fun g2 σ2 H2 ρ2 v r R2 G2 V2 q => ?_, fun g2 σ2 H2 ρ2 R2 G2 q => ?_, fun g2 σ2 H2 ρ2 R2 G2 q => ?_⟩
  · obtain ⟨A, B⟩ := lv g2 σ2 H2 ρ2 R2 G2
    exact l.nx _ σ2 H2 _ A B q
  · obtain ⟨A, B⟩ := lv g2 σ2 H2 ρ2 R2 G2
    obtain ⟨r', e, q⟩ := q
    exact l.rt _ σ2 H2 _ v r' A B (V2.leave R2 (g0 := g) G2.tm (fun a h => hz a (by rw [← (show g2.fp = nf from G2.fp)]; exact h)) e) q
  · obtain ⟨A, B⟩ := lv g2 σ2 H2 ρ2 R2 G2
    exact l.bk _ σ2 H2 _ A B q
  · obtain ⟨A, B⟩ := lv g2 σ2 H2 ρ2 R2 G2
    exact l.ct _ σ2 H2 _ A B q
/-- a list of one's own is passed by reference from here on -/
def dScope (i : Nat) (d : DS) : DS := fun DD ρ => noMuR ρ = true ∧ ∃ ds, ρ[i]? = some (some (.ow (.list ds))) ∧ d (dOut DD) (ρ.set i (some (.mu (.fl ds))))
theorem ls_scope {K : PySem.W.Frag} {t : TS} {d : DS} (i : Nat) (h : LS K t d) : LS K t (dScope i d) := by
  intro f g σ H ρ DD E hK R hd l
  obtain ⟨hnm, ds, hs, hd⟩ := hd
  obtain ⟨w, e1, a, rfl, m, h0, ns, r⟩ := R.slot i _ hs
  have hi : i < ρ.length := (List.getElem?_eq_some_iff.mp hs).1
  cases r with
  | lst hh rr =>
    obtain ⟨R1, S1⟩ := R.enter (H' := H) (nf := [a]) (M' := g.M) (p := a) (as := []) (m := .fl ds) hnm hi (fun _ h => h) (fun _ h => .inl h)
      (fun b hb => by
        rw [List.mem_singleton.mp hb]
        exact ⟨m, h0, ns, fun z => (R.tmp a z).2.2 i _ hs e1, fun j e h1 h2 h3 => h2 (R.uq j i a e _ h1 hs h3 e1), fun n => absurd m n⟩)
      (by simp) (fun _ _ h => h) (fun _ h => h) rfl ⟨rfl, _, hh, rr⟩
    rw [set_same e1] at R1
    exact scope_run h hK R R1 S1 (fun _ _ h => h) (fun b hb => by rw [List.mem_singleton.mp hb]; exact h0) l hd
/-- x = {"a": [], "b": []}, passed by reference from here on -/
def dMuDisp (i : Nat) (x1 x2 : Str) (d : DS) : DS := fun DD ρ => noMuR ρ = true ∧ i < ρ.length ∧ x1 ≠ x2 ∧ d (dOut DD) (ρ.set i (some (.mu (.dl [(Sum.inr x1, []), (Sum.inr x2, [])]))))
theorem ls_muDisp {K : PySem.W.Frag} {t : TS} {d : DS} {i : Nat} {x1 x2 : Str} (h : LS K t d) : LS K (tSeq (tAsg (tDisp [(tC (.str x1), tLst tNil), (tC (.str x2), tLst tNil)]) (gName i)) t) (dMuDisp i x1 x2 d) := by
  intro f g σ H ρ DD E hK R hd l
  obtain ⟨hnm, hi, hx, hd⟩ := hd
  intro p hp
  refine ⟨Nat.zero_le _, fun a1 h1 => ⟨Nat.zero_le _, fun a2 h2 => ?_⟩⟩
  have n1 : a1 ≠ p := fun z => by rw [z, upd_same] at h1; cases h1
  have h1' : H a1 = none := by rw [upd_ne n1] at h1; exact h1
  have n2 : a2 ≠ a1 := fun z => by rw [z, upd_same] at h2; cases h2
  have n3 : a2 ≠ p := fun z => by rw [upd_ne n2, z, upd_same] at h2; cases h2
  have h2' : H a2 = none := by rw [upd_ne n2, upd_ne n3] at h2; exact h2
  refine ⟨by rw [upd_ne n3.symm, upd_ne n1.symm, upd_same], [(Sum.inr x1, .ref a1), (Sum.inr x2, .ref a2)], rfl, (show 2 ≤ 15 by decide), ?_⟩
  have em : mergeK [] [((Sum.inr x1 : Key), V.ref a1), (Sum.inr x2, .ref a2)] = [(Sum.inr x1, .ref a1), (Sum.inr x2, .ref a2)] := by
    simp [mergeK, putK, hx]
  rw [em]
  have fresh : ∀ a ∈ [p, a1, a2], H a = none := fun a ha => by
    simp only [List.mem_cons, List.mem_nil_iff, or_false] at ha
    rcases ha with rfl | rfl | rfl <;> assumption
  have nofp : ∀ a, H a = none → NoSrc g a ∧ a ∉ g.T := fun a e => ⟨⟨fun q c hq => ⟨fun z => R.mH a e (z ▸ (R.src q c hq).2.1), fun z => R.mH a e (z ▸ (R.src q c hq).2.2.1)⟩, fun z => R.mH a e (R.fpM a z).1⟩, fun z => R.mH a e (R.tmp a z).1⟩
  have hk : ∀ a o, H a = some o → upd (upd (upd (upd H p (.dK [])) a1 (.lst [])) a2 (.lst [])) p (.dK [(Sum.inr x1, .ref a1), (Sum.inr x2, .ref a2)]) a = some o := fun a o e => by
    rw [upd_ne (ne_of_none e hp), upd_ne (ne_of_none e h2'), upd_ne (ne_of_none e h1'), upd_ne (ne_of_none e hp)]; exact e
  obtain ⟨R1, S1⟩ := R.enter (H' := upd (upd (upd (upd H p (.dK [])) a1 (.lst [])) a2 (.lst [])) p (.dK [(Sum.inr x1, .ref a1), (Sum.inr x2, .ref a2)])) (nf := [p, a1, a2]) (M' := fun a => g.M a ∨ a ∈ [p, a1, a2]) (p := p) (as := [a1, a2])
    (m := .dl [(Sum.inr x1, []), (Sum.inr x2, [])]) hnm hi (fun _ h => .inl h) (fun _ h => h)
    (fun b hb => ⟨.inr hb, R.dom b (fresh b hb), (nofp b (fresh b hb)).1, (nofp b (fresh b hb)).2, (fun j e h1 _ h3 => by
      obtain ⟨w, e3, c, e4, _, _, _, r⟩ := R.slot j _ h1
      rw [h3] at e3; cases e3; cases e4
      obtain ⟨o, e5⟩ := r.there
      rw [fresh b hb] at e5; cases e5), fun _ => fresh b hb⟩)
    (by
      refine List.nodup_cons.mpr ⟨?_, List.nodup_cons.mpr ⟨?_, by simp⟩⟩
      · simp only [List.mem_cons, List.mem_nil_iff, or_false, not_or]; exact ⟨n1.symm, n3.symm⟩
      · simp only [List.mem_cons, List.mem_nil_iff, or_false]; exact n2.symm)
    hk (fun a e => by
      by_cases q1 : a = p
      · rw [q1]; exact hp
      · rw [upd_ne q1] at e
        by_cases q2 : a = a2
        · rw [q2]; exact h2'
        · rw [upd_ne q2] at e
          by_cases q3 : a = a1
          · rw [q3]; exact h1'
          · rw [upd_ne q3, upd_ne q1] at e; exact e) rfl
    ⟨upd_same, rfl, fun k a ds e1 e2 => by
      match k with
      | 0 => cases e1; cases e2; exact ⟨[], by rw [upd_ne n1, upd_ne n2.symm, upd_same], .nil⟩
      | 1 => cases e1; cases e2; exact ⟨[], by rw [upd_ne n3, upd_same], .nil⟩
      | (k + 2) => simp at e1⟩
  exact scope_run h hK R R1 S1 hk (fun b hb => R.dom b (fresh b hb)) l hd
/-! ### read alone for a while -/
def mdD : MD → D
  | .fl ds => .list ds
  | .ll es => .list (es.map .list)
  | .dl es => .dict (es.map fun e => (keyD e.1, .list e.2))
def scalP : D → Bool
  | .none => true
  | .bool _ => true
  | .int _ => true
  | .str _ => true
  | _ => false
theorem Rp.scal {K : PySem.W.Frag} {F F' : Hp} {v : V} {d : D} (h : Rp K F v d) (hd : scalP d = true) : Rp K F' v d := by
  cases h with
  | non => exact .non
  | bl b => exact .bl b
  | int i => exact .int i
  | str s => exact .str s
  | _ => cases hd
theorem RpA.scal {K : PySem.W.Frag} {F F' : Hp} {vs : List V} {ds : List D} (h : RpA K F vs ds) (hd : ds.all scalP = true) : RpA K F' vs ds := by
  induction ds generalizing vs with
  | nil => cases h; exact .nil
  | cons d ds ih =>
    cases h with
    | cons h r =>
      obtain ⟨h1, h2⟩ := Bool.and_eq_true_iff.mp (by simpa using hd : (scalP d && ds.all scalP) = true)
      exact .cons (h.scal h1) (ih r h2)
def scalR : Rv → Bool
  | .fz d => scalP d
  | .nw (.list ds) => ds.all scalP
  | _ => false
def hideS : Option Sl → Option Sl
  | some (.ow _) => none
  | o => o
def hideOw (ρ : Rho) : Rho := ρ.map hideS
theorem hideOw_get {ρ : Rho} {i : Nat} {s : Sl} (h : (hideOw ρ)[i]? = some (some s)) : ρ[i]? = some (some s) ∧ ∀ d, s ≠ .ow d := by
  unfold hideOw at h
  rw [List.getElem?_map] at h
  cases e : ρ[i]? with
  | none => rw [e] at h; cases h
  | some o =>
    rw [e] at h
    have h : hideS o = some s := Option.some.inj h
    unfold hideS at h
    split at h
    · cases h
    · rename_i hn
      subst h
      exact ⟨rfl, fun m z => hn m (by rw [z])⟩
def owA1 : Option (Option Sl) → Option (Option V) → Option Addr
  | some (some (.ow _)), some (some (.ref a)) => some a
  | _, _ => none
def owA (σ : L2.St) (ρ : Rho) : List Addr := (List.range ρ.length).filterMap fun j => owA1 ρ[j]? σ[j]?
theorem owA_mem {σ : L2.St} {ρ : Rho} {a : Addr} : a ∈ owA σ ρ ↔ ∃ (j : Nat) (d : D), ρ[j]? = some (some (.ow d)) ∧ σ[j]? = some (some (.ref a)) := by
  unfold owA
  rw [List.mem_filterMap]
  constructor
  · rintro ⟨j, _, h⟩
    unfold owA1 at h
    split at h
    · rename_i d b h1 h2
      cases h
      exact ⟨j, d, h1, h2⟩
    · cases h
  · rintro ⟨j, d, h1, h2⟩
    refine ⟨j, List.mem_range.mpr (List.getElem?_eq_some_iff.mp h1).1, ?_⟩
    rw [h1, h2]; rfl
def dFrzMu (i : Nat) (d : DE) : DE := fun ρ Q => ∃ m, ρ[i]? = some (some (.mu m)) ∧ d ((hideOw ρ).set i (some (.sh (mdD m)))) fun r _ => scalR r = true ∧ Q r ρ
theorem Rm.rp {K : PySem.W.Frag} {F F' : Hp} {p : Addr} {as : List Addr} (h : Rm K F H p as m) (e : Same F F') (e' : ∀ a ∈ p :: as, ∀ o, H a = some o → F' a = some o) : Rp K F' (.ref p) (mdD m) := by
  have inn : ∀ {as : List Addr} {es : List (List D)}, (∀ a ∈ as, ∀ o, H a = some o → F' a = some o) → RmA K F H as es → RpA K F' (as.map V.ref) (es.map .list) := by
    intro as
    induction as with
    | nil =>
      intro es _ h
      have : es = [] := List.length_eq_zero_iff.mp h.1.symm
      rw [this]; exact .nil
    | cons a as ih =>
      intro es e2 h
      cases es with
      | nil => have := h.1; simp at this
      | cons x es =>
        obtain ⟨vs, h1, h2⟩ := h.2 0 a x rfl rfl
        exact .cons (.lst (e2 a List.mem_cons_self _ h1) (h2.mono e)) (ih (fun b hb => e2 b (List.mem_cons_of_mem _ hb)) ⟨by simpa using h.1, fun k b ds h3 h4 => h.2 (k + 1) b ds (by simpa using h3) (by simpa using h4)⟩)
  have ep := e' p List.mem_cons_self
  have ea : ∀ a ∈ as, ∀ o, H a = some o → F' a = some o := fun a h => e' a (List.mem_cons_of_mem _ h)
  cases m with
  | fl ds =>
    obtain ⟨_, vs, h1, h2⟩ := h
    exact .lst (ep _ h1) (h2.mono e)
  | ll es => exact .lst (ep _ h.1) (inn ea h.2)
  | dl es =>
    refine .dic (ep _ h.1) ?_
    have hr := inn ea h.2
    have hl : as.length = es.length := by have := h.2.1; rwa [List.length_map] at this
    clear h e' ep ea
    induction es generalizing as with
    | nil => exact .nil
    | cons x es ih =>
      cases as with
      | nil => simp at hl
      | cons a as =>
        cases hr with
        | cons h1 h2 => exact .cons h1 (ih h2 (by simpa using hl))
theorem le_frzMu {K : PySem.W.Frag} {t : TE} {d : DE} {i : Nat} (h : LE K t d) : LE K t (dFrzMu i d) := by
  intro f g σ H ρ Q R hK hR hd k
  obtain ⟨m, hs, hd⟩ := hd
  obtain ⟨p, as, e0, f0, hrm⟩ := hR.muAt hs
  have hi : i < ρ.length := (List.getElem?_eq_some_iff.mp hs).1
  have S0 : Same (Fz H g.M) (Fz H fun a => g.M a ∧ a ∉ g.fp) := fz_mono fun a o e n => ⟨e, fun z => n z.1⟩
  have sl : ∀ (j : Nat) (s : Sl), ((hideOw ρ).set i (some (.sh (mdD m))))[j]? = some (some s) → (j = i ∧ s = .sh (mdD m)) ∨ (ρ[j]? = some (some s) ∧ (∀ d, s ≠ .ow d) ∧ ∀ m, s ≠ .mu m) := fun j s e => by
    rcases getset e with ⟨rfl, z⟩ | ⟨ne, z⟩
    · cases z; exact .inl ⟨rfl, rfl⟩
    · obtain ⟨h1, h2⟩ := hideOw_get z
      exact .inr ⟨h1, h2, fun m2 z2 => ne (hR.mq i j _ m2 hs (z2 ▸ h1))⟩
  have noOw : ∀ (j : Nat) (e : D), ((hideOw ρ).set i (some (.sh (mdD m))))[j]? ≠ some (some (.ow e)) := fun j e h => by
    rcases sl j _ h with ⟨_, z⟩ | ⟨_, z, _⟩
    · cases z
    · exact z e rfl
  have R0 : Rel ⟨f.K, f.H0, fun a => f.M0 a ∧ a ∉ g.fp, f.mt⟩ ⟨fun a => g.M a ∧ a ∉ g.fp, g.src, owA σ ρ ++ g.T, []⟩ σ H ((hideOw ρ).set i (some (.sh (mdD m)))) := by
    refine ⟨hR.keep, hR.dom, fun a z => ⟨hR.m0 a z.1, z.2⟩, fun a z => hR.m00 a z.1, fun a z => hR.mU a z.1, fun q c e => ?_, by unfold hideOw; rw [List.length_set, List.length_map]; exact hR.len, fun j s e => ?_, fun j l a d e h1 => absurd h1 (noOw j d), fun a ha => ?_, (fun _ h => nomatch h), List.nodup_nil, fun j l d e h1 => ?_⟩
    · obtain ⟨h1, h2, h3, h4, h5, h6⟩ := hR.src q c e
      exact ⟨h1, ⟨h2, fun z => ((hR.fpM q z).2.2 q c e).1 rfl⟩, ⟨h3, fun z => ((hR.fpM c z).2.2 q c e).2 rfl⟩, h4, h5, h6⟩
    · rcases sl j s e with ⟨rfl, rfl⟩ | ⟨h1, h2, h3⟩
      · exact ⟨_, e0, hrm.rp S0 fun a ha o e => fz_of e fun z => z.2 (f0 ▸ ha)⟩
      · obtain ⟨w, e1, h⟩ := hR.slot j s h1
        refine ⟨w, e1, ?_⟩
        cases s with
        | sh d => exact Rp.mono S0 h
        | bo d => exact BoV.mono S0 h
        | ow d => exact absurd rfl (h2 d)
        | src => exact h
        | scr => exact h
        | mu m2 => exact absurd rfl (h3 m2)
    · refine ⟨?_, ⟨?_, List.not_mem_nil⟩, fun j e h1 => absurd h1 (noOw j e)⟩
      · rcases List.mem_append.mp ha with ha | ha
        · obtain ⟨j, d, h1, h2⟩ := owA_mem.mp ha
          obtain ⟨w, e1, b, e2, m, _, ns, _⟩ := hR.slot j _ h1
          rw [h2] at e1; cases e1; cases e2
          exact ⟨m, ns.2⟩
        · exact ⟨(hR.tmp a ha).1, (hR.tmp a ha).2.1.2⟩
      · rcases List.mem_append.mp ha with ha | ha
        · obtain ⟨j, d, h1, h2⟩ := owA_mem.mp ha
          obtain ⟨w, e1, b, e2, m, _, ns, _⟩ := hR.slot j _ h1
          rw [h2] at e1; cases e1; cases e2
          exact ns.1
        · exact (hR.tmp a ha).2.1.1
    · rcases sl j _ h1 with ⟨_, z⟩ | ⟨_, _, z⟩
      · cases z
      · exact absurd rfl (z d)
  refine h ⟨f.K, f.H0, fun a => f.M0 a ∧ a ∉ g.fp, f.mt⟩ _ σ H _ _ _ hK R0 hd fun v H1 g1 ρ1 r R1 G1 V1 q1 => ?_
  obtain ⟨hsc, q1⟩ := q1
  have hfp : ∀ a ∈ g.fp, H1 a = H a ∧ ¬ g1.M a := fun a ha => by
    obtain ⟨o, e⟩ := hrm.there a (f0 ▸ ha)
    obtain ⟨h1, h2⟩ := of_fz (G1.fz a o (fz_of e fun z => z.2 ha))
    exact ⟨by rw [h1, e], h2⟩
  have S1 : Same (Fz H g.M) (Fz H1 fun a => g1.M a ∨ a ∈ g.fp) := fz_mono fun a o e n => by
    have hn : a ∉ g.fp := fun z => n (hR.fpM a z).1
    obtain ⟨h1, h2⟩ := of_fz (G1.fz a o (fz_of e fun z => n z.1))
    exact ⟨h1, fun z => z.elim h2 hn⟩
  have nsF : ∀ a ∈ g.fp, NoS g1.src a := fun a ha q c e => by
    obtain ⟨_, h2, h3, _⟩ := R1.src q c e
    exact ⟨fun z => (hfp a ha).2 (z ▸ h2), fun z => (hfp a ha).2 (z ▸ h3)⟩
  have hT : ∀ a ∈ owA σ ρ ++ g.T, H1 a = H a := fun a ha => G1.th a ha
  have tm1 : g1.T = owA σ ρ ++ g.T := G1.tm
  have R2 : Rel f ⟨fun a => g1.M a ∨ a ∈ g.fp, g1.src, g.T, g.fp⟩ σ H1 ρ := by
    refine ⟨R1.keep, R1.dom, fun a z => ?_, hR.m00, fun a z => ?_, fun q c e => ?_, hR.len, fun j s e => ?_, hR.uq, fun a ha => ?_, fun a ha => ⟨.inr ha, (hR.fpM a ha).2.1, nsF a ha⟩, hR.fpn, hR.mq⟩
    · by_cases q : a ∈ g.fp
      · exact .inr q
      · exact .inl (R1.m0 a ⟨z, q⟩)
    · rcases z with z | z
      · exact R1.mU a z
      · rw [(hfp a z).1]; exact hR.mU a (hR.fpM a z).1
    · obtain ⟨h1, h2, h3, h4, h5, h6⟩ := R1.src q c e
      exact ⟨h1, .inl h2, .inl h3, h4, h5, h6⟩
    · obtain ⟨w, e1, h⟩ := hR.slot j s e
      refine ⟨w, e1, ?_⟩
      cases s with
      | sh d => exact Rp.mono S1 h
      | bo d => exact BoV.mono S1 h
      | ow d =>
        obtain ⟨a, e2, m2, h0, ns, r⟩ := h
        have ha : a ∈ owA σ ρ := owA_mem.mpr ⟨j, d, e, by rw [e1, e2]⟩
        have ha2 : a ∈ g1.T := by rw [tm1]; exact List.mem_append_left _ ha
        exact ⟨a, e2, .inl (R1.tmp a ha2).1, h0, ⟨(R1.tmp a ha2).2.1.1, ns.2⟩, r.mono S1 fun o e => by rw [hT a (List.mem_append_left _ ha)]; exact e⟩
      | src =>
        obtain ⟨q, c, e2, e3⟩ := h
        exact ⟨q, c, G1.src _ e2, e3⟩
      | scr => exact h
      | mu m2 =>
        obtain ⟨q, as', e2, e3, h⟩ := h
        exact ⟨q, as', e2, e3, h.mono S1 fun a ha o e => by rw [(hfp a (e2 ▸ ha)).1]; exact e⟩
    · have ha2 : a ∈ g1.T := by rw [tm1]; exact List.mem_append_right _ ha
      exact ⟨.inl (R1.tmp a ha2).1, ⟨(R1.tmp a ha2).2.1.1, (hR.tmp a ha).2.1.2⟩, (hR.tmp a ha).2.2⟩
  refine k v H1 _ ρ r R2 ⟨S1, G1.src, rfl, fun a ha => hT a (List.mem_append_right _ ha), rfl⟩ ?_ q1
  cases r with
  | fz d => exact Rp.scal V1 hsc
  | nw d =>
    cases d with
    | list ds =>
      obtain ⟨a, rfl, m2, h0, ns, r, t, u⟩ := V1
      have nfp : a ∉ g.fp := fun z => (hfp a z).2 m2
      refine ⟨a, rfl, .inl m2, h0, ⟨ns.1, nfp⟩, ?_, fun z => t (by rw [tm1]; exact List.mem_append_right _ z), fun j e h1 h2 => t (by rw [tm1]; exact List.mem_append_left _ (owA_mem.mpr ⟨j, e, h1, h2⟩))⟩
      cases r with
      | lst h1 h2 => exact .lst h1 (h2.scal hsc)
    | _ => cases hsc
  | _ => cases hsc
end
end DL

set_option Elab.async false
set_option linter.all false
set_option maxRecDepth 100000
set_option maxHeartbeats 4000000
set_option autoImplicit false
namespace DL
open PySem PySem.Spec PySem.Calls PyProof.Rows L2
/-! ### super().__init__(text) in an own exception over ValueError -/
/-- what the written part says of a class whose __init__ says super().__init__ -/
structure SupC (P : Program) (K : PySem.W.Frag) (mg : Str → Option Value) (C fI : Addr) (F : NdefX.NF) (cc : Addr) : Prop where
  ex : OexC K C
  cl : F.cl = [(("__class__" : Str), cc)]
  cell : ∃ oc od sl, K.lookup cc = some ⟨oc, od, .cell (some (.ref C)), sl⟩
  code : ∃ oc od sl vs file tf, K.lookup F.c = some ⟨oc, od, .fields vs, sl⟩ ∧ vs[2]? = some (.str file tf) ∧ ((P.main.file : Str) == file) = true
  fn : ∃ oc od sl doc pm ct, K.lookup fI = some ⟨oc, od, .func (F.fd doc pm ct), sl⟩
  sub : PySem.W.mroIn K C (.ref C) = some true
  top : (P.main.scope.names.lookup ("super" : Str)).isSome = false
  sup : mg "super" = none
  opq : PySem.W.nsIn K cStatics "thirdparty.any" = some none
  ini : PySem.W.ks_superIn K C C "__init__" = some (some (.builtin "ValueError.__init__"))
  ve : PySem.W.subIn K (.ref C) (.type "ValueError") = some true
  s1 : F.scope.names.lookup ("super" : Str) = some .globalImplicit
  s2 : F.scope.names.lookup ("__class__" : Str) = some .free
  sk : F.scope.kind = .function
section
variable {P : Program} {w : World} {A : Around} {E : Value → Shared → Prop} {h : Heap} {g : Array GenState} {d : Drawn} {t : Nat} {os : OsState}
/-- the wrapper called: the exception's args are laid anew -/
theorem call_wrap {C u e t0 : Addr} {rest : List Value} {Q : Value → Shared → Prop} {nm q : Str} {N : Addr} {bs bm sub : List Value} {sn : List Str} {ab : Bool} {col : Option Bool} {dd : Option Addr} {k0 k1 k2 k3 k5 : Option Value}
    (hC : h.get? C = some (excClassObj nm q C N bs bm true sn sub ab col dd k0 k1 k2 k3 k5 "ValueError.__new__")) (he : h.get? e = some (PySem.W.excObj C t0 none .none)) (hu : h.get? u = some (PySem.W.kxs_mw "ValueError.__init__" e)) (hr : rest.length ≤ sizeLine)
    (hq : ∀ h' t1, (∀ b o, b ≠ e → h.get? b = some o → h'.get? b = some o) → h'.get? e = some (PySem.W.excObj C t1 none .none) → Q .none ⟨h', g, d, t, os⟩) : wpAny (model P w) A (call (.ref u) rest) Q E ⟨h, g, d, t, os⟩ := by
  refine wpAny_call (codeAny_of_tree ?_); show wpAny _ A.in1 (callAny (.ref u) ⟨rest, []⟩) _ _ _
  simp only [callAny]
  refine wpAny_bind (wpAny_load hu ?_)
  simp only [show (Value.type "method-wrapper" == Value.type "method" || Value.type "method-wrapper" == Value.type "builtin_function_or_method" || Value.type "method-wrapper" == Value.type "method-wrapper") = true by decide, if_true, PySem.W.kxs_mw]
  refine PySem.W.KFB.if_so (by decide) (wpAny_bind (PySem.W.check_bound_init F.excBase_ValueError.toExcCallFacts hC he rfl (wpAny_bind (wpAny_pure (wpAny_pure ⟨plainId_quiet F.excBase_ValueError.init.plain _, codeAny_builtin F.excBase_ValueError.initEntry ?_⟩)))))
  rw [Around.under_plainId F.excBase_ValueError.init.plain _]
  exact PySem.W.exc_init_tree (cls := .ref C) (c2 := .none) (c3 := .none) (b4 := .bool false) he hr fun h' k1 k2 _ => hq h' _ k1 k2
end
section
variable {CX : CXT} {P : Program} {w : World} {K : PySem.W.Frag} {mg : Str → Option Value} {base : Heap} {N : List Str} {F : NdefX.NF} {f cc C : Addr} {A : Around} {outer : List Env} {s0 : Shared} {H0 : Hp} {E0 : XK}
/-- a pin more -/
theorem inv_pin {X : Cx} {pins : List (Addr × Obj)} {σ : L2.St} {H : Hp} {s : Shared} {u : Addr} {o : Obj} (I : Inv X pins σ H s) (hu : s.heap.get? u = some o) (hn : H u = none) (hl : u ≠ X.env.locals) (hf : u ∉ X.fs) (hc : ∀ v, o.data ≠ .cell v) : Inv X ((u, o) :: pins) σ H s :=
  I.pins_of fun p hp => by
    rcases List.mem_cons.mp hp with rfl | hp
    · exact ⟨hu, hn, hl, hf, hc⟩
    · exact I.pin p (List.mem_append_right _ hp)
theorem inv_unpin {X : Cx} {pins : List (Addr × Obj)} {σ : L2.St} {H : Hp} {s : Shared} {p : Addr × Obj} (I : Inv X (p :: pins) σ H s) : Inv X pins σ H s :=
  I.pins_of fun q hq => I.pin q (List.mem_append_right _ (List.mem_cons_of_mem _ hq))
theorem super_said (T : SupC P K mg C f F cc) {body : List Stmt} {m me : Str} {j : Nat} {p0 p1 p2 p3 p4 p5 : Pos} {ar : Arg} {Q : Flow → Shared → Prop} {s : Shared} {σ : L2.St} {H : Hp} {x : Addr}
    (I : Inv (NdefX.ncx CX P w K mg base N F f A outer s0 H0 E0) [] σ H s) (hp : (F.params.posonlyargs ++ F.params.args).head? = some ar) (har : ar.arg = me) (hme : F.scope.names.lookup me = some .local) (hN : N[0]? = some me) (hσ : σ[0]? = some (some (.ref x))) (hx : H x = some (exo x C none)) {pl : Sem Bool}
    (hc : eval (.Call (.Attribute (.Call (.Name "super" p0) [] [] p1) "__init__" p2) [.Constant (.str m) j p3] [] p4) (NdefX.envF F f s0.heap.objs.size) = (do
      let ov ← attributeBase (.Call (.Name "super" p0) [] [] p1) "__init__" (NdefX.envF F f s0.heap.objs.size) (eval (.Call (.Name "super" p0) [] [] p1) (NdefX.envF F f s0.heap.objs.size))
      standAt p2.atName
      let (f1, first) ← holding [ov] (getMethod ov "__init__" pl)
      callWith p4 f1 first (backTo p4 (starEach [.Constant (.str m) j p3] (NdefX.envF F f s0.heap.objs.size))) []))
    (h : ∀ s', Inv (NdefX.ncx CX P w K mg base N F f A outer s0 H0 E0) [] σ H s' → Q .next s') :
    _root_.PySem.wpAt (model P w) (A.deeper (NdefX.envF F f s0.heap.objs.size)) (.func body (NdefX.envF F f s0.heap.objs.size)) (exec (.Expr (.Call (.Attribute (.Call (.Name "super" p0) [] [] p1) "__init__" p2) [.Constant (.str m) j p3] [] p4) p5) (NdefX.envF F f s0.heap.objs.size)) Q (NdefX.ncx CX P w K mg base N F f A outer s0 H0 E0).xe s := by
  obtain ⟨nm, q, N', bs, bm, sn, sub, ab, col, dd, k0, k1, k2, k3, k5, hC, hbm⟩ := T.ex.cls
  obtain ⟨oc1, od1, sl1, hcell⟩ := T.cell
  obtain ⟨oc2, od2, sl2, vs, file, tf, hcode, hvs, hfile⟩ := T.code
  obtain ⟨oc3, od3, sl3, doc, pm, ct, hfn⟩ := T.fn
  have X : K.In s.heap := I.kIn
  have hcl : PySem.W.clsIn K C = some { name := nm, bases := bs, mro := .ref C :: bm, ns := N', qualname := q, hasDict := true, slotNames := sn, subclasses := sub, abstract := ab, collection := col, hasDel := false } := by unfold PySem.W.clsIn; rw [hC] <;> rfl
  obtain ⟨m0, hns, hlook⟩ := id I.loc
  obtain ⟨ux, rux, hlk⟩ := hlook 0 me (.ref x) hN hσ (.inl hme)
  obtain rfl : ux = Value.ref x := rux
  have hmx : m0 me = some (.ref x) := by
    rcases hlk with ⟨_, e⟩ | ⟨e, _⟩
    · exact e
    · have e : F.scope.names.lookup me = some .cell ∨ F.scope.names.lookup me = some .free := e
      rw [hme] at e
      rcases e with e | e <;> cases e
  obtain ⟨t0, hox⟩ := exo_at I.hok hx
  have hmod := I.mod
  obtain ⟨mb, hbl, hbv⟩ := hmod.blt
  refine ks_wpAt_Expr_any (ks_wpAt_MethodCall (ks_wpAt_super_base (env := NdefX.envF F f s0.heap.objs.size) T.s1 T.s2 (by decide) rfl (X _ _ hfn) rfl hp rfl (X _ _ hcode) rfl hvs hfile T.top ?_) hc) (by unfold interactive; rw [show (NdefX.envF F f s0.heap.objs.size).scope.kind = .function from T.sk]; rfl)
  refine PySem.W.ks_loadName_global T.sk T.s1 (loadGlobal_builtin (hmod.glob.keeps I.bk) T.sup (hbl.keeps I.bk) ((hbv _ (by decide)).trans Boot.«super») ⟨rfl, ?_⟩)
  refine wpAny_loadName_free T.sk T.s2 (by show F.cl.lookup _ = _; rw [T.cl]; rfl) ⟨_, X _ _ hcell, rfl⟩ ?_
  refine wpAny_loadName_local T.sk (by rw [har]; exact hme) hns (by rw [har]; exact hmx) ?_
  obtain ⟨hh, g, d, t, os⟩ := s
  refine ks_wpAny_isType_cls (X _ _ hC) rfl ⟨rfl, ?_⟩
  refine ks_wpAny_call_super (X _ _ hC) rfl hox rfl (fun c e => by cases e) (PySem.W.looks_mroIn X T.sub) (fun h1 e1 k1 => ?_)
  have I1 : Inv (NdefX.ncx CX P w K mg base N F f A outer s0 H0 E0) [] σ H ⟨h1, g, d, t, os⟩ := I.kept (t' := t) k1
  have hxC : x ≠ C := fun e => by
    have z := (I1.bs C _ (I1.mod.kin _ _ hC)).2
    rw [← e, hx] at z
    cases z
  have IA : PySem.W.InstAt h1 x _ C none := ⟨k1 _ _ hox, rfl, rfl, trivial⟩
  have hal : PySem.W.alongIn K "__init__" (((Value.ref C :: bm).dropWhile (· != .ref C)).drop 1) = some (some (.builtin "ValueError.__init__")) := by
    have z := T.ini
    unfold PySem.W.ks_superIn at z
    rw [hcl] at z
    exact z
  refine PySem.W.kxs_getMethod PySem.W.kxs_ValueError (l₀ := .ref C :: bm) e1 (PySem.W.looks_opaque I1.kIn T.opq) ((PySem.W.looks_clsIn I1.kIn hcl).andThen .now) rfl I1.kIn hal (IA.type.andThen (PySem.W.looks_subIn I1.kIn T.ve)) hxC (by decide) ?_
  have hge : (h1.push (PySem.W.kxs_mw "ValueError.__init__" x)).get? h1.objs.size = some (PySem.W.kxs_mw "ValueError.__init__" x) := Heap.get?_push_at rfl rfl
  have I2 : Inv (NdefX.ncx CX P w K mg base N F f A outer s0 H0 E0) [] σ H ⟨h1.push (PySem.W.kxs_mw "ValueError.__init__" x), g, d, t + 1, os⟩ := I1.kept (t' := t + 1) fun b o e => Heap.get?_push_of_some _ e
  have hul : h1.objs.size ≠ (NdefX.ncx CX P w K mg base N F f A outer s0 H0 E0).env.locals := Nat.ne_of_gt I1.lt
  have hun := I1.hok.fresh (Nat.le_refl h1.objs.size)
  have I3 := inv_pin I2 hge hun hul (I1.nofs (Nat.le_refl _)) (fun v e => by cases e)
  have hbn : base.get? h1.objs.size = none := by
    cases z : base.get? h1.objs.size with
    | none => rfl
    | some o => exact absurd (Heap.lt_size (I1.bk _ _ z)) (Nat.lt_irrefl _)
  refine PySem.W.kxs_callWith1 (i := "ValueError.__init__") (x := x) (h₀ := base) (L := (NdefX.ncx CX P w K mg base N F f A outer s0 H0 E0).env.locals) (news := [(h1.objs.size, PySem.W.kxs_mw "ValueError.__init__" x)]) (fun p hp => ?_) List.mem_cons_self ?_
  · rw [List.mem_singleton.mp hp]
    exact ⟨hge, hul, hbn⟩
  have ha : PA (NdefX.ncx CX P w K mg base N F f A outer s0 H0 E0) [.Constant (.str m) j p3] (tCons (tC (.str m)) tNil) := pa_cons pe_str pa_nil
  refine thn (ha.run p4 _ _ σ H (fun vs H1 => vs = [V.str m] ∧ H = H1) I3 ⟨rfl, rfl⟩) fun us s3 hh => ?_
  obtain ⟨vs, H1, I4, r1, rfl, rfl⟩ := hh
  have hpin := (I4.pin (h1.objs.size, PySem.W.kxs_mw "ValueError.__init__" x) (List.mem_append_right _ List.mem_cons_self)).1
  obtain ⟨t2, hox2⟩ := exo_at I4.hok hx
  have hl := r1.length
  refine ⟨hpin, ?_⟩
  obtain ⟨h3, g3, d3, tk3, os3⟩ := s3
  refine call_wrap (I4.kIn _ _ hC) hox2 hpin (by rw [← hl]; show 1 ≤ _; rw [sizeLine_eq]; decide) fun h' t1 kk ee => ?_
  have J := I4.write (t' := tk3) (x := x) (e := x) (o := exo x C none) (by rw [hx]; exact True.intro) (.inl rfl) kk ⟨_, ee⟩ (exo_ok ee)
  have eu : upd H x (exo x C none) = H := funext fun b => by
    by_cases hb : b = x
    · rw [hb, upd_same, hx]
    · rw [upd_ne hb]
  rw [eu] at J
  exact h _ (inv_unpin J)
end
end DL

set_option Elab.async false
set_option linter.all false
set_option maxRecDepth 100000
set_option maxHeartbeats 4000000
set_option autoImplicit false
namespace DL
open PySem PySem.Spec PySem.Calls PyProof.Rows L2
section
variable {P : Program} {w : World} {K : PySem.W.Frag} {mg : Str → Option Value} {base : Heap} {CX : CXT} {N ps : List Str} {F : NdefX.NF} {f cc C : Addr} {k : Nat} {sp : Sp}
/-- an own __init__ that begins with super().__init__(text) -/
theorem init_fn (T : SupC P K mg C f F cc) (S : NdefX.NScope N ps ["__class__"] F.scope) {m me : Str} {j : Nat} {p0 p1 p2 p3 p4 p5 : Pos} {ar : Arg} {rest : List Stmt} (hcd : PySem.W.codeIn K (.ref F.c) F.qual = true)
    (hbody : F.body = .Expr (.Call (.Attribute (.Call (.Name "super" p0) [] [] p1) "__init__" p2) [.Constant (.str m) j p3] [] p4) p5 :: rest)
    (hp : (F.params.posonlyargs ++ F.params.args).head? = some ar) (har : ar.arg = me) (hme : F.scope.names.lookup me = some .local) (hN : N[0]? = some me)
    (hc : ∀ L : Addr, ∃ pl : Sem Bool, eval (.Call (.Attribute (.Call (.Name "super" p0) [] [] p1) "__init__" p2) [.Constant (.str m) j p3] [] p4) (NdefX.envF F f L) = (do
      let ov ← attributeBase (.Call (.Name "super" p0) [] [] p1) "__init__" (NdefX.envF F f L) (eval (.Call (.Name "super" p0) [] [] p1) (NdefX.envF F f L))
      standAt p2.atName
      let (f1, first) ← holding [ov] (getMethod ov "__init__" pl)
      callWith p4 f1 first (backTo p4 (starEach [.Constant (.str m) j p3] (NdefX.envF F f L))) []))
    (len : ∀ vs H Q E, sp vs H Q E → vs.length = ps.length)
    (hb : ∀ (A : Around) (outer : List Env) (s : Shared) (H : Hp) (vs : List V) (Q : VK) (E : XK), sp vs H Q E →
      ∃ x t, vs[0]? = some (.ref x) ∧ H x = some (exo x C none) ∧ PSs (NdefX.ncx CX P w K mg base N F f A outer s H E) rest t ∧ t { nx := fun _ H' => Q .non H', rt := Q } (NdefX.startF N vs [none]) H) :
    ∀ fd, (∃ oc od sl doc pm ct, K.lookup f = some ⟨oc, od, .func (F.fd doc pm ct), sl⟩ ∧ fd = F.fd doc pm ct) → FnOk P w K mg base CX (k + 1) f fd ps sp := by
  rintro fd ⟨oc, od, sl, doc, pm, ct, lk, rfl⟩
  refine ⟨len, fun A outer s H args us vs Q E hr e0 hbd r hsp => ?_⟩
  have KX : K.In s.heap := e0.mod.kin.keeps fun b o e => (e0.bs b o e).1
  obtain ⟨oc1, od1, sl1, hcell⟩ := T.cell
  have hHc : H cc = none := (e0.bs _ _ (e0.mod.kin _ _ hcell)).2
  have CA : NdefX.CellsAt F.cl ["__class__"] [none] s.heap H := by
    rw [T.cl]
    refine ⟨rfl, fun y c e => ?_, fun x y c e1 e2 => ?_, fun i y e => ?_⟩
    · have : c = cc := by
        simp only [List.lookup] at e
        split at e
        · exact (Option.some.inj e).symm
        · cases e
      subst this
      exact ⟨hHc, _, _, KX _ _ hcell, rfl⟩
    · simp only [List.lookup] at e1 e2
      split at e1
      · split at e2
        · rename_i h1 _ h2
          rw [beq_iff_eq.mp h1, beq_iff_eq.mp h2]
        · cases e2
      · cases e1
    · cases i with
      | zero =>
        cases e
        exact ⟨cc, rfl, fun v hv => by cases hv⟩
      | succ i => simp at e
  refine ks_codeAny_call_defAt (fd := F.fd doc pm ct) (body := F.body) (binds := ps.zip us) hr.depth (KX _ _ lk) rfl (e0.mod.nolimit.keeps fun b o e => (e0.bs b o e).1) (PySem.W.codeRec_of KX hcd) rfl hbd S.nocell (fun y hy => S.par y.1 (List.of_mem_zip hy).1) (fun h₁ hns kp => ?_) S.co S.gen S.kind
  have I := NdefX.inv_startN (CX := CX) (E := E) (N := N) (tk := s.toks + (ps.zip us).length) (f := f) S hr.hd e0 (len _ _ _ _ hsp) r CA hns kp
  obtain ⟨x, t, hx0, hx, ht, hq⟩ := hb A outer s H vs Q E hsp
  obtain ⟨pl, hpl⟩ := hc s.heap.objs.size
  have hσ : (NdefX.startF N vs [none])[0]? = some (some (.ref x)) := by
    unfold NdefX.startF
    cases vs with
    | nil => simp at hx0
    | cons v vs =>
      simp at hx0
      subst hx0
      rfl
  show _root_.PySem.wpAt _ _ (.func F.body (NdefX.envF F f s.heap.objs.size)) (execs F.body (NdefX.envF F f s.heap.objs.size)) _ _ _
  rw [hbody]
  refine ks_wpAt_execs_cons (super_said T I hp har hme hN hσ hx hpl fun s' J => ?_)
  refine wpAt_of_wpAny (wpAny_mono (ht.run [] s' _ H _ J hq) (fun fl s2 hs => ?_) fun e s2 h => h)
  cases fl with
  | ret u => obtain ⟨v, σ', H', J, rv, q⟩ := hs; exact ⟨v, H', J.os, J.bare, J.base, J.hok, rv, q⟩
  | next => obtain ⟨σ', H', J, q⟩ := hs; exact ⟨V.non, H', J.os, J.bare, J.base, J.hok, rfl, q⟩
  | brk => obtain ⟨_, _, _, q⟩ := hs; exact q.elim
  | cont => obtain ⟨_, _, _, q⟩ := hs; exact q.elim
end
end DL

set_option Elab.async false
set_option linter.all false
set_option maxRecDepth 100000
set_option maxHeartbeats 4000000
set_option autoImplicit false
namespace DL
open PySem PySem.Spec PySem.Calls PyProof.Rows L2
/-! ### an own exception with one field -/
def fldOk (K : PySem.W.Frag) (tup : Bool) (H : Hp) (v : V) : Prop := tup = true → ∃ p ys, v = .ref p ∧ SqT K H p ys
def spI1 (K : PySem.W.Frag) (C : Addr) (fl : Str) (tup : Bool) : Sp := fun vs H Q _ => ∃ x v, vs = [.ref x, v] ∧ H x = some (exo x C none) ∧ fldOk K tup H v ∧ ∀ d, H d = none → d ≠ x → Q .non (upd (upd H d (exd d [(fl, v)])) x (exo x C (some d)))
theorem SqT.keep {K : PySem.W.Frag} {H H' : Hp} {a : Addr} {xs : List V} (k : ∀ b o, H b = some o → H' b = some o) (h : SqT K H a xs) : SqT K H' a xs := sqT_mono (fun b o e => k b o e) h
theorem fldOk.keep {K : PySem.W.Frag} {tup : Bool} {H H' : Hp} {v : V} (k : ∀ b o, H b = some o → H' b = some o) (h : fldOk K tup H v) : fldOk K tup H' v := fun e => by
  obtain ⟨p, ys, e1, e2⟩ := h e
  exact ⟨p, ys, e1, SqT.keep k e2⟩
section
/-- the heap behind C(v): one new dict -/
theorem upd_made {H : Hp} {a d : Addr} {o u z : HO} (ha : H a = none) (hd : d ≠ a) : upd (L2.del (upd (upd (upd H a o) d u) a z) a) d u = upd H d u := by
  funext b
  by_cases h : b = d
  · rw [h, upd_same, upd_same]
  · rw [upd_ne h, upd_ne h]
    by_cases h2 : b = a
    · rw [h2, del_same, ha]
    · rw [del_ne h2, upd_ne h2, upd_ne h, upd_ne h2]
theorem upd_made2 {H : Hp} {a d : Addr} {o u v z : HO} (ha : H a = none) (hd : d ≠ a) : upd (L2.del (upd (upd (upd H a o) d u) a z) a) d v = upd H d v := by
  funext b
  by_cases h : b = d
  · rw [h, upd_same, upd_same]
  · rw [upd_ne h, upd_ne h]
    by_cases h2 : b = a
    · rw [h2, del_same, ha]
    · rw [del_ne h2, upd_ne h2, upd_ne h, upd_ne h2]
end
end DL

set_option Elab.async false
set_option linter.all false
set_option maxRecDepth 100000
set_option maxHeartbeats 4000000
set_option autoImplicit false
namespace DL
open PySem L2
/-! ### exceptions as data: the class by its name, its fields -/
structure XD where
  name : Str
  fs : List (Str × D)
inductive XFs (K : PySem.W.Frag) (F : Hp) : List (Str × V) → List (Str × D) → Prop
  | nil : XFs K F [] []
  | cons {n : Str} {v : V} {d : D} {vs : List (Str × V)} {ds : List (Str × D)} : Rp K F v d → XFs K F vs ds → XFs K F ((n, v) :: vs) ((n, d) :: ds)
theorem XFs.mono {K : PySem.W.Frag} {F F' : Hp} (e : Same F F') {vs : List (Str × V)} {ds : List (Str × D)} (h : XFs K F vs ds) : XFs K F' vs ds := by
  induction h with
  | nil => exact .nil
  | cons h _ ih => exact .cons (h.mono e) ih
theorem XFs.look {K : PySem.W.Frag} {F : Hp} {vs : List (Str × V)} {ds : List (Str × D)} (h : XFs K F vs ds) {n : Str} {d : D} (e : ds.lookup n = some d) : ∃ v, vs.lookup n = some v ∧ Rp K F v d := by
  induction h with
  | nil => cases e
  | @cons n' v d' vs ds h _ ih =>
    simp only [List.lookup] at e ⊢
    split at e
    · cases e
      exact ⟨v, rfl, h⟩
    · exact ih e
def XR (K : PySem.W.Frag) (mg : Str → Option Value) (F : Hp) (x : XD) (cls : Value) (d : Option Addr) : Prop := ∃ C, mg x.name = some (.ref C) ∧ cls = .ref C ∧ (x.fs = [] ∨ ∃ dx vs, d = some dx ∧ F dx = some (.xd vs) ∧ XFs K F vs x.fs)
theorem XR.mono {K : PySem.W.Frag} {mg : Str → Option Value} {F F' : Hp} (e : Same F F') {x : XD} {cls : Value} {d : Option Addr} (h : XR K mg F x cls d) : XR K mg F' x cls d := by
  obtain ⟨C, h1, h2, h3⟩ := h
  refine ⟨C, h1, h2, h3.imp id ?_⟩
  rintro ⟨dx, vs, e1, e2, e3⟩
  exact ⟨dx, vs, e1, e _ _ e2, e3.mono e⟩
abbrev DW := XD → Rho → Prop
def LkW (mg : Str → Option Value) (f : Fr) (g : Gs) (H : Hp) (Y : DW) (W : WX) : Prop := ∀ (g' : Gs) (σ' : L2.St) (H' : Hp) (ρ' : Rho) (x : XD) (cls : Value) (d : Option Addr), Rel f g' σ' H' ρ' → Gro g H g' H' → XR f.K mg (Fz H' g'.M) x cls d → Y x ρ' → W cls d σ' H'
theorem LkW.mono {mg : Str → Option Value} {f : Fr} {g g1 : Gs} {H H1 : Hp} {Y : DW} {W : WX} (G : Gro g H g1 H1) (l : LkW mg f g H Y W) : LkW mg f g1 H1 Y W := fun g' σ' H' ρ' x cls d R G' => l g' σ' H' ρ' x cls d R (G.trans G')
section
variable (K : PySem.W.Frag) (mg : Str → Option Value)
def LEw (t : WX → TE) (d : DW → DE) : Prop := ∀ (W : WX) (Y : DW) (f : Fr) (g : Gs) (σ : L2.St) (H : Hp) (ρ : Rho) (Q : Rv → Rho → Prop) (R : V → Hp → Prop), f.K = K → Rel f g σ H ρ → LkW mg f g H Y W → d Y ρ Q →
  (∀ (v : V) (H' : Hp) (g' : Gs) (ρ' : Rho) (r : Rv), Rel f g' σ H' ρ' → Gro g H g' H' → VR f g' σ H' ρ' v r → Q r ρ' → R v H') → t W σ H R
def LTw (t : WX → TT) (d : DW → DT) : Prop := ∀ (W : WX) (Y : DW) (f : Fr) (g : Gs) (σ : L2.St) (H : Hp) (ρ : Rho) (Q : Bool → Rho → Prop) (R : Bool → Hp → Prop), f.K = K → Rel f g σ H ρ → LkW mg f g H Y W → d Y ρ Q →
  (∀ (b : Bool) (H' : Hp) (g' : Gs) (ρ' : Rho), Rel f g' σ H' ρ' → Gro g H g' H' → Q b ρ' → R b H') → t W σ H R
def LSw (t : WX → TS) (d : DW → DS) : Prop := ∀ (W : WX) (Y : DW) (f : Fr) (g : Gs) (σ : L2.St) (H : Hp) (ρ : Rho) (DD : DEnds) (E : Ends), f.K = K → Rel f g σ H ρ → LkW mg f g H Y W → d Y DD ρ → LkE f g H DD E → t W E σ H
end
section
variable {K : PySem.W.Frag} {mg : Str → Option Value} {ta tb : WX → TE} {da db : DW → DE} {t u : WX → TS} {d e : DW → DS} {tt : WX → TT} {dt : DW → DT} {tg : TG} {dg : DG}
theorem lew_of {ta : TE} {da : DE} (h : LE K ta da) : LEw K mg (fun _ => ta) (fun _ => da) := fun W Y f g σ H ρ Q R hK hR _ hd k => h f g σ H ρ Q R hK hR hd k
theorem ltw_of {ta : TT} {da : DT} (h : LT K ta da) : LTw K mg (fun _ => ta) (fun _ => da) := fun W Y f g σ H ρ Q R hK hR _ hd k => h f g σ H ρ Q R hK hR hd k
theorem lsw_of {ta : TS} {da : DS} (h : LS K ta da) : LSw K mg (fun _ => ta) (fun _ => da) := fun W Y f g σ H ρ DD E hK hR _ hd k => h f g σ H ρ DD E hK hR hd k
theorem LEw.opd (h : LEw K mg ta da) {W : WX} {Y : DW} {f : Fr} {g : Gs} {σ : L2.St} {H : Hp} {ρ : Rho} {Q : Rv → Rho → Prop} {R : V → Hp → Prop} (hK : f.K = K) (hR : Rel f g σ H ρ) (l : LkW mg f g H Y W) (hd : da Y ρ Q)
    (k : ∀ (v : V) (H' : Hp) (g' : Gs) (ρ' : Rho) (r : Rv), Rel f g' σ H' ρ' → Gro g H g' H' → Opd f g' σ H' v r → Q r ρ' → R v H') : ta W σ H R :=
  h W Y f g σ H ρ Q R hK hR l hd fun v H' g' ρ' r R' G' V' q => by
    obtain ⟨g2, R2, G2, O⟩ := V'.opd R'
    exact k v H' g2 ρ' r R2 (G'.trans G2) O q
theorem ltw_test (h : LEw K mg ta da) : LTw K mg (fun W => tTest (ta W)) (fun Y => dTest (da Y)) := by
  intro W Y f g σ H ρ Q R hK hR l hd k
  refine h.opd hK hR l hd fun v H1 g1 ρ1 r1 R1 G1 O1 q1 => ?_
  obtain ⟨b, e1, q1⟩ := wB_some q1
  exact ⟨b, (O1.rn R1 e1).bool, k b H1 g1 ρ1 R1 G1 q1⟩
theorem lew_isN (h : LEw K mg ta da) : LEw K mg (fun W => tIsN (ta W)) (fun Y => dIsN false (da Y)) := by
  intro W Y f g σ H ρ Q R hK hR l hd k
  refine h.opd hK hR l hd fun v H1 g1 ρ1 r1 R1 G1 O1 q1 => ?_
  obtain ⟨x, e1, q1⟩ := wD_some q1
  exact k _ H1 g1 ρ1 (.fz (.bool (isNone x))) R1 G1 (by rw [rn_isN (O1.rn R1 e1)]; exact Rp.bl _) (by simpa using q1)
theorem lew_notN (h : LEw K mg ta da) : LEw K mg (fun W => tNotN (ta W)) (fun Y => dIsN true (da Y)) := by
  intro W Y f g σ H ρ Q R hK hR l hd k
  refine h.opd hK hR l hd fun v H1 g1 ρ1 r1 R1 G1 O1 q1 => ?_
  obtain ⟨x, e1, q1⟩ := wD_some q1
  exact k _ H1 g1 ρ1 (.fz (.bool (!isNone x))) R1 G1 (by rw [rn_isN (O1.rn R1 e1)]; exact Rp.bl _) (by simpa using q1)
theorem lew_if (h : LTw K mg tt dt) (h1 : LEw K mg ta da) (h2 : LEw K mg tb db) : LEw K mg (fun W => tIf (tt W) (ta W) (tb W)) (fun Y => dIf (dt Y) (da Y) (db Y)) := by
  intro W Y f g σ H ρ Q R hK hR l hd k
  refine h W Y f g σ H ρ _ _ hK hR l hd fun b H1 g1 ρ1 R1 G1 q1 => ?_
  cases b with
  | true => replace q1 := useB_t q1; exact h1 W Y f g1 σ H1 ρ1 Q R hK R1 (l.mono G1) q1 fun v H2 g2 ρ2 r2 R2 G2 V2 q2 => k v H2 g2 ρ2 r2 R2 (G1.trans G2) V2 q2
  | false => replace q1 := useB_f q1; exact h2 W Y f g1 σ H1 ρ1 Q R hK R1 (l.mono G1) q1 fun v H2 g2 ρ2 r2 R2 G2 V2 q2 => k v H2 g2 ρ2 r2 R2 (G1.trans G2) V2 q2
theorem lsw_seq (h : LSw K mg t d) (h' : LSw K mg u e) : LSw K mg (fun W => tSeq (t W) (u W)) (fun Y => dSeq (d Y) (e Y)) := fun W Y f g σ H ρ DD E hK R lw hd l =>
  h W Y f g σ H ρ _ _ hK R lw hd ⟨fun g' σ' H' ρ' R' G' q => h' W Y f g' σ' H' ρ' DD E hK R' (lw.mono G') q (l.mono G'), l.rt, l.bk, l.ct⟩
theorem lsw_if (hc : LTw K mg tt dt) (h : LSw K mg t d) (h' : LSw K mg u e) : LSw K mg (fun W => tIfS (tt W) (t W) (u W)) (fun Y => dIfS (dt Y) (d Y) (e Y)) := by
  intro W Y f g σ H ρ DD E hK R lw hd l
  refine hc W Y f g σ H ρ _ _ hK R lw hd fun b H1 g1 ρ1 R1 G1 q1 => ?_
  cases b with
  | true => replace q1 := useB_t q1; exact h W Y f g1 σ H1 ρ1 DD E hK R1 (lw.mono G1) q1 (l.mono G1)
  | false => replace q1 := useB_f q1; exact h' W Y f g1 σ H1 ρ1 DD E hK R1 (lw.mono G1) q1 (l.mono G1)
theorem lsw_ret (h : LEw K mg ta da) : LSw K mg (fun W => tRet (ta W)) (fun Y => dRet (da Y)) := fun W Y f g σ H ρ DD E hK R lw hd l =>
  h W Y f g σ H ρ _ _ hK R lw hd fun v H1 g1 ρ1 r R1 G1 V1 q1 => l.rt g1 σ H1 ρ1 v r R1 G1 V1 q1
theorem lsw_drop (h : LEw K mg ta da) : LSw K mg (fun W => tDrop (ta W)) (fun Y => dDrop (da Y)) := fun W Y f g σ H ρ DD E hK R lw hd l =>
  h W Y f g σ H ρ _ _ hK R lw hd fun v H1 g1 ρ1 r R1 G1 V1 q1 => l.nx g1 σ H1 ρ1 R1 G1 q1
theorem lsw_asg (h : LEw K mg ta da) (hg : LG K tg dg) : LSw K mg (fun W => tAsg (ta W) tg) (fun Y => dAsg (da Y) dg) := fun W Y f g σ H ρ DD E hK R lw hd l =>
  h W Y f g σ H ρ _ _ hK R lw hd fun v H1 g1 ρ1 r R1 G1 V1 q1 => hg f g1 σ H1 ρ1 v r _ _ hK R1 V1 q1 fun g2 σ2 H2 ρ2 R2 G2 q2 => l.nx g2 σ2 H2 ρ2 R2 (G1.trans G2) q2
end
section
variable {K : PySem.W.Frag} {mg : Str → Option Value} {wi : TI} {dI : DI} {tg : TG} {dg : DG} {tb : WX → TS} {db : DW → DS} {tt : WX → TT} {dt : DW → DT}
theorem lsw_for (hi : LI K wi dI) (hg : LG K tg dg) (hb : LSw K mg tb db) : LSw K mg (fun W => tFor wi tg (tb W)) (fun Y => dFor dI dg (db Y)) := by
  intro W Y f g σ H ρ DD E hK R lw hd l
  refine hi f g σ H ρ _ _ hK R hd fun J H1 g1 ρ1 G Z ds R1 G1 w io q => ?_
  refine for_it w (fun i σ' H' => ∃ g' ρ', Rel f g' σ' H' ρ' ∧ Gro g1 H1 g' H' ∧ dLoop dg (db Y) DD (ds.drop i) ρ') ⟨g1, ρ1, R1, Gro.refl, by simpa using q⟩ (fun i σ' H' _ ⟨g', ρ', R', G', _⟩ => io.st g' σ' H' ρ' R' G'.fz) ?_ ?_
  · rintro i x σ' H' H'' hlt ⟨g', ρ', R', G', q'⟩ y
    obtain ⟨g2, R2, G2, hx⟩ := io.yl g' σ' H' ρ' R' G'.fz i x H'' ds[i] (by simp [hlt]) y
    rw [List.drop_eq_getElem_cons hlt] at q'
    refine hg f g2 σ' H'' ρ' x (.fz _) _ _ hK R2 hx q' fun g3 σ3 H3 ρ3 R3 G3 q3 => ?_
    have GG := (G'.trans G2).trans G3
    refine hb W Y f g3 σ3 H3 ρ3 _ _ hK R3 (lw.mono (G1.trans GG)) q3 ⟨fun g4 σ4 H4 ρ4 R4 G4 q4 => ⟨g4, ρ4, R4, GG.trans G4, q4⟩, fun g4 σ4 H4 ρ4 v r R4 G4 V4 q4 => l.rt g4 σ4 H4 ρ4 v r R4 ((G1.trans GG).trans G4) V4 q4,
      fun g4 σ4 H4 ρ4 R4 G4 q4 => l.nx g4 σ4 H4 ρ4 R4 ((G1.trans GG).trans G4) q4, fun g4 σ4 H4 ρ4 R4 G4 q4 => ⟨g4, ρ4, R4, GG.trans G4, q4⟩⟩
  · rintro σ' H' ⟨g', ρ', R', G', q'⟩
    rw [List.drop_length] at q'
    exact l.nx g' σ' H' ρ' R' (G1.trans G') q'
theorem lsw_while (hc : LTw K mg tt dt) (hb : LSw K mg tb db) : LSw K mg (fun W => tWhile (tt W) (tb W)) (fun Y => dWhile (dt Y) (db Y)) := by
  intro W Y f g σ H ρ DD E hK R lw hd l
  obtain ⟨P, ⟨m0, p0⟩, hs⟩ := hd
  refine ⟨fun m σ' H' => ∃ g' ρ', Rel f g' σ' H' ρ' ∧ Gro g H g' H' ∧ P m ρ', ⟨m0, g, ρ, R, Gro.refl, p0⟩, ?_⟩
  rintro m σ' H' ⟨g', ρ', R', G', p'⟩
  refine hc W Y f g' σ' H' ρ' _ _ hK R' (lw.mono G') (hs m ρ' p') fun b H1 g1 ρ1 R1 G1 q1 => ?_
  cases b with
  | true =>
    replace q1 := useB_t q1
    rw [if_pos rfl]
    refine ⟨fun σ3 H3 => ∃ m', m' < m ∧ ∃ g3 ρ3, Rel f g3 σ3 H3 ρ3 ∧ Gro g H g3 H3 ∧ P m' ρ3, fun _ _ q => q, ?_⟩
    have GG := G'.trans G1
    exact hb W Y f g1 σ' H1 ρ1 _ _ hK R1 (lw.mono GG) q1 ⟨fun g4 σ4 H4 ρ4 R4 G4 ⟨m', hm, p⟩ => ⟨m', hm, g4, ρ4, R4, GG.trans G4, p⟩, fun g4 σ4 H4 ρ4 v r R4 G4 V4 q4 => l.rt g4 σ4 H4 ρ4 v r R4 (GG.trans G4) V4 q4,
      fun g4 σ4 H4 ρ4 R4 G4 q4 => l.nx g4 σ4 H4 ρ4 R4 (GG.trans G4) q4, fun g4 σ4 H4 ρ4 R4 G4 ⟨m', hm, p⟩ => ⟨m', hm, g4, ρ4, R4, GG.trans G4, p⟩⟩
  | false =>
    replace q1 := useB_f q1
    rw [if_neg Bool.false_ne_true]
    exact l.nx g1 σ' H1 ρ1 R1 (G'.trans G1) q1
end
end DL

set_option Elab.async false
set_option linter.all false
set_option maxRecDepth 100000
set_option maxHeartbeats 4000000
set_option autoImplicit false
namespace DL
open PySem PySem.Spec PyProof.Rows L2
/-! ### defs that may raise -/
abbrev ConX := List D → (Re → Prop) → (XD → Prop) → Prop
def spX (K : PySem.W.Frag) (mg : Str → Option Value) (ks : List Kd) (C : ConX) : Sp := fun vs H Q E => ∃ (M0 : AP) (src : Option (Addr × Addr)) (ds : List D), PreC K M0 src [] (.fl []) H ks vs ds ∧ ∃ (Qc : Re → Prop) (Xc : XD → Prop), C ds Qc Xc ∧
  (∀ r, Qc r → ∀ v H', PostC K M0 src [] (.fl []) H H' v r → Q v H') ∧ ∀ x, Xc x → ∀ cls d H', PostC K M0 src [] (.fl []) H H' .non (.fz .none) → XR K mg (Fz H' M0) x cls d → E cls d H'
def dCallX (ks : List Kd) (C : ConX) (da : DA) (Y : DW) : DE := fun ρ Q => da ρ fun rs ρ1 => wFA (argA ρ1 ks rs) fun ds ρ2 => C ds (fun re => Q (ofRe re) ρ2) (fun x => Y x ρ2)
section
variable {K : PySem.W.Frag} {mg : Str → Option Value} {ks : List Kd} {C : ConX}
theorem lew_call {tr : TA} {dr : DA} (h : LA K tr dr) (hk : noMu ks = true := by rfl) : LEw K mg (fun W => tCallS (spX K mg ks C) (WE W) tr) (dCallX ks C dr) := by
  intro W Y f g σ H ρ Q R hK hR lw hd k
  refine h f g σ H ρ _ _ hK hR hd fun vs H1 g1 ρ1 rs R1 G1 O1 q1 => ?_
  obtain ⟨ds, ρ2, e1, q1⟩ := wFA_some q1
  obtain ⟨g2, R2, G2, s2, A⟩ := O1.arg (fp := []) (.inl rfl) (fun z => by
    have := List.all_eq_true.mp hk _ z
    cases this) R1 e1
  subst hK
  refine ⟨g2.M, g2.src, ds, ⟨fun a m => R2.mU a m, fun p c e => ?_, by rw [s2]; exact A, (fun _ h => nomatch h), List.nodup_nil, (fun _ _ h => nomatch h)⟩, _, _, q1, fun re q v H' P => ?_, fun x q cls d H' P hx => ?_⟩
  · obtain ⟨h1, h2, h3, _, _, h6⟩ := R2.src p c e
    exact ⟨h1, h2, h3, h6⟩
  · obtain ⟨g3, R3, G3, V3⟩ := P.fin R2
    exact k v H' g3 ρ2 _ R3 ((G1.trans G2).trans G3) V3 q
  · obtain ⟨R3, G3⟩ := R2.step (g' := g2) (fun _ => Iff.rfl) rfl rfl (fun a o e n => P.keep a o e n List.not_mem_nil) P.dom P.sok
    exact lw g2 σ H' ρ2 x cls d R3 ((G1.trans G2).trans G3) hx q
theorem def_endX {N : List Str} {t : WX → TS} {d : DW → DS} {vs : List V} {H : Hp} {Q : VK} {E : XK} (h : spX K mg ks C vs H Q E) (hk : noMu ks = true) (hl : LSw K mg t d)
    (hd : ∀ ds Qc Xc, C ds Qc Xc → d (fun x _ => Xc x) { nx := fun _ => Qc (.fz .none), rt := retC Qc } (startR N.length ks ds)) : t (fun cls d _ H' => E cls d H') { nx := fun _ H' => Q .non H', rt := Q } (L2.start N vs) H := by
  obtain ⟨M0, src, ds, P, Qc, Xc, hC, hQ, hX⟩ := h
  refine hl _ _ ⟨K, H, M0, srcSet src []⟩ ⟨M0, src, [], []⟩ (L2.start N vs) H _ _ _ rfl (rel_start P (oneMu_of hk)) (fun g' σ' H' ρ' x cls d R' G' hx q => ?_) (hd ds _ _ hC) ⟨fun g' σ' H' ρ' R' G' q => ?_, fun g' σ' H' ρ' v r R' G' V' q => ret_end R' G'.src V' q (fun _ _ h => nomatch h) hQ, fun _ _ _ _ _ _ q => q.elim, fun _ _ _ _ _ _ q => q.elim⟩
  · refine hX x q cls d H' (ret_end (Qc := fun re => re = .fz .none) (Q := fun v H'' => PostC K M0 src [] (.fl []) H H'' v (.fz .none)) (r := .fz .none) R' G'.src Rp.non rfl (fun _ _ h => nomatch h) fun re e v H'' P => by rw [e] at P; exact P) (hx.mono (fz_mono fun a o e n => ⟨e, fun m => n (R'.m0 a m)⟩))
  · exact ret_end (r := .fz .none) R' G'.src Rp.non (Qc := Qc) q (fun _ _ h => nomatch h) hQ
end
section
variable {P : Program} {w : World} {K : PySem.W.Frag} {mg : Str → Option Value} {base : Heap}
structure CalX (P : Program) (w : World) (K : PySem.W.Frag) (mg : Str → Option Value) (base : Heap) (k : Nat) (x : Str) (sp : Sp) : Prop where
  ex : ∃ (f : Addr) (fd : FuncData) (ps : List Str), FnG P w K mg base (L2.CX P w) k f fd ps sp ∧ mg x = some (.ref f) ∧ PySem.W.keepIn K (.ref f) = true ∧ Binds K fd ps []
theorem calX {x : Str} {st : Stmt} {f : Addr} {fd : FuncData} {N ps : List Str} {k : Nat} {ks : List Kd} {C : ConX} (F : C8.Def K mg x st f fd) (b : Binds K fd ps []) (S : FnScope N ps (C8.fnScope st)) (hl : ks.length = ps.length)
    (hb : ∀ (cdv : Value) (A : Around) (outer : List Env) (s : Shared) (H : Hp) (E : XK), (A.deeper (envOfC x (C8.fnScope st) s.heap.objs.size f cdv)).guards = some [] → Room k (A.deeper (envOfC x (C8.fnScope st) s.heap.objs.size f cdv)) →
      ∃ (t : WX → TS) (d : DW → DS), (∀ W, L2.Takes (cxOf (L2.CX P w) P w K mg base N x (C8.fnScope st) f cdv A outer s H E) W → PSs (cxOf (L2.CX P w) P w K mg base N x (C8.fnScope st) f cdv A outer s H E) (C8.fnBody st) (t W)) ∧ LSw K mg t d ∧
        ∀ ds Qc Xc, C ds Qc Xc → d (fun x _ => Xc x) { nx := fun _ => Qc (.fz .none), rt := retC Qc } (startR N.length ks ds)) (hk : noMu ks = true := by rfl) :
    CalX P w K mg base (k + 1) x (spX K mg ks C) := by
  refine ⟨f, fd, ps, fnG_of F.fn S (fun vs H Q E h => ?_) (fun cdv A outer s H vs Q E hg hr h => ?_), F.mgf, F.kp, b⟩
  · obtain ⟨M0, src, ds, P, _⟩ := h
    rw [← hl, P.args.length.1]
  · obtain ⟨t, d, h1, h2, h3⟩ := hb cdv A outer s H E hg hr
    exact ⟨_, h1 _ (takes_of rfl rfl rfl rfl), def_endX h hk h2 h3⟩
end
section
variable {X : Cx} {k j : Nat} {x : Str} {sp : Sp} {p pos : Pos} {e : Expr} {es : List Expr} {t : TA} {W : WX}
theorem pe_cX (c : CalX X.prog X.w X.K X.mg X.base k x sp) (hA : X.A.guards = some []) (hr : Room j X.A) (hk : k ≤ j) (tk : L2.Takes X W) (hg : Gl X x) (ha : PA X (e :: es) t)
    (hdb : (x == ("__debug__" : Str)) = false := by decide) (he : starEach (e :: es) X.env = (false, eval e X.env) :: starEach es X.env := by rfl) (hpl : (backTo pos (starEach es X.env)).any (·.1) = false := by rfl) :
    PE X (.Call (.Name x p) (e :: es) [] pos) (tCallS sp (WE W) t) := by
  obtain ⟨f, fd, ps, F, hm, kp, b⟩ := c.ex
  constructor
  intro pins s σ H Q I h
  refine wpAny_Call_Name_kw (ld_glob I hg hm (PySem.W.callWith_K (h₀ := X.base) I.ok.mod.kin kp (thn (ha.run pos pins s σ H _ I h) ?_) he hpl) hdb)
  rintro us s1 ⟨vs, H1, I1, r, q⟩
  refine ⟨I1.kIn, ?_⟩
  have hl : (us ++ []).length = ps.length := by rw [List.append_nil, ← r.length]; exact F.len _ _ _ _ q
  have hb := b s1 us I1.kIn hl
  rw [List.append_nil] at hb
  refine wpAny_call (codeAny_mono (F.go X.A hA (hr.mono hk) X.stack s1 H1 I1.env0 ⟨us, []⟩ us vs Q (WE W σ) hb r q) ?_)
  intro rr s' hq
  cases rr with
  | error e => exact passAt tk σ pins H1 s1 e s' I1 hq
  | ok fl =>
    cases fl with
    | ret u => exact I1.after hq
    | next => exact False.elim hq
    | brk => exact False.elim hq
    | cont => exact False.elim hq
end
end DL

set_option Elab.async false
set_option linter.all false
set_option maxRecDepth 100000
set_option maxHeartbeats 4000000
set_option autoImplicit false
namespace DL
open PySem PySem.Spec PyProof.Rows L2
/-! ### what a class asks -/
section
variable {K : PySem.W.Frag} {C : Addr}
theorem exm_of {c : Addr} (hc : (PySem.W.clsIn K c).isSome = true) (h1 : PySem.W.subIn K (.ref c) (.type "BaseException") = some true) (h2 : PySem.W.typeIn K (.ref c) = some (.type "type")) {b : Bool} (h3 : PySem.W.subIn K (.ref C) (.ref c) = some b) : PySem.W.exmOne K (.ref C) (.ref c) = some b := by
  simp only [PySem.W.exmOne, PySem.W.kitCls, h1, hc, h2, h3]
  rfl
theorem ini_of {L : Addr} {o : Option Addr} {oc : Value} {cd cdL : ClassData} {sl slL : Array (Option Value)} {odL : Option Addr} {ocL : Value} {rest : List Value} (h1 : K.lookup C = some ⟨oc, o, .cls cd, sl⟩) (h2 : cd.mro = .ref C :: .ref L :: rest) (h3 : K.lookup L = some ⟨ocL, odL, .cls cdL, slL⟩) (h4 : cdL.mro = .ref L :: rest)
    {v : Value} (h5 : PySem.W.findIn K (.ref L) "__init__" = some (some v)) : PySem.W.ks_superIn K C C "__init__" = some (some v) := by
  have e : PySem.W.clsIn K C = some cd := by unfold PySem.W.clsIn; rw [h1] <;> rfl
  unfold PySem.W.ks_superIn
  rw [e, Option.bind_some, h2]
  have z : PySem.W.findIn K (.ref L) "__init__" = PySem.W.alongIn K "__init__" cdL.mro := by simp only [PySem.W.findIn, h3]
  rw [z, h4] at h5
  simpa [List.dropWhile_cons] using h5
end
/-! ### raise -/
section
variable {K : PySem.W.Frag} {mg : Str → Option Value} {ta : TE} {da : DE} {C : Addr} {x fl : Str} {tup : Bool}
def dRaise1 (x fl : Str) (tup : Bool) (da : DE) (Y : DW) : DS := fun DD ρ => da ρ fun r ρ1 => wF (frz ρ1 r) fun d ρ2 => (tup = true → ∃ xs, d = .tuple xs) ∧ Y ⟨x, [(fl, d)]⟩ ρ2
theorem lsw_raise1 (h : LE K ta da) (hm : mg x = some (.ref C)) : LSw K mg (fun W => fun _ σ H => tMkO C (spI1 K C fl tup) [] (tCons ta tNil) σ H fun cls d H' => W cls d σ H') (dRaise1 x fl tup da) := by
  intro W Y f g σ H ρ DD E hK hR lw hd l
  refine h.opd hK hR hd fun v H1 g1 ρ1 r1 R1 G1 O1 q1 => ?_
  obtain ⟨d, ρ2, e1, ht, q1⟩ := wF_some q1
  obtain ⟨g2, R2, G2, hv⟩ := O1.frz R1 e1
  subst hK
  refine ⟨by simp, fun a ha => ⟨a, v, rfl, upd_same, fun e => ?_, fun dx hd hne => ?_⟩⟩
  · obtain ⟨xs, rfl⟩ := ht e
    cases hv with
    | tup hh _ =>
      have ho := fz_sub _ _ hh
      exact ⟨_, _, rfl, .inl (.inl (by rw [upd_ne (fun z => by rw [z, ha] at ho; cases ho)]; exact ho))⟩
  · have hd1 : H1 dx = none := by rw [upd_ne hne] at hd; exact hd
    have keep : ∀ (c : Addr) (o : HO), H1 c = some o → upd H1 dx (.xd [(fl, v)]) c = some o := fun c o e => by
      rw [upd_ne (fun z => by rw [z, hd1] at e; cases e)]
      exact e
    refine ⟨rfl, dx, [(fl, v)], upd_same, by rw [upd_ne hne, upd_same], hd1, ?_⟩
    rw [upd_made2 ha hne]
    obtain ⟨R3, G3⟩ := R2.step (g' := g2) (H' := upd H1 dx (.xd [(fl, v)])) (fun _ => Iff.rfl) rfl rfl (fun c o e _ => keep c o e) (fun c e => by
      by_cases z : c = dx
      · rw [z, upd_same] at e; cases e
      · rw [upd_ne z] at e; exact e) (fun p c e => by
        obtain ⟨_, _, _, _, _, ok⟩ := R2.src p c e
        obtain ⟨ns, l', m, t, more, e1, e2, e3⟩ := ok
        exact ⟨ns, l', m, t, more, keep _ _ e1, keep _ _ e2, e3⟩)
    exact lw g2 σ _ ρ2 ⟨x, [(fl, d)]⟩ (.ref C) (some dx) R3 ((G1.trans G2).trans G3) ⟨C, hm, rfl, .inr ⟨dx, _, rfl, fz_of upd_same (R2.mH dx hd1), .cons (hv.mono G3.fz) .nil⟩⟩ q1
/-- a class without __init__, without arguments -/
def dRaise0 (x : Str) (Y : DW) : DS := fun _ ρ => Y ⟨x, []⟩ ρ
theorem lsw_raise0 (hm : mg x = some (.ref C)) : LSw K mg (fun W => fun _ σ H => W (.ref C) none σ H) (dRaise0 x) := fun W Y f g σ H ρ DD E hK hR lw hd l =>
  lw g σ H ρ ⟨x, []⟩ (.ref C) none hR Gro.refl ⟨C, hm, rfl, .inl rfl⟩ hd
end
/-! ### try: .. except X as n: .. -/
section
variable {f : Fr} {g : Gs} {σ : L2.St} {H : Hp} {ρ : Rho} {i : Nat}
/-- a slot of which nothing is known -/
theorem Rel.blank (R : Rel f g σ H ρ) (x : Option V) : Rel f g (σ.set i x) H (ρ.set i none) := by
  have off : ∀ {j : Nat} {s : Sl}, (ρ.set i none)[j]? = some (some s) → i ≠ j ∧ ρ[j]? = some (some s) := fun {j s} e => by
    rcases getset e with ⟨_, q⟩ | h
    · cases q
    · exact h
  refine ⟨R.keep, R.dom, R.m0, R.m00, R.mU, R.src, by rw [List.length_set, List.length_set]; exact R.len, fun j t e => ?_, fun j k l d e h1 h2 h3 h4 => ?_, fun b hb => ⟨(R.tmp b hb).1, (R.tmp b hb).2.1, fun j e h1 h2 => ?_⟩, R.fpM, R.fpn, fun j k d e h1 h2 => R.mq j k d e (off h1).2 (off h2).2⟩
  · obtain ⟨n, q⟩ := off e
    obtain ⟨w, e1, q1⟩ := R.slot j t q
    exact ⟨w, by rw [List.getElem?_set_ne n]; exact e1, q1⟩
  · obtain ⟨n1, q1⟩ := off h1
    obtain ⟨n2, q2⟩ := off h2
    rw [List.getElem?_set_ne n1] at h3
    rw [List.getElem?_set_ne n2] at h4
    exact R.uq j k l d e q1 q2 h3 h4
  · obtain ⟨n, q⟩ := off h1
    rw [List.getElem?_set_ne n] at h2
    exact (R.tmp b hb).2.2 j e q h2
end
section
variable (K : PySem.W.Frag) (mg : Str → Option Value) (C : Addr) (i : Nat)
def LEx (t : Addr → Value → Option Addr → TE) (d : XD → DE) : Prop := ∀ (a : Addr) (dd : Option Addr) (x : XD) (f : Fr) (g : Gs) (σ : L2.St) (H : Hp) (ρ : Rho) (Q : Rv → Rho → Prop) (R : V → Hp → Prop), f.K = K → Rel f g σ H ρ → σ[i]? = some (some (.ref a)) → XR K mg (Fz H g.M) x (.ref C) dd → d x ρ Q →
  (∀ (v : V) (H' : Hp) (g' : Gs) (ρ' : Rho) (r : Rv), Rel f g' σ H' ρ' → Gro g H g' H' → VR f g' σ H' ρ' v r → Q r ρ' → R v H') → t a (.ref C) dd σ H R
def LAx (t : Addr → Value → Option Addr → TA) (d : XD → DA) : Prop := ∀ (a : Addr) (dd : Option Addr) (x : XD) (f : Fr) (g : Gs) (σ : L2.St) (H : Hp) (ρ : Rho) (Q : List Rv → Rho → Prop) (R : List V → Hp → Prop), f.K = K → Rel f g σ H ρ → σ[i]? = some (some (.ref a)) → XR K mg (Fz H g.M) x (.ref C) dd → d x ρ Q →
  (∀ (vs : List V) (H' : Hp) (g' : Gs) (ρ' : Rho) (rs : List Rv), Rel f g' σ H' ρ' → Gro g H g' H' → OpdA f g' σ H' vs rs → Q rs ρ' → R vs H') → t a (.ref C) dd σ H R
def LSx (t : Addr → Value → Option Addr → TS) (d : XD → DS) : Prop := ∀ (a : Addr) (dd : Option Addr) (x : XD) (f : Fr) (g : Gs) (σ : L2.St) (H : Hp) (ρ : Rho) (DD : DEnds) (E : Ends), f.K = K → Rel f g σ H ρ → σ[i]? = some (some (.ref a)) → XR K mg (Fz H g.M) x (.ref C) dd → d x DD ρ → LkE f g H DD E → t a (.ref C) dd E σ H
end
section
variable {K : PySem.W.Frag} {mg : Str → Option Value} {C : Addr} {i : Nat}
theorem lex_of {t : TE} {d : DE} (h : LE K t d) : LEx K mg C i (fun _ _ _ => t) (fun _ => d) := fun a dd x f g σ H ρ Q R hK hR _ _ hd k => h f g σ H ρ Q R hK hR hd k
def dXf (n : Str) (x : XD) : DE := fun ρ Q => ∃ d, x.fs.lookup n = some d ∧ Q (.fz d) ρ
theorem lex_field {n : Str} : LEx K mg C i (fun a cls d => tXf a cls d C n (tVar i)) (dXf n) := by
  intro a dd x f g σ H ρ Q R hK hR hs hx hd k
  obtain ⟨d, e, q⟩ := hd
  obtain ⟨C', _, _, h3⟩ := hx
  subst hK
  rcases h3 with h3 | ⟨dx, vs, rfl, e2, e3⟩
  · rw [h3] at e; cases e
  · obtain ⟨v, e4, hv⟩ := e3.look e
    exact ⟨.ref a, hs, rfl, rfl, dx, vs, v, rfl, fz_sub _ _ e2, e4, k v H g ρ (.fz d) hR Gro.refl hv q⟩
theorem lax_nil : LAx K mg C i (fun _ _ _ => tNil) (fun _ => dNil) := fun a dd x f g σ H ρ Q R hK hR _ _ hd k => k [] H g ρ [] hR Gro.refl .nil hd
theorem lax_cons {ta : Addr → Value → Option Addr → TE} {tr : Addr → Value → Option Addr → TA} {da : XD → DE} {dr : XD → DA} (h : LEx K mg C i ta da) (h' : LAx K mg C i tr dr) : LAx K mg C i (fun a c d => tCons (ta a c d) (tr a c d)) (fun x => dCons (da x) (dr x)) := by
  intro a dd x f g σ H ρ Q R hK hR hs hx hd k
  refine h a dd x f g σ H ρ _ _ hK hR hs hx hd fun v H1 g1 ρ1 r R1 G1 V1 q1 => ?_
  obtain ⟨g2, R2, G2, O2⟩ := V1.opd R1
  exact h' a dd x f g2 σ H1 ρ1 _ _ hK R2 hs (hx.mono (G1.trans G2).fz) q1 fun vs H3 g3 ρ3 rs R3 G3 O3 q3 => k (v :: vs) H3 g3 ρ3 (r :: rs) R3 ((G1.trans G2).trans G3) (.cons (O2.mono G3) O3) q3
theorem lex_tup {tr : Addr → Value → Option Addr → TA} {dr : XD → DA} (h : LAx K mg C i tr dr) : LEx K mg C i (fun a c d => tTup (tr a c d)) (fun x => dTup (dr x)) := by
  intro a dd x f g σ H ρ Q R hK hR hs hx hd k
  refine h a dd x f g σ H ρ _ _ hK hR hs hx hd fun vs H1 g1 ρ1 rs R1 G1 O1 q1 => ?_
  obtain ⟨ds, ρ2, e1, hl, q1⟩ := wFA_some q1
  obtain ⟨g2, R2, G2, q2⟩ := O1.frz R1 e1
  refine ⟨by rw [q2.length]; exact hl, fun p hp => ?_⟩
  obtain ⟨R3, G3, e3⟩ := R2.new (o := .tup vs) hp
  exact k _ _ g2 ρ2 (.fz (.tuple ds)) R3 ((G1.trans G2).trans G3) (Rp.tup e3 (q2.mono G3.fz)) q1
theorem lex_lst {tr : Addr → Value → Option Addr → TA} {dr : XD → DA} (h : LAx K mg C i tr dr) : LEx K mg C i (fun a c d => tLst (tr a c d)) (fun x => dLst (dr x)) := by
  intro a dd x f g σ H ρ Q R hK hR hs hx hd k
  refine h a dd x f g σ H ρ _ _ hK hR hs hx hd fun vs H1 g1 ρ1 rs R1 G1 O1 q1 => ?_
  obtain ⟨ds, ρ2, e1, hl, q1⟩ := wFA_some q1
  obtain ⟨g2, R2, G2, q2⟩ := O1.frz R1 e1
  refine ⟨by rw [q2.length]; exact hl, fun p hp => ?_⟩
  obtain ⟨R3, G3, V3⟩ := R2.own (o := .lst vs) (d := .list ds) hp (.lst upd_same q2)
  exact k _ _ _ ρ2 _ R3 ((G1.trans G2).trans G3) V3 q1
theorem lsx_ret {t : Addr → Value → Option Addr → TE} {d : XD → DE} (h : LEx K mg C i t d) : LSx K mg C i (fun a c dd => tRet (t a c dd)) (fun x => dRet (d x)) := fun a dd x f g σ H ρ DD E hK R hs hx hd l =>
  h a dd x f g σ H ρ _ _ hK R hs hx hd fun v H1 g1 ρ1 r R1 G1 V1 q1 => l.rt g1 σ H1 ρ1 v r R1 G1 V1 q1
theorem lsx_of {t : TS} {d : DS} (h : LS K t d) : LSx K mg C i (fun _ _ _ => t) (fun _ => d) := fun a dd x f g σ H ρ DD E hK R _ _ hd l => h f g σ H ρ DD E hK R hd l
def dTry (n : Str) (i : Nat) (db : DW → DS) (dh : XD → DS) : DS := fun DD ρ => db (fun x ρ' => x.name = n ∧ i < ρ'.length ∧ dh x { nx := fun ρ2 => DD.nx (ρ2.set i none), rt := DD.rt, bk := fun ρ2 => DD.bk (ρ2.set i none), ct := fun ρ2 => DD.ct (ρ2.set i none) } (ρ'.set i none)) DD ρ
theorem ls_try {tb : WX → TS} {db : DW → DS} {ts : Addr → Value → Option Addr → TS} {dh : XD → DS} {n : Str} (hb : LSw K mg tb db) (hs : LSx K mg C i ts dh) (hx : PySem.W.exmOne K (.ref C) (.ref C) = some true) (hm : mg n = some (.ref C)) :
    LS K (fun D σ H => tb (wAs K (.ref C) i ts (fun _ _ _ _ => False) D) D σ H) (dTry n i db dh) := by
  intro f g σ H ρ DD E hK R hd l
  refine hb _ _ f g σ H ρ DD E hK R (fun g' σ' H' ρ' x cls d R' G' hx' q => ?_) hd l
  obtain ⟨hn, hi, q⟩ := q
  obtain ⟨C', h1, rfl, h3⟩ := hx'
  rw [hn, hm] at h1
  cases h1
  refine ⟨true, hx, fun _ a ha => ?_, fun z => nomatch z⟩
  subst hK
  exact hs a d x f g' (σ'.set i (some (.ref a))) H' (ρ'.set i none) _ _ rfl (R'.blank _) (List.getElem?_set_self (by rw [← R'.len]; exact hi)) ⟨C, by rw [hn]; exact hm, rfl, h3⟩ q
    ⟨fun g2 σ2 H2 ρ2 R2 G2 q2 => l.nx g2 _ H2 _ (R2.blank none) (G'.trans G2) q2, fun g2 σ2 H2 ρ2 v r R2 G2 V2 q2 => l.rt g2 σ2 H2 ρ2 v r R2 (G'.trans G2) V2 q2,
      fun g2 σ2 H2 ρ2 R2 G2 q2 => l.bk g2 _ H2 _ (R2.blank none) (G'.trans G2) q2, fun g2 σ2 H2 ρ2 R2 G2 q2 => l.ct g2 _ H2 _ (R2.blank none) (G'.trans G2) q2⟩
/-- .. without a name -/
def dTry0 (n : Str) (db : DW → DS) (dh : DS) : DS := fun DD ρ => db (fun x ρ' => x.name = n ∧ dh DD ρ') DD ρ
theorem ls_try0 {tb : WX → TS} {db : DW → DS} {ts : TS} {dh : DS} {n : Str} (hb : LSw K mg tb db) (hs : LS K ts dh) (hx : PySem.W.exmOne K (.ref C) (.ref C) = some true) (hm : mg n = some (.ref C)) :
    LS K (fun D σ H => tb (wOnly K (.ref C) (fun _ _ _ => ts) (fun _ _ _ _ => False) D) D σ H) (dTry0 n db dh) := by
  intro f g σ H ρ DD E hK R hd l
  refine hb _ _ f g σ H ρ DD E hK R (fun g' σ' H' ρ' x cls d R' G' hx' q => ?_) hd l
  obtain ⟨hn, q⟩ := q
  obtain ⟨C', h1, rfl, h3⟩ := hx'
  rw [hn, hm] at h1
  cases h1
  exact ⟨true, hx, fun _ a ha => hs f g' σ' H' ρ' DD E hK R' q (l.mono G'), fun z => nomatch z⟩
end
end DL

set_option Elab.async false
set_option linter.all false
set_option maxRecDepth 100000
set_option maxHeartbeats 4000000
set_option autoImplicit false
namespace DL
open PySem PySem.Spec PyProof.Rows L2
abbrev veB : List Value := [.type "ValueError", .type "Exception", .type "BaseException", .type "object"]
/-- C() -/
theorem pmk_own0 {X : Cx} {C : Addr} {bmB : List Value} {B newId initId : String} {x : Str} {p pos : Pos} (F : ExcBaseFacts B newId initId bmB) (q : PySem.W.excIn X.K C bmB newId = true) (gC : X.mg x = some (.ref C)) (kC : PySem.W.keepIn X.K (.ref C) = true) (r : Raises X (.ref C)) (hg : Gl X x)
    (hdb : (x == ("__debug__" : Str)) = false := by decide) : PMk X (.Call (.Name x p) [] [] pos) (fun _ H Q => Q (.ref C) none H) := by
  intro pins s σ H Q I h
  refine wpAny_Call_Name_kw (ld_glob I hg gC (PySem.W.callWith_K0 I.kIn kC ?_) hdb)
  obtain ⟨bm, N, nm, qn, bs, hdct, sn, sub, ab, col, dd, k0, k1, k2, k3, k5, mN, hC, hN, hni, T⟩ := exc_obj I.kIn q
  exact wpAny_call_exc_subT F T hC hN hni (fun h' e hm => mk_of I hm r h (I.hok.gone hm.new)) (by rw [sizeLine_eq]; decide)
/-- a class without __init__ -/
structure ExC0 (K : PySem.W.Frag) (mg : Str → Option Value) (x : Str) (C : Addr) : Prop where
  q : PySem.W.excIn K C veB "ValueError.__new__" = true
  mgC : mg x = some (.ref C)
  kC : PySem.W.keepIn K (.ref C) = true
  exC : PySem.W.subIn K (.ref C) (.type "BaseException") = some true
  tyC : PySem.W.typeIn K (.ref C) = some (.type "type")
  exm : PySem.W.exmOne K (.ref C) (.ref C) = some true
/-- a class with an __init__ of one field -/
structure ExC1 (P : Program) (w : World) (K : PySem.W.Frag) (mg : Str → Option Value) (base : Heap) (x fl : Str) (tup : Bool) (C : Addr) : Prop where
  T : OexC K C
  ini : ∃ (fI : Addr) (fd : FuncData) (ps : List Str), PySem.W.findIn K (.ref C) "__init__" = some (some (.ref fI)) ∧ PySem.W.typeIn K (.ref fI) = some (.type "function") ∧ FnOk P w K mg base C8.CX0 1 fI fd ps (spI1 K C fl tup) ∧ Binds K fd ps []
  mgC : mg x = some (.ref C)
  xf : XfC K C
  hno : PySem.W.findIn K (.ref C) fl = some none
  exm : PySem.W.exmOne K (.ref C) (.ref C) = some true
theorem exm0 {K : PySem.W.Frag} {C : Addr} {o : Option Addr} {oc : Value} {cd : ClassData} {sl : Array (Option Value)} (h0 : K.lookup C = some ⟨oc, o, .cls cd, sl⟩) (h1 : PySem.W.subIn K (.ref C) (.type "BaseException") = some true) (h2 : PySem.W.typeIn K (.ref C) = some (.type "type")) (h3 : PySem.W.subIn K (.ref C) (.ref C) = some true) :
    PySem.W.exmOne K (.ref C) (.ref C) = some true := exm_of (by unfold PySem.W.clsIn; rw [h0]; rfl) h1 h2 h3
/-- the class's facts, from what the written part says -/
theorem supC_of {P : Program} {K : PySem.W.Frag} {mg : Str → Option Value} {C L fI cc c1 : Addr} {oc1 oc2 oc3 ocL : Value} {od1 od2 od3 odL : Option Addr} {sl1 sl2 sl3 slL : Array (Option Value)} {cdL : ClassData} {vs : Array Value} {file : Str} {tf : Tok} {doc pm ct : Value} {F : NdefX.NF}
    {nm q : Str} {N : Addr} {bs rest sub : List Value} {sn : List Str} {ab : Bool} {col : Option Bool} {dd : Option Addr} {k0 k1 k2 k3 k5 : Option Value}
    (p2 : K.lookup C = some (excClassObj nm q C N bs (.ref L :: rest) true sn sub ab col dd k0 k1 k2 k3 k5 "ValueError.__new__")) (p3 : PySem.HandSPX.refsVE (.ref L :: rest) = true) (pL : K.lookup L = some ⟨ocL, odL, .cls cdL, slL⟩) (pM : cdL.mro = .ref L :: rest)
    (p4 : PySem.W.findIn K (.ref C) "__setattr__" = some (some (.builtin "object.__setattr__"))) (p5 : PySem.W.subIn K (.ref C) (.type "BaseException") = some true) (p6 : PySem.W.typeIn K (.ref C) = some (.type "type")) (p7 : PySem.W.keepIn K (.ref C) = true)
    (pF : F.cl = [(("__class__" : Str), cc)]) (pc : F.c = c1) (p10 : K.lookup fI = some ⟨oc1, od1, .func (F.fd doc pm ct), sl1⟩) (p11 : K.lookup cc = some ⟨oc2, od2, .cell (some (.ref C)), sl2⟩)
    (p12 : K.lookup c1 = some ⟨oc3, od3, .fields vs, sl3⟩) (p13 : vs[2]? = some (.str file tf)) (p14 : ((P.main.file : Str) == file) = true) (p15 : PySem.W.mroIn K C (.ref C) = some true) (p16 : (P.main.scope.names.lookup ("super" : Str)).isSome = false)
    (p17 : mg "super" = none) (p18 : PySem.W.nsIn K cStatics "thirdparty.any" = some none) (p19 : PySem.W.findIn K (.ref L) "__init__" = some (some (.builtin "ValueError.__init__"))) (p20 : PySem.W.subIn K (.ref C) (.type "ValueError") = some true)
    (s1 : F.scope.names.lookup ("super" : Str) = some .globalImplicit) (s2 : F.scope.names.lookup ("__class__" : Str) = some .free) (sk : F.scope.kind = .function) : SupC P K mg C fI F cc :=
  ⟨⟨⟨_, _, _, _, _, _, _, _, _, _, _, _, _, _, _, p2, p3⟩, p4, p5, p6, p7⟩, pF, ⟨_, _, _, p11⟩, ⟨_, _, _, _, _, _, by rw [pc]; exact p12, p13, p14⟩, ⟨_, _, _, _, _, _, p10⟩, p15, p16, p17, p18, ini_of p2 rfl pL pM p19, p20, s1, s2, sk⟩
/-- a module's constant: an int -/
def KI (mg : Str → Option Value) (x : Str) (n : Int) : Prop := ∃ t, mg x = some (.int n t)
/-- where it does not raise -/
theorem CalX.quiet {P : Program} {w : World} {K : PySem.W.Frag} {mg : Str → Option Value} {base : Heap} {k : Nat} {x : Str} {ks : List Kd} {C : ConX} (c : CalX P w K mg base k x (spX K mg ks C)) : CalG P w K mg base k x (spD K ks fun ds Q => C ds Q fun _ => False) := by
  obtain ⟨f, fd, ps, F, a, b, d⟩ := c.ex
  have key : ∀ {vs : List V} {H : Hp} {Q : VK} {E : XK}, spD K ks (fun ds Q => C ds Q fun _ => False) vs H Q E → spX K mg ks C vs H Q (fun _ _ _ => False) := fun {vs H Q E} h => by
    obtain ⟨M0, src, ds, P, Qc, hC, hQ⟩ := h
    exact ⟨M0, src, ds, P, Qc, _, hC, hQ, fun x z => z.elim⟩
  refine ⟨f, fd, ps, ⟨fun vs H Q E h => F.len vs H Q _ (key h), fun A hg hr outer s H e0 args us vs Q E hb r h => codeAny_mono (F.go A hg hr outer s H e0 args us vs Q _ hb r (key h)) fun rr s' q => ?_⟩, a, b, d⟩
  cases rr with
  | ok fl => cases fl <;> exact q
  | error e =>
    obtain ⟨_, _, _, _, _, _, _, _, _, _, _, _, z⟩ := q
    exact z.elim
end DL

set_option Elab.async false
set_option linter.all false
set_option maxRecDepth 100000
set_option maxHeartbeats 4000000
set_option autoImplicit false
namespace DL
open PySem L2

/-! ### repr of anything but dicts with tuples as keys: lists beside dicts -/
mutual
def noT : D → Bool
  | .list ds | .tuple ds => noTA ds
  | .dict es => !isT es && noTE es
  | _ => true
def noTA : List D → Bool
  | [] => true
  | d :: ds => noT d && noTA ds
def noTE : List (D × D) → Bool
  | [] => true
  | (_, d) :: es => noT d && noTE es
end
mutual
inductive RdS (h : Heap) : Value → D → Prop
  | none : RdS h .none .none
  | bool (b) : RdS h (.bool b) (.bool b)
  | int (i t) : RdS h (.int i t) (.int i)
  | str (x t) : RdS h (.str x t) (.str x)
  | list {a o vs n xs} : h.get? a = some o → o.cls = .type "list" → o.data = .seq vs n → RdSA h vs.toList xs → RdS h (.ref a) (.list xs)
  | tuple {a o vs n xs} : h.get? a = some o → o.cls = .type "tuple" → o.data = .seq vs n → RdSA h vs.toList xs → RdS h (.ref a) (.tuple xs)
  | dict {a o es n kvs} : h.get? a = some o → o.cls = .type "dict" → o.data = .dict es n → (a == sysModules) = false → RdSA h (es.toList.map (·.key)) (kvs.map (·.1)) → RdSA h (es.toList.map (·.val)) (kvs.map (·.2)) → RdS h (.ref a) (.dict kvs)
inductive RdSA (h : Heap) : List Value → List D → Prop
  | nil : RdSA h [] []
  | cons {v vs d ds} : RdS h v d → RdSA h vs ds → RdSA h (v :: vs) (d :: ds)
end
mutual
theorem RdS.reads {h : Heap} : ∀ {v : Value} {d : D}, RdS h v d → ∃ as, Reads h v d as
  | _, _, .none => ⟨_, .none⟩
  | _, _, .bool b => ⟨_, .bool b⟩
  | _, _, .int i t => ⟨_, .int i t⟩
  | _, _, .str x t => ⟨_, .str x t⟩
  | _, _, .list a b c r => let ⟨as, h⟩ := RdSA.reads r; ⟨_, .list a b c h⟩
  | _, _, .tuple a b c r => let ⟨as, h⟩ := RdSA.reads r; ⟨_, .tuple a b c h⟩
  | _, _, .dict a b c _ r q => let ⟨as, h⟩ := RdSA.reads r; let ⟨bs, h'⟩ := RdSA.reads q; ⟨_, .dict a b c h h'⟩
theorem RdSA.reads {h : Heap} : ∀ {v : List Value} {d : List D}, RdSA h v d → ∃ as, ReadsAll h v d as
  | _, _, .nil => ⟨_, .nil⟩
  | _, _, .cons r q => let ⟨as, h⟩ := RdS.reads r; let ⟨bs, h'⟩ := RdSA.reads q; ⟨_, .cons h h'⟩
end
section
variable {P : Program} {w : World} {h : Heap}
/-- what a value's repr needs: deeper addresses, and the showing -/
def Shw (P : Program) (w : World) (h : Heap) (v : Value) (d : D) : Prop := ∃ bs, ReadAtMost h d.depth bs ∧ ReprK P w bs h d.depth v d.shown
def ShwA (P : Program) (w : World) (h : Heap) (vs : List Value) (ds : List D) : Prop := ∃ bs, ReadAtMost h (PyData.depthAll ds) bs ∧ ReprAllK P w bs h (PyData.depthAll ds) vs (PyData.shownAll ds)
theorem atMost_cons {a : Addr} {d : D} {bs : List Addr} {n : Nat} (r : RdS h (.ref a) d) (hn : n ≤ d.depth) (hb : ReadAtMost h n bs) : ReadAtMost h d.depth (a :: bs) := by
  obtain ⟨as, r⟩ := r.reads
  exact ReadAtMost.cons r hn hb
theorem not_deeper {a : Addr} {d : D} {bs : List Addr} {n : Nat} (r : RdS h (.ref a) d) (hd : n < d.depth) (hb : ReadAtMost h n bs) : a ∉ bs := by
  obtain ⟨as, r⟩ := r.reads
  exact not_mem_of_deeper r hd hb
mutual
theorem RdS.shw : ∀ {v : Value} {d : D}, RdS h v d → d.showable = true → d.shown.length ≤ sizeLine → Shw P w h v d
  | _, _, .none, _, _ => ⟨[], (fun _ h => nomatch h), by simp only [PyData.shown]; exact .of_is ReprIs.none _ _ _⟩
  | _, _, .bool b, _, _ => ⟨[], (fun _ h => nomatch h), by simp only [PyData.shown]; exact .of_is (ReprIs.bool b) _ _ _⟩
  | _, _, .int i t, hs, _ => ⟨[], (fun _ h => nomatch h), by simp only [PyData.shown]; exact .of_is (ReprIs.int t (by simpa [PyData.showable] using hs)) _ _ _⟩
  | _, _, .str x t, _, hz => ⟨[], (fun _ h => nomatch h), by simp only [PyData.shown]; exact .of_is (ReprIs.str x t (by simpa only [PyData.shown] using hz)) _ _ _⟩
  | _, _, .list (a := a) (vs := vs) (xs := xs) h1 h2 h3 h4, hs, hz => by
    have hz' : (listText (PyData.shownAll xs)).length ≤ sizeLine := by simpa only [PyData.shown] using hz
    obtain ⟨bs, hb, hk⟩ := RdSA.shw h4 (by simpa [PyData.showable] using hs) (fun t ht => Nat.le_trans (listText_mem_le ht) hz')
    have r : RdS h (.ref a) (.list xs) := .list h1 h2 h3 h4
    have hna : a ∉ bs := not_deeper r (by simp only [PyData.depth]; omega) hb
    refine ⟨a :: bs, atMost_cons r (by simp only [PyData.depth]; omega) hb, ?_⟩
    simp only [PyData.depth, PyData.shown]
    obtain ⟨l⟩ := vs
    cases l with
    | nil =>
      have h4' : RdSA h [] xs := h4
      cases h4'
      simp only [PyData.shownAll, listText_nil]
      exact ReprK.listEmpty h1 h2 h3
    | cons x l => exact ReprK.list h1 h2 h3 hna (by simpa using hk.length_eq) (fun i y e => hk.item i y (by simpa using e))
  | _, _, .tuple (a := a) (xs := xs) h1 h2 h3 h4, hs, hz => by
    have hz' : (tupleText (PyData.shownAll xs)).length ≤ sizeLine := by simpa only [PyData.shown] using hz
    obtain ⟨bs, hb, hk⟩ := RdSA.shw h4 (by simpa [PyData.showable] using hs) (fun t ht => Nat.le_trans (tupleText_mem_le ht) hz')
    have r : RdS h (.ref a) (.tuple xs) := .tuple h1 h2 h3 h4
    have hna : a ∉ bs := not_deeper r (by simp only [PyData.depth]; omega) hb
    refine ⟨a :: bs, atMost_cons r (by simp only [PyData.depth]; omega) hb, ?_⟩
    simp only [PyData.depth, PyData.shown]
    exact ReprK.tuple h1 h2 h3 hna hk
  | _, _, .dict (a := a) (es := es) (kvs := kvs) h1 h2 h3 hsys h4 h5, hs, hz => by
    have hz' : (dictText (PyData.shownKv kvs)).length ≤ sizeLine := by simpa only [PyData.shown] using hz
    obtain ⟨hs1, hs2⟩ := PyData.showableKv_split kvs (by simpa [PyData.showable] using hs)
    obtain ⟨b1, hb1, k1⟩ := RdSA.shw h4 hs1 (fun t ht => let ⟨p, hp, hl⟩ := PyData.shownKv_key_le kvs t ht; Nat.le_trans hl (Nat.le_trans (dictText_mem_le hp) hz'))
    obtain ⟨b2, hb2, k2⟩ := RdSA.shw h5 hs2 (fun t ht => let ⟨p, hp, hl⟩ := PyData.shownKv_val_le kvs t ht; Nat.le_trans hl (Nat.le_trans (dictText_mem_le hp) hz'))
    have r : RdS h (.ref a) (.dict kvs) := .dict h1 h2 h3 hsys h4 h5
    have hb : ReadAtMost h (PyData.depthKv kvs) (b1 ++ b2) := (hb1.mono (PyData.depthAll_keys_le kvs)).append (hb2.mono (PyData.depthAll_vals_le kvs))
    have hna : a ∉ b1 ++ b2 := not_deeper r (by simp only [PyData.depth]; omega) hb
    refine ⟨a :: (b1 ++ b2), atMost_cons r (by simp only [PyData.depth]; omega) hb, ?_⟩
    simp only [PyData.depth, PyData.shown, PyData.shownKv_eq]
    exact ReprK.dict h1 h2 h3 hsys hna (ReprEntriesK.of_two es.toList _ _
      (k1.more_le (fun b hb => List.mem_append_left _ hb) (PyData.depthAll_keys_le kvs)) (k2.more_le (fun b hb => List.mem_append_right _ hb) (PyData.depthAll_vals_le kvs)))
theorem RdSA.shw : ∀ {vs : List Value} {ds : List D}, RdSA h vs ds → PyData.showableAll ds = true → (∀ t ∈ PyData.shownAll ds, t.length ≤ sizeLine) → ShwA P w h vs ds
  | _, _, .nil, _, _ => ⟨[], (fun _ h => nomatch h), by simp only [PyData.shownAll]; exact .nil⟩
  | _, _, .cons (d := d) (ds := ds) r rs, hs, hz => by
    have hs' : d.showable = true ∧ PyData.showableAll ds = true := by simpa [PyData.showableAll] using hs
    obtain ⟨b1, hb1, k1⟩ := RdS.shw r hs'.1 (hz _ (by simp only [PyData.shownAll]; exact List.mem_cons_self ..))
    obtain ⟨b2, hb2, k2⟩ := RdSA.shw rs hs'.2 (fun t ht => hz t (by simp only [PyData.shownAll]; exact List.mem_cons_of_mem _ ht))
    refine ⟨b1 ++ b2, (hb1.mono ?_).append (hb2.mono ?_), ?_⟩
    · simp only [PyData.depthAll]; exact Nat.le_max_left _ _
    · simp only [PyData.depthAll]; exact Nat.le_max_right _ _
    · simp only [PyData.depthAll, PyData.shownAll]
      exact .cons ((k1.more fun b hb => List.mem_append_left _ hb).level_le (Nat.le_max_left _ _)) (k2.more_le (fun b hb => List.mem_append_right _ hb) (Nat.le_max_right _ _))
end
variable {a : Addr} {d : D} {A : Around} {E : Value → Shared → Prop} {s : Shared} {Q : Value → Shared → Prop}
theorem repr_of_rdS (r : RdS s.heap (.ref a) d) (hs : d.showable = true) (hg : A.guards = some []) (hu : A.units + (d.depth + 1) < cLine)
    (hQ : ∀ h' u tk, (∀ b o, s.heap.get? b = some o → h'.get? b = some o) → Q (.str d.shown u) { s with heap := h', toks := tk })
    (hsz : d.shown.length ≤ sizeLine) : wpAny (model P w) A (call (.builtin "repr") [.ref a]) Q E s := by
  have hu' : A.in1.units + d.depth < cLine := by show A.units + 1 + d.depth < cLine; omega
  cases r with
  | list h1 h2 h3 h4 =>
    rename_i o vs n xs
    have hz' : (listText (PyData.shownAll xs)).length ≤ sizeLine := by simpa only [PyData.shown] using hsz
    obtain ⟨bs, hb, hk⟩ := RdSA.shw (P := P) (w := w) h4 (by simpa [PyData.showable] using hs) (fun t ht => Nat.le_trans (listText_mem_le ht) hz')
    have hna : a ∉ bs := not_deeper (.list h1 h2 h3 h4) (by simp only [PyData.depth]; omega) hb
    refine call_repr_slot (by omega) ⟨o, h1, h2⟩ F.slot_list_repr.toG ?_
    simp only [PyData.depth] at hu'
    simp only [PyData.shown] at hQ
    obtain ⟨l⟩ := vs
    cases l with
    | nil =>
      have h4' : RdSA s.heap [] xs := h4
      cases h4'
      simp only [PyData.shownAll, listText_nil] at hQ
      exact call_list_repr_empty ⟨o, h1, h2⟩ h1 h3 ⟨_, _, rfl, hQ s.heap _ _ fun _ _ e => e⟩
    | cons x l =>
      exact call_list_reprK h1 h2 h3 hna (by simpa using hk.length_eq) (fun i y e => hk.item i y (by simpa using e)) hg (fun b _ => Clear.nil b) hu' (fun _ _ e => e) (fun h' u tk hk' => ⟨_, _, rfl, hQ h' u tk hk'⟩) hz'
  | tuple h1 h2 h3 h4 =>
    rename_i o vs n xs
    have hz' : (tupleText (PyData.shownAll xs)).length ≤ sizeLine := by simpa only [PyData.shown] using hsz
    obtain ⟨bs, hb, hk⟩ := RdSA.shw (P := P) (w := w) h4 (by simpa [PyData.showable] using hs) (fun t ht => Nat.le_trans (tupleText_mem_le ht) hz')
    have hna : a ∉ bs := not_deeper (.tuple h1 h2 h3 h4) (by simp only [PyData.depth]; omega) hb
    refine call_repr_slot (by omega) ⟨o, h1, h2⟩ F.slot_tuple_repr ?_
    simp only [PyData.depth] at hu'
    simp only [PyData.shown] at hQ
    exact call_tuple_reprK h1 h2 h3 hna hk hg (fun b _ => Clear.nil b) hu' (fun _ _ e => e) (fun h' u tk hk' => ⟨_, _, rfl, hQ h' u tk hk'⟩) hz'
  | dict h1 h2 h3 hsys h4 h5 =>
    rename_i o es n kvs
    have hz' : (dictText (PyData.shownKv kvs)).length ≤ sizeLine := by simpa only [PyData.shown] using hsz
    obtain ⟨hs1, hs2⟩ := PyData.showableKv_split kvs (by simpa [PyData.showable] using hs)
    obtain ⟨b1, hb1, k1⟩ := RdSA.shw (P := P) (w := w) h4 hs1 (fun t ht => let ⟨p, hp, hl⟩ := PyData.shownKv_key_le kvs t ht; Nat.le_trans hl (Nat.le_trans (dictText_mem_le hp) hz'))
    obtain ⟨b2, hb2, k2⟩ := RdSA.shw (P := P) (w := w) h5 hs2 (fun t ht => let ⟨p, hp, hl⟩ := PyData.shownKv_val_le kvs t ht; Nat.le_trans hl (Nat.le_trans (dictText_mem_le hp) hz'))
    have hb : ReadAtMost s.heap (PyData.depthKv kvs) (b1 ++ b2) := (hb1.mono (PyData.depthAll_keys_le kvs)).append (hb2.mono (PyData.depthAll_vals_le kvs))
    have hna : a ∉ b1 ++ b2 := not_deeper (.dict h1 h2 h3 hsys h4 h5) (by simp only [PyData.depth]; omega) hb
    refine call_repr_slot (by omega) ⟨o, h1, h2⟩ F.slot_dict_repr ?_
    simp only [PyData.depth] at hu'
    simp only [PyData.shown, PyData.shownKv_eq] at hQ
    exact call_dict_reprK h1 h2 h3 hsys hna (ReprEntriesK.of_two es.toList _ _
      (k1.more_le (fun b hb => List.mem_append_left _ hb) (PyData.depthAll_keys_le kvs)) (k2.more_le (fun b hb => List.mem_append_right _ hb) (PyData.depthAll_vals_le kvs))) hg (fun b _ => Clear.nil b) hu' (fun _ _ e => e) (fun h' u tk hk' => ⟨_, _, rfl, hQ h' u tk hk'⟩) (by rw [← PyData.shownKv_eq]; exact hz')
end
section
variable {X : Cx} {pins : List (Addr × Obj)} {σ : L2.St} {H F : Hp} {s : Shared}
theorem keyIs_rdS {k : Key} {u : Value} {P : Program} {w : World} (h : (mixKind P w).is k u = true) : RdS s.heap u (keyD k) := by
  rcases keyIs_shape h with ⟨i, t, rfl, rfl⟩ | ⟨x, t, rfl, rfl⟩
  · exact .int i t
  · exact .str x t
mutual
theorem Rp.rdS (I : Inv X pins σ H s) (e : Same F H) : ∀ {v : V} {d : D}, Rp X.K F v d → noT d = true → ∀ u, RelV v u → RdS s.heap u d
  | _, _, .non, _, u, r => by cases r; exact .none
  | _, _, .bl b, _, u, r => by cases r; exact .bool b
  | _, _, .int b, _, u, r => by obtain ⟨t, rfl⟩ := r; exact .int b t
  | _, _, .str b, _, u, r => by obtain ⟨t, rfl⟩ := r; exact .str b t
  | _, _, .lst h r, hp, u, q => by
    cases q
    obtain ⟨its, rv, ⟨o, n, ho, hc, _, hd⟩, _⟩ := I.list (.inl (.inl (e _ _ h)))
    exact .list ho hc hd (RpA.rdS I e r (by simpa [noT] using hp) its rv)
  | _, _, .tup h r, hp, u, q => by
    cases q
    obtain ⟨its, rv, ⟨o, ho, hc, n, hd⟩, _⟩ := I.tuple (.inl (.inl (e _ _ h)))
    exact .tuple ho hc hd (RpA.rdS I e r (by simpa [noT] using hp) its rv)
  | _, _, .dic h r, hp, u, q => by
    cases q
    simp only [noT, Bool.and_eq_true] at hp
    obtain ⟨z, hm, vs, rel, o, es, ep, ho, hx, hd, _, hpr, _⟩ := dk_of I.hok (e _ _ h)
    obtain ⟨h1, h2⟩ := RpK.rdS I e r hp.2 vs rel es.toList hpr
    exact .dict ho hx.1 hd hm h1 h2
  | _, _, .dct h r, hp, _, _ => by simp [noT, isT] at hp
theorem RpA.rdS (I : Inv X pins σ H s) (e : Same F H) : ∀ {vs : List V} {ds : List D}, RpA X.K F vs ds → noTA ds = true → ∀ us, Vals vs us → RdSA s.heap us ds
  | _, _, .nil, _, us, r => by cases r; exact .nil
  | _, _, .cons h r, hp, us, q => by
    simp only [noTA, Bool.and_eq_true] at hp
    cases q with
    | cons q1 q2 => exact .cons (Rp.rdS I e h hp.1 _ q1) (RpA.rdS I e r hp.2 _ q2)
theorem RpK.rdS (I : Inv X pins σ H s) (e : Same F H) : ∀ {kvs : List (Key × V)} {es : List (D × D)}, RpK X.K F kvs es → noTE es = true → ∀ vs, KV kvs vs → ∀ ens : List DictEntry, Pairs (mixKind X.prog X.w) ens vs →
    RdSA s.heap (ens.map (·.key)) (es.map (·.1)) ∧ RdSA s.heap (ens.map (·.val)) (es.map (·.2))
  | _, _, .nil, _, vs, r, ens, p => by cases r; cases p; exact ⟨.nil, .nil⟩
  | _, _, .cons h r, hp, vs, q, ens, p => by
    simp only [noTE, Bool.and_eq_true] at hp
    cases q with
    | cons q1 q2 =>
      cases p with
      | cons p1 p2 p3 =>
        obtain ⟨k1, v1⟩ := q1
        dsimp only at k1 v1
        subst k1
        have a1 := Rp.rdS I e h hp.1 _ v1
        obtain ⟨b1, b2⟩ := RpK.rdS I e r hp.2 _ q2 _ p3
        rw [← p2] at a1
        exact ⟨.cons (keyIs_rdS p1) b1, .cons a1 b2⟩
end
def rReprS (K : PySem.W.Frag) : List V → Hp → VK → Prop := fun xs H Q => ∃ v d, xs = [v] ∧ (∃ F, Same F H ∧ RN K F H v d) ∧ d.showable = true ∧ noT d = true ∧ d.depth ≤ 60 ∧ d.shown.length ≤ sizeLine ∧ Q (.str d.shown) H
theorem call_reprS (hA : X.A.guards = some []) (hu : X.A.units + 64 < cLine) : CallR X (.builtin "repr") (rReprS X.K) := by
  intro pins s σ H xs us Q I r h
  obtain ⟨v, d, rfl, ⟨F, hs1, hd⟩, hs, hnd, hdp, hz, q⟩ := h
  have hd := hd.same hs1
  cases r with
  | @cons _ uu _ _ r rr =>
    cases rr
    have key : ∀ (u : Tok) (tk : Nat) (h' : Heap), (∀ b o, s.heap.get? b = some o → h'.get? b = some o) → EP X pins σ Q (.str d.shown u) { s with heap := h', toks := tk } := fun u tk h' hk => ⟨.str d.shown, H, I.kept hk, ⟨_, rfl⟩, q⟩
    have rd := hd.rdS I (Same.refl _) hnd _ r
    by_cases hr : ∃ a, uu = .ref a
    · obtain ⟨a, rfl⟩ := hr
      exact repr_of_rdS rd hs hA (by omega) (fun h' u tk hk => key u tk h' hk) hz
    · cases rd with
      | none => exact PySem.P.repr_of_none ⟨.str _, H, I.tok _, ⟨_, rfl⟩, q⟩
      | bool b => exact PySem.P.repr_of_bool ⟨.str _, H, I.tok _, ⟨_, rfl⟩, by cases b <;> exact q⟩
      | int i t => exact PySem.P.repr_of_int (by simpa [PyData.showable] using hs) ⟨.str _, H, I.tok _, ⟨_, rfl⟩, q⟩
      | str x t => exact PySem.P.repr_of_str ⟨.str _, H, I.tok _, ⟨_, rfl⟩, q⟩ hz
      | list _ _ _ _ => exact absurd ⟨_, rfl⟩ hr
      | tuple _ _ _ _ => exact absurd ⟨_, rfl⟩ hr
      | dict _ _ _ _ _ _ => exact absurd ⟨_, rfl⟩ hr
end
def reprOkS (d : D) : Prop := d.showable = true ∧ noT d = true ∧ d.depth ≤ 60 ∧ d.shown.length ≤ sizeLine
def fReprS : F1 := fun x Q => reprOkS x ∧ Q (.fz (.str x.shown))
theorem cl_reprS {K : PySem.W.Frag} : CaL K (rReprS K) (fA1 fReprS) := by
  intro f g σ H ρ vs ds Q R hK hR hA hF0 k
  subst hK
  obtain ⟨d, rfl, hF⟩ := fA1_some hF0
  obtain ⟨v, rfl, h⟩ := hA.one
  obtain ⟨⟨h1, h2, h3, h4⟩, q⟩ := hF
  exact ⟨v, d, rfl, ⟨_, fz_sub, h⟩, h1, h2, h3, h4, OEnd.fz k hR (.str _) q⟩
theorem k_reprS {X : Cx} {K : PySem.W.Frag} (h : X.K = K) (hA : X.A.guards = some []) (hu : X.A.units + 64 < cLine) : CallR X (.builtin "repr") (rReprS K) := by subst h; exact call_reprS hA hu
/-- what shows itself in a short text: bounds that add up -/
structure Tm (n m : Nat) (d : D) : Prop where
  sh : d.showable = true
  nt : noT d = true
  lv : d.leavesShort 70 = true
  wt : d.weight ≤ n
  dp : d.depth ≤ m
structure TmA (n m : Nat) (ds : List D) : Prop where
  sh : PyData.showableAll ds = true
  nt : noTA ds = true
  lv : PyData.leavesShortAll 70 ds = true
  wt : PyData.weightAll ds ≤ n
  dp : PyData.depthAll ds ≤ m
theorem Tm.ok {n m : Nat} {d : D} (t : Tm n m d) (hn : n ≤ 100000) (hm : m ≤ 60) : reprOkS d := by
  refine ⟨t.sh, t.nt, Nat.le_trans t.dp hm, ?_⟩
  have := PyData.shown_le 70 (by decide) d t.lv
  have := t.wt
  rw [sizeLine_eq]
  omega
theorem Tm.mono {n m n' m' : Nat} {d : D} (t : Tm n m d) (hn : n ≤ n') (hm : m ≤ m') : Tm n' m' d := ⟨t.sh, t.nt, t.lv, Nat.le_trans t.wt hn, Nat.le_trans t.dp hm⟩
theorem TmA.mono {n m n' m' : Nat} {d : List D} (t : TmA n m d) (hn : n ≤ n') (hm : m ≤ m') : TmA n' m' d := ⟨t.sh, t.nt, t.lv, Nat.le_trans t.wt hn, Nat.le_trans t.dp hm⟩
theorem TmA.nil {n m : Nat} : TmA n m [] := ⟨rfl, rfl, rfl, Nat.zero_le _, by simp [PyData.depthAll]⟩
theorem TmA.cons {n n' m : Nat} {d : D} {ds : List D} (t : Tm n m d) (u : TmA n' m ds) : TmA (n + 1 + n') m (d :: ds) := by
  refine ⟨?_, ?_, ?_, ?_, ?_⟩
  · simp only [PyData.showableAll, t.sh, u.sh, Bool.and_true]
  · simp only [noTA, t.nt, u.nt, Bool.and_true]
  · simp only [PyData.leavesShortAll, t.lv, u.lv, Bool.and_true]
  · have := t.wt; have := u.wt; simp only [PyData.weightAll]; omega
  · have := t.dp; have := u.dp; simp only [PyData.depthAll]; omega
theorem TmA.all {n m k : Nat} : ∀ {ds : List D}, (∀ d ∈ ds, Tm n m d) → (n + 1) * ds.length ≤ k → TmA k m ds
  | [], _, _ => .nil
  | d :: ds, h, hk => by
    rw [List.length_cons, Nat.mul_succ] at hk
    exact (TmA.cons (h d List.mem_cons_self) (TmA.all (k := (n + 1) * ds.length) (fun x hx => h x (List.mem_cons_of_mem _ hx)) (Nat.le_refl _))).mono (by omega) (Nat.le_refl _)
theorem TmA.append {n n' m : Nat} : ∀ {ds es : List D}, TmA n m ds → TmA n' m es → TmA (n + n') m (ds ++ es)
  | [], es, _, u => u.mono (by omega) (Nat.le_refl _)
  | d :: ds, es, t, u => by
    have t1 := t.sh; have t2 := t.nt; have t3 := t.lv; have t4 := t.wt; have t5 := t.dp
    simp only [PyData.showableAll, noTA, PyData.leavesShortAll, Bool.and_eq_true] at t1 t2 t3
    simp only [PyData.weightAll, PyData.depthAll] at t4 t5
    have a : Tm d.weight m d := ⟨t1.1, t2.1, t3.1, Nat.le_refl _, by omega⟩
    have b : TmA (PyData.weightAll ds) m ds := ⟨t1.2, t2.2, t3.2, Nat.le_refl _, by omega⟩
    exact (TmA.cons a (b.append u)).mono (by omega) (Nat.le_refl _)
theorem Tm.tup {n m : Nat} {ds : List D} (t : TmA n m ds) : Tm n (m + 1) (.tuple ds) := by
  have := t.wt; have := t.dp
  refine ⟨?_, ?_, ?_, ?_, ?_⟩
  · simp only [PyData.showable]; exact t.sh
  · simp only [noT]; exact t.nt
  · simp only [PyData.leavesShort]; exact t.lv
  · simp only [PyData.weight]; omega
  · simp only [PyData.depth]; omega
theorem Tm.lst {n m : Nat} {ds : List D} (t : TmA n m ds) : Tm n (m + 1) (.list ds) := by
  have := t.wt; have := t.dp
  refine ⟨?_, ?_, ?_, ?_, ?_⟩
  · simp only [PyData.showable]; exact t.sh
  · simp only [noT]; exact t.nt
  · simp only [PyData.leavesShort]; exact t.lv
  · simp only [PyData.weight]; omega
  · simp only [PyData.depth]; omega
theorem Tm.tup_inv {n m : Nat} {ds : List D} (t : Tm n m (.tuple ds)) : TmA n (m - 1) ds := by
  have t1 := t.sh; have t2 := t.nt; have t3 := t.lv; have t4 := t.wt; have t5 := t.dp
  simp only [PyData.showable, noT, PyData.leavesShort, PyData.weight, PyData.depth] at t1 t2 t3 t4 t5
  exact ⟨t1, t2, t3, t4, by omega⟩
theorem TmA.mem {n m : Nat} : ∀ {ds : List D}, TmA n m ds → ∀ d ∈ ds, Tm n m d
  | [], _, _, h => nomatch h
  | d :: ds, t, e, h => by
    have t1 := t.sh; have t2 := t.nt; have t3 := t.lv; have t4 := t.wt; have t5 := t.dp
    simp only [PyData.showableAll, noTA, PyData.leavesShortAll, Bool.and_eq_true] at t1 t2 t3
    simp only [PyData.weightAll, PyData.depthAll] at t4 t5
    rcases List.mem_cons.mp h with rfl | h
    · exact ⟨t1.1, t2.1, t3.1, by omega, by omega⟩
    · exact TmA.mem ⟨t1.2, t2.2, t3.2, by omega, by omega⟩ e h
/-- ints of up to 63 decimals -/
def midd (n : Int) : Prop := n.natAbs < 10 ^ 63
theorem Tm.int {i : Int} (h : midd i) : Tm 210 2 (.int i) := by
  have hl : i.natAbs.log2 < 210 := by
    by_cases e : i.natAbs = 0
    · rw [e]; decide
    · rw [Nat.log2_lt e]; exact Nat.lt_trans h (by decide)
  refine ⟨?_, rfl, ?_, ?_, ?_⟩
  · simp only [PyData.showable, decide_eq_true_eq]; omega
  · simp only [PyData.leavesShort, decide_eq_true_eq]
    have e := int_text_length_le10 (a := i) (k := 63) (by decide) h
    show (Str.ofString (toString i)).length ≤ 70
    rw [ofString_length]; omega
  · simp only [PyData.weight]
    split <;> omega
  · simp [PyData.depth]
theorem Tm.non : Tm 210 2 .none := ⟨rfl, rfl, rfl, by simp [PyData.weight], by simp [PyData.depth]⟩
theorem Tm.bool {b : Bool} : Tm 210 2 (.bool b) := ⟨rfl, rfl, rfl, by simp [PyData.weight], by simp [PyData.depth]⟩
def dReprLS (dr : DA) : DE := fun ρ Q => dr ρ fun rs ρ1 => wA (resA ρ1 rs) fun ds => ds.length ≤ sizeLine ∧ reprOkS (.list ds) ∧ Q (.fz (.str (PyData.shown (.list ds)))) ρ1
theorem le_reprLS {K : PySem.W.Frag} {tr : TA} {dr : DA} (h : LA K tr dr) : LE K (tCB (rReprS K) (tCons (tLst tr) tNil)) (dReprLS dr) := by
  intro f g σ H ρ Q R hK hR hd k
  refine h f g σ H ρ _ _ hK hR hd fun vs H1 g1 ρ1 rs R1 G1 O1 q1 => ?_
  obtain ⟨ds, e1, hl, hr, q1⟩ := wA_some q1
  subst hK
  have ra := RNA.rp fz_sub (O1.rn R1 e1)
  refine ⟨by rw [ra.length]; exact hl, fun p hp => ?_⟩
  obtain ⟨R3, G3, e3⟩ := R1.new (o := .lst vs) hp
  obtain ⟨h1, h2, h3, h4⟩ := hr
  have up : Same H1 (upd H1 p (.lst vs)) := fun a o e => by rw [upd_ne (ne_of_none e hp)]; exact e
  refine ⟨.ref p, .list ds, rfl, ⟨_, Same.refl _, .inl (.lst upd_same (ra.mono up))⟩, h1, h2, h3, h4, ?_⟩
  exact k _ _ g1 ρ1 (.fz (.str _)) R3 (G1.trans G3) (.str _) q1
end DL

set_option Elab.async false
set_option linter.all false
set_option maxRecDepth 100000
set_option maxHeartbeats 4000000
set_option autoImplicit false
namespace DL
open PySem L2
/-! ### a, b, c = [.. for ..]: members that are made anew become one's own -/
def keepR (r : Rv) (ρ : Rho) (k : Re → Rho → Prop) : Prop := match r with
  | .nw d => k (.nw d) ρ
  | r => wF (frz ρ r) fun d ρ' => k (.fz d) ρ'
def dOwGo (dg : DG) (de : DE) (vs : List Nat) (Q : List Re → Rho → Prop) : List D → List Re → Rho → Prop
  | [], acc, ρ => Q acc ρ
  | x :: xs, acc, ρ => dg (.fz x) (wipeR ρ vs) fun ρ1 => de ρ1 fun r ρ2 => keepR r ρ2 fun re ρ3 => acc.length < sizeLine ∧ dOwGo dg de vs Q xs (acc ++ [re]) (bckR ρ ρ3 vs)
def setAll : List Nat → List Re → Rho → (Rho → Prop) → Prop
  | i :: is, re :: rs, ρ, k => dgN i (ofRe re) ρ fun ρ1 => setAll is rs ρ1 k
  | [], [], ρ, k => k ρ
  | _, _, _, _ => False
def dUnp (dI : DI) (dg : DG) (de : DE) (vs is : List Nat) : DS := fun DD ρ => dI ρ fun ds ρ1 => dOwGo dg de vs (fun acc ρ2 => setAll is acc ρ2 DD.nx) ds [] ρ1
def gNames : List Nat → TGs
  | [] => gNil
  | i :: is => gCons (gName i) (gNames is)
inductive MbA (f : Fr) (F H : Hp) : List Addr → List V → List Re → Prop
  | nil : MbA f F H [] [] []
  | fz {bs : List Addr} {xs : List V} {rs : List Re} {v : V} {d : D} : Rp f.K F v d → MbA f F H bs xs rs → MbA f F H bs (v :: xs) (.fz d :: rs)
  | nw {bs : List Addr} {xs : List V} {rs : List Re} {a : Addr} {d : D} : f.H0 a = none → Rt f.K F H a d → MbA f F H bs xs rs → MbA f F H (a :: bs) (.ref a :: xs) (.nw d :: rs)
section
variable {K : PySem.W.Frag} {f : Fr} {F F' H H' : Hp}
theorem MbA.mono {bs : List Addr} {xs : List V} {rs : List Re} (e : Same F F') (h : MbA f F H bs xs rs) (e' : ∀ b ∈ bs, ∀ o, H b = some o → H' b = some o) : MbA f F' H' bs xs rs := by
  induction h with
  | nil => exact .nil
  | fz h _ ih => exact .fz (h.mono e) (ih e')
  | nw h0 h _ ih => exact .nw h0 (h.mono e (e' _ List.mem_cons_self)) (ih fun b hb => e' b (List.mem_cons_of_mem _ hb))
theorem MbA.append {bs cs : List Addr} {xs ys : List V} {rs ss : List Re} (h : MbA f F H bs xs rs) (h' : MbA f F H cs ys ss) : MbA f F H (bs ++ cs) (xs ++ ys) (rs ++ ss) := by
  induction h with
  | nil => exact h'
  | fz h _ ih => exact .fz h ih
  | nw h0 h _ ih => exact .nw h0 h ih
theorem MbA.length {bs : List Addr} {xs : List V} {rs : List Re} (h : MbA f F H bs xs rs) : xs.length = rs.length := by
  induction h with
  | nil => rfl
  | fz _ _ ih => simp [ih]
  | nw _ _ _ ih => simp [ih]
end
theorem setAll_len : ∀ {is : List Nat} {rs : List Re} {ρ : Rho} {k : Rho → Prop}, setAll is rs ρ k → rs.length = is.length := by
  intro is
  induction is with
  | nil =>
    intro rs ρ k h
    cases rs with
    | nil => rfl
    | cons _ _ => exact h.elim
  | cons i is ih =>
    intro rs ρ k h
    cases rs with
    | nil => exact h.elim
    | cons r rs =>
      obtain ⟨ρ', _, q⟩ := wR_some h
      simp [ih q]
theorem unp {K : PySem.W.Frag} {f : Fr} {T0 : List Addr} {k : Rho → Prop} {R : L2.St → Hp → Prop} (hK : f.K = K) : ∀ {is : List Nat} {rs : List Re} {xs : List V} {bs : List Addr} {g : Gs} {σ : L2.St} {H : Hp} {ρ : Rho},
    Rel f g σ H ρ → g.T = bs ++ T0 → bs.Nodup → (∀ b ∈ bs, b ∉ T0) → MbA f (Fz H g.M) H bs xs rs → setAll is rs ρ k →
    (∀ (g' : Gs) (σ' : L2.St) (H' : Hp) (ρ' : Rho), Rel f g' σ' H' ρ' → Gro (g.pop T0) H g' H' → k ρ' → R σ' H') → gNames is xs σ H R := by
  intro is
  induction is with
  | nil =>
    intro rs xs bs g σ H ρ hR hT hn hb m q kk
    cases m with
    | nil => exact ⟨rfl, kk _ σ H ρ (hR.pop fun a ha => by rw [hT]; exact List.mem_append_right _ ha) Gro.refl q⟩
    | fz _ _ => exact q.elim
    | nw _ _ _ => exact q.elim
  | cons i is ih =>
    intro rs xs bs g σ H ρ hR hT hn hb m q kk
    cases m with
    | nil => exact q.elim
    | @fz _ xs rs v d h m =>
      refine ⟨v, xs, rfl, ?_⟩
      refine lg_name f g σ H ρ v (.fz d) _ _ hK hR (by rw [hK] at h; subst hK; exact h) q fun g' σ' H' ρ' R' G' q' => ?_
      refine ih R' (G'.tm.trans hT) hn hb (m.mono G'.fz fun b hb' o e => by rw [G'.th b (by rw [hT]; exact List.mem_append_left _ hb')]; exact e) q' fun g2 σ2 H2 ρ2 R2 G2 q2 => ?_
      exact kk g2 σ2 H2 ρ2 R2 (Gro.trans (g1 := g'.pop T0) ⟨G'.fz, G'.src, rfl, fun a ha => G'.th a (by rw [hT]; exact List.mem_append_right _ ha), G'.fp⟩ G2) q2
    | @nw bs xs rs a d h0 h m =>
      have ht := hR.tmp a (by rw [hT]; exact List.mem_append_left _ List.mem_cons_self)
      have hn' := List.nodup_cons.mp hn
      refine ⟨.ref a, xs, rfl, ?_⟩
      have hP : Rel f (g.pop (bs ++ T0)) σ H ρ := hR.pop fun b hb' => by
        rw [hT]
        exact List.mem_cons_of_mem _ hb'
      refine lg_name f (g.pop (bs ++ T0)) σ H ρ (.ref a) (.nw d) _ _ hK hP ⟨a, rfl, ht.1, h0, ht.2.1, h, fun z => ?_, ht.2.2⟩ q fun g' σ' H' ρ' R' G' q' => ?_
      · rcases List.mem_append.mp z with z | z
        · exact hn'.1 z
        · exact hb a List.mem_cons_self z
      refine ih R' G'.tm hn'.2 (fun b hb' => hb b (List.mem_cons_of_mem _ hb')) (m.mono G'.fz fun b hb' o e => by rw [G'.th b (List.mem_append_left _ hb')]; exact e) q' fun g2 σ2 H2 ρ2 R2 G2 q2 => ?_
      exact kk g2 σ2 H2 ρ2 R2 (Gro.trans (g1 := g'.pop T0) ⟨G'.fz, G'.src, rfl, fun a ha => G'.th a (List.mem_append_right _ ha), G'.fp⟩ G2) q2
section
variable {K : PySem.W.Frag} {wi : TI} {tg : TG} {te : TE} {dI : DI} {dg : DG} {de : DE} {vs is : List Nat} {n : Nat}
theorem ls_unp (hn : is.length = n) (hi : LI K wi dI) (hg : LG K tg dg) (hw : LGw tg vs) (he : LE K te de) : LS K (tAsg (tLc wi tg tYes te vs) (gLst K n (gNames is))) (dUnp dI dg de vs is) := by
  intro f g σ H ρ DD E hK hR hd l
  refine hi f g σ H ρ _ _ hK hR hd fun J H1 g1 ρ1 G Y ds R1 G1 w io q => ?_
  intro D0 hD
  have h0 : f.H0 D0 = none := R1.dom D0 hD
  have hDT : D0 ∉ g1.T := fun ha => R1.mH D0 hD (R1.tmp D0 ha).1
  obtain ⟨R2, G2, V2⟩ := R1.own (o := .lst []) (d := .list []) hD (.lst upd_same .nil)
  obtain ⟨a, ea, m2, _, ns2, _, t2, u2⟩ := V2
  cases ea
  refine lc_it w (fun i H' => ∃ g' ρ' xs acc bs, Rel f (g'.pop (D0 :: (bs ++ g1.T))) σ H' ρ' ∧ Gro g1 H1 g' H' ∧ H' D0 = some (.lst xs) ∧ MbA f (Fz H' g'.M) H' bs xs acc ∧ bs.Nodup ∧ (∀ b ∈ bs, b ∉ g1.T ∧ b ≠ D0) ∧ dOwGo dg de vs (fun acc ρ2 => setAll is acc ρ2 DD.nx) (ds.drop i) acc ρ')
    ⟨g1.add D0, ρ1, [], [], [], ⟨R2.keep, R2.dom, R2.m0, R2.m00, R2.mU, R2.src, R2.len, R2.slot, R2.uq, fun b hb => ?_, R2.fpM, R2.fpn, R2.mq⟩, G2, upd_same, .nil, List.nodup_nil, (fun _ h => nomatch h), by simpa using q⟩ (fun i H' _ ⟨g', ρ', xs, acc, bs, R', G', _⟩ => io.st _ σ H' ρ' R' G'.fz) ?_ ?_
  · rcases List.mem_cons.mp hb with rfl | hb
    · exact ⟨m2, ns2, u2⟩
    · exact R2.tmp b hb
  · rintro i x H' H'' hlt ⟨g', ρ', xs, acc, bs, R', G', hx, hr, hnd, hbs, q'⟩ y
    obtain ⟨g3, R3, G3, hxx⟩ := io.yl _ σ H' ρ' R' G'.fz i x H'' ds[i] (by simp [hlt]) y
    rw [List.drop_eq_getElem_cons hlt] at q'
    have hw' := hw x (wipe σ vs) H''
    rw [wipe_wipe] at hw'
    refine hw' _ ?_
    -- what a turn's end is
    have fin : ∀ (g5 : Gs) (H5 : Hp) (ρ5 : Rho) (σ5 : L2.St), Rel f g5 σ5 H5 ρ5 → Gro g3 H'' g5 H5 → wipe σ5 vs = wipe σ vs →
        Rel f g5 σ H5 (bckR ρ' ρ5 vs) ∧ g5.T = D0 :: (bs ++ g1.T) ∧ Gro g1 H1 (g5.pop g1.T) H5 ∧ H5 D0 = some (.lst xs) ∧ MbA f (Fz H5 g5.M) H5 bs xs acc := by
      intro g5 H5 ρ5 σ5 R5 G5 hwp
      have G35 : Gro (g'.pop (D0 :: (bs ++ g1.T))) H' g5 H5 := G3.trans G5
      have hT : g5.T = D0 :: (bs ++ g1.T) := G35.tm
      have RB := Rel.backed (vs := vs) R' R5 G35.fz hwp
      refine ⟨RB, hT, ⟨G'.fz.trans G35.fz, fun pc h => G35.src pc (G'.src pc h), rfl, fun a ha => ?_, G35.fp.trans G'.fp⟩, (G35.th D0 List.mem_cons_self).trans hx, hr.mono G35.fz fun b hb o e => ?_⟩
      · exact (G35.th a (List.mem_cons_of_mem _ (List.mem_append_right _ ha))).trans (G'.th a ha)
      · rw [G35.th b (List.mem_cons_of_mem _ (List.mem_append_left _ hb))]; exact e
    refine hg f g3 (wipe σ vs) H'' (wipeR ρ' vs) x (.fz _) _ _ hK (R3.wiped vs) hxx q' fun g4 σ4 H4 ρ4 R4 G4 q4 => ?_
    intro hws
    unfold tYes
    show (if true = true then _ else _)
    rw [if_pos rfl]
    refine he f g4 σ4 H4 ρ4 _ _ hK R4 q4 fun y H6 g6 ρ6 r R6 G6 V6 q6 => ?_
    -- the two kinds of members
    have put : ∀ (g7 : Gs) (ρ7 : Rho) (re : Re) (cs : List Addr), Rel f g7 σ4 H6 ρ7 → Gro g6 H6 g7 H6 → MbA f (Fz H6 g7.M) H6 cs [y] [re] → cs.Nodup →
        (∀ a ∈ cs, g7.M a ∧ NoSrc g7 a ∧ a ∉ g7.T ∧ ∀ (i : Nat) (e : D), ρ7[i]? = some (some (.ow e)) → σ4[i]? ≠ some (some (.ref a))) → acc.length < sizeLine →
        dOwGo dg de vs (fun acc ρ2 => setAll is acc ρ2 DD.nx) (ds.drop (i + 1)) (acc ++ [re]) (bckR ρ' ρ7 vs) →
        ∃ acc, H6 D0 = some (.lst acc) ∧ acc.length < sizeLine ∧ ∃ g' ρ' xs acc' bs, Rel f (g'.pop (D0 :: (bs ++ g1.T))) σ (upd H6 D0 (.lst (acc ++ [y]))) ρ' ∧ Gro g1 H1 g' (upd H6 D0 (.lst (acc ++ [y]))) ∧ (upd H6 D0 (.lst (acc ++ [y]))) D0 = some (.lst xs) ∧ MbA f (Fz (upd H6 D0 (.lst (acc ++ [y]))) g'.M) (upd H6 D0 (.lst (acc ++ [y]))) bs xs acc' ∧ bs.Nodup ∧ (∀ b ∈ bs, b ∉ g1.T ∧ b ≠ D0) ∧ dOwGo dg de vs (fun acc ρ2 => setAll is acc ρ2 DD.nx) (ds.drop (i + 1)) acc' ρ' := by
      intro g7 ρ7 re cs R7 G7 hy hcn hcs hl7 q7
      have G47 : Gro g3 H'' g7 H6 := (G4.trans G6).trans G7
      obtain ⟨A, hT, B, C, M⟩ := fin g7 H6 ρ7 σ4 R7 G47 hws
      have hs : ∀ j, j ∉ vs → σ4[j]? = σ[j]? := fun j hj => by rw [← wipe_ne hj, hws, wipe_ne hj]
      have A' : Rel f (g7.pop (D0 :: ((bs ++ cs) ++ g1.T))) σ H6 (bckR ρ' ρ7 vs) := by
        refine ⟨A.keep, A.dom, A.m0, A.m00, A.mU, A.src, A.len, A.slot, A.uq, fun b hb => ?_, A.fpM, A.fpn, A.mq⟩
        have hb : b = D0 ∨ (b ∈ bs ∨ b ∈ cs) ∨ b ∈ g1.T := by
          rcases List.mem_cons.mp hb with h | h
          · exact .inl h
          · rcases List.mem_append.mp h with h | h
            · exact .inr (.inl (List.mem_append.mp h))
            · exact .inr (.inr h)
        rcases hb with h | (h | h) | h
        · exact A.tmp b (by rw [hT]; exact h ▸ List.mem_cons_self)
        · exact A.tmp b (by rw [hT]; exact List.mem_cons_of_mem _ (List.mem_append_left _ h))
        · obtain ⟨c1, c2, c3, c4⟩ := hcs b h
          refine ⟨c1, c2, fun j e h1 h2 => ?_⟩
          rcases bckR_get h1 with ⟨z1, z2⟩ | ⟨_, _, d, z⟩
          · rw [← hs j z2] at h2
            exact c4 j e z1 h2
          · cases z
        · exact A.tmp b (by rw [hT]; exact List.mem_cons_of_mem _ (List.mem_append_right _ h))
      refine ⟨xs, C, by rw [M.length]; exact hl7, ?_⟩
      obtain ⟨A2, S2⟩ := A'.mutTmp (o := .lst (xs ++ [y])) List.mem_cons_self h0
      have hcD : ∀ a ∈ cs, a ∉ g1.T ∧ a ≠ D0 ∧ a ∉ bs := fun a ha => by
        have := (hcs a ha).2.2.1
        rw [hT] at this
        refine ⟨fun z => this (List.mem_cons_of_mem _ (List.mem_append_right _ z)), fun z => this (z ▸ List.mem_cons_self), fun z => this (List.mem_cons_of_mem _ (List.mem_append_left _ z))⟩
      have hall : ∀ b ∈ bs ++ cs, b ∉ g1.T ∧ b ≠ D0 := fun b hb => by
        rcases List.mem_append.mp hb with hb | hb
        · exact hbs b hb
        · exact ⟨(hcD b hb).1, (hcD b hb).2.1⟩
      refine ⟨g7.pop g1.T, _, xs ++ [y], acc ++ [re], bs ++ cs, A2, ⟨B.fz.trans S2, B.src, rfl, fun a ha => ?_, B.fp⟩, upd_same, ?_, ?_, hall, q7⟩
      · rw [upd_ne (show a ≠ D0 from fun z => hDT (by rw [← z]; exact ha))]
        exact B.th a ha
      · exact (M.append hy).mono S2 fun b hb o e => by rw [upd_ne (hall b hb).2]; exact e
      · refine List.nodup_append.mpr ⟨hnd, hcn, fun a ha b hb e => ?_⟩
        exact (hcD b hb).2.2 (e ▸ ha)
    have key : (∃ d, r = .nw d) ∨ (wF (frz ρ6 r) fun d ρ3 => acc.length < sizeLine ∧ dOwGo dg de vs (fun acc ρ2 => setAll is acc ρ2 DD.nx) (ds.drop (i + 1)) (acc ++ [.fz d]) (bckR ρ' ρ3 vs)) := by
      cases r with
      | nw d => exact .inl ⟨d, rfl⟩
      | fz d => exact .inr q6
      | vr j => exact .inr q6
      | src => exact .inr q6
      | scr => exact .inr q6
      | mr j => exact .inr q6
      | mi j k => exact .inr q6
    rcases key with ⟨d, rfl⟩ | q8
    · obtain ⟨a, ea, va1, va2, va3, va4, va5, va6⟩ := V6
      subst ea
      obtain ⟨hl7, q7⟩ := q6
      refine put g6 ρ6 (.nw d) [a] R6 Gro.refl (.nw va2 va4 .nil) (by simp) (fun b hb => ?_) hl7 q7
      rw [List.mem_singleton.mp hb]
      exact ⟨va1, va3, va5, va6⟩
    · obtain ⟨g2, R2', G2', O⟩ := V6.opd R6
      obtain ⟨d, ρ7, e7, hl7, q7⟩ := wF_some q8
      obtain ⟨g7, R7, G7, hy⟩ := O.frz R2' e7
      exact put g7 ρ7 (.fz d) [] R7 (G2'.trans G7) (.fz hy .nil) List.nodup_nil (fun _ h => nomatch h) hl7 q7
  · rintro H' ⟨g', ρ', xs, acc, bs, R', G', hx, hr, hnd, hbs, q'⟩
    rw [List.drop_length] at q'
    have q' : setAll is acc ρ' DD.nx := q'
    refine ⟨D0, xs, rfl, .inl (.inl hx), by rw [hr.length, setAll_len q', hn], ?_⟩
    have RP : Rel f (g'.pop (bs ++ g1.T)) σ H' ρ' := R'.pop (T := bs ++ g1.T) fun a ha => List.mem_cons_of_mem _ ha
    refine unp hK RP rfl hnd (fun b hb => (hbs b hb).1) hr q' fun g2 σ2 H2 ρ2 R2 G2 q2 => ?_
    exact l.nx g2 σ2 H2 ρ2 R2 (G1.trans (Gro.trans (g1 := g'.pop g1.T) ⟨G'.fz, G'.src, rfl, G'.th, G'.fp⟩ G2)) q2
end
end DL

set_option Elab.async false
set_option linter.all false
set_option maxRecDepth 100000
set_option maxHeartbeats 4000000
set_option autoImplicit false
namespace DL
open PySem L2
def b2I (b : Bool) : Int := if b = true then 1 else 0
/-! ### a tuple against the empty tuple, whatever it holds -/
def rEqE (K : PySem.W.Frag) : R2 := fun x y H Q => ∃ a b xs, x = .ref a ∧ y = .ref b ∧ SqT K H a xs ∧ SqT K H b [] ∧ Q (.bl xs.isEmpty) H
theorem op_eqE {X : Cx} (hu : X.A.units + 64 < cLine) : OpR X (compareOp .Eq) (rEqE X.K) := by
  intro pins s σ H x y v u Q I rx ry h
  obtain ⟨a, b, xs, rfl, rfl, h1, h2, q⟩ := h
  cases rx
  cases ry
  obtain ⟨its, rv, t1, _⟩ := I.tuple h1
  obtain ⟨its2, rv2, t2, _⟩ := I.tuple h2
  have z2 : its2.length = 0 := by
    have := rv2.length
    simpa using this.symm
  have z1 : xs.length = its.length := by
    have := rv.length
    simpa using this
  refine SeqAt.eq_tupleAt (e := fun _ => true) t1 t2 (by omega) (fun j _ h2 => absurd h2 (by rw [List.size_toArray]; omega)) ?_
  have e : ((List.range (min its.toArray.size its2.toArray.size)).all (fun _ => true) && its.toArray.size == its2.toArray.size) = xs.isEmpty := by
    rw [List.size_toArray, List.size_toArray, z2, ← z1]
    cases xs <;> simp
  rw [e]
  exact ⟨.bl _, H, I, rfl, q⟩
theorem k_eqE {X : Cx} {K : PySem.W.Frag} (h : X.K = K) (hu : X.A.units + 64 < cLine) : OpR X (compareOp .Eq) (rEqE K) := by subst h; exact op_eqE hu
def fEqE : F2 := fun x y Q => ∃ xs, x = .tuple xs ∧ y = .tuple [] ∧ Q (.fz (.bool xs.isEmpty))
theorem ol_eqE {K : PySem.W.Frag} : OpL K (rEqE K) fEqE := by
  intro f g σ H ρ v u x y Q R hK hR h1 h2 hF k
  subst hK
  obtain ⟨xs, rfl, rfl, q⟩ := hF
  obtain ⟨a, vs, rfl, e1, r1, z1⟩ := h1.tuple fz_sub
  obtain ⟨b, ws, rfl, e2, r2, z2⟩ := h2.tuple fz_sub
  cases r2
  refine ⟨a, b, vs, rfl, rfl, e1, e2, OEnd.fz k hR (.bl _) ?_⟩
  have e : vs.isEmpty = xs.isEmpty := by
    have := r1.length
    cases vs <;> cases xs <;> simp_all
  simpa [e] using q
/-! ### a bool and an int added -/
def rAddB (K : PySem.W.Frag) : R2 := fun x y H Q => rAddA K x y H Q ∨ ∃ b j, x = .bl b ∧ y = .int j ∧ Q (.int (b2I b + j)) H
theorem op_addB {X : Cx} : OpR X (binaryOp .Add) (rAddB X.K) := op_addA.or (by
  intro pins s σ H x y v u Q I rx ry h
  obtain ⟨i, k, rfl, rfl, q⟩ := h
  cases rx
  obtain ⟨t, rfl⟩ := ry
  exact PySem.IntBool.add_bool_int ⟨.int (b2I i + k), H, I.tok _, ⟨_, rfl⟩, q⟩)
theorem k_addB {X : Cx} {K : PySem.W.Frag} (h : X.K = K) : OpR X (binaryOp .Add) (rAddB K) := by subst h; exact op_addB
def fAddB : F2 := fun x y Q => match x, y with
  | .bool b, .int j => Q (.fz (.int (b2I b + j)))
  | x, y => fAdd x y Q
theorem ol_addB {K : PySem.W.Frag} : OpL K (rAddB K) fAddB := by
  intro f g σ H ρ v u x y Q R hK hR h1 h2 hF k
  unfold fAddB at hF
  split at hF
  · obtain rfl := h1.bool
    obtain rfl := h2.int
    exact .inr ⟨_, _, rfl, rfl, OEnd.fz k hR (.int _) hF⟩
  · exact .inl (ol_add f g σ H ρ v u _ _ Q R hK hR h1 h2 hF k)
end DL

set_option Elab.async false
set_option linter.all false
set_option maxRecDepth 100000
set_option maxHeartbeats 4000000
set_option autoImplicit false
namespace DL
open PySem PySem.Spec PyProof.Rows L2
/-! ### set(xs) of a list of ints, with its table -/
abbrev noSet (w : World) : Obj := { cls := .type "set", dict := none, data := .set #[] 0 (.fresh 0 0 (!w.params.followText "set-order")) }
section
variable {P : Program} {w : World} {A : Around} {E : Value → Shared → Prop} {s : Shared}
def SetMade (w : World) (s0 : Shared) (ns : List Int) (s2 : Shared) : Prop := ∃ h' tk c, s2 = { s0 with heap := h', toks := tk } ∧ SetR w h' s0.heap.objs.size (fun j => decide (j ∈ ns)) c ∧ ∀ b o, s0.heap.get? b = some o → h'.get? b = some o
set_option maxHeartbeats 8000000 in
theorem set_from_list {l : Addr} {items : Array Value} {ns : List Int} (hh : A.handled = none) (hl : s.heap.IsList l items) (hit : IntsAre items.toList ns) (hb : ns.length + 1 < scanBound) :
    wpAny (model P w) A.in1 (Builtin.«set.__init__» ⟨[.ref s.heap.objs.size, .ref l], []⟩) (fun fin s2 => ∃ v, fin = .done (.ret v) ∧ v = Value.none ∧ SetMade w s ns s2) E { s with heap := s.heap.push (noSet w) } := by
  have n1 : items.size = ns.length := by have q := IntsAre.length hit; rwa [Array.length_toList] at q
  have b0 : (s.heap.push (noSet w)).get? s.heap.objs.size = some (noSet w) := Heap.get?_push_size _ rfl
  obtain ⟨⟨c1, c2, c3, c4⟩, g1, rfl, m1, rfl⟩ := hl
  have g2 : (s.heap.push (noSet w)).get? l = some ⟨_, c2, _, c4⟩ := Heap.get?_push_of_some _ g1
  have t1 := F.sub_list_set
  have t2 := F.sub_list_frozenset
  have t3 : (Value.type "list" == Value.type "dict") = false := by decide +kernel
  have l1 : (s.heap.push (noSet w)).IsList l items := ⟨_, g2, rfl, m1, rfl⟩
  have z1 : (s.heap.push (noSet w)).objs.size = s.heap.objs.size + 1 := Heap.size_push ..
  have z2 : l < s.heap.objs.size := Heap.lt_size g1
  unfold Builtin.«set.__init__» noKeywords Builtin.Frozenset.updateFrom
  generalize hPI : pyIter = PI
  wp_walk
  subst hPI
  refine wpAny_pyIter_list l1 (wpAny_bind (wpAny_runValue ?_))
  have hd3 : A.in1.in1.handled = none := by simp [hh]
  have val : ∀ (i : Nat) (v : Value), items[i]? = some v → ∃ k t, ns[i]? = some k ∧ v = .int k t := fun i v hv => by
    have hi : i < ns.length := n1 ▸ (Array.getElem?_eq_some_iff.mp hv).1
    obtain ⟨t, e⟩ := IntsAre.int_at hit i v (by rw [Array.getElem?_toList]; exact hv)
    exact ⟨ns[i], t, List.getElem?_eq_getElem hi, by rw [e, List.getD_eq_getElem?_getD, List.getElem?_eq_getElem hi] <;> rfl⟩
  have n2 : l ≠ (s.heap.push (noSet w)).objs.size := by rw [z1]; exact Nat.ne_of_lt (Nat.lt_succ_of_lt z2)
  have n3 : s.heap.objs.size ∉ [(s.heap.push (noSet w)).objs.size, l] := by
    rw [z1]; intro z
    rcases List.mem_cons.mp z with z | z
    · exact absurd z (Nat.ne_of_lt (Nat.lt_succ_self _))
    · exact absurd (List.mem_singleton.mp z) (Nat.ne_of_gt z2)
  dsimp only
  refine set_update_ints (P := P) (w := w) (Walks.list hd3 _ l n2 items).toS s.heap.objs.size n3 ns n1 hb val items.size 0 _ (Nat.sub_zero _) (Nat.zero_le _) ?ht ?hs ?hr
  case ht => exact ⟨⟨_, Heap.get?_push_size _ rfl, rfl, rfl⟩, l1.push _⟩
  case hs => exact ⟨0, Nat.le_refl 0, setR_new_at (by exact Heap.get?_push_of_some _ b0)⟩
  rintro ⟨h2, g3, d2, tk2, os2⟩ c mv hc hS
  obtain rfl : g3 = s.gens := mv.gens
  obtain rfl : d2 = s.drawn := mv.drawn
  obtain rfl : os2 = s.os := mv.os
  show wpAny _ _ _ _ _ _
  refine wpAny_pure ?_
  show wpAny _ _ (ret Value.none) _ _ _
  refine wpAny_pure ⟨_, rfl, rfl, h2, tk2, c, rfl, hS, fun b o e => ?_⟩
  have hb0 := Heap.lt_size e
  exact mv.heap b o (fun z => (List.mem_cons.mp z).elim (Nat.ne_of_lt hb0) fun z => by have q := List.mem_singleton.mp z; have q : b = (s.heap.push (noSet w)).objs.size := q; rw [z1] at q; exact Nat.ne_of_lt (Nat.lt_succ_of_lt hb0) q) (Heap.get?_push_of_some _ (Heap.get?_push_of_some _ e))
set_option maxHeartbeats 8000000 in
theorem call_set_lsI {l : Addr} {items : Array Value} {ns : List Int} {Q : Value → Shared → Prop} (hh : A.handled = none) (hl : s.heap.IsList l items) (hit : IntsAre items.toList ns) (hb : ns.length + 1 < scanBound)
    (h : ∀ s2, SetMade w s ns s2 → Q (.ref s.heap.objs.size) s2) : wpAny (model P w) A (call (.type "set") [.ref l]) Q E s := by
  have ⟨c, tl, hm⟩ := F.called_set.mro
  have f1 := F.called_set.made
  have f2 := F.called_set.sub
  have f3 := F.called_set.notType
  have f4 := F.called_set.canCreate
  have f5 := F.typeCall_set_1 (.ref l)
  refine wpAny_call (codeAny_of_tree ?_)
  show wpAny _ _ (callAny (.type "set") _) _ _ _
  refine wpAny_pure ⟨Code.quiet_builtin _ (by decide +kernel), codeAny_builtin F.entry_type_call ?_⟩
  rw [Around.under_plain (weight_type_call_type "set" [.ref l] []) rfl]
  repeat (any_goals (first | (assumption) | (wp_step)))
  refine codeAny_mono (code_set_led1 (.ref l) (E := E) (Q₁ := fun v s1 => v = .ref s.heap.objs.size ∧ s1 = { s with heap := s.heap.push (noSet w) }) ⟨rfl, rfl⟩) fun r s1 hr => ?_
  match r, hr with
  | .ok (.ret v), hr =>
    obtain ⟨rfl, rfl⟩ := hr
    have b0 : (s.heap.push (noSet w)).get? s.heap.objs.size = some (noSet w) := Heap.get?_push_size _ rfl
    have hT : Shared.TypeIs { s with heap := s.heap.push (noSet w) } (.ref s.heap.objs.size) "set" := ⟨_, b0, rfl⟩
    have f6 := F.called_set.init.lookup
    have f7 := F.called_set.init.bind (.ref s.heap.objs.size)
    repeat (any_goals (first | (assumption) | (wp_step)))
    refine codeAny_mono (codeAny_call_builtin (R := wants (fun r s2 => r = .none ∧ SetMade w s ns s2) E) F.called_set.init.plain F.entry_set_init (check_set_init_1 hT ?_)) fun r s2 hr => ?_
    · exact wpAny_mono (set_from_list (P := P) (w := w) (A := A.in1) (E := E) (by simp [hh]) hl hit hb) (fun fin s2 ⟨v, e, e2, q⟩ => by subst e; exact ⟨e2, q⟩) fun e s2 q => q
    · match r, hr with
      | .ok (.ret v), hr =>
        obtain ⟨rfl, hr⟩ := hr
        repeat (any_goals (first | (assumption) | (wp_step)))
        exact h _ hr
      | .error e, hr => exact hr
  | .error e, hr => exact hr
end
end DL

set_option Elab.async false
set_option linter.all false
set_option maxRecDepth 100000
set_option maxHeartbeats 4000000
set_option autoImplicit false
namespace DL
open PySem PySem.Spec PyProof.Rows L2
/-! ### k not in range(a, b) -/
section
variable {X : Cx} {K : PySem.W.Frag}
def rNinRg : R2 := fun x y H Q => ∃ i a lo hi, x = V.int i ∧ y = V.ref a ∧ H a = some (.rng lo hi) ∧ Q (.bl (!decide (lo ≤ i ∧ i < hi))) H
theorem op_nin_rng : OpR X (compareOp .NotIn) rNinRg := by
  rintro pins s σ H _ _ v u Q I rx ry ⟨i, a, lo, hi, rfl, rfl, ha, q⟩
  obtain ⟨k, rfl⟩ := rx
  obtain rfl : u = Value.ref a := ry
  have ⟨t1, t2, t3, ho⟩ := I.hok a _ ha
  show wpAny _ _ (do return Value.bool (!(← contains (Value.ref a) (Value.int i k)))) _ _ s
  have c := q_contains a lo hi i t1 t2 t3 k
  refine wpAny_bind (wpAny_contains_slot (T := "range") ⟨_, ho, rfl⟩ F.slot_range_contains (call_meets F.slot_range_contains ⟨_, ho, rfl⟩ F.entry_range_contains (F.args_range_contains_2 _ _) c ⟨ho, ?_⟩))
  refine wpAny_truthy_bool (wpAny_pure ⟨.bl _, H, I, rfl, ?_⟩)
  rw [place1]; exact q
def dNinRg (da db dc : DE) : DE := fun ρ Q => da ρ fun r ρ1 => db ρ1 fun q ρ2 => dc ρ2 fun u ρ3 => wI (res ρ3 r) fun i => wI (res ρ3 q) fun a => wI (res ρ3 u) fun b => Q (.fz (.bool (!decide (a ≤ i ∧ i < b)))) ρ3
theorem le_ninRg {ta tb tc : TE} {da db dc : DE} (h : LE K ta da) (h2 : LE K tb db) (h3 : LE K tc dc) :
    LE K (tOp rNinRg ta (tCB (fun vs H Q => ∃ i j, vs = [V.int i, V.int j] ∧ ∀ p, H p = none → Q (.ref p) (upd H p (.rng i j))) (tCons tb (tCons tc tNil)))) (dNinRg da db dc) := by
  intro f g σ H ρ Q R hK hR hd k
  refine h.opd hK hR hd fun v H1 g1 ρ1 r1 R1 G1 O1 q1 => ?_
  refine h2.opd hK R1 q1 fun u H2 g2 ρ2 r2 R2 G2 O2 q2 => ?_
  refine h3.opd hK R2 q2 fun w H3 g3 ρ3 r3 R3 G3 O3 q3 => ?_
  obtain ⟨i, e1, q3⟩ := wI_some q3
  obtain ⟨a, e2, q3⟩ := wI_some q3
  obtain ⟨b, e3, q3⟩ := wI_some q3
  have z1 := ((O1.mono (G2.trans G3)).rn R3 e1).int
  have z2 := ((O2.mono G3).rn R3 e2).int
  have z3 := (O3.rn R3 e3).int
  subst z1 z2 z3
  refine ⟨a, b, rfl, fun p hp => ?_⟩
  obtain ⟨R4, G4, e4⟩ := R3.new (o := .rng a b) hp
  exact ⟨i, p, a, b, rfl, rfl, upd_same, k _ _ g3 ρ3 (.fz (.bool (!decide (a ≤ i ∧ i < b)))) R4 (((G1.trans G2).trans G3).trans G4) (.bl _) q3⟩
end
/-! ### a handler that assigns -/
section
variable {K : PySem.W.Frag} {mg : Str → Option Value} {C : Addr} {i : Nat}
theorem lsx_asg {t : Addr → Value → Option Addr → TE} {d : XD → DE} {tg : TG} {dg : DG} (h : LEx K mg C i t d) (hg : LG K tg dg) : LSx K mg C i (fun a c dd => tAsg (t a c dd) tg) (fun x => dAsg (d x) dg) := fun a dd x f g σ H ρ DD E hK R hs hx hd l =>
  h a dd x f g σ H ρ _ _ hK R hs hx hd fun v H1 g1 ρ1 r R1 G1 V1 q1 => hg f g1 σ H1 ρ1 v r _ _ hK R1 V1 q1 fun g2 σ2 H2 ρ2 R2 G2 q2 => l.nx g2 σ2 H2 ρ2 R2 (G1.trans G2) q2
end
/-! ### sorted(set(xs)), xs a list of ints -/
section
variable {X : Cx} {K : PySem.W.Frag}
def Few (ns : List Int) : Prop := ns.length ≤ 4000 ∧ ∀ out : List Int, out.Nodup → (∀ k ∈ out, k ∈ ns) → out.length < 64
def rSetL (K : PySem.W.Frag) (w : World) : List V → Hp → VK → Prop := fun xs H Q => ∃ (l : Addr) (ns : List Int), xs = [V.ref l] ∧ SqL K H l (ns.map V.int) ∧ Few ns ∧
  ∀ (p : Addr) (c : Nat), H p = none → c < 64 → Q (.ref p) (upd H p (SetO w p (fun j => decide (j ∈ ns)) c))
theorem cr_setL (hc : X.calm = true) : CallR X (.type "set") (rSetL X.K X.w) := by
  rintro pins s σ H xs us Q I r ⟨l, ns, rfl, hq, ⟨h1, h2⟩, q⟩
  rw [Vals.ref1 r]
  obtain ⟨its, rv, pl, hz⟩ := I.list hq
  have hn : H s.heap.objs.size = none := I.hok.fresh (Nat.le_refl _)
  refine call_set_lsI (P := X.prog) (w := X.w) (I.ok.hd hc) pl.isList (by simpa using ints_of_vals rv) (by unfold scanBound; omega) fun s2 hs => ?_
  obtain ⟨h', tk, c, rfl, R, k⟩ := hs
  have hlt : c < 64 := by
    obtain ⟨o, es, ep, t, ho, hex, hd, g, nd, hm, hb, hf, hn, _⟩ := R
    have := h2 _ nd fun k hk => by simpa using (hm k).mpr hk
    rw [List.length_map, Array.length_toList] at this
    omega
  exact ⟨.ref s.heap.objs.size, upd H s.heap.objs.size (SetO X.w s.heap.objs.size (fun j => decide (j ∈ ns)) c), I.laid (t' := tk) k (Nat.le_refl _) (setO_new R), rfl, q _ c hn hlt⟩
def tSortSet (K : PySem.W.Frag) (ta : TE) : TE := fun σ H Q => ta σ H fun x H1 => ∃ (l : Addr) (ns : List Int), x = V.ref l ∧ SqL K H1 l (ns.map V.int) ∧ Few ns ∧
  ∀ (out : List Int) (o : HO) (p q : Addr), out.Pairwise (· < ·) → (∀ k, k ∈ out ↔ k ∈ ns) → H1 p = none → upd H1 p o q = none → Q (.ref q) (upd (upd H1 p o) q (.lst (out.map V.int)))
theorem pe_sortSet {a : Expr} {ta : TE} {p p2 q pos : Pos} (h : X.K = K) (hc : X.calm = true) (hg : Gl X "sorted") (hm : X.mg "sorted" = none) (hg2 : Gl X "set") (hm2 : X.mg "set" = none) (ha : PE X a ta)
    (he : starEach [a] X.env = (false, eval a X.env) :: starEach [] X.env := by rfl) : PE X (.Call (.Name "sorted" p) [.Call (.Name "set" p2) [a] [] q] [] pos) (tSortSet K ta) := by
  subst h
  refine ⟨fun pins s σ H Q I t => Call_ (ld_blt I hg hm (show bootBuiltins "sorted" = some (.builtin "sorted") by decide +kernel) (callWith_builtin1 (args_cons (Call_ (ld_blt I hg2 hm2 (show bootBuiltins "set" = some (.type "set") by decide +kernel) ?_)) rfl) rfl rfl))⟩
  refine callWith_type1 (args_cons (thn (ha.run pins s σ H _ I t) fun v s1 ⟨x, H1, I1, r1, q1⟩ => args_nil ?_) he) he rfl
  obtain ⟨l, ns, rfl, hq, hf, q1⟩ := q1
  refine thn (cr_setL hc pins s1 σ H1 [.ref l] [v] (fun x H2 => rSortedSet X.w [x] H2 Q) I1 (.cons r1 .nil) ⟨l, ns, rfl, hq, hf, fun p c hp h64 => ⟨p, _, c, rfl, upd_same, h64, fun out p2 h1 h2 _ h4 => q1 out _ p p2 h1 (fun k => by rw [h2 k, decide_eq_true_eq]) hp h4⟩⟩) fun v2 s2 ⟨x2, H2, I2, r2, q2⟩ => args_nil ?_
  exact cr_sortedSet hc pins s2 σ H2 [x2] [v2] Q I2 (.cons r2 .nil) q2
def fSortSet : F1 := fInts fun ns Q => Few ns ∧ ∀ out : List Int, out.Pairwise (· < ·) → (∀ k, k ∈ out ↔ k ∈ ns) → Q (.nw (.list (out.map PyData.int)))
def dSortSet (da : DE) : DE := fun ρ Q => da ρ fun r ρ1 => wD (res ρ1 r) fun d => fSortSet d fun r => Q r ρ1
theorem le_sortSet {ta : TE} {da : DE} (h : LE K ta da) : LE K (tSortSet K ta) (dSortSet da) := by
  intro f g σ H ρ Q R hK hR hd k
  refine h.opd hK hR hd fun v H1 g1 ρ1 r1 R1 G1 O1 q1 => ?_
  obtain ⟨d, e1, q1⟩ := wD_some q1
  obtain ⟨ns, rfl, hf, q1⟩ := fInts_some q1
  subst hK
  obtain ⟨a, rfl, e⟩ := (O1.rn R1 e1).lints fz_sub
  refine ⟨a, ns, rfl, e, hf, fun out o p q hs hm hp hq => ?_⟩
  obtain ⟨R2, G2, _⟩ := R1.new (o := o) hp
  obtain ⟨R3, G3, V3⟩ := R2.own (o := .lst (out.map V.int)) (d := .list (out.map PyData.int)) hq (.lst upd_same (RpA.of_ints out))
  exact k _ _ _ ρ1 _ R3 ((G1.trans G2).trans G3) V3 (q1 out hs hm)
end
end DL

set_option Elab.async false
set_option linter.all false
set_option maxRecDepth 100000
set_option maxHeartbeats 4000000
set_option autoImplicit false
namespace DL
open PySem L2
/-! ### a comprehension with two generators -/
theorem it_loop {J : It} {n : Nat} {G : Hp → Prop} {Y : Nat → Hp → V → Hp → Prop} (w : Walk J n G Y) {H4 : Hp} {Bd : V → Hp → (Hp → Prop) → Prop} {Qd : Hp → Prop} (Pv : Nat → Hp → Prop) (h0 : Pv 0 H4) (hG : ∀ i H, i ≤ n → Pv i H → G H)
    (hs : ∀ i x H H', i < n → Pv i H → Y i H x H' → Bd x H' (Pv (i + 1))) (hd : ∀ H, Pv n H → Qd H) :
    ∃ W : Nat → Nat → Hp → Prop, (∃ m, W 0 m H4) ∧ ∀ i m H, W i m H → (J.stop i H ∧ Qd H) ∨ (J.go i H ∧ ∃ Nx : Hp → Prop, (∀ H', Nx H' → ∃ m', m' < m ∧ W (i + 1) m' H') ∧ ∀ x H', J.yld i H x H' → Bd x H' Nx) := by
  refine ⟨fun i m H => m = n - i ∧ i ≤ n ∧ Pv i H, ⟨n, rfl, Nat.zero_le _, h0⟩, ?_⟩
  rintro i m H ⟨rfl, hi, p⟩
  rcases Nat.lt_or_ge i n with hlt | hge
  · exact .inr ⟨w.goes i H hlt (hG i H hi p), Pv (i + 1), fun H' p' => ⟨n - (i + 1), by omega, rfl, hlt, p'⟩, fun x H' y => hs i x H H' hlt p (w.yields i H x H' hlt (hG i H hi p) y)⟩
  · obtain rfl : i = n := Nat.le_antisymm hi hge
    exact .inl ⟨w.stops H (hG i H hi p), hd H p⟩
def dLc2In (dg : DG) (dt : DT) (de : DE) (vs : List Nat) (k : List D → Rho → Prop) : List D → List D → Rho → Prop
  | [], acc, ρ => k acc ρ
  | y :: ys, acc, ρ => dg (.fz y) (wipeR ρ vs) fun ρ1 => dt ρ1 fun b ρ2 => useB b (de ρ2 fun r ρ3 => wF (frz ρ3 r) fun d ρ4 => acc.length < sizeLine ∧ dLc2In dg dt de vs k ys (acc ++ [d]) (bckR ρ ρ4 vs)) (dLc2In dg dt de vs k ys acc (bckR ρ ρ2 vs))
def dLc2Go (dg : DG) (dt : DT) (dI1 : DI) (dg1 : DG) (dt1 : DT) (de : DE) (vs vs1 : List Nat) (Q : Rv → Rho → Prop) : List D → List D → Rho → Prop
  | [], acc, ρ => Q (.nw (.list acc)) ρ
  | x :: xs, acc, ρ => dg (.fz x) (wipeR ρ vs) fun ρ1 => dt ρ1 fun b ρ2 => useB b (dI1 ρ2 fun ys ρ3 => dLc2In dg1 dt1 de vs1 (fun acc' ρ4 => dLc2Go dg dt dI1 dg1 dt1 de vs vs1 Q xs acc' (bckR ρ ρ4 vs)) ys acc ρ3) (dLc2Go dg dt dI1 dg1 dt1 de vs vs1 Q xs acc (bckR ρ ρ2 vs))
def dLc2 (dI : DI) (dg : DG) (dt : DT) (dI1 : DI) (dg1 : DG) (dt1 : DT) (de : DE) (vs vs1 : List Nat) : DE := fun ρ Q => dI ρ fun ds ρ1 => dLc2Go dg dt dI1 dg1 dt1 de vs vs1 Q ds [] ρ1
section
variable {K : PySem.W.Frag} {wi wi1 : TI} {tg tg1 : TG} {te : TE} {tt tt1 : TT} {dI dI1 : DI} {dg dg1 : DG} {de : DE} {dt dt1 : DT} {vs vs1 : List Nat}
/-- what a comprehension holds between its turns -/
structure LcSt (f : Fr) (g1 : Gs) (H1 : Hp) (D0 : Addr) (σ : L2.St) (H : Hp) (g : Gs) (ρ : Rho) (xs : List V) (acc : List D) : Prop where
  rel : Rel f (g.push D0) σ H ρ
  gro : Gro g1 H1 g H
  at' : H D0 = some (.lst xs)
  rp : RpA f.K (Fz H g.M) xs acc
section
variable {f : Fr} {g1 g' g3 g5 : Gs} {H1 H' H'' H5 : Hp} {D0 : Addr} {σ σ5 : L2.St} {ρ' ρ5 : Rho} {xs : List V} {acc : List D}
/-- behind a turn that leaves the list -/
theorem LcSt.turn (S : LcSt f g1 H1 D0 σ H' g' ρ' xs acc) (G3 : Gro (g'.push D0) H' g3 H'') (R5 : Rel f g5 σ5 H5 ρ5) (G5 : Gro g3 H'' g5 H5) {ws : List Nat} (hw : wipe σ5 ws = wipe σ ws) : LcSt f g1 H1 D0 σ H5 (g5.pop g'.T) (bckR ρ' ρ5 ws) xs acc := by
  have G35 : Gro (g'.push D0) H' g5 H5 := G3.trans G5
  have hT : g5.T = D0 :: g'.T := G35.tm
  refine ⟨(Rel.backed (vs := ws) S.rel R5 G35.fz hw).pop (T := D0 :: g'.T) (fun a ha => by rw [hT]; exact ha), ⟨S.gro.fz.trans G35.fz, fun pc h => G35.src pc (S.gro.src pc h), S.gro.tm, fun a ha => ?_, G35.fp.trans S.gro.fp⟩, (G35.th D0 List.mem_cons_self).trans S.at', S.rp.mono G35.fz⟩
  exact (G35.th a (List.mem_cons_of_mem _ (by rw [S.gro.tm]; exact ha))).trans (S.gro.th a ha)
/-- the list gets one more -/
theorem LcSt.put (S : LcSt f g1 H1 D0 σ H' g' ρ' xs acc) (h0 : f.H0 D0 = none) (hne : ∀ a ∈ g1.T, a ≠ D0) {y : V} {d : D} (hy : Rp f.K (Fz H' g'.M) y d) : LcSt f g1 H1 D0 σ (upd H' D0 (.lst (xs ++ [y]))) g' ρ' (xs ++ [y]) (acc ++ [d]) := by
  obtain ⟨A2, S2⟩ := S.rel.mutTmp (o := .lst (xs ++ [y])) List.mem_cons_self h0
  exact ⟨A2, ⟨S.gro.fz.trans S2, S.gro.src, S.gro.tm, fun a ha => by rw [upd_ne (hne a ha)]; exact S.gro.th a ha, S.gro.fp⟩, upd_same, (S.rp.append (.cons hy .nil)).mono S2⟩
end
theorem le_lc2 (hi : LI K wi dI) (hg : LG K tg dg) (hw : LGw tg vs) (ht : LT K tt dt) (hi1 : LI K wi1 dI1) (hg1 : LG K tg1 dg1) (hw1 : LGw tg1 vs1) (ht1 : LT K tt1 dt1) (he : LE K te de) : LE K (tLc2 wi tg tt wi1 tg1 tt1 te vs vs1) (dLc2 dI dg dt dI1 dg1 dt1 de vs vs1) := by
  intro f g σ H ρ Q R hK hR hd k
  refine hi f g σ H ρ _ _ hK hR hd fun J H1 g1 ρ1 G Y ds R1 G1 w io q => ?_
  intro D0 hD
  have h0 : f.H0 D0 = none := R1.dom D0 hD
  obtain ⟨R2, G2, V2⟩ := R1.own (o := .lst []) (d := .list []) hD (.lst upd_same .nil)
  obtain ⟨a, ea, m2, _, ns2, _, t2, u2⟩ := V2
  cases ea
  have hne : ∀ a ∈ g1.T, a ≠ D0 := fun a ha e => R1.mH D0 hD (e ▸ (R1.tmp a ha).1)
  refine it_loop w (fun i H' => ∃ g' ρ' xs acc, LcSt f g1 H1 D0 σ H' g' ρ' xs acc ∧ dLc2Go dg dt dI1 dg1 dt1 de vs vs1 Q (ds.drop i) acc ρ')
    ⟨g1.add D0, ρ1, [], [], ⟨⟨R2.keep, R2.dom, R2.m0, R2.m00, R2.mU, R2.src, R2.len, R2.slot, R2.uq, fun b hb => ?_, R2.fpM, R2.fpn, R2.mq⟩, G2, upd_same, .nil⟩, by simpa using q⟩ (fun i H' _ ⟨g', ρ', xs, acc, S, _⟩ => io.st _ σ H' ρ' S.rel S.gro.fz) ?_ ?_
  · rcases List.mem_cons.mp hb with rfl | hb
    · exact ⟨m2, ns2, u2⟩
    · exact R2.tmp b hb
  · rintro i x H' H'' hlt ⟨g', ρ', xs, acc, S, q'⟩ y
    obtain ⟨g3, R3, G3, hxx⟩ := io.yl _ σ H' ρ' S.rel S.gro.fz i x H'' ds[i] (by simp [hlt]) y
    rw [List.drop_eq_getElem_cons hlt] at q'
    have hw' := hw x (wipe σ vs) H''
    rw [wipe_wipe] at hw'
    refine hw' _ ?_
    refine hg f g3 (wipe σ vs) H'' (wipeR ρ' vs) x (.fz _) _ _ hK (R3.wiped vs) hxx q' fun g4 σ4 H4 ρ4 R4 G4 q4 => ?_
    intro hws
    refine ht f g4 σ4 H4 ρ4 _ _ hK R4 q4 fun b H5 g5 ρ5 R5 G5 q5 => ?_
    cases b with
    | false => exact ⟨g5.pop g'.T, _, xs, acc, S.turn G3 R5 (G4.trans G5) hws, useB_f q5⟩
    | true =>
      replace q5 := useB_t q5
      rw [if_pos rfl]
      refine hi1 f g5 σ4 H5 ρ5 _ _ hK R5 q5 fun J1 H6 g6 ρ6 G6' Y6 ys R6 G6 w1 io1 q6 => ?_
      have G36 : Gro (g'.push D0) H' g6 H6 := ((G3.trans G4).trans G5).trans G6
      have hT6 : g6.T = D0 :: g'.T := G36.tm
      have S6 : LcSt f g1 H1 D0 σ H6 (g6.pop g'.T) (bckR ρ' ρ6 vs) xs acc := S.turn G3 R6 ((G4.trans G5).trans G6) hws
      refine it_loop w1 (fun j H7 => ∃ g7 ρ7 xs acc, LcSt f (g6.pop g'.T) H6 D0 σ4 H7 g7 ρ7 xs acc ∧ dLc2In dg1 dt1 de vs1 (fun acc' ρ4 => dLc2Go dg dt dI1 dg1 dt1 de vs vs1 Q (ds.drop (i + 1)) acc' (bckR ρ' ρ4 vs)) (ys.drop j) acc ρ7)
        ⟨g6.pop g'.T, ρ6, xs, acc, ⟨R6.pop (T := D0 :: g'.T) (fun a ha => by rw [hT6]; exact ha), Gro.refl, S6.at', S6.rp⟩, by simpa using q6⟩ (fun j H7 _ ⟨g7, ρ7, xs, acc, S7, _⟩ => io1.st _ σ4 H7 ρ7 S7.rel S7.gro.fz) ?_ ?_
      · rintro j y1 H7 H8 hlt1 ⟨g7, ρ7, xs1, acc1, S7, q7⟩ yy
        obtain ⟨g8, R8, G8, hyy⟩ := io1.yl _ σ4 H7 ρ7 S7.rel S7.gro.fz j y1 H8 ys[j] (by simp [hlt1]) yy
        rw [List.drop_eq_getElem_cons hlt1] at q7
        have hw2 := hw1 y1 (wipe σ4 vs1) H8
        rw [wipe_wipe] at hw2
        refine hw2 _ ?_
        refine hg1 f g8 (wipe σ4 vs1) H8 (wipeR ρ7 vs1) y1 (.fz _) _ _ hK (R8.wiped vs1) hyy q7 fun g9 σ9 H9 ρ9 R9 G9 q9 => ?_
        intro hws1
        refine ht1 f g9 σ9 H9 ρ9 _ _ hK R9 q9 fun b1 Ha ga ρa Ra Ga qa => ?_
        cases b1 with
        | false => exact ⟨ga.pop g7.T, _, xs1, acc1, S7.turn G8 Ra (G9.trans Ga) hws1, useB_f qa⟩
        | true =>
          replace qa := useB_t qa
          rw [if_pos rfl]
          refine he.opd hK Ra qa fun z Hb gb ρb r Rb Gb Ob qb => ?_
          obtain ⟨d, ρc, ec, hl, qc⟩ := wF_some qb
          obtain ⟨gc, Rc, Gc, hz⟩ := Ob.frz Rb ec
          have S8 := S7.turn G8 Rc (((G9.trans Ga).trans Gb).trans Gc) hws1
          exact ⟨xs1, S8.at', by rw [S8.rp.length]; exact hl, gc.pop g7.T, _, _, _, S8.put h0 (fun a ha => hne a (by have e : (g6.pop g'.T).T = g1.T := S.gro.tm; rw [← e]; exact ha)) hz, qc⟩
      · rintro H7 ⟨g7, ρ7, xs1, acc1, S7, q7⟩
        rw [List.drop_length] at q7
        refine ⟨g7, _, xs1, acc1, ⟨Rel.backed (vs := vs) S.rel S7.rel (G36.fz.trans S7.gro.fz) hws, S6.gro.trans S7.gro, S7.at', S7.rp⟩, q7⟩
  · rintro H' ⟨g', ρ', xs, acc, S, q'⟩
    rw [List.drop_length] at q'
    obtain ⟨m', ns', u'⟩ := S.rel.tmp D0 List.mem_cons_self
    refine k _ H' g' ρ' (.nw (.list acc)) (S.rel.pop (T := g'.T) fun a ha => List.mem_cons_of_mem _ ha) (G1.trans S.gro) ⟨D0, rfl, m', h0, ns', .lst S.at' S.rp, ?_, u'⟩ q'
    intro ha
    rw [S.gro.tm] at ha
    exact hne D0 ha rfl
end
end DL

set_option Elab.async false
set_option linter.all false
set_option maxRecDepth 100000
set_option maxHeartbeats 4000000
set_option autoImplicit false
namespace DL
open PySem L2
/-! ### a module's constants: tuples of ints, and tuples of them -/
def KTi (K : PySem.W.Frag) (a : Addr) (ns : List Int) : Prop := ∀ H, SqT K H a (ns.map V.int)
def KT2 (K : PySem.W.Frag) (a : Addr) (rows : List (List Int)) : Prop := ∃ bs : List Addr, (∀ H, SqT K H a (bs.map V.ref)) ∧ bs.length = rows.length ∧ ∀ (i : Nat) (b : Addr) (r : List Int), bs[i]? = some b → rows[i]? = some r → KTi K b r
def KZ (K : PySem.W.Frag) (mg : Str → Option Value) (x : Str) (ns : List Int) : Prop := ∃ a, mg x = some (.ref a) ∧ KTi K a ns
def KZ2 (K : PySem.W.Frag) (mg : Str → Option Value) (x : Str) (rows : List (List Int)) : Prop := ∃ a, mg x = some (.ref a) ∧ KT2 K a rows
theorem KZ.use {K : PySem.W.Frag} {mg : Str → Option Value} {x : Str} {ns : List Int} (h : KZ K mg x ns) : ∃ a, mg x = some (.ref a) ∧ KTi K a ns := h
theorem KZ2.use {K : PySem.W.Frag} {mg : Str → Option Value} {x : Str} {rows : List (List Int)} (h : KZ2 K mg x rows) : ∃ a, mg x = some (.ref a) ∧ KT2 K a rows := h
theorem kti_of {K : PySem.W.Frag} {a : Addr} {ns : List Int} {o : Option Addr} {its : Array Value} {n : Nat} {sl : Array (Option Value)} (h : K.lookup a = some ⟨.type "tuple", o, .seq its n, sl⟩) (hl : its.size ≤ sizeLine) (hv : Vals (ns.map V.int) its.toList) : KTi K a ns :=
  fun H => .inr ⟨_, its, n, h, rfl, rfl, hl, hv⟩
theorem kt2_nil {K : PySem.W.Frag} : ∀ (i : Nat) (b : Addr) (r : List Int), ([] : List Addr)[i]? = some b → ([] : List (List Int))[i]? = some r → KTi K b r := fun i b r h => by cases i <;> cases h
theorem kt2_cons {K : PySem.W.Frag} {b0 : Addr} {r0 : List Int} {bs : List Addr} {rs : List (List Int)} (h : KTi K b0 r0) (h' : ∀ (i : Nat) (b : Addr) (r : List Int), bs[i]? = some b → rs[i]? = some r → KTi K b r) : ∀ (i : Nat) (b : Addr) (r : List Int), (b0 :: bs)[i]? = some b → (r0 :: rs)[i]? = some r → KTi K b r := fun i b r e1 e2 => by
  cases i with
  | zero => cases e1; cases e2; exact h
  | succ i => exact h' i b r e1 e2
section
variable {K : PySem.W.Frag} {a : Addr} {ns : List Int} {rows : List (List Int)} {ta tb : TE} {da db : DE}
/-- CONST[i][j] -/
def dKix2 (rows : List (List Int)) (da db : DE) : DE := fun ρ Q => da ρ fun r ρ1 => wI (res ρ1 r) fun i => ∃ row, L2.atI rows i = some row ∧ db ρ1 fun q ρ2 => wI (res ρ2 q) fun j => ∃ z, L2.atI row j = some z ∧ Q (.fz (.int z)) ρ2
theorem atI_len {α β : Type} {xs : List α} {ys : List β} (h : xs.length = ys.length) {i : Int} {y : β} (e : L2.atI ys i = some y) : ∃ (j : Nat) (x : α), L2.atI xs i = some x ∧ xs[j]? = some x ∧ ys[j]? = some y := by
  unfold L2.atI at e ⊢
  rw [h]
  cases hj : ixN ys.length i with
  | none => rw [hj] at e; cases e
  | some j =>
    rw [hj] at e
    have e : ys[j]? = some y := e
    obtain ⟨hy, _⟩ := List.getElem?_eq_some_iff.mp e
    exact ⟨j, xs[j]'(by omega), List.getElem?_eq_getElem (by omega), List.getElem?_eq_getElem (by omega), e⟩
theorem atI_map {α β : Type} {f : α → β} {xs : List α} {i : Int} {x : α} (e : L2.atI xs i = some x) : L2.atI (xs.map f) i = some (f x) := by
  unfold L2.atI at e ⊢
  rw [List.length_map]
  cases hj : ixN xs.length i with
  | none => rw [hj] at e; cases e
  | some j =>
    rw [hj] at e
    have e : xs[j]? = some x := e
    show (xs.map f)[j]? = some (f x)
    rw [List.getElem?_map, e]; rfl
theorem le_kix2 (hk : KT2 K a rows) (h : LE K ta da) (h' : LE K tb db) : LE K (tOp (rIx K) (tOp (rIx K) (tC (.ref a)) ta) tb) (dKix2 rows da db) := by
  intro f g σ H ρ Q R hK hR hd k
  refine h.opd hK hR hd fun v H1 g1 ρ1 r1 R1 G1 O1 q1 => ?_
  obtain ⟨i, e1, row, er, q1⟩ := wI_some q1
  obtain rfl := (O1.rn R1 e1).int
  obtain ⟨bs, hb, hl, hr⟩ := hk
  obtain ⟨n, b, eb, eb2, er2⟩ := atI_len hl er
  refine .inr (.inl ⟨a, bs.map V.ref, i, .ref b, rfl, rfl, hb H1, atI_map eb, ?_⟩)
  refine h'.opd hK R1 q1 fun u H2 g2 ρ2 r2 R2 G2 O2 q2 => ?_
  obtain ⟨j, e2, z, ez, q2⟩ := wI_some q2
  obtain rfl := (O2.rn R2 e2).int
  exact .inr (.inl ⟨b, row.map V.int, j, .int z, rfl, rfl, hr n b row eb2 er2 H2, atI_map ez, k _ H2 g2 ρ2 (.fz (.int z)) R2 (G1.trans G2) (.int z) q2⟩)
/-- CONST[i], ints -/
def dKix (ns : List Int) (da : DE) : DE := fun ρ Q => da ρ fun r ρ1 => wI (res ρ1 r) fun i => ∃ z, L2.atI ns i = some z ∧ Q (.fz (.int z)) ρ1
theorem le_kix (hk : KTi K a ns) (h : LE K ta da) : LE K (tOp (rIx K) (tC (.ref a)) ta) (dKix ns da) := by
  intro f g σ H ρ Q R hK hR hd k
  refine h.opd hK hR hd fun v H1 g1 ρ1 r1 R1 G1 O1 q1 => ?_
  obtain ⟨i, e1, z, ez, q1⟩ := wI_some q1
  obtain rfl := (O1.rn R1 e1).int
  exact .inr (.inl ⟨a, ns.map V.int, i, .int z, rfl, rfl, hk H1, atI_map ez, k _ H1 g1 ρ1 (.fz (.int z)) R1 G1 (.int z) q1⟩)
/-- for .. in CONST, ints -/
def dKit (ns : List Int) : DI := fun ρ Q => Q (ns.map PyData.int) ρ
theorem li_kz (hk : KTi K a ns) : LI K (iAny K (tC (.ref a))) (dKit ns) := by
  intro f g σ H ρ Q R hK hR hd k
  subst hK
  exact .inr (.inl ⟨a, rfl, ⟨_, hk H⟩, k _ H g ρ _ _ (ns.map PyData.int) hR Gro.refl (by rw [List.length_map, ← List.length_map (f := V.int)]; exact walk_tup (xs := ns.map V.int)) (itOk_at (F := H) (RpA.of_ints ns) fun _ _ H2 _ _ _ => hk H2) hd⟩)
/-- len(CONST) -/
def dKlen (n : Nat) : DE := fun ρ Q => Q (.fz (.int (n : Int))) ρ
theorem le_klen2 (hk : KT2 K a rows) : LE K (tCB (fun xs H Q => (∃ x n, xs = [x] ∧ LenV K x H n ∧ Q (.int n) H) ∨ rLenT xs H Q) (tCons (tC (.ref a)) tNil)) (dKlen rows.length) := by
  intro f g σ H ρ Q R hK hR hd k
  obtain ⟨bs, hb, hl, hr⟩ := hk
  exact .inl ⟨.ref a, rows.length, rfl, .inr ⟨_, hb H, by rw [List.length_map, hl]⟩, k _ H g ρ (.fz (.int _)) hR Gro.refl (.int _) hd⟩
theorem le_klen (hk : KTi K a ns) : LE K (tCB (fun xs H Q => (∃ x n, xs = [x] ∧ LenV K x H n ∧ Q (.int n) H) ∨ rLenT xs H Q) (tCons (tC (.ref a)) tNil)) (dKlen ns.length) := by
  intro f g σ H ρ Q R hK hR hd k
  exact .inl ⟨.ref a, ns.length, rfl, .inr ⟨_, hk H, by rw [List.length_map]⟩, k _ H g ρ (.fz (.int _)) hR Gro.refl (.int _) hd⟩
end
/-! ### for n, (x, y) in enumerate(CONST) -/
section
variable {K : PySem.W.Frag} {a : Addr} {rows : List (List Int)} {tb : TS} {db : DS} {i0 i1 i2 : Nat} {mg : Str → Option Value} {tbw : WX → TS} {dbw : DW → DS}
def dgK (i0 i1 i2 : Nat) : DG := dgT 2 (dgCons (dgN i0) (dgCons (dgT 2 (dgCons (dgN i1) (dgCons (dgN i2) dgNil))) dgNil))
def rowsK (rows : List (List Int)) : List D := enumD (rows.map fun r => .tuple (r.map PyData.int))
def dForK (rows : List (List Int)) (i0 i1 i2 : Nat) (db : DS) : DS := fun DD ρ => dLoop (dgK i0 i1 i2) db DD (rowsK rows) ρ
theorem dgK_some {n x y : Int} {ρ : Rho} {Q : Rho → Prop} (h : dgK i0 i1 i2 (.fz (.tuple [.int n, .tuple [.int x, .int y]])) ρ Q) : dgN i0 (.fz (.int n)) ρ fun ρ1 => dgN i1 (.fz (.int x)) ρ1 fun ρ2 => dgN i2 (.fz (.int y)) ρ2 Q := by
  have h : wT (some (.tuple [.int n, .tuple [.int x, .int y]])) fun ds => ds.length = 2 ∧ dgCons (dgN i0) (dgCons (dgT 2 (dgCons (dgN i1) (dgCons (dgN i2) dgNil))) dgNil) ds ρ Q := h
  obtain ⟨ds, e, _, q⟩ := wT_some h
  cases e
  obtain ⟨ρ1, e1, q1⟩ := wR_some (show wR (asg ρ i0 (.fz (.int n))) (fun ρ1 => dgCons (dgT 2 (dgCons (dgN i1) (dgCons (dgN i2) dgNil))) dgNil [.tuple [.int x, .int y]] ρ1 Q) from q)
  have q1 : wT (some (.tuple [.int x, .int y])) fun ds => ds.length = 2 ∧ dgCons (dgN i1) (dgCons (dgN i2) dgNil) ds ρ1 (fun ρ3 => dgNil [] ρ3 Q) := q1
  obtain ⟨es, e2, _, q2⟩ := wT_some q1
  cases e2
  obtain ⟨ρ2, e3, q3⟩ := wR_some (show wR (asg ρ1 i1 (.fz (.int x))) (fun ρ2 => dgCons (dgN i2) dgNil [.int y] ρ2 (fun ρ3 => dgNil [] ρ3 Q)) from q2)
  obtain ⟨ρ3, e4, q4⟩ := wR_some (show wR (asg ρ2 i2 (.fz (.int y))) (fun ρ2 => dgNil [] ρ2 (fun ρ3 => dgNil [] ρ3 Q)) from q3)
  obtain ⟨_, q5⟩ := q4
  obtain ⟨_, q6⟩ := q5
  show wR (asg ρ i0 (.fz (.int n))) (fun ρ1 => dgN i1 (.fz (.int x)) ρ1 fun ρ2 => dgN i2 (.fz (.int y)) ρ2 Q)
  rw [e1]
  show wR (asg ρ1 i1 (.fz (.int x))) (fun ρ2 => dgN i2 (.fz (.int y)) ρ2 Q)
  rw [e3]
  show wR (asg ρ2 i2 (.fz (.int y))) Q
  rw [e4]
  exact q6
theorem ls_forK (hk : KT2 K a rows) (h2 : ∀ r ∈ rows, r.length = 2) (hb : LS K tb db) :
    LS K (tFor (iEnumA K (tCons (tC (.ref a)) tNil)) (gTup K 2 (gCons (gName i0) (gCons (gTup K 2 (gCons (gName i1) (gCons (gName i2) gNil))) gNil))) tb) (dForK rows i0 i1 i2 db) := by
  intro f g σ H ρ DD E hK R hd l
  obtain ⟨bs, hbs, hl, hr⟩ := hk
  have hlen : (rowsK rows).length = (bs.map V.ref).length := by unfold rowsK enumD; rw [List.length_mapIdx, List.length_map, List.length_map, hl]
  refine ⟨a, true, bs.map V.ref, rfl, hbs H, ?_⟩
  refine for_it (walk_enumB (b := true) (xs := bs.map V.ref)) (fun i σ' H' => ∃ g' ρ', Rel f g' σ' H' ρ' ∧ Gro g H g' H' ∧ dLoop (dgK i0 i1 i2) db DD ((rowsK rows).drop i) ρ') ⟨g, ρ, R, Gro.refl, by rw [List.drop_zero]; exact hd⟩ (fun i σ' H' _ _ => hbs H') ?_ ?_
  · rintro i x σ' H' H'' hlt ⟨g', ρ', R', G', q'⟩ y
    obtain ⟨T, x1, y1, rfl, hT, rfl, e1, e2⟩ := y
    cases e1
    have hlt' : i < (rowsK rows).length := by omega
    have hi : i < rows.length := by rw [List.length_map] at hlt; omega
    have hbi : i < bs.length := by omega
    have e2 : (bs.map V.ref)[i]? = some y1 := e2
    rw [List.getElem?_map, List.getElem?_eq_getElem hbi] at e2
    cases e2
    obtain ⟨x, z, exz⟩ : ∃ x z : Int, rows[i] = [x, z] := by
      have := h2 _ (List.getElem_mem hi)
      match rows[i], this with
      | [x, z], _ => exact ⟨x, z, rfl⟩
    have hrow : (rowsK rows)[i] = .tuple [.int (i : Nat), .tuple [.int x, .int z]] := by
      have e : (rowsK rows)[i]? = some (.tuple [.int (i : Nat), .tuple [.int x, .int z]]) := by
        unfold rowsK enumD
        rw [List.getElem?_mapIdx, List.getElem?_map, List.getElem?_eq_getElem hi, exz]; rfl
      rw [List.getElem?_eq_getElem hlt'] at e
      exact Option.some.inj e
    rw [List.drop_eq_getElem_cons hlt', hrow] at q'
    obtain ⟨R2, G2, e3⟩ := R'.new (o := .tup [.int (i : Nat), .ref bs[i]]) hT
    refine ⟨T, _, rfl, .inl (.inl upd_same), rfl, _, _, rfl, ?_⟩
    have q2 := dgK_some q'
    refine lg_name (i := i0) f g' σ' _ ρ' (.int (i : Nat)) (.fz (.int (i : Nat))) _ _ hK R2 (.int _) q2 fun g3 σ3 H3 ρ3 R3 G3 q3 => ?_
    have kb := hr i bs[i] rows[i] (List.getElem?_eq_getElem hbi) (List.getElem?_eq_getElem hi) H3
    rw [exz] at kb
    subst hK
    refine ⟨_, _, rfl, ⟨bs[i], _, rfl, kb, rfl, _, _, rfl, ?_⟩⟩
    refine lg_name (i := i1) f g3 σ3 H3 ρ3 (.int x) (.fz (.int x)) _ _ rfl R3 (.int _) q3 fun g4 σ4 H4 ρ4 R4 G4 q4 => ?_
    refine ⟨_, _, rfl, ?_⟩
    refine lg_name (i := i2) f g4 σ4 H4 ρ4 (.int z) (.fz (.int z)) _ _ rfl R4 (.int _) q4 fun g5 σ5 H5 ρ5 R5 G5 q5 => ?_
    refine ⟨rfl, rfl, ?_⟩
    have GG := (((G'.trans G2).trans G3).trans G4).trans G5
    exact hb f g5 σ5 H5 ρ5 _ _ rfl R5 q5 ⟨fun g4 σ4 H4 ρ4 R4 G4 q4 => ⟨g4, ρ4, R4, GG.trans G4, q4⟩, fun g4 σ4 H4 ρ4 v r R4 G4 V4 q4 => l.rt g4 σ4 H4 ρ4 v r R4 (GG.trans G4) V4 q4,
      fun g4 σ4 H4 ρ4 R4 G4 q4 => l.nx g4 σ4 H4 ρ4 R4 (GG.trans G4) q4, fun g4 σ4 H4 ρ4 R4 G4 q4 => ⟨g4, ρ4, R4, GG.trans G4, q4⟩⟩
  · rintro σ' H' ⟨g', ρ', R', G', q'⟩
    rw [← hlen, List.drop_length] at q'
    exact l.nx g' σ' H' ρ' R' G' q'
theorem lsw_forK (hk : KT2 K a rows) (h2 : ∀ r ∈ rows, r.length = 2) (hb : LSw K mg tbw dbw) :
    LSw K mg (fun W => tFor (iEnumA K (tCons (tC (.ref a)) tNil)) (gTup K 2 (gCons (gName i0) (gCons (gTup K 2 (gCons (gName i1) (gCons (gName i2) gNil))) gNil))) (tbw W)) (fun Y => dForK rows i0 i1 i2 (dbw Y)) := by
  intro W Y f g σ H ρ DD E hK R lw hd l
  obtain ⟨bs, hbs, hl, hr⟩ := hk
  have hlen : (rowsK rows).length = (bs.map V.ref).length := by unfold rowsK enumD; rw [List.length_mapIdx, List.length_map, List.length_map, hl]
  refine ⟨a, true, bs.map V.ref, rfl, hbs H, ?_⟩
  refine for_it (walk_enumB (b := true) (xs := bs.map V.ref)) (fun i σ' H' => ∃ g' ρ', Rel f g' σ' H' ρ' ∧ Gro g H g' H' ∧ dLoop (dgK i0 i1 i2) (dbw Y) DD ((rowsK rows).drop i) ρ') ⟨g, ρ, R, Gro.refl, by rw [List.drop_zero]; exact hd⟩ (fun i σ' H' _ _ => hbs H') ?_ ?_
  · rintro i x σ' H' H'' hlt ⟨g', ρ', R', G', q'⟩ y
    obtain ⟨T, x1, y1, rfl, hT, rfl, e1, e2⟩ := y
    cases e1
    have hlt' : i < (rowsK rows).length := by omega
    have hi : i < rows.length := by rw [List.length_map] at hlt; omega
    have hbi : i < bs.length := by omega
    have e2 : (bs.map V.ref)[i]? = some y1 := e2
    rw [List.getElem?_map, List.getElem?_eq_getElem hbi] at e2
    cases e2
    obtain ⟨x, z, exz⟩ : ∃ x z : Int, rows[i] = [x, z] := by
      have := h2 _ (List.getElem_mem hi)
      match rows[i], this with
      | [x, z], _ => exact ⟨x, z, rfl⟩
    have hrow : (rowsK rows)[i] = .tuple [.int (i : Nat), .tuple [.int x, .int z]] := by
      have e : (rowsK rows)[i]? = some (.tuple [.int (i : Nat), .tuple [.int x, .int z]]) := by
        unfold rowsK enumD
        rw [List.getElem?_mapIdx, List.getElem?_map, List.getElem?_eq_getElem hi, exz]; rfl
      rw [List.getElem?_eq_getElem hlt'] at e
      exact Option.some.inj e
    rw [List.drop_eq_getElem_cons hlt', hrow] at q'
    obtain ⟨R2, G2, e3⟩ := R'.new (o := .tup [.int (i : Nat), .ref bs[i]]) hT
    refine ⟨T, _, rfl, .inl (.inl upd_same), rfl, _, _, rfl, ?_⟩
    have q2 := dgK_some q'
    refine lg_name (i := i0) f g' σ' _ ρ' (.int (i : Nat)) (.fz (.int (i : Nat))) _ _ hK R2 (.int _) q2 fun g3 σ3 H3 ρ3 R3 G3 q3 => ?_
    have kb := hr i bs[i] rows[i] (List.getElem?_eq_getElem hbi) (List.getElem?_eq_getElem hi) H3
    rw [exz] at kb
    subst hK
    refine ⟨_, _, rfl, ⟨bs[i], _, rfl, kb, rfl, _, _, rfl, ?_⟩⟩
    refine lg_name (i := i1) f g3 σ3 H3 ρ3 (.int x) (.fz (.int x)) _ _ rfl R3 (.int _) q3 fun g4 σ4 H4 ρ4 R4 G4 q4 => ?_
    refine ⟨_, _, rfl, ?_⟩
    refine lg_name (i := i2) f g4 σ4 H4 ρ4 (.int z) (.fz (.int z)) _ _ rfl R4 (.int _) q4 fun g5 σ5 H5 ρ5 R5 G5 q5 => ?_
    refine ⟨rfl, rfl, ?_⟩
    have GG := (((G'.trans G2).trans G3).trans G4).trans G5
    exact hb W Y f g5 σ5 H5 ρ5 _ _ rfl R5 (lw.mono GG) q5 ⟨fun g4 σ4 H4 ρ4 R4 G4 q4 => ⟨g4, ρ4, R4, GG.trans G4, q4⟩, fun g4 σ4 H4 ρ4 v r R4 G4 V4 q4 => l.rt g4 σ4 H4 ρ4 v r R4 (GG.trans G4) V4 q4,
      fun g4 σ4 H4 ρ4 R4 G4 q4 => l.nx g4 σ4 H4 ρ4 R4 (GG.trans G4) q4, fun g4 σ4 H4 ρ4 R4 G4 q4 => ⟨g4, ρ4, R4, GG.trans G4, q4⟩⟩
  · rintro σ' H' ⟨g', ρ', R', G', q'⟩
    rw [← hlen, List.drop_length] at q'
    exact l.nx g' σ' H' ρ' R' G' q'
end
/-! ### xs.clear() -/
def dClear (i : Nat) : DE := fun ρ Q => ∃ xs, ρ[i]? = some (some (.ow (.list xs))) ∧ Q (.fz .none) (ρ.set i (some (.ow (.list []))))
theorem le_clear {K : PySem.W.Frag} {i : Nat} : LE K (tBM0 K "list" rClear (tVar i)) (dClear i) := by
  intro f g σ H ρ Q R hK hR hd k
  obtain ⟨xs, e0, hd⟩ := hd
  obtain ⟨w, e1, a, e2, m, h0, ns, r⟩ := hR.slot i _ e0
  subst e2
  cases r with
  | lst hh rr =>
    obtain ⟨R3, G3⟩ := hR.mutOwn (o := .lst []) (d' := .list []) e0 e1 (.lst upd_same .nil)
    exact ⟨.ref a, e1, .inl ⟨rfl, _, .inl (.inl hh)⟩, a, _, rfl, rfl, hh, k .non _ g _ (.fz .none) R3 G3 .non hd⟩
/-! ### x in a list of anything that may be compared -/
theorem room65 {k : Nat} {A : Around} (r : Room k A) : A.units + 65 < cLine := by have := r.un; omega
theorem k_inD {X : Cx} {K : PySem.W.Frag} (h : X.K = K) (hu : X.A.units + 65 < cLine) : OpR X (compareOp .In) (rInD K) := by subst h; exact op_inD hu
def fInD : F2 := fun x y Q => match y with
  | .list ds => eqOk x = true ∧ eqOk (.list ds) = true ∧ Q (.fz (.bool (ds.any fun z => PyData.eqv z x)))
  | _ => False
theorem ol_inD {K : PySem.W.Frag} : OpL K (rInD K) fInD := by
  intro f g σ H ρ v u x y Q R hK hR h1 h2 hF k
  subst hK
  cases y with
  | list ds =>
    obtain ⟨e1, e2, q⟩ := hF
    obtain ⟨a1, a2⟩ := eqOk_and e1
    obtain ⟨b1, b2⟩ := eqOk_and e2
    exact ⟨x, ds, h1.dp fz_sub a1, h2.dp fz_sub b1, a2, b2, OEnd.fz k hR (.bl _) q⟩
  | _ => exact hF.elim
end DL

set_option Elab.async false
set_option linter.all false
set_option maxRecDepth 100000
set_option maxHeartbeats 4000000
set_option autoImplicit false
namespace DL
open PySem PySem.Spec PyProof.Rows L2
/-! ### a tuple no times, or once -/
theorem tuple_mul0 (l : Addr) (items : Array Value) (n : Nat) (dd : Option Addr) (sl : Array (Option Value)) (x : Int) (u : Tok) (c0 : (decide (x < -(2 ^ 63)) || decide (x ≥ 2 ^ 63)) = false) (c1 : (items.isEmpty || x == 1) = false) (c2 : (decide (x ≤ 0) || items.isEmpty) = true) :
    Meets (Builtin.«tuple.__mul__» ⟨[.ref l, .int x u], []⟩) (fun _ R s => s.heap.get? l = some { cls := .type "tuple", dict := dd, data := .seq items n, slots := sl } ∧
      R (.ok (.ret (Value.ref s.heap.objs.size))) { s with heap := s.heap.push { cls := Value.type "tuple", data := Data.seq #[] }, toks := s.toks }) :=
  .of_wp fun prog w A R s h => by
    obtain ⟨hp, g, d, tk, os⟩ := s
    obtain ⟨hl, h⟩ := h
    have f1 := AutoSeq1.idx_int
    wp_walk using wpAny_loadPart' hl
    repeat (first
      | (refine wpAny_ite_false (decide_eq_false (by rw [c0]; exact Bool.false_ne_true)) ?_; wp_walk using wpAny_loadPart' hl)
      | (refine wpAny_ite_false (decide_eq_false (by rw [c1]; exact Bool.false_ne_true)) ?_; wp_walk using wpAny_loadPart' hl)
      | (refine wpAny_ite_true (decide_eq_true (by rw [c2])) ?_; wp_walk using wpAny_loadPart' hl))
    exact ⟨_, rfl, h⟩
theorem tuple_mul1 (l : Addr) (items : Array Value) (n : Nat) (dd : Option Addr) (sl : Array (Option Value)) (x : Int) (u : Tok) (c0 : (decide (x < -(2 ^ 63)) || decide (x ≥ 2 ^ 63)) = false) (c1 : (items.isEmpty || x == 1) = true) :
    Meets (Builtin.«tuple.__mul__» ⟨[.ref l, .int x u], []⟩) (fun _ R s => s.heap.get? l = some { cls := .type "tuple", dict := dd, data := .seq items n, slots := sl } ∧
      R (.ok (.ret (Value.ref l))) s) :=
  .of_wp fun prog w A R s h => by
    obtain ⟨hp, g, d, tk, os⟩ := s
    obtain ⟨hl, h⟩ := h
    have f1 := AutoSeq1.idx_int
    wp_walk using wpAny_loadPart' hl
    repeat (first
      | (refine wpAny_ite_false (decide_eq_false (by rw [c0]; exact Bool.false_ne_true)) ?_; wp_walk using wpAny_loadPart' hl)
      | (refine wpAny_ite_true (decide_eq_true (by rw [c1])) ?_; wp_walk using wpAny_loadPart' hl))
    exact ⟨_, rfl, h⟩
def rRepA (K : PySem.W.Frag) : R2 := fun x y H Q => ∃ l k xs, x = .ref l ∧ y = .int k ∧ SqT K H l xs ∧ -1000 ≤ k ∧ k ≤ 1000 ∧ xs.length ≤ 1000 ∧ (∀ p, H p = none → Q (.ref p) (upd H p (.tup (List.replicate k.toNat xs).flatten))) ∧ ((List.replicate k.toNat xs).flatten = xs → Q (.ref l) H)
section
variable {X : Cx}
theorem rep_one {α : Type} {xs : List α} {k : Int} (h : xs = [] ∨ k = 1) : (List.replicate k.toNat xs).flatten = xs := by
  rcases h with rfl | rfl
  · generalize k.toNat = n
    induction n with
    | zero => rfl
    | succ n ih => rw [List.replicate_succ, List.flatten_cons, ih]; rfl
  · show (List.replicate 1 xs).flatten = xs
    simp
theorem op_repA : OpR X (binaryOp .Mult) (rRepA X.K) := by
  intro pins s σ H x y v u Q I rx ry h
  obtain ⟨l, k, xs, rfl, rfl, hT, h1, h2, hz, q, q1⟩ := h
  have hT0 := hT
  cases rx
  obtain ⟨t, rfl⟩ := ry
  obtain ⟨its, r, ⟨⟨cls, dd, data, sl⟩, ho, hc, n, hd⟩, hs⟩ := I.tuple hT
  simp only at hc hd
  subst hc hd
  have hle : its.length = xs.length := r.length.symm
  have hsz0 : its.toArray.size = xs.length := by rw [List.size_toArray, hle]
  have c0 : (decide (k < -(2 ^ 63)) || decide (k ≥ 2 ^ 63)) = false := by
    rw [decide_eq_false (by omega), decide_eq_false (by omega)] <;> rfl
  have em : its.toArray.isEmpty = decide (xs = []) := by
    cases its with
    | nil =>
      have : xs = [] := List.eq_nil_of_length_eq_zero hle.symm
      rw [this]; rfl
    | cons a b =>
      cases xs with
      | nil => cases hle
      | cons _ _ => rfl
  cases c1 : (its.toArray.isEmpty || k == 1) with
  | true =>
    have h3 : xs = [] ∨ k = 1 := by
      rw [em, Bool.or_eq_true, decide_eq_true_eq, beq_iff_eq] at c1
      exact c1
    refine wpAny_binaryOp_repeat_ref (T := "tuple") (U := "int") (by decide) ⟨_, ho, rfl⟩ (fun s' => typeIs_int s' k t) noFill_tuple_mul F.fills_int_mul F.slot_int_rmul repeat_tuple F.slot_int_index.lookup
      (call_meets F.slot_int_rmul (typeIs_int s k t) F.entry_int_rmul (F.args_int_rmul_2 _ _) (int_rmul_tuple k t l its.toArray n dd sl)
        ⟨ho, rfl, ⟨_, ho, rfl⟩, call_meets F.slot_tuple_mul ⟨_, ho, rfl⟩ F.entry_tuple_mul (F.args_tuple_mul_2 _ _) (tuple_mul1 l its.toArray n dd sl k t c0 c1) ⟨ho, ?_⟩⟩)
    exact ⟨.ref l, H, I, rfl, q1 (rep_one h3)⟩
  | false =>
  have hne : xs ≠ [] ∧ k ≠ 1 := by
    rw [em, Bool.or_eq_false_iff, decide_eq_false_iff_not, beq_eq_false_iff_ne] at c1
    exact c1
  have hi : its.toArray.isEmpty = false := by rw [em]; exact decide_eq_false hne.1
  by_cases hk : k ≤ 0
  · have c2 : (decide (k ≤ 0) || its.toArray.isEmpty) = true := by rw [decide_eq_true hk]; rfl
    refine wpAny_binaryOp_repeat_ref (T := "tuple") (U := "int") (by decide) ⟨_, ho, rfl⟩ (fun s' => typeIs_int s' k t) noFill_tuple_mul F.fills_int_mul F.slot_int_rmul repeat_tuple F.slot_int_index.lookup
      (call_meets F.slot_int_rmul (typeIs_int s k t) F.entry_int_rmul (F.args_int_rmul_2 _ _) (int_rmul_tuple k t l its.toArray n dd sl)
        ⟨ho, rfl, ⟨_, ho, rfl⟩, call_meets F.slot_tuple_mul ⟨_, ho, rfl⟩ F.entry_tuple_mul (F.args_tuple_mul_2 _ _) (tuple_mul0 l its.toArray n dd sl k t c0 c1 c2) ⟨ho, ?_⟩⟩)
    have e0 : (List.replicate k.toNat xs).flatten = [] := by rw [show k.toNat = 0 by omega]; rfl
    rw [e0] at q
    refine ⟨.ref s.heap.objs.size, _, I.laid (t' := s.toks) (o := .tup []) (fun b ob q => Heap.get?_push_of_some _ q) (Nat.le_refl _) ?_, rfl, q _ (I.hok.fresh (Nat.le_refl _))⟩
    exact ⟨Nat.zero_le _, [], .nil, IsTup.new _ _⟩
  have hk2 : 2 ≤ k := by have := hne.2; omega
  have hm : ((its.toArray.size : Nat) : Int) * k ≤ 1000000 := by
    rw [hsz0]
    have a1 : ((xs.length : Nat) : Int) * k ≤ 1000 * k := Int.mul_le_mul_of_nonneg_right (by omega) (by omega)
    omega
  have flen : (List.replicate k.toNat its).flatten.length ≤ sizeLine := by
    rw [PyProof.Rows.lm_len_rep_flat, hle, sizeLine_eq]
    have a1 : k.toNat * xs.length ≤ 1000 * 1000 := Nat.mul_le_mul (by omega) hz
    omega
  have c2 : (decide (k ≤ 0) || its.toArray.isEmpty) = false := by
    rw [hi, Bool.or_false]
    exact decide_eq_false (by omega)
  have c4 : Builtin.Tuple.tupleTooMany (((its.toArray.size : Nat) : Int) * k) = false := by
    unfold Builtin.Tuple.tupleTooMany
    rw [sizeLine_eq]
    exact decide_eq_false (by omega)
  refine wpAny_binaryOp_repeat_ref (T := "tuple") (U := "int") (by decide) ⟨_, ho, rfl⟩ (fun s' => typeIs_int s' k t) noFill_tuple_mul F.fills_int_mul F.slot_int_rmul repeat_tuple F.slot_int_index.lookup
    (call_meets F.slot_int_rmul (typeIs_int s k t) F.entry_int_rmul (F.args_int_rmul_2 _ _) (int_rmul_tuple k t l its.toArray n dd sl)
      ⟨ho, rfl, ⟨_, ho, rfl⟩, call_meets F.slot_tuple_mul ⟨_, ho, rfl⟩ F.entry_tuple_mul (F.args_tuple_mul_2 _ _) (tuple_mulW l its.toArray n dd sl k t c0 c1 c2 (by omega) c4 (by rw [size_rep, List.size_toArray]; exact flen)) ⟨ho, ?_⟩⟩)
  rw [size_rep]
  refine ⟨.ref s.heap.objs.size, _, I.laid (t' := s.toks) (o := .tup (List.replicate k.toNat xs).flatten) (fun b ob q => Heap.get?_push_of_some _ q) (Nat.le_refl _) ?_, rfl, q _ (I.hok.fresh (Nat.le_refl _))⟩
  exact ⟨by rw [PyProof.Rows.lm_len_rep_flat, sizeLine_eq]; have a1 : k.toNat * xs.length ≤ 1000 * 1000 := Nat.mul_le_mul (by omega) hz; omega, _, r.rep k.toNat, IsTup.new _ _⟩
theorem k_repA {K : PySem.W.Frag} (h : X.K = K) : OpR X (binaryOp .Mult) (rRepA K) := by subst h; exact op_repA
end
def fRepA : F2 := fun x y Q => match x, y with
  | .tuple xs, .int k => (-1000 ≤ k ∧ k ≤ 1000 ∧ xs.length ≤ 1000) ∧ Q (.fz (.tuple (List.replicate k.toNat xs).flatten))
  | _, _ => False
theorem ol_repA {K : PySem.W.Frag} : OpL K (rRepA K) fRepA := by
  intro f g σ H ρ v u x y Q R hK hR h1 h2 hF k
  subst hK
  unfold fRepA at hF
  split at hF
  · rename_i ds n
    have h0 := h1
    obtain ⟨a, xs, rfl, e1, r1, z1⟩ := h1.tuple fz_sub
    obtain rfl := h2.int
    obtain ⟨⟨b0, b1, b3⟩, q⟩ := hF
    refine ⟨a, _, xs, rfl, rfl, e1, b0, b1, by rw [r1.length]; exact b3, OEnd.tup k hR (r1.rep _) q, fun e => ?_⟩
    have e2 : (List.replicate n.toNat ds).flatten = ds := by
      by_cases hx : xs = []
      · subst hx
        cases r1
        exact rep_one (.inl rfl)
      · have hl : n.toNat * xs.length = xs.length := by
          have := congrArg List.length e
          rw [PyProof.Rows.lm_len_rep_flat] at this
          exact this
        have h3 : 0 < xs.length := List.length_pos_iff.mpr hx
        have : n.toNat = 1 := Nat.eq_of_mul_eq_mul_right h3 (by omega)
        exact rep_one (.inr (by omega))
    rw [e2] at q
    exact OEnd.fz k hR (.tup z1 r1) q
  · exact hF.elim
end DL

set_option Elab.async false
set_option linter.all false
set_option maxRecDepth 100000
set_option maxHeartbeats 4000000
set_option autoImplicit false
namespace DL
open PySem L2
/-! ### a list against the empty list, whatever it holds -/
def rNeL (K : PySem.W.Frag) : R2 := fun x y H Q => ∃ a b xs, x = .ref a ∧ y = .ref b ∧ SqL K H a xs ∧ SqL K H b [] ∧ Q (.bl (!xs.isEmpty)) H
theorem op_neL {X : Cx} (hu : X.A.units + 64 < cLine) : OpR X (compareOp .NotEq) (rNeL X.K) := by
  intro pins s σ H x y v u Q I rx ry h
  obtain ⟨a, b, xs, rfl, rfl, h1, h2, q⟩ := h
  cases rx
  cases ry
  obtain ⟨its, rv, ⟨o1, n1, c1, c2, _, c4⟩, _⟩ := I.list h1
  obtain ⟨its2, rv2, ⟨o2, n2, d1, d2, _, d4⟩, _⟩ := I.list h2
  have t1 : s.heap.IsList a its.toArray := ⟨o1, c1, c2, n1, c4⟩
  have t2 : s.heap.IsList b its2.toArray := ⟨o2, d1, d2, n2, d4⟩
  have z2 : its2.length = 0 := by
    have := rv2.length
    simpa using this.symm
  have z1 : xs.length = its.length := by
    have := rv.length
    simpa using this
  cases xs with
  | nil =>
    have z1 : its.length = 0 := by simpa using z1.symm
    refine SeqAt.RcNeAt.lists (e := fun _ => true) t1 t2 (by show its.toArray.size = its2.toArray.size; rw [List.size_toArray, List.size_toArray]; omega) (by omega) (fun j _ h2 => absurd h2 (by rw [List.size_toArray]; omega)) _ _ _ _ ?_
    have e : (List.range its.toArray.size).all (fun _ => true) = true := by rw [List.size_toArray, z1]; rfl
    rw [e]
    exact ⟨.bl _, H, I, rfl, q⟩
  | cons x xs =>
    have z1 : its.length ≠ 0 := by simp at z1; omega
    refine SeqAt.RcNeAt.lists_lengths t1 t2 (by show (its.toArray.size != its2.toArray.size) = true; rw [List.size_toArray, List.size_toArray, z2]; simp [z1]) (by omega) _ _ _ _ ?_
    exact ⟨.bl _, H, I, rfl, q⟩
theorem k_neL {X : Cx} {K : PySem.W.Frag} (h : X.K = K) (hu : X.A.units + 64 < cLine) : OpR X (compareOp .NotEq) (rNeL K) := by subst h; exact op_neL hu
def fNeL : F2 := fun x y Q => ∃ xs, x = .list xs ∧ y = .list [] ∧ Q (.fz (.bool (!xs.isEmpty)))
theorem ol_neL {K : PySem.W.Frag} : OpL K (rNeL K) fNeL := by
  intro f g σ H ρ v u x y Q R hK hR h1 h2 hF k
  subst hK
  obtain ⟨xs, rfl, rfl, q⟩ := hF
  obtain ⟨a, vs, rfl, e1, r1⟩ := h1.list fz_sub
  obtain ⟨b, ws, rfl, e2, r2⟩ := h2.list fz_sub
  cases r2
  refine ⟨a, b, vs, rfl, rfl, .inl (.inl e1), .inl (.inl e2), OEnd.fz k hR (.bl _) ?_⟩
  have e : vs.isEmpty = xs.isEmpty := by
    have := r1.length
    cases vs <;> cases xs <;> simp_all
  simpa [e] using q
end DL

set_option Elab.async false
set_option linter.all false
set_option maxRecDepth 100000
set_option maxHeartbeats 4000000
set_option autoImplicit false
namespace DL
open PySem L2
/-! ### parts that may raise, within displays -/
def LAw (K : PySem.W.Frag) (mg : Str → Option Value) (t : WX → TA) (d : DW → DA) : Prop := ∀ (W : WX) (Y : DW) (f : Fr) (g : Gs) (σ : L2.St) (H : Hp) (ρ : Rho) (Q : List Rv → Rho → Prop) (R : List V → Hp → Prop), f.K = K → Rel f g σ H ρ → LkW mg f g H Y W → d Y ρ Q →
  (∀ (vs : List V) (H' : Hp) (g' : Gs) (ρ' : Rho) (rs : List Rv), Rel f g' σ H' ρ' → Gro g H g' H' → OpdA f g' σ H' vs rs → Q rs ρ' → R vs H') → t W σ H R
section
variable {K : PySem.W.Frag} {mg : Str → Option Value} {ta tb : WX → TE} {da db : DW → DE} {tr : WX → TA} {dr : DW → DA}
theorem law_of {tr : TA} {dr : DA} (h : LA K tr dr) : LAw K mg (fun _ => tr) (fun _ => dr) := fun W Y f g σ H ρ Q R hK hR _ hd k => h f g σ H ρ Q R hK hR hd k
theorem law_cons (h : LEw K mg ta da) (h' : LAw K mg tr dr) : LAw K mg (fun W => tCons (ta W) (tr W)) (fun Y => dCons (da Y) (dr Y)) := by
  intro W Y f g σ H ρ Q R hK hR l hd k
  refine h.opd hK hR l hd fun v H1 g1 ρ1 r1 R1 G1 O1 q1 => ?_
  exact h' W Y f g1 σ H1 ρ1 _ _ hK R1 (l.mono G1) q1 fun vs H2 g2 ρ2 rs R2 G2 O2 q2 => k _ H2 g2 ρ2 _ R2 (G1.trans G2) (.cons (O1.mono G2) O2) q2
theorem lew_lst (h : LAw K mg tr dr) : LEw K mg (fun W => tLst (tr W)) (fun Y => dLst (dr Y)) := by
  intro W Y f g σ H ρ Q R hK hR l hd k
  refine h W Y f g σ H ρ _ _ hK hR l hd fun vs H1 g1 ρ1 rs R1 G1 O1 q1 => ?_
  obtain ⟨ds, ρ2, e1, hl, q1⟩ := wFA_some q1
  obtain ⟨g2, R2, G2, q2⟩ := O1.frz R1 e1
  refine ⟨by rw [q2.length]; exact hl, fun p hp => ?_⟩
  obtain ⟨R3, G3, V3⟩ := R2.own (o := .lst vs) (d := .list ds) hp (.lst upd_same q2)
  exact k _ _ _ ρ2 _ R3 ((G1.trans G2).trans G3) V3 q1
theorem lew_tup (h : LAw K mg tr dr) : LEw K mg (fun W => tTup (tr W)) (fun Y => dTup (dr Y)) := by
  intro W Y f g σ H ρ Q R hK hR l hd k
  refine h W Y f g σ H ρ _ _ hK hR l hd fun vs H1 g1 ρ1 rs R1 G1 O1 q1 => ?_
  obtain ⟨ds, ρ2, e1, hl, q1⟩ := wFA_some q1
  obtain ⟨g2, R2, G2, q2⟩ := O1.frz R1 e1
  refine ⟨by rw [q2.length]; exact hl, fun p hp => ?_⟩
  obtain ⟨R3, G3, e3⟩ := R2.new (o := .tup vs) hp
  exact k _ _ g2 ρ2 (.fz (.tuple ds)) R3 ((G1.trans G2).trans G3) (Rp.tup e3 (q2.mono G3.fz)) q1
theorem lew_cb {r : List V → Hp → VK → Prop} {F : FA} (h : LAw K mg tr dr) (hc : CaL K r F) : LEw K mg (fun W => tCB r (tr W)) (fun Y => dCB F (dr Y)) := by
  intro W Y f g σ H ρ Q R hK hR l hd k
  refine h W Y f g σ H ρ _ _ hK hR l hd fun vs H1 g1 ρ1 rs R1 G1 O1 q1 => ?_
  obtain ⟨ds, e1, q1⟩ := wA_some q1
  subst hK
  exact hc f g1 σ H1 ρ1 vs ds _ R rfl R1 (O1.rn R1 e1) q1 fun z H2 g2 r R2 G2 V2 q2 => k z H2 g2 ρ1 r R2 (G1.trans G2) V2 q2
theorem lew_op {r : R2} {F : F2} (ha : LEw K mg ta da) (hb : LEw K mg tb db) (ho : OpL K r F) : LEw K mg (fun W => tOp r (ta W) (tb W)) (fun Y => dOp F (da Y) (db Y)) := by
  intro W Y f g σ H ρ Q R hK hR l hd k
  refine ha.opd hK hR l hd fun v H1 g1 ρ1 r1 R1 G1 O1 q1 => ?_
  refine hb.opd hK R1 (l.mono G1) q1 fun u H2 g2 ρ2 r2 R2 G2 O2 q2 => ?_
  obtain ⟨x, e1, q2⟩ := wD_some q2
  obtain ⟨y, e2, q2⟩ := wD_some q2
  subst hK
  exact ho f g2 σ H2 ρ2 v u x y _ R rfl R2 ((O1.mono G2).rn R2 e1) (O2.rn R2 e2) q2 fun z H3 g3 r R3 G3 V3 q3 => k z H3 g3 ρ2 r R3 ((G1.trans G2).trans G3) V3 q3
end
end DL

set_option Elab.async false
set_option linter.all false
set_option maxRecDepth 100000
set_option maxHeartbeats 4000000
set_option autoImplicit false
namespace DL
open PySem PySem.Spec PyProof.Rows L2
/-! ### sorted tuples of ints, any number of them -/
def lexZ : List Int → List Int → Bool
  | [], [] => false
  | [], _ :: _ => true
  | _ :: _, [] => false
  | x :: xs, y :: ys => if x = y then lexZ xs ys else decide (x < y)
theorem lexZ_asym : ∀ xs ys : List Int, lexZ xs ys = true → lexZ ys xs = false
  | [], [], h => by cases h
  | [], _ :: _, _ => rfl
  | _ :: _, [], h => by cases h
  | x :: xs, y :: ys, h => by
    unfold lexZ at h ⊢
    by_cases e : x = y
    · rw [if_pos e] at h
      rw [if_pos e.symm]
      exact lexZ_asym xs ys h
    · rw [if_neg e, decide_eq_true_eq] at h
      rw [if_neg (fun z => e z.symm), decide_eq_false_iff_not]
      omega
theorem lexZ_tr : ∀ xs ys zs : List Int, lexZ ys xs = false → lexZ zs ys = false → lexZ zs xs = false
  | [], ys, [], _, _ => rfl
  | [], [], _ :: _, _, _ => rfl
  | [], _ :: _, _ :: _, _, _ => rfl
  | _ :: _, [], [], h, _ => by cases h
  | _ :: _, _ :: _, [], _, h => by cases h
  | _ :: _, [], _ :: _, h, _ => by cases h
  | x :: xs, y :: ys, z :: zs, h1, h2 => by
    unfold lexZ at h1 h2 ⊢
    by_cases e1 : y = x
    · rw [if_pos e1] at h1
      by_cases e2 : z = y
      · rw [if_pos e2] at h2
        rw [if_pos (e2.trans e1)]
        exact lexZ_tr xs ys zs h1 h2
      · rw [if_neg e2, decide_eq_false_iff_not] at h2
        rw [if_neg (fun q => e2 (q.trans e1.symm)), decide_eq_false_iff_not]
        omega
    · rw [if_neg e1, decide_eq_false_iff_not] at h1
      by_cases e2 : z = y
      · rw [if_neg (fun q => e1 (e2.symm.trans q)), decide_eq_false_iff_not]
        omega
      · rw [if_neg e2, decide_eq_false_iff_not] at h2
        rw [if_neg (by omega), decide_eq_false_iff_not]
        omega
theorem lexZ_eq : ∀ xs ys : List Int, lexZ xs ys = false → lexZ ys xs = false → xs = ys
  | [], [], _, _ => rfl
  | [], _ :: _, h, _ => by cases h
  | _ :: _, [], _, h => by cases h
  | x :: xs, y :: ys, h1, h2 => by
    unfold lexZ at h1 h2
    by_cases e : x = y
    · rw [if_pos e] at h1
      rw [if_pos e.symm] at h2
      rw [e, lexZ_eq xs ys h1 h2]
    · rw [if_neg e, decide_eq_false_iff_not] at h1
      rw [if_neg (fun z => e z.symm), decide_eq_false_iff_not] at h2
      omega
theorem swo_lexZ {α : Type} (k : α → List Int) : SrtO.Swo fun v u => lexZ (k v) (k u) := ⟨fun x y => lexZ_asym _ _, fun x y z => lexZ_tr _ _ _⟩
def IsTI (h : Heap) (v : Value) (ns : List Int) : Prop := ∃ a o n its, v = .ref a ∧ h.get? a = some o ∧ o.cls = .type "tuple" ∧ o.data = .seq its n ∧ IntsAre its.toList ns
theorem IsTI.keeps {h h' : Heap} {v : Value} {ns : List Int} (p : IsTI h v ns) (k : ∀ b o, h.get? b = some o → o.cls = .type "tuple" → h'.get? b = some o) : IsTI h' v ns := by
  obtain ⟨a, o, n, its, e, ho, hc, hd, hi⟩ := p
  exact ⟨a, o, n, its, e, k _ _ ho hc, hc, hd, hi⟩
theorem ints_len : ∀ {vs : List Value} {ns : List Int}, IntsAre vs ns → vs.length = ns.length
  | _, _, .nil => rfl
  | _, _, .cons n t r => congrArg (· + 1) (ints_len r)
section
variable {prog : Program} {w : World} {A : Around} {E : Value → Shared → Prop} {s : Shared}
theorem ti_walk {fin r0 : Bool} : ∀ {us ws : List Value} {xs ys : List Int} (i : Nat), IntsAre us xs → IntsAre ws ys → fin = decide (xs.length < ys.length) → lexZ xs ys = r0 → PySem.W.KatLex prog w A true fin (fun r s' => s' = s ∧ r = r0) (us.zip ws) i s
  | _, _, _, _, i, .nil, .nil, hf, hr => PySem.W.kat_nil ⟨rfl, by rw [hf, ← hr]; rfl⟩
  | _, _, _, _, i, .nil, .cons n t r, hf, hr => PySem.W.kat_nil ⟨rfl, by rw [hf, ← hr]; exact decide_eq_true (Nat.succ_pos _)⟩
  | _, _, _, _, i, .cons n t r, .nil, hf, hr => PySem.W.kat_nil ⟨rfl, by rw [hf, ← hr]; exact decide_eq_false (Nat.not_lt_zero _)⟩
  | _, _, _, _, i, .cons (ns := xs) x t r, .cons (ns := ys) y u q, hf, hr => by
    refine PySem.W.kat_cons (SeqAt.EqAt.int_int x t y u prog w _ _ ?_)
    unfold lexZ at hr
    refine PySem.W.kat_go (fun e1 => ?_) (fun e1 => ?_)
    · have ex : x = y := by simpa using e1
      rw [if_pos ex] at hr
      exact PySem.W.kat_yes (ti_walk (i + 1) r q (by rw [hf]; simp) hr)
    · have ex : ¬ x = y := by simpa using e1
      rw [if_neg ex] at hr
      cases i with
      | zero => exact PySem.W.kat_no (oneLt_int ⟨rfl, hr⟩)
      | succ i => exact PySem.W.kat_no (PySem.W.kat_one _ _ (PyProof.Rows.lt_int (show s = s ∧ decide (x < y) = r0 from ⟨rfl, hr⟩)))
theorem ti_cmp {vs : List Value} {k : Value → List Int} (hp : ∀ v ∈ vs, IsTI s.heap v (k v)) : SrtO.Cmp prog w A s (tuples' true) (fun p => p.1 ∈ vs) (SrtO.lt2 fun v u => lexZ (k v) (k u)) := by
  intro p q hm hm'
  obtain ⟨a, o, n, its, e, ho, hc, hd, hi⟩ := hp _ hm
  obtain ⟨a', o', n', its', e', ho', hc', hd', hi'⟩ := hp _ hm'
  show wpAny (model prog w) A (keyLt' (tuples' true) p.1 q.1) (fun r s' => s' = s ∧ r = lexZ (k p.1) (k q.1)) (fun _ _ => False) s
  generalize k p.1 = xs at hi ⊢
  generalize k q.1 = ys at hi' ⊢
  rw [e, e']
  refine PySem.W.kat_lt ho hd ho' hd' (ti_walk 0 hi hi' ?_ rfl)
  have l1 := ints_len hi
  have l2 := ints_len hi'
  rw [Array.length_toList] at l1 l2
  rw [l1, l2]
theorem ti_firsts {h : Heap} : ∀ {vs : List Value}, (∀ v ∈ vs, ∃ ns, IsTI h v ns ∧ ns ≠ []) → ∃ fs : List Value, PySem.W.KatTups h vs fs ∧ fs.length = vs.length ∧ ∀ f ∈ fs, ∃ x t, f = Value.int x t
  | [], _ => ⟨[], PySem.W.KatTups.nil, rfl, fun _ hm => by simp at hm⟩
  | v :: vs, hp => by
    obtain ⟨fs, h1, h2, h3⟩ := ti_firsts (vs := vs) fun v' hm => hp v' (List.mem_cons_of_mem _ hm)
    obtain ⟨ns, ⟨a, o, n, its, e, ho, hc, hd, hi⟩, hne⟩ := hp v List.mem_cons_self
    subst e
    obtain ⟨x, t, rest, ei⟩ : ∃ x t rest, its.toList = Value.int x t :: rest := by
      generalize its.toList = l at hi
      cases hi with
      | nil => exact absurd rfl hne
      | cons n t r => exact ⟨n, t, _, rfl⟩
    have e0 : its[0]? = some (.int x t) := by
      rw [← Array.getElem?_toList, ei]; rfl
    refine ⟨.int x t :: fs, PySem.W.KatTups.cons ho hc hd e0 h1, by rw [List.length_cons, List.length_cons, h2], fun f hm => ?_⟩
    rcases List.mem_cons.mp hm with rfl | hm
    · exact ⟨x, t, rfl⟩
    · exact h3 f hm
theorem ti_sortable {a : Addr} {vs : List Value} {k : Value → List Int} (h0 : 0 < vs.length) (hp : ∀ v ∈ vs, IsTI s.heap v (k v) ∧ k v ≠ []) (ha : ∀ o, s.heap.get? a = some o → o.cls ≠ .type "tuple") : SrtO.SortableO prog w A s a vs fun v u => lexZ (k v) (k u) := by
  intro h' keep
  have hp' : ∀ v ∈ vs, IsTI h' v (k v) := fun v hm => (hp v hm).1.keeps fun b o e c => keep b o (fun z => by subst z; exact ha o e c) e
  obtain ⟨fs, h1, h2, h3⟩ := ti_firsts fun v hm => ⟨_, hp' v hm, (hp v hm).2⟩
  refine ⟨tuples' true, fun Q E hq => ?_, ti_cmp hp'⟩
  refine PySem.W.kat_kind (T := .type "int") h1 (by omega) (fun f hm => ?_) (by rfl) ?_
  · obtain ⟨x, t, rfl⟩ := h3 f hm
    exact PySem.W.Looks.now
  · have e : (Value.type "int" != Value.type "tuple") = true := by first | decide +kernel | rfl | decide
    rw [e]
    exact hq
theorem sorted_ti {l : Addr} {vs : List Value} {k : Value → List Int} {Q : Value → Shared → Prop} (hl : s.heap.IsList l vs.toArray) (hz : vs.length ≤ sizeLine) (hp : ∀ v ∈ vs, IsTI s.heap v (k v) ∧ k v ≠ [])
    (h : ∀ (h' : Heap) (d : Addr) (out : List Value), SrtO.Srtd (fun v u => lexZ (k v) (k u)) out → SrtO.Stb (fun v u => lexZ (k v) (k u)) out vs → (∀ b o, s.heap.get? b = some o → h'.get? b = some o) → s.heap.objs.size ≤ d → (∃ n, h'.get? d = some (seqObj "list" out.toArray n)) → Q (.ref d) { s with heap := h' }) :
    wpAny (model prog w) A (call (.builtin "sorted") [.ref l]) Q E s := by
  refine SrtO.sorted_ord (swo_lexZ k) hl hz (fun h2 h₁ a ha kk => ?_) fun out hs hb => ?_
  · refine ti_sortable (s := { s with heap := h₁ }) (by omega) (fun v hm => ⟨(hp v hm).1.keeps fun b o e _ => (kk b o e).2, (hp v hm).2⟩) fun o e => ?_
    have e' : some o = some (seqObj "list" vs.toArray 0) := e.symm.trans ha
    cases e'
    intro c
    exact absurd (Value.type.inj c) (by decide)
  · exact h _ _ out hs hb (fun b o e => sortedAll_old e) (Nat.le_succ _) (sortedAll_at s.heap vs out.toArray)
end
abbrev ltT (k : V → List Int) (x y : V) : Bool := lexZ (k x) (k y)
def rSortedT (K : PySem.W.Frag) : List V → Hp → VK → Prop := fun vs H Q => ∃ (a : Addr) (xs : List V) (k : V → List Int), vs = [V.ref a] ∧ SqL K H a xs ∧ (∀ x ∈ xs, k x ≠ [] ∧ ∃ t, x = V.ref t ∧ H t = some (.tup ((k x).map V.int))) ∧
  ∀ ys p, SrtO.Srtd (ltT k) ys → ys.Perm xs → H p = none → Q (.ref p) (upd H p (.lst ys))
theorem vals_ints_are : ∀ {ns : List Int} {us : List Value}, Vals (ns.map V.int) us → IntsAre us ns
  | [], _, h => by cases h; exact .nil
  | n :: ns, _, h => by
    cases h with
    | cons r rr =>
      obtain ⟨t, rfl⟩ := r
      exact .cons n t (vals_ints_are rr)
section
variable {X : Cx}
theorem cr_sortedT : CallR X (.builtin "sorted") (rSortedT X.K) := by
  intro pins s σ H vs us Q I r h
  obtain ⟨a, xs, k, rfl, hs, hx, q⟩ := h
  obtain ⟨its, rv, hl, hz⟩ := I.list hs
  obtain ⟨u, rfl, ru⟩ := vals1 r
  obtain rfl : u = Value.ref a := ru
  obtain ⟨e1, e2⟩ := refs_back rv fun x m => by
    obtain ⟨_, t, e, _⟩ := hx x m
    exact ⟨t, e⟩
  refine sorted_ti (k := fun u => k (backV u)) hl.isList (by rw [← rv.length]; exact hz) (fun v hv => ?_) fun h' d out h1 h2 kp hd hn => ?_
  · obtain ⟨t, rfl⟩ := e2 v hv
    have hm : V.ref t ∈ xs := by rw [e1]; exact List.mem_map.mpr ⟨_, hv, rfl⟩
    obtain ⟨hne, t', e, ht⟩ := hx _ hm
    cases e
    obtain ⟨_, its2, r2, o, ho, hc, n, hd⟩ := I.hok _ _ ht
    exact ⟨⟨t, o, n, its2.toArray, rfl, ho, hc, hd, by rw [List.toList_toArray]; exact vals_ints_are r2⟩, hne⟩
  · have h3 : ∀ u ∈ out, ∃ a, u = Value.ref a := fun u hu => e2 u (h2.perm.mem_iff.mp hu)
    obtain ⟨n, hn⟩ := hn
    have hb : (out.map backV).Perm xs := by
      rw [e1]
      exact h2.perm.map backV
    refine ⟨.ref d, upd H d (.lst (out.map backV)), I.laid (t' := s.toks) kp hd ⟨?_, out, n, vals_back h3, hn⟩, rfl, q _ d (SrtO.srtd_map h1) hb (I.hok.fresh hd)⟩
    rw [hb.length_eq]
    exact hz
theorem k_sortedT {K : PySem.W.Frag} (h : X.K = K) : CallR X (.builtin "sorted") (rSortedT K) := by subst h; exact cr_sortedT
end
def tupI (ns : List Int) : D := .tuple (ns.map PyData.int)
def fSortedT : F1 := fun x Q => ∃ rows : List (List Int), x = .list (rows.map tupI) ∧ (∀ r ∈ rows, r ≠ []) ∧ ∀ rows' : List (List Int), rows'.Perm rows → rows'.Pairwise (fun a b => lexZ b a = false) → Q (.nw (.list (rows'.map tupI)))
def kOf (H : Hp) (x : V) : List Int := match x with
  | .ref t => match H t with
    | some (.tup vs) => vs.map fun v => match v with | .int i => i | _ => 0
    | _ => []
  | _ => []
theorem kOf_ints {H : Hp} {t : Addr} {ns : List Int} (h : H t = some (.tup (ns.map V.int))) : kOf H (.ref t) = ns := by
  unfold kOf
  dsimp only
  rw [h]
  dsimp only
  rw [List.map_map]
  exact (List.map_congr_left fun _ _ => rfl).trans (List.map_id _)
theorem rp_rows {K : PySem.W.Frag} {F H : Hp} (e : Same F H) : ∀ {rows : List (List Int)} {xs : List V}, RpA K F xs (rows.map tupI) → rows = xs.map (kOf H) ∧ ∀ x ∈ xs, Rp K F x (tupI (kOf H x)) ∧ ∃ t, x = V.ref t ∧ H t = some (.tup ((kOf H x).map V.int))
  | [], _, h => by cases h; exact ⟨rfl, fun _ h => nomatch h⟩
  | r :: rows, _, h => by
    cases h with
    | @cons v _ vs _ h hh =>
      obtain ⟨i1, i2⟩ := rp_rows e hh
      have h0 := h
      unfold tupI at h
      cases h with
      | tup hx hr =>
        have hi := hr.ints
        subst hi
        have hk := kOf_ints (e _ _ hx)
        refine ⟨by rw [List.map_cons, hk, ← i1], fun x m => ?_⟩
        rcases List.mem_cons.mp m with rfl | m
        · rw [hk]
          exact ⟨h0, _, rfl, e _ _ hx⟩
        · exact i2 x m
theorem rp_all {K : PySem.W.Frag} {F : Hp} {f : V → D} : ∀ {xs : List V}, (∀ x ∈ xs, Rp K F x (f x)) → RpA K F xs (xs.map f)
  | [], _ => .nil
  | x :: xs, h => .cons (h x List.mem_cons_self) (rp_all fun y hy => h y (List.mem_cons_of_mem _ hy))
theorem cl_sortedT {K : PySem.W.Frag} : CaL K (rSortedT K) (fA1 fSortedT) := by
  intro f g σ H ρ vs ds Q R hK hR hA hF0 k
  subst hK
  obtain ⟨d, rfl, rows, rfl, hne, hF⟩ := fA1_some hF0
  obtain ⟨v, rfl, h⟩ := hA.one
  obtain ⟨a, xs, rfl, e1, r1⟩ := h.list fz_sub
  obtain ⟨er, hx⟩ := rp_rows (H := H) fz_sub r1
  refine ⟨a, xs, kOf H, rfl, .inl (.inl e1), fun x m => ⟨hne _ (by rw [er]; exact List.mem_map.mpr ⟨x, m, rfl⟩), (hx x m).2⟩, fun ys p hs hp hn => ?_⟩
  have ry : RpA f.K (Fz H g.M) ys (ys.map fun x => tupI (kOf H x)) := rp_all fun x m => (hx x (hp.mem_iff.mp m)).1
  have q := hF (ys.map (kOf H)) (by rw [er]; exact hp.map _) (List.pairwise_map.mpr hs)
  rw [List.map_map] at q
  exact OEnd.lst k hR ry q p hn
end DL

set_option Elab.async false
set_option linter.all false
set_option maxRecDepth 100000
set_option maxHeartbeats 4000000
set_option autoImplicit false
namespace DL
open PySem L2
/-! ### three new lists told in a list, shown, then changed one after another -/
def dTold3 (i j : Nat) (da db dc de dt : DE) : DS := fun DD ρ => da ρ fun r1 ρ1 => nwL r1 fun d1 => db ρ1 fun r2 ρ2 => nwL r2 fun d2 => dc ρ2 fun r3 ρ3 => nwL r3 fun d3 =>
  i < ρ3.length ∧ j < ρ3.length ∧ reprOkS (.list [.list d1, .list d2, .list d3]) ∧ de (ρ3.set i none) fun r ρ4 => wD (res ρ4 r) fun y =>
    eqOk2 (.str (PyData.shown (.list [.list d1, .list d2, .list d3]))) y = true ∧ useB (true != PyData.eqv (.str (PyData.shown (.list [.list d1, .list d2, .list d3]))) y) (dt ρ4 DD.rt) (j < ρ4.length ∧ d1.length < sizeLine ∧ d2.length < sizeLine ∧ d3.length < sizeLine ∧ DD.nx (ρ4.set j none))
theorem ls_told3 {K : PySem.W.Frag} {i j : Nat} {ta tb tc te t : TE} {da db dc de dt : DE} (hij : i ≠ j) (h1 : LE K ta da) (h2 : LE K tb db) (h3 : LE K tc dc) (h4 : LE K te de) (h5 : LE K t dt) :
    LS K (tSeq (tAsg (tLst (tCons ta (tCons tb (tCons tc tNil)))) (gName i)) (tSeq (tIfS (tTest (tOp (fun x y H Q => rNe x y H Q ∨ rNeD K x y H Q) (tCB (rReprS K) (tCons (tVar i) tNil)) te)) (tRet t) tNext)
      (tFor (iAny K (tVar i)) (gName j) (tDrop (tBM K "list" rAppend (tVar j) (tCons (tC .non) tNil)))))) (dTold3 i j da db dc de dt) := by
  intro f g σ H ρ DD E hK hR hd l
  subst hK
  refine h1 f g σ H ρ _ _ rfl hR hd fun v1 H1 g1 ρ1 r1 R1 G1 V1 q1 => ?_
  obtain ⟨d1, rfl, q1⟩ := q1
  obtain ⟨a1, rfl, m1, z1, n1, t1, nt1, u1⟩ := V1
  have P1 := R1.push m1 n1 u1
  refine h2 f _ σ H1 ρ1 _ _ rfl P1 q1 fun v2 H2 g2 ρ2 r2 R2 G2 V2 q2 => ?_
  obtain ⟨d2, rfl, q2⟩ := q2
  obtain ⟨a2, rfl, m2, z2, n2, t2, nt2, u2⟩ := V2
  have P2 := R2.push m2 n2 u2
  refine h3 f _ σ H2 ρ2 _ _ rfl P2 q2 fun v3 H3 g3 ρ3 r3 R3 G3 V3 q3 => ?_
  obtain ⟨d3, rfl, q3⟩ := q3
  obtain ⟨a3, rfl, m3, z3, n3, t3, nt3, u3⟩ := V3
  have P3 := R3.push m3 n3 u3
  obtain ⟨hi, hj, hr, q3⟩ := q3
  refine ⟨by show 3 ≤ sizeLine; exact Nat.le_of_ble_eq_true rfl, fun p hp => ?_⟩
  obtain ⟨R4, G4, e4⟩ := P3.new (o := .lst [.ref a1, .ref a2, .ref a3]) hp
  have R5 := R4.hide (i := i) (v := .ref p)
  have hi' : i < σ.length := by rw [← R3.len]; exact hi
  have hj' : j < σ.length := by rw [← R3.len]; exact hj
  have hσ : (σ.set i (some (.ref p)))[i]? = some (some (.ref p)) := List.getElem?_set_self hi'
  have hT1 : g2.T = a1 :: g1.T := G2.tm
  have hT2 : g3.T = a2 :: g2.T := G3.tm
  have w1 : upd H3 p (.lst [.ref a1, .ref a2, .ref a3]) a1 = H1 a1 := by
    rw [← G2.th a1 List.mem_cons_self, ← G3.th a1 (List.mem_cons_of_mem _ (by rw [hT1]; exact List.mem_cons_self))]
    exact G4.th a1 (List.mem_cons_of_mem _ (by rw [hT2, hT1]; exact List.mem_cons_of_mem _ List.mem_cons_self))
  have w2 : upd H3 p (.lst [.ref a1, .ref a2, .ref a3]) a2 = H2 a2 := by
    rw [← G3.th a2 List.mem_cons_self]
    exact G4.th a2 (List.mem_cons_of_mem _ (by rw [hT2]; exact List.mem_cons_self))
  have w3 : upd H3 p (.lst [.ref a1, .ref a2, .ref a3]) a3 = H3 a3 := G4.th a3 List.mem_cons_self
  have f12 : Same (Fz H1 g1.M) (Fz H2 g2.M) := G2.fz
  have f23 : Same (Fz H2 g2.M) (Fz H3 g3.M) := G3.fz
  have f34 : Same (Fz H3 g3.M) (Fz (upd H3 p (.lst [.ref a1, .ref a2, .ref a3])) g3.M) := G4.fz
  have rp : Rp f.K (upd H3 p (.lst [.ref a1, .ref a2, .ref a3])) (.ref p) (.list [.list d1, .list d2, .list d3]) := by
    refine .lst (xs := [.ref a1, .ref a2, .ref a3]) upd_same (.cons ?_ (.cons ?_ (.cons ?_ .nil)))
    · exact t1.rp (((f12.trans f23).trans f34).trans fz_sub) fun o e => w1.trans e
    · exact t2.rp ((f23.trans f34).trans fz_sub) fun o e => w2.trans e
    · exact t3.rp (f34.trans fz_sub) fun o e => w3.trans e
  obtain ⟨s1, s2, s3, s4⟩ := hr
  refine ⟨.ref p, hσ, .ref p, .list [.list d1, .list d2, .list d3], rfl, ⟨_, Same.refl _, .inl rp⟩, s1, s2, s3, s4, ?_⟩
  refine h4.opd rfl R5 q3 fun v6 H6 g6 ρ6 r6 R6 G6 O6 q6 => ?_
  obtain ⟨y, e6, hq, q6⟩ := wD_some q6
  have G36 := G4.trans G6
  refine ol_ne f g6 _ H6 ρ6 _ v6 _ y (fun r => r = .fz (.bool (true != PyData.eqv (.str (PyData.shown (.list [.list d1, .list d2, .list d3]))) y))) _ rfl R6 (.inl (.str _)) (O6.rn R6 e6) ⟨hq, rfl⟩ ?_
  rintro z H7 g7 _ R7 G7 V7 rfl
  obtain rfl := RN.bool (K := f.K) (F := Fz H7 g7.M) (H := H7) (.inl V7)
  refine ⟨_, rfl, ?_⟩
  have G37 := G36.trans G7
  obtain ⟨R8, G8⟩ := R7.pop2 G37
  obtain ⟨R9, G9⟩ := R8.pop2 (g := g2) (a := a2) (G3.trans G8)
  obtain ⟨RX, GX⟩ := R9.pop2 (g := g1) (a := a1) (G2.trans G9)
  have l9 := l.mono (G1.trans GX)
  cases hb : (true != PyData.eqv (.str (PyData.shown (.list [.list d1, .list d2, .list d3]))) y) with
  | true =>
    rw [hb] at q6
    exact h5 f _ _ H7 ρ6 _ _ rfl RX (useB_t q6) fun v8 H8 g8 ρ8 r8 R8 G8 V8 q8 => l9.rt g8 _ H8 ρ8 v8 r8 R8 G8 V8 q8
  | false =>
    rw [hb] at q6
    obtain ⟨hj6, hl1, hl2, hl3, q6⟩ := useB_f q6
    have hp7 : H7 p = some (.lst [.ref a1, .ref a2, .ref a3]) := (of_fz ((G6.trans G7).fz _ _ e4)).1
    obtain ⟨xs1, b1, c1⟩ := t1.lstOf
    obtain ⟨xs2, b2, c2⟩ := t2.lstOf
    obtain ⟨xs3, b3, c3⟩ := t3.lstOf
    have hT3 : g7.T = a3 :: g3.T := G37.tm
    have k1 : H7 a1 = some (.lst xs1) := (((G37.th a1 (List.mem_cons_of_mem _ (by rw [hT2, hT1]; exact List.mem_cons_of_mem _ List.mem_cons_self))).trans (G3.th a1 (List.mem_cons_of_mem _ (by rw [hT1]; exact List.mem_cons_self)))).trans (G2.th a1 List.mem_cons_self)).trans b1
    have k2 : H7 a2 = some (.lst xs2) := ((G37.th a2 (List.mem_cons_of_mem _ (by rw [hT2]; exact List.mem_cons_self))).trans (G3.th a2 List.mem_cons_self)).trans b2
    have k3 : H7 a3 = some (.lst xs3) := (G37.th a3 List.mem_cons_self).trans b3
    have ne12 : a2 ≠ a1 := fun e => nt2 (by rw [hT1, e]; exact List.mem_cons_self)
    have ne13 : a3 ≠ a1 := fun e => nt3 (by rw [hT2, hT1, e]; exact List.mem_cons_of_mem _ List.mem_cons_self)
    have ne23 : a3 ≠ a2 := fun e => nt3 (by rw [hT2, e]; exact List.mem_cons_self)
    have tm1 := R7.tmp a1 (by rw [hT3, hT2, hT1]; exact List.mem_cons_of_mem _ (List.mem_cons_of_mem _ List.mem_cons_self))
    have tm2 := R7.tmp a2 (by rw [hT3, hT2]; exact List.mem_cons_of_mem _ List.mem_cons_self)
    have tm3 := R7.tmp a3 (by rw [hT3]; exact List.mem_cons_self)
    obtain ⟨RA, GA⟩ := RX.mutFree (a := a1) (o := .lst (xs1 ++ [.non])) tm1.1 z1 tm1.2.1 nt1 tm1.2.2 trivial
    obtain ⟨RB, GB⟩ := RA.mutFree (a := a2) (o := .lst (xs2 ++ [.non])) tm2.1 z2 tm2.2.1 (fun z => nt2 (by rw [hT1]; exact List.mem_cons_of_mem _ z)) tm2.2.2 trivial
    obtain ⟨RC, GC⟩ := RB.mutFree (a := a3) (o := .lst (xs3 ++ [.non])) tm3.1 z3 tm3.2.1 (fun z => nt3 (by rw [hT2, hT1]; exact List.mem_cons_of_mem _ (List.mem_cons_of_mem _ z))) tm3.2.2 trivial
    have npM : ∀ a, g3.M a → p ≠ a := fun a m e => by
      have := (of_fz e4).2
      rw [e] at this
      exact this m
    have npa1 : p ≠ a1 := npM a1 (R4.tmp a1 (by show a1 ∈ a3 :: g3.T; rw [hT2, hT1]; exact List.mem_cons_of_mem _ (List.mem_cons_of_mem _ List.mem_cons_self))).1
    have npa2 : p ≠ a2 := npM a2 (R4.tmp a2 (by show a2 ∈ a3 :: g3.T; rw [hT2]; exact List.mem_cons_of_mem _ List.mem_cons_self)).1
    have npa3 : p ≠ a3 := npM a3 (R4.tmp a3 List.mem_cons_self).1
    obtain ⟨σ0, hσ0⟩ : ∃ τ, σ.set i (some (.ref p)) = τ := ⟨_, rfl⟩
    have lσ0 : j < σ0.length := by rw [← hσ0, List.length_set]; exact hj'
    rw [hσ0] at hσ RC ⊢
    have k2' : upd H7 a1 (.lst (xs1 ++ [.non])) a2 = some (.lst xs2) := by rw [upd_ne ne12]; exact k2
    have k3' : upd (upd H7 a1 (.lst (xs1 ++ [.non]))) a2 (.lst (xs2 ++ [.non])) a3 = some (.lst xs3) := by rw [upd_ne ne23, upd_ne ne13]; exact k3
    refine ⟨.ref p, hσ, .inl ⟨p, rfl, ⟨_, .inl (.inl hp7)⟩, ?_⟩⟩
    refine for_it (walk_list (xs := [.ref a1, .ref a2, .ref a3])) (fun n σ' H' => (n = 0 ∧ σ' = σ0 ∧ H' = H7) ∨ (n = 1 ∧ σ' = σ0.set j (some (.ref a1)) ∧ H' = upd H7 a1 (.lst (xs1 ++ [.non]))) ∨
      (n = 2 ∧ σ' = σ0.set j (some (.ref a2)) ∧ H' = upd (upd H7 a1 (.lst (xs1 ++ [.non]))) a2 (.lst (xs2 ++ [.non]))) ∨ (n = 3 ∧ σ' = σ0.set j (some (.ref a3)) ∧ H' = upd (upd (upd H7 a1 (.lst (xs1 ++ [.non]))) a2 (.lst (xs2 ++ [.non]))) a3 (.lst (xs3 ++ [.non]))))
      (.inl ⟨rfl, rfl, rfl⟩) (fun n σ' H' _ h => ?_) ?_ ?_
    · rcases h with ⟨_, _, rfl⟩ | ⟨_, _, rfl⟩ | ⟨_, _, rfl⟩ | ⟨_, _, rfl⟩
      · exact .inl (.inl hp7)
      · exact .inl (.inl (by rw [upd_ne npa1]; exact hp7))
      · exact .inl (.inl (by rw [upd_ne npa2, upd_ne npa1]; exact hp7))
      · exact .inl (.inl (by rw [upd_ne npa3, upd_ne npa2, upd_ne npa1]; exact hp7))
    · rintro n x σ' H' H'' hlt h y
      obtain ⟨rfl, ex⟩ := y
      rcases h with ⟨rfl, rfl, rfl⟩ | ⟨rfl, rfl, rfl⟩ | ⟨rfl, rfl, rfl⟩ | ⟨rfl, _, _⟩
      · obtain rfl : x = .ref a1 := (Option.some.inj ex).symm
        exact ⟨.ref a1, List.getElem?_set_self lσ0, .inl ⟨rfl, _, .inl (.inl k1)⟩, a1, xs1, .non, rfl, rfl, k1, by rw [c1.length]; exact hl1, .inr (.inl ⟨rfl, rfl, rfl⟩)⟩
      · obtain rfl : x = .ref a2 := (Option.some.inj ex).symm
        exact ⟨.ref a2, List.getElem?_set_self (by rw [List.length_set]; exact lσ0), .inl ⟨rfl, _, .inl (.inl k2')⟩, a2, xs2, .non, rfl, rfl, k2', by rw [c2.length]; exact hl2, .inr (.inr (.inl ⟨rfl, List.set_set .., rfl⟩))⟩
      · obtain rfl : x = .ref a3 := (Option.some.inj ex).symm
        exact ⟨.ref a3, List.getElem?_set_self (by rw [List.length_set]; exact lσ0), .inl ⟨rfl, _, .inl (.inl k3')⟩, a3, xs3, .non, rfl, rfl, k3', by rw [c3.length]; exact hl3, .inr (.inr (.inr ⟨rfl, List.set_set .., rfl⟩))⟩
      · exact absurd hlt (Nat.lt_irrefl _)
    · rintro σ' H' h
      rcases h with ⟨h, _⟩ | ⟨h, _⟩ | ⟨h, _⟩ | ⟨_, rfl, rfl⟩
      · cases h
      · cases h
      · cases h
      · exact l9.nx _ _ _ _ (RC.hide (i := j) (v := .ref a3)) ((GA.trans GB).trans GC) q6
end DL

set_option Elab.async false
set_option linter.all false
set_option maxRecDepth 100000
set_option maxHeartbeats 4000000
set_option autoImplicit false
namespace DL
open PySem L2
/-! ### a dict comprehension, keys ints or texts -/
def dDcGo (dg : DG) (dt : DT) (dk de : DE) (vs : List Nat) (Q : Rv → Rho → Prop) : List D → List (D × D) → Rho → Prop
  | [], acc, ρ => Q (.nw (.dict acc)) ρ
  | x :: xs, acc, ρ => dg (.fz x) (wipeR ρ vs) fun ρ1 => dt ρ1 fun b ρ2 => useB b (dk ρ2 fun q ρ3 => wK (res ρ3 q) fun k => de ρ3 fun r ρ4 => wF (frz ρ4 r) fun d ρ5 => acc.length < sizeLine ∧ dDcGo dg dt dk de vs Q xs (putE acc k d) (bckR ρ ρ5 vs)) (dDcGo dg dt dk de vs Q xs acc (bckR ρ ρ2 vs))
def dDc (dI : DI) (dg : DG) (dt : DT) (dk de : DE) (vs : List Nat) : DE := fun ρ Q => dI ρ fun ds ρ1 => dDcGo dg dt dk de vs Q ds [] ρ1
section
variable {K : PySem.W.Frag} {wi : TI} {tg : TG} {tk te : TE} {tt : TT} {dI : DI} {dg : DG} {dk de : DE} {dt : DT} {vs : List Nat}
theorem le_dc (hi : LI K wi dI) (hg : LG K tg dg) (hw : LGw tg vs) (ht : LT K tt dt) (hk : LE K tk dk) (he : LE K te de) : LE K (tDc wi tg tt tk te vs) (dDc dI dg dt dk de vs) := by
  intro f g σ H ρ Q R hK hR hd k
  refine hi f g σ H ρ _ _ hK hR hd fun J H1 g1 ρ1 G Y ds R1 G1 w io q => ?_
  intro D0 hD
  have h0 : f.H0 D0 = none := R1.dom D0 hD
  obtain ⟨R2, G2, V2⟩ := R1.own (o := .dK []) (d := .dict []) hD (.dic upd_same .nil)
  obtain ⟨a, ea, m2, _, ns2, _, t2, u2⟩ := V2
  cases ea
  refine it_loop w (H4 := upd H1 D0 (.dK [])) (fun i H' => ∃ g' ρ' kvs acc, Rel f (g'.push D0) σ H' ρ' ∧ Gro g1 H1 g' H' ∧ H' D0 = some (.dK kvs) ∧ RpK f.K (Fz H' g'.M) kvs acc ∧ dDcGo dg dt dk de vs Q (ds.drop i) acc ρ')
    ⟨g1.add D0, ρ1, [], [], ⟨R2.keep, R2.dom, R2.m0, R2.m00, R2.mU, R2.src, R2.len, R2.slot, R2.uq, fun b hb => ?_, R2.fpM, R2.fpn, R2.mq⟩, G2, upd_same, .nil, by simpa using q⟩ (fun i H' _ ⟨g', ρ', xs, acc, R', G', _⟩ => io.st _ σ H' ρ' R' G'.fz) ?_ ?_
  · rcases List.mem_cons.mp hb with rfl | hb
    · exact ⟨m2, ns2, u2⟩
    · exact R2.tmp b hb
  · rintro i x H' H'' hlt ⟨g', ρ', kvs, acc, R', G', hx, hr, q'⟩ y
    obtain ⟨g3, R3, G3, hxx⟩ := io.yl _ σ H' ρ' R' G'.fz i x H'' ds[i] (by simp [hlt]) y
    rw [List.drop_eq_getElem_cons hlt] at q'
    have T3 : g3.T = D0 :: g'.T := G3.tm
    have hw' := hw x (wipe σ vs) H''
    rw [wipe_wipe] at hw'
    refine hw' _ ?_
    have fin : ∀ (g5 : Gs) (H5 : Hp) (ρ5 : Rho) (σ5 : L2.St), Rel f g5 σ5 H5 ρ5 → Gro g3 H'' g5 H5 → wipe σ5 vs = wipe σ vs →
        Rel f ((g5.pop g'.T).push D0) σ H5 (bckR ρ' ρ5 vs) ∧ Gro g1 H1 (g5.pop g'.T) H5 ∧ H5 D0 = some (.dK kvs) ∧ RpK f.K (Fz H5 g5.M) kvs acc := by
      intro g5 H5 ρ5 σ5 R5 G5 hwp
      have G35 : Gro (g'.push D0) H' g5 H5 := G3.trans G5
      have hT : g5.T = D0 :: g'.T := G35.tm
      have RB := Rel.backed (vs := vs) R' R5 G35.fz hwp
      refine ⟨RB.pop (T := D0 :: g'.T) (fun a ha => by rw [hT]; exact ha), ⟨G'.fz.trans G35.fz, fun pc h => G35.src pc (G'.src pc h), G'.tm, fun a ha => ?_, G35.fp.trans G'.fp⟩, (G35.th D0 List.mem_cons_self).trans hx, hr.mono G35.fz⟩
      exact (G35.th a (List.mem_cons_of_mem _ (by rw [G'.tm]; exact ha))).trans (G'.th a ha)
    refine hg f g3 (wipe σ vs) H'' (wipeR ρ' vs) x (.fz _) _ _ hK (R3.wiped vs) hxx q' fun g4 σ4 H4 ρ4 R4 G4 q4 => ?_
    intro hws
    refine ht f g4 σ4 H4 ρ4 _ _ hK R4 q4 fun b H5 g5 ρ5 R5 G5 q5 => ?_
    cases b with
    | false =>
      replace q5 := useB_f q5
      obtain ⟨A, B, C, E⟩ := fin g5 H5 ρ5 σ4 R5 (G4.trans G5) hws
      exact ⟨g5.pop g'.T, _, kvs, acc, A, B, C, E, q5⟩
    | true =>
      replace q5 := useB_t q5
      rw [if_pos rfl]
      refine hk.opd hK R5 q5 fun yk Hk gk ρk rk Rk Gk Ok qk => ?_
      obtain ⟨key, ek, qk⟩ := wK_some qk
      have eyk : yk = kV key := (Ok.rn Rk ek).key
      refine he.opd hK Rk qk fun y H6 g6 ρ6 r R6 G6 O6 q6 => ?_
      obtain ⟨d, ρ7, e7, hl7, q7⟩ := wF_some q6
      obtain ⟨g7, R7, G7, hy⟩ := O6.frz R6 e7
      obtain ⟨A, B, C, E⟩ := fin g7 H6 ρ7 σ4 R7 ((((G4.trans G5).trans Gk).trans G6).trans G7) hws
      refine ⟨kvs, key, eyk, C, by rw [E.length]; exact hl7, ?_⟩
      obtain ⟨A2, S2⟩ := A.mutTmp (o := .dK (putK kvs key y)) List.mem_cons_self h0
      refine ⟨g7.pop g'.T, _, putK kvs key y, putE acc key d, A2, ⟨B.fz.trans S2, B.src, B.tm, fun a ha => ?_, B.fp⟩, upd_same, (E.put key hy).mono S2, q7⟩
      rw [upd_ne]
      · exact B.th a ha
      · rintro rfl
        exact R1.mH a hD (R1.tmp a ha).1
  · rintro H' ⟨g', ρ', kvs, acc, R', G', hx, hr, q'⟩
    rw [List.drop_length] at q'
    obtain ⟨m', ns', u'⟩ := R'.tmp D0 List.mem_cons_self
    refine k _ H' g' ρ' (.nw (.dict acc)) (R'.pop (T := g'.T) fun a ha => List.mem_cons_of_mem _ ha) (G1.trans G') ⟨D0, rfl, m', h0, ns', .dic hx hr, ?_, u'⟩ q'
    intro ha
    rw [G'.tm] at ha
    exact R1.mH D0 hD (R1.tmp D0 ha).1
end
/-- a dict comprehension by an invariant -/
theorem dDcGo_of {dg : DG} {dt : DT} {dk de : DE} {vs : List Nat} {Q : Rv → Rho → Prop} (ds : List D) (I : Nat → List (D × D) → Rho → Prop) {ρ : Rho} (h0 : I 0 [] ρ)
    (hs : ∀ (i : Nat) (x : D) (acc : List (D × D)) (ρ : Rho) (k : List (D × D) → Rho → Prop), ds[i]? = some x → I i acc ρ → (∀ acc' ρ', I (i + 1) acc' ρ' → k acc' ρ') →
      dg (.fz x) (wipeR ρ vs) fun ρ1 => dt ρ1 fun b ρ2 => useB b (dk ρ2 fun q ρ3 => wK (res ρ3 q) fun key => de ρ3 fun r ρ4 => wF (frz ρ4 r) fun d ρ5 => acc.length < sizeLine ∧ k (putE acc key d) (bckR ρ ρ5 vs)) (k acc (bckR ρ ρ2 vs)))
    (hd : ∀ acc ρ, I ds.length acc ρ → Q (.nw (.dict acc)) ρ) : dDcGo dg dt dk de vs Q ds [] ρ := by
  suffices h : ∀ (n i : Nat) (acc : List (D × D)) (ρ : Rho), i + n = ds.length → I i acc ρ → dDcGo dg dt dk de vs Q (ds.drop i) acc ρ by
    have := h ds.length 0 [] ρ (by simp) h0
    simpa using this
  intro n
  induction n with
  | zero =>
    intro i acc ρ e hi
    have e : i = ds.length := by omega
    subst e
    rw [List.drop_length]
    exact hd acc ρ hi
  | succ n ih =>
    intro i acc ρ e hi
    have hlt : i < ds.length := by omega
    rw [List.drop_eq_getElem_cons hlt]
    exact hs i _ acc ρ _ (by simp [hlt]) hi fun acc' ρ' h => ih (i + 1) acc' ρ' (by omega) h
end DL

set_option Elab.async false
set_option linter.all false
set_option maxRecDepth 100000
set_option maxHeartbeats 4000000
set_option autoImplicit false
namespace DL
open PySem L2
/-! ### x = [[] for y in ys], passed by reference from here on; told whole at the end -/
def outL (ρ : Rho) : Rv → Option Rv
  | .mr i => match ρ[i]? with
    | some (some (.mu (.ll es))) => some (.fz (.list (es.map .list)))
    | _ => none
  | .fz d => some (.fz d)
  | _ => none
def dOutL (DD : DEnds) : DEnds where
  nx ρ := DD.nx (killMu ρ)
  rt r ρ := ∃ r', outL ρ r = some r' ∧ DD.rt r' (killMu ρ)
  bk ρ := DD.bk (killMu ρ)
  ct ρ := DD.ct (killMu ρ)
section
variable {f : Fr} {g g0 : Gs} {σ : L2.St} {H H' : Hp} {ρ : Rho} {v : V} {r r' : Rv} {i : Nat} {m : MD}
/-- left, the lists frozen -/
theorem Rel.leaveF (R : Rel f g σ H ρ) (hT : g.T = g0.fp ++ g0.T) (hw : ∀ a ∈ g0.fp, Wr f a) (hn : g0.fp.Nodup) (hdj : ∀ a ∈ g0.T, a ∉ g0.fp) (hz : ∀ a ∈ g.fp, f.H0 a = none) :
    Rel f ⟨fun a => g.M a ∧ a ∉ g.fp, g.src, g0.T, g0.fp⟩ σ H (killMu ρ) ∧ Same (Fz H g.M) (Fz H fun a => g.M a ∧ a ∉ g.fp) := by
  have S0 : Same (Fz H g.M) (Fz H fun a => g.M a ∧ a ∉ g.fp) := fz_mono fun a o e n => ⟨e, fun z => n z.1⟩
  have inT : ∀ a ∈ g0.fp, a ∈ g.T := fun a h => by rw [hT]; exact List.mem_append_left _ h
  refine ⟨⟨R.keep, R.dom, fun a z => ⟨R.m0 a z, fun q => R.m00 a z (hz a q)⟩, R.m00, fun a z => R.mU a z.1, fun q c e => ?_, by unfold killMu; rw [List.length_map]; exact R.len, fun i s e => ?_, fun i j l d e h1 h2 => R.uq i j l d e (killMu_get h1).1 (killMu_get h2).1, fun a h => ?_, fun a h => ?_, hn, fun i j d e h1 _ => absurd rfl ((killMu_get h1).2 d)⟩, S0⟩
  · obtain ⟨h1, h2, h3, h4, h5, h6⟩ := R.src q c e
    exact ⟨h1, ⟨h2, fun z => ((R.fpM q z).2.2 q c e).1 rfl⟩, ⟨h3, fun z => ((R.fpM c z).2.2 q c e).2 rfl⟩, h4, h5, h6⟩
  · obtain ⟨h1, h2⟩ := killMu_get e
    obtain ⟨v, e1, h⟩ := R.slot i s h1
    refine ⟨v, e1, ?_⟩
    cases s with
    | sh d => exact Rp.mono S0 h
    | bo d => exact BoV.mono S0 h
    | ow d =>
      obtain ⟨a, e2, m, h0, ns, r⟩ := h
      exact ⟨a, e2, ⟨m, ns.2⟩, h0, ⟨ns.1, fun z => (R.tmp a (inT a z)).2.2 i d h1 (by rw [e1, e2])⟩, r.mono S0 fun _ h => h⟩
    | src => exact h
    | scr => exact h
    | mu m => exact absurd rfl (h2 m)
  · have ha : a ∈ g.T := by rw [hT]; exact List.mem_append_right _ h
    obtain ⟨h1, h2, h3⟩ := R.tmp a ha
    refine ⟨⟨h1, h2.2⟩, ⟨h2.1, hdj a h⟩, fun j e h4 => h3 j e (killMu_get h4).1⟩
  · obtain ⟨h1, h2, _⟩ := R.tmp a (inT a h)
    exact ⟨⟨h1, h2.2⟩, hw a h, h2.1⟩
theorem scope_runL {K : PySem.W.Frag} {t : TS} {d : DS} {nf : List Addr} {M' : AP} {σ' : L2.St} {ρ' : Rho} {DD : DEnds} {E : Ends} (h : LS K t d) (hK : f.K = K) (R : Rel f g σ H ρ)
    (R1 : Rel f ⟨M', g.src, g.fp ++ g.T, nf⟩ σ' H' ρ') (S1 : Same (Fz H g.M) (Fz H' M')) (hk : ∀ a o, H a = some o → H' a = some o) (hz : ∀ a ∈ nf, f.H0 a = none) (l : LkE f g H DD E) (hd : d (dOutL DD) ρ') : t E σ' H' := by
  have th : ∀ (g2 : Gs) (H2 : Hp), Gro ⟨M', g.src, g.fp ++ g.T, nf⟩ H' g2 H2 → ∀ a ∈ g.T, H2 a = H a := fun g2 H2 G2 a h => by
    have e1 : H2 a = H' a := G2.th a (List.mem_append_right _ h)
    cases e : H a with
    | none => exact absurd (R.tmp a h).1 (R.mH a e)
    | some o => rw [e1, hk a o e]
  have lv : ∀ (g2 : Gs) (σ2 : L2.St) (H2 : Hp) (ρ2 : Rho), Rel f g2 σ2 H2 ρ2 → Gro ⟨M', g.src, g.fp ++ g.T, nf⟩ H' g2 H2 → Rel f ⟨g2.M, g2.src, g.T, g.fp⟩ σ2 H2 (killMu ρ2) ∧ Gro g H ⟨g2.M, g2.src, g.T, g.fp⟩ H2 := fun g2 σ2 H2 ρ2 R2 G2 =>
    ⟨R2.leave (g0 := g) G2.tm (fun a h => (R.fpM a h).2.1) R.fpn (fun a h => (R.tmp a h).2.1.2), S1.trans G2.fz, G2.src, rfl, th g2 H2 G2, rfl⟩
  refine h f _ σ' H' ρ' (dOutL DD) E hK R1 hd ⟨fun g2 σ2 H2 ρ2 R2 G2 q => ?_, fun g2 σ2 H2 ρ2 v r R2 G2 V2 q => ?_, fun g2 σ2 H2 ρ2 R2 G2 q => ?_, fun g2 σ2 H2 ρ2 R2 G2 q => ?_⟩
  · obtain ⟨A, B⟩ := lv g2 σ2 H2 ρ2 R2 G2
    exact l.nx _ σ2 H2 _ A B q
  · obtain ⟨r', e, q⟩ := q
    cases r with
    | fz d =>
      obtain ⟨A, B⟩ := lv g2 σ2 H2 ρ2 R2 G2
      cases e
      exact l.rt _ σ2 H2 _ v (.fz d) A B V2 q
    | mr j =>
      have efp : g2.fp = nf := G2.fp
      obtain ⟨A, S0⟩ := R2.leaveF (g0 := g) G2.tm (fun a h => (R.fpM a h).2.1) R.fpn (fun a h => (R.tmp a h).2.1.2) (fun a h => hz a (efp ▸ h))
      obtain ⟨m, h1, h2⟩ := V2
      have e : (match ρ2[j]? with | some (some (.mu (.ll es))) => some (Rv.fz (.list (es.map .list))) | _ => none) = some r' := e
      rw [h1] at e
      cases m with
      | ll es =>
        cases e
        obtain ⟨p, as, e3, f0, hrm⟩ := R2.muAt h1
        rw [h2] at e3
        cases e3
        refine l.rt _ σ2 H2 _ _ (.fz (.list (es.map .list))) A ⟨(S1.trans G2.fz).trans S0, G2.src, rfl, th g2 H2 G2, rfl⟩ ?_ q
        exact hrm.rp S0 fun a ha o e => fz_of e fun z => z.2 (f0 ▸ ha)
      | fl _ => cases e
      | dl _ => cases e
    | nw _ => cases e
    | vr _ => cases e
    | src => cases e
    | scr => cases e
    | mi _ _ => cases e
  · obtain ⟨A, B⟩ := lv g2 σ2 H2 ρ2 R2 G2
    exact l.bk _ σ2 H2 _ A B q
  · obtain ⟨A, B⟩ := lv g2 σ2 H2 ρ2 R2 G2
    exact l.ct _ σ2 H2 _ A B q
end
def dLlGo (dg : DG) (vs : List Nat) (k : Rho → Prop) : List D → Rho → Prop
  | [], ρ => k ρ
  | x :: xs, ρ => dg (.fz x) (wipeR ρ vs) fun ρ1 => dLlGo dg vs k xs (bckR ρ ρ1 vs)
def dLlNew (i : Nat) (dI : DI) (dg : DG) (vs : List Nat) (d : DS) : DS := fun DD ρ => dI ρ fun ds ρ1 => ds.length ≤ sizeLine ∧ dLlGo dg vs (fun ρ2 => noMuR ρ2 = true ∧ i < ρ2.length ∧ d (dOutL DD) (ρ2.set i (some (.mu (.ll (List.replicate ds.length [])))))) ds ρ1
section
variable {K : PySem.W.Frag} {wi : TI} {tg : TG} {t : TS} {dI : DI} {dg : DG} {d : DS} {vs : List Nat} {i : Nat}
theorem ls_llNew (hi : LI K wi dI) (hg : LG K tg dg) (hw : LGw tg vs) (h : LS K t d) : LS K (tSeq (tAsg (tLc wi tg tYes (tLst tNil) vs) (gName i)) t) (dLlNew i dI dg vs d) := by
  intro f g σ H ρ DD E hK hR hd l
  refine hi f g σ H ρ _ _ hK hR hd fun J H1 g1 ρ1 G Y ds R1 G1 w io q => ?_
  obtain ⟨hsz, q⟩ := q
  intro D0 hD
  have h0 : f.H0 D0 = none := R1.dom D0 hD
  obtain ⟨R2, G2, V2⟩ := R1.own (o := .lst []) (d := .list []) hD (.lst upd_same .nil)
  obtain ⟨a, ea, m2, _, ns2, _, t2, u2⟩ := V2
  cases ea
  have n1 : D0 ∉ g1.T := fun ha => R1.mH D0 hD (R1.tmp D0 ha).1
  refine it_loop w (H4 := upd H1 D0 (.lst [])) (fun n H' => ∃ (g' : Gs) (ρ' : Rho) (as : List Addr), Rel f (g'.pop (D0 :: (as ++ g1.T))) σ H' ρ' ∧ Gro g1 H1 (g'.pop g1.T) H' ∧ H' D0 = some (.lst (as.map V.ref)) ∧ (∀ a ∈ as, H' a = some (.lst []) ∧ f.H0 a = none ∧ a ≠ D0 ∧ a ∉ g1.T) ∧ as.Nodup ∧ as.length = n ∧ dLlGo dg vs (fun ρ2 => noMuR ρ2 = true ∧ i < ρ2.length ∧ d (dOutL DD) (ρ2.set i (some (.mu (.ll (List.replicate ds.length [])))))) (ds.drop n) ρ')
    ⟨g1.add D0, ρ1, [], ⟨R2.keep, R2.dom, R2.m0, R2.m00, R2.mU, R2.src, R2.len, R2.slot, R2.uq, fun b hb => ?_, R2.fpM, R2.fpn, R2.mq⟩, G2, upd_same, (fun _ h => nomatch h), List.nodup_nil, rfl, by simpa using q⟩ (fun n H' _ ⟨g', ρ', as, R', G', _⟩ => io.st _ σ H' ρ' R' G'.fz) ?_ ?_
  · have hb : b ∈ D0 :: g1.T := hb
    rcases List.mem_cons.mp hb with rfl | hb
    · exact ⟨m2, ns2, u2⟩
    · exact R2.tmp b hb
  · rintro n x H' H'' hlt ⟨g', ρ', as, R', G', hx, has, hnd, hal, q'⟩ y
    obtain ⟨g3, R3, G3, hxx⟩ := io.yl _ σ H' ρ' R' G'.fz n x H'' ds[n] (by simp [hlt]) y
    rw [List.drop_eq_getElem_cons hlt] at q'
    have hw' := hw x (wipe σ vs) H''
    rw [wipe_wipe] at hw'
    refine hw' _ ?_
    refine hg f g3 (wipe σ vs) H'' (wipeR ρ' vs) x (.fz _) _ _ hK (R3.wiped vs) hxx q' fun g4 σ4 H4 ρ4 R4 G4 q4 => ?_
    intro hws
    unfold tYes
    dsimp only
    rw [if_pos rfl]
    refine ⟨Nat.zero_le _, fun p hp => ?_⟩
    have G34 : Gro (g'.pop (D0 :: (as ++ g1.T))) H' g4 H4 := G3.trans G4
    have hT4 : g4.T = D0 :: (as ++ g1.T) := G34.tm
    have eD : H4 D0 = some (.lst (as.map V.ref)) := (G34.th D0 List.mem_cons_self).trans hx
    have eA : ∀ a ∈ as, H4 a = some (.lst []) := fun a ha => (G34.th a (List.mem_cons_of_mem _ (List.mem_append_left _ ha))).trans (has a ha).1
    have npD : p ≠ D0 := fun z => by rw [z, eD] at hp; cases hp
    have npA : p ∉ as := fun z => by rw [eA p z] at hp; cases hp
    have RB := Rel.backed (vs := vs) R' R4 G34.fz hws
    obtain ⟨R5, G5, V5⟩ := RB.own (o := .lst []) (d := .list []) hp (.lst upd_same .nil)
    obtain ⟨a5, ea5, m5, z5, ns5, _, t5, u5⟩ := V5
    cases ea5
    have R6 : Rel f ((g4.add p).pop (D0 :: ((as ++ [p]) ++ g1.T))) σ (upd H4 p (.lst [])) (bckR ρ' ρ4 vs) := by
      refine ⟨R5.keep, R5.dom, R5.m0, R5.m00, R5.mU, R5.src, R5.len, R5.slot, R5.uq, fun b hb => ?_, R5.fpM, R5.fpn, R5.mq⟩
      have hb : b ∈ D0 :: ((as ++ [p]) ++ g1.T) := hb
      have hc : b = p ∨ b ∈ g4.T := by
        rw [hT4]
        simp only [List.mem_cons, List.mem_append, List.not_mem_nil, or_false] at hb ⊢
        rcases hb with h | (h | h) | h
        · exact .inr (.inl h)
        · exact .inr (.inr (.inl h))
        · exact .inl h
        · exact .inr (.inr (.inr h))
      rcases hc with rfl | hc
      · exact ⟨m5, ns5, u5⟩
      · exact R5.tmp b hc
    obtain ⟨A2, S2⟩ := R6.mutTmp (D0 := D0) (o := .lst (as.map V.ref ++ [.ref p])) List.mem_cons_self h0
    refine ⟨as.map V.ref, by rw [upd_ne npD.symm]; exact eD, by rw [List.length_map, hal]; omega, g4.add p, _, as ++ [p], A2, ⟨((G'.fz.trans G34.fz).trans G5.fz).trans S2, fun pc h => G34.src pc (G'.src pc h), rfl, fun a ha => ?_, G34.fp.trans G'.fp⟩, ?_, fun a ha => ?_, ?_, by rw [List.length_append, hal]; rfl, q4⟩
    · have h4 : H4 a = H' a := G34.th a (List.mem_cons_of_mem _ (List.mem_append_right _ ha))
      have hne : a ≠ p := fun z => t5 (by show p ∈ g4.T; rw [hT4, ← z]; exact List.mem_cons_of_mem _ (List.mem_append_right _ ha))
      rw [upd_ne (show a ≠ D0 from fun z => n1 (by rw [← z]; exact ha)), upd_ne hne, h4]
      exact G'.th a ha
    · rw [upd_same, List.map_append]; rfl
    · rcases List.mem_append.mp ha with ha | ha
      · obtain ⟨h1, h2, h3, h4⟩ := has a ha
        exact ⟨by rw [upd_ne h3, upd_ne (show a ≠ p from fun z => npA (by rw [← z]; exact ha))]; exact eA a ha, h2, h3, h4⟩
      · obtain rfl := List.mem_singleton.mp ha
        exact ⟨by rw [upd_ne npD, upd_same], z5, npD, fun z => t5 (by show a ∈ g4.T; rw [hT4]; exact List.mem_cons_of_mem _ (List.mem_append_right _ z))⟩
    · rw [List.nodup_append]
      exact ⟨hnd, by simp, fun a ha b hb z => npA (by rw [← List.mem_singleton.mp hb, ← z]; exact ha)⟩
  · rintro H' ⟨g', ρ', as, R', G', hx, has, hnd, hal, q'⟩
    rw [List.drop_length] at q'
    obtain ⟨hnm, hil, hd'⟩ := q'
    have Rp0 : Rel f (g'.pop g1.T) σ H' ρ' := R'.pop (T := g1.T) fun a ha => List.mem_cons_of_mem _ (List.mem_append_right _ ha)
    have inT : ∀ a ∈ D0 :: as, a ∈ D0 :: (as ++ g1.T) := fun a ha => by
      rcases List.mem_cons.mp ha with rfl | ha
      · exact List.mem_cons_self
      · exact List.mem_cons_of_mem _ (List.mem_append_left _ ha)
    have z0 : ∀ a ∈ D0 :: as, f.H0 a = none := fun a ha => by
      rcases List.mem_cons.mp ha with rfl | ha
      · exact h0
      · exact (has a ha).2.1
    have nT : ∀ a ∈ D0 :: as, a ∉ g1.T := fun a ha => by
      rcases List.mem_cons.mp ha with rfl | ha
      · exact n1
      · exact (has a ha).2.2.2
    obtain ⟨R7, S7⟩ := Rp0.enter (H' := H') (nf := D0 :: as) (M' := (g'.pop g1.T).M) (p := D0) (as := as) (m := .ll (List.replicate ds.length [])) hnm hil (fun _ h => h) (fun _ h => .inl h)
      (fun b hb => ⟨(R'.tmp b (inT b hb)).1, z0 b hb, (R'.tmp b (inT b hb)).2.1, nT b hb, fun j e h1 _ h3 => (R'.tmp b (inT b hb)).2.2 j e h1 h3, fun n => absurd (R'.tmp b (inT b hb)).1 n⟩)
      (List.nodup_cons.mpr ⟨fun z => (has D0 z).2.2.1 rfl, hnd⟩) (fun _ _ h => h) (fun _ h => h) rfl
      ⟨hx, by rw [List.length_replicate]; exact hal, fun k a es e1 e2 => ⟨[], (has a (List.mem_of_getElem? e1)).1, by
        rw [List.getElem?_replicate] at e2
        split at e2
        · cases e2; exact .nil
        · cases e2⟩⟩
    exact scope_runL h hK Rp0 R7 S7 (fun _ _ h => h) z0 (l.mono (G1.trans G')) hd'
end
end DL

set_option Elab.async false
set_option linter.all false
set_option maxRecDepth 100000
set_option maxHeartbeats 4000000
set_option autoImplicit false
namespace DL
open PySem L2 PySem.Spec PyProof.Rows
/-! ### a def that gives a tuple of a list of its own and something else -/
abbrev ConP := List D → (List D → D → Prop) → Prop
structure PostP (K : PySem.W.Frag) (M0 : AP) (src : Option (Addr × Addr)) (H H' : Hp) (v : V) (xs : List D) (d : D) : Prop where
  keep : ∀ a o, H a = some o → NoS src a → H' a = some o
  dom : ∀ a, H' a = none → H a = none
  sok : ∀ p c, src = some (p, c) → SrcOk H' p c
  ret : ∃ (p l : Addr) (vs : List V) (u : V), v = .ref p ∧ H l = none ∧ H p = none ∧ p ≠ l ∧ H' l = some (.lst vs) ∧ RpA K (Fz H' (fun b => M0 b ∨ b = l)) vs xs ∧ H' p = some (.tup [.ref l, u]) ∧ Rp K (Fz H' (fun b => M0 b ∨ b = l)) u d
def spP (K : PySem.W.Frag) (ks : List Kd) (C : ConP) : Sp := fun vs H Q _ => ∃ (M0 : AP) (src : Option (Addr × Addr)) (ds : List D), PreC K M0 src [] (.fl []) H ks vs ds ∧ ∃ Qc : List D → D → Prop, C ds Qc ∧ ∀ xs d, Qc xs d → ∀ v H', PostP K M0 src H H' v xs d → Q v H'
def shD : Option (Option Sl) → D → Prop
  | some (some (.sh d)), e => d = e
  | some (some (.bo d)), e => d = e ∧ flatD d = true
  | _, _ => False
abbrev tPair (i j : Nat) : TS := tRet (tTup (tCons (tVar i) (tCons (tVar j) tNil)))
section
variable {K : PySem.W.Frag} {H : Hp} {M0 : AP} {src : Option (Addr × Addr)}
theorem ret_endP {g' : Gs} {σ' : L2.St} {H' : Hp} {ρ' : Rho} {i j : Nat} {xs : List D} {d : D} {Qc : List D → D → Prop} {Q : V → Hp → Prop} {E : Ends}
    (R : Rel ⟨K, H, M0, srcSet src []⟩ g' σ' H' ρ') (hs : ∀ pc, src = some pc → g'.src = some pc) (hi : ρ'[i]? = some (some (.ow (.list xs)))) (hj : shD ρ'[j]? d) (q : Qc xs d)
    (hQ : ∀ xs d, Qc xs d → ∀ v H', PostP K M0 src H H' v xs d → Q v H') (hE : E.rt = Q) : tPair i j E σ' H' := by
  obtain ⟨v, e1, l, rfl, m, h0, ns, t⟩ := R.slot i _ hi
  obtain ⟨vs, b1, c1⟩ := t.lstOf
  have hju : ∃ u, σ'[j]? = some (some u) ∧ Rp K (Fz H' g'.M) u d := by
    unfold shD at hj
    split at hj
    · rename_i e
      subst hj
      exact R.slot j _ e
    · rename_i e
      obtain ⟨rfl, hf⟩ := hj
      obtain ⟨u, e2, h⟩ := R.slot j _ e
      exact ⟨u, e2, BoV.flat h hf⟩
    · exact hj.elim
  obtain ⟨u, e2, hu⟩ := hju
  refine ⟨_, e1, u, e2, by show 2 ≤ sizeLine; rw [sizeLine_eq]; omega, fun p hp => ?_⟩
  obtain ⟨R3, G3, _⟩ := R.new (o := .tup [.ref l, u]) hp
  have npl : p ≠ l := fun z => by rw [z, b1] at hp; cases hp
  have sub : Same (Fz H' g'.M) (Fz (upd H' p (.tup [.ref l, u])) (fun b => M0 b ∨ b = l)) := fz_mono fun b o e n => ⟨by
    rw [upd_ne (fun z => by rw [z, hp] at e; cases e)]; exact e, fun z => z.elim (fun z => n (R.m0 b z)) fun z => n (z ▸ m)⟩
  rw [hE]
  refine hQ xs d q _ _ ⟨fun a o e n => R3.keep a o e (n.set List.not_mem_nil), R3.dom, fun p c e => (R3.src p c (hs _ e)).2.2.2.2.2, p, l, vs, u, rfl, h0, R.dom p hp, npl, ?_, c1.mono sub, upd_same, hu.mono sub⟩
  rw [upd_ne (Ne.symm npl)]
  exact b1
end
theorem def_endP {K : PySem.W.Frag} {ks : List Kd} {C : ConP} {N : List Str} {t : TS} {d : DS} {vs : List V} {H : Hp} {Q : VK} {E : XK} {i j : Nat} (h : spP K ks C vs H Q E) (hk : noMu ks = true) (hl : LS K t d)
    (hd : ∀ ds Qc, C ds Qc → d { nx := fun ρ => ∃ xs e, ρ[i]? = some (some (.ow (.list xs))) ∧ shD ρ[j]? e ∧ Qc xs e, rt := fun _ _ => False } (startR N.length ks ds)) : tSeq t (tPair i j) { nx := fun _ H' => Q .non H', rt := Q } (L2.start N vs) H := by
  obtain ⟨M0, src, ds, P, Qc, hC, hQ⟩ := h
  refine hl ⟨K, H, M0, srcSet src []⟩ ⟨M0, src, [], []⟩ (L2.start N vs) H _ _ _ rfl (rel_start P (oneMu_of hk)) (hd ds _ hC) ⟨fun g' σ' H' ρ' R' G' q => ?_, fun _ _ _ _ _ _ _ _ _ q => q.elim, fun _ _ _ _ _ _ q => q.elim, fun _ _ _ _ _ _ q => q.elim⟩
  obtain ⟨xs, e, h1, h2, q⟩ := q
  exact ret_endP R' G'.src h1 h2 q hQ rfl
section
variable {P : Program} {w : World} {K : PySem.W.Frag} {mg : Str → Option Value} {base : Heap}
theorem calGP {x : Str} {st : Stmt} {f : Addr} {fd : FuncData} {N ps : List Str} {k : Nat} {ks : List Kd} {C : ConP} (i j : Nat) (F : C8.Def K mg x st f fd) (b : Binds K fd ps []) (S : FnScope N ps (C8.fnScope st)) (hl : ks.length = ps.length)
    (hb : ∀ (cdv : Value) (A : Around) (outer : List Env) (s : Shared) (H : Hp) (E : XK), (A.deeper (envOfC x (C8.fnScope st) s.heap.objs.size f cdv)).guards = some [] → Room k (A.deeper (envOfC x (C8.fnScope st) s.heap.objs.size f cdv)) →
      ∃ t t1 d, PSs (cxOf C8.CX0 P w K mg base N x (C8.fnScope st) f cdv A outer s H E).nox (C8.fnBody st) t ∧ LS K t1 d ∧ t = tSeq t1 (tPair i j) ∧
        ∀ ds Qc, C ds Qc → d { nx := fun ρ => ∃ xs e, ρ[i]? = some (some (.ow (.list xs))) ∧ shD ρ[j]? e ∧ Qc xs e, rt := fun _ _ => False } (startR N.length ks ds)) (hk : noMu ks = true := by rfl) :
    CalG P w K mg base (k + 1) x (spP K ks C) := by
  refine ⟨f, fd, ps, fnG_of F.fn S (fun vs H Q E h => ?_) (fun cdv A outer s H vs Q E hg hr h => ?_), F.mgf, F.kp, b⟩
  · obtain ⟨M0, src, ds, P, _⟩ := h
    rw [← hl, P.args.length.1]
  · obtain ⟨t, t1, d, h1, h2, rfl, h3⟩ := hb cdv A outer s H E hg hr
    exact ⟨_, h1.nox, def_endP h hk h2 h3⟩
end
/-! ### .. called -/
section
variable {f : Fr} {g : Gs} {σ : L2.St} {H H' : Hp} {ρ : Rho} {v : V} {xs : List D} {d : D}
theorem PostP.fin (R : Rel f g σ H ρ) (P : PostP f.K g.M g.src H H' v xs d) : ∃ (p l : Addr) (u : V), v = .ref p ∧ Rel f (g.add l) σ H' ρ ∧ Gro g H (g.add l) H' ∧ VR f (g.add l) σ H' ρ (.ref l) (.nw (.list xs)) ∧ Fz H' (g.add l).M p = some (.tup [.ref l, u]) ∧ Rp f.K (Fz H' (g.add l).M) u d := by
  obtain ⟨p, l, vs, u, rfl, hl, hp, npl, b1, c1, b2, hu⟩ := P.ret
  obtain ⟨R1, G1, V1⟩ := R.ownC hl P.keep P.dom P.sok (.lst b1 c1)
  exact ⟨p, l, u, rfl, R1, G1, V1, fz_of b2 (fun z => z.elim (R.mH p hp) npl), hu⟩
end
section
variable {K : PySem.W.Frag} {ks : List Kd} {C : ConP} {E : XK} {tr : TA} {dr : DA}
theorem preC {f : Fr} {g1 g2 : Gs} {σ : L2.St} {H : Hp} {ρ2 : Rho} {vs : List V} {ds : List D} (R2 : Rel f g2 σ H ρ2) (s2 : g2.src = g1.src) (A : ArgsOk f.K (Fz H g2.M) H g1.src [] ks vs ds) : PreC f.K g2.M g2.src [] (.fl []) H ks vs ds :=
  ⟨fun a m => R2.mU a m, fun p c e => by
    obtain ⟨h1, h2, h3, _, _, h6⟩ := R2.src p c e
    exact ⟨h1, h2, h3, h6⟩, by rw [s2]; exact A, (fun _ h => nomatch h), List.nodup_nil, (fun _ _ h => nomatch h)⟩
/-- f(..)[0] -/
def dPair0 (ks : List Kd) (C : ConP) (dr : DA) : DE := fun ρ Q => dr ρ fun rs ρ1 => wFA (argA ρ1 ks rs) fun ds ρ2 => C ds fun xs _ => Q (.nw (.list xs)) ρ2
theorem le_pair0 (h : LA K tr dr) (hk : noMu ks = true := by rfl) : LE K (tOp (rIx K) (tCall (spP K ks C) [] E tr) (tC (.int 0))) (dPair0 ks C dr) := by
  intro f g σ H ρ Q R hK hR hd k
  refine h f g σ H ρ _ _ hK hR hd fun vs H1 g1 ρ1 rs R1 G1 O1 q1 => ?_
  obtain ⟨ds, ρ2, e1, q1⟩ := wFA_some q1
  obtain ⟨g2, R2, G2, s2, A⟩ := O1.arg (fp := []) (.inl rfl) (fun z => by
    have := List.all_eq_true.mp hk _ z
    cases this) R1 e1
  subst hK
  rw [List.append_nil]
  refine ⟨g2.M, g2.src, ds, preC R2 s2 A, _, q1, fun xs d q v H' P => ?_⟩
  obtain ⟨p, l, u, rfl, R3, G3, V3, hp, _⟩ := P.fin R2
  refine .inr (.inl ⟨p, [.ref l, u], 0, .ref l, rfl, rfl, .inl (.inl (of_fz hp).1), rfl, ?_⟩)
  exact k _ H' _ ρ2 _ R3 ((G1.trans G2).trans G3) V3 q
/-- x = f(..), compared, then its list changed -/
def dPairT (i : Nat) (ks : List Kd) (C : ConP) (dr : DA) (de dt : DE) : DS := fun DD ρ => dr ρ fun rs ρ1 => wFA (argA ρ1 ks rs) fun ds ρ2 => C ds fun xs d =>
  i < ρ2.length ∧ reprOkP (.tuple [.list xs, d]) ∧ de (ρ2.set i none) fun r ρ4 => wD (res ρ4 r) fun y =>
    eqOk2 (.str (PyData.shown (.tuple [.list xs, d]))) y = true ∧ useB (true != PyData.eqv (.str (PyData.shown (.tuple [.list xs, d]))) y) (dt ρ4 DD.rt) (xs.length < sizeLine ∧ DD.nx (ρ4.set i (some (.sh (.tuple [.list (xs ++ [.none]), d])))))
theorem ls_pairT {i : Nat} {te t : TE} {de dt : DE} (h1 : LA K tr dr) (h4 : LE K te de) (h5 : LE K t dt) (hk : noMu ks = true := by rfl) :
    LS K (tSeq (tAsg (tCall (spP K ks C) [] E tr) (gName i)) (tSeq (tIfS (tTest (tOp (fun x y H Q => rNe x y H Q ∨ rNeD K x y H Q) (tCB (rReprP K) (tCons (tVar i) tNil)) te)) (tRet t) tNext)
      (tDrop (tBM K "list" rAppend (tOp (rIx K) (tVar i) (tC (.int 0))) (tCons (tC .non) tNil))))) (dPairT i ks C dr de dt) := by
  intro f g σ H ρ DD E' hK hR hd l
  subst hK
  refine h1 f g σ H ρ _ _ rfl hR hd fun vs H1 g1 ρ1 rs R1 G1 O1 q1 => ?_
  obtain ⟨ds, ρ2, e1, q1⟩ := wFA_some q1
  obtain ⟨g2, R2, G2, s2, A⟩ := O1.arg (fp := []) (.inl rfl) (fun z => by
    have := List.all_eq_true.mp hk _ z
    cases this) R1 e1
  rw [List.append_nil]
  refine ⟨g2.M, g2.src, ds, preC R2 s2 A, _, q1, fun xs d q v H' P => ?_⟩
  obtain ⟨hi, hr, q⟩ := q
  obtain ⟨p, a, u, rfl, R3, G3, V3, hp3, hu3⟩ := P.fin R2
  obtain ⟨a', ea, m1, z1, n1, t1, nt1, u1⟩ := V3
  cases ea
  have P3 := R3.push m1 n1 u1
  have R5 := P3.hide (i := i) (v := .ref p)
  have hi' : i < σ.length := by rw [← R3.len]; exact hi
  have hσ : (σ.set i (some (.ref p)))[i]? = some (some (.ref p)) := List.getElem?_set_self hi'
  have rp : Rp f.K H' (.ref p) (.tuple [.list xs, d]) := .tup (of_fz hp3).1 (.cons (t1.rp fz_sub fun o e => e) (.cons (hu3.mono fz_sub) .nil))
  obtain ⟨s1, s2', s3, s4⟩ := hr
  refine ⟨.ref p, hσ, .ref p, .tuple [.list xs, d], rfl, ⟨_, Same.refl _, .inl rp⟩, s1, s2', s3, s4, ?_⟩
  refine h4.opd rfl R5 q fun v6 H6 g6 ρ6 r6 R6 G6 O6 q6 => ?_
  obtain ⟨y, e6, hq, q6⟩ := wD_some q6
  refine ol_ne f g6 _ H6 ρ6 _ v6 _ y (fun r => r = .fz (.bool (true != PyData.eqv (.str (PyData.shown (.tuple [.list xs, d]))) y))) _ rfl R6 (.inl (.str _)) (O6.rn R6 e6) ⟨hq, rfl⟩ ?_
  rintro z H7 g7 _ R7 G7 V7 rfl
  obtain rfl := RN.bool (K := f.K) (F := Fz H7 g7.M) (H := H7) (.inl V7)
  refine ⟨_, rfl, ?_⟩
  have G67 := G6.trans G7
  obtain ⟨R9, G9⟩ := R7.pop2 G67
  have l9 := l.mono (((G1.trans G2).trans G3).trans G9)
  cases hb : (true != PyData.eqv (.str (PyData.shown (.tuple [.list xs, d]))) y) with
  | true =>
    rw [hb] at q6
    exact h5 f _ _ H7 ρ6 _ _ rfl R9 (useB_t q6) fun v8 H8 g8 ρ8 r8 R8 G8 V8 q8 => l9.rt g8 _ H8 ρ8 v8 r8 R8 G8 V8 q8
  | false =>
    rw [hb] at q6
    obtain ⟨hl1, q6⟩ := useB_f q6
    obtain ⟨xs1, b1, c1⟩ := t1.lstOf
    have k1 : H7 a = some (.lst xs1) := (G67.th a List.mem_cons_self).trans b1
    have hp7 : H7 p = some (.tup [.ref a, u]) := (of_fz (G67.fz _ _ hp3)).1
    have tm1 := R7.tmp a (by rw [G67.tm]; exact List.mem_cons_self)
    obtain ⟨RA, GA⟩ := R9.mutFree (a := a) (o := .lst (xs1 ++ [.non])) tm1.1 z1 tm1.2.1 nt1 tm1.2.2 trivial
    refine ⟨.ref p, hσ, ?_⟩
    refine .inr (.inl ⟨p, [.ref a, u], 0, .ref a, rfl, rfl, .inl (.inl hp7), rfl, ?_⟩)
    refine ⟨.inl ⟨rfl, _, .inl (.inl k1)⟩, a, xs1, .non, rfl, rfl, k1, by rw [c1.length]; exact hl1, ?_⟩
    have r7 : Rt f.K (Fz (upd H7 a (.lst (xs1 ++ [.non]))) g7.M) (upd H7 a (.lst (xs1 ++ [.non]))) a (.list (xs ++ [.none])) := .lst upd_same (RpA.append (c1.mono (G67.fz.trans GA.fz)) (.cons .non .nil))
    obtain ⟨g10, R10, G10, O10⟩ := VR.opd (v := .ref a) (r := .nw (.list (xs ++ [.none]))) RA ⟨a, rfl, tm1.1, z1, tm1.2.1, r7, nt1, tm1.2.2⟩
    obtain ⟨g11, R11, G11, hv⟩ := O10.frz R10 (show frz ρ6 (.nw (.list (xs ++ [.none]))) = some (_, ρ6) from rfl)
    have ch : Same (Fz H' (g2.add a).M) (Fz (upd H7 a (.lst (xs1 ++ [.non]))) g11.M) := ((G67.fz.trans GA.fz).trans G10.fz).trans G11.fz
    have R12 := R11.set (i := i) (s := .sh (.tuple [.list (xs ++ [.none]), d])) (v := .ref p) (.tup (ch _ _ hp3) (.cons hv (.cons (hu3.mono ch) .nil))) (fun d z => nomatch z)
    rw [List.set_set] at R12
    exact l9.nx _ _ _ _ R12 (GA.trans (G10.trans G11)) q6
end
theorem ls_seq3 {K : PySem.W.Frag} {a b c r : TS} {d e : DS} (h1 : LS K (tSeq a (tSeq b c)) d) (h2 : LS K r e) : LS K (tSeq a (tSeq b (tSeq c r))) (dSeq d e) := by
  have h := ls_seq h1 h2
  exact h
end DL

set_option Elab.async false
set_option linter.all false
set_option maxRecDepth 100000
set_option maxHeartbeats 4000000
set_option autoImplicit false
namespace DL
open PySem L2 PySem.Spec PyProof.Rows
/-! ### d.pop(k, None), d one's own -/
def dropE (es : List (D × D)) (k : Key) : List (D × D) := es.filter fun e => !decide (keyOf e.1 = some k)
theorem RpK.drop {K : PySem.W.Frag} {F : Hp} {kvs : List (Key × V)} {es : List (D × D)} (h : RpK K F kvs es) (k : Key) : RpK K F (dropK kvs k) (dropE es k) := by
  induction es generalizing kvs with
  | nil => cases h; exact .nil
  | cons e es ih =>
    cases h with
    | @cons k0 v0 d0 vs ds h r =>
      unfold dropK dropE
      rw [List.filter_cons, List.filter_cons]
      by_cases q : k0 = k
      · rw [if_neg (by simp [q]), if_neg (by simp [keyOf_keyD, q])]
        exact ih r
      · rw [if_pos (by simp [q]), if_pos (by simp [keyOf_keyD, q])]
        exact .cons h (ih r)
theorem dropE_no {es : List (D × D)} {k : Key} (h : lookE es k = none) : dropE es k = es := by
  induction es with
  | nil => rfl
  | cons e es ih =>
    obtain ⟨a, d⟩ := e
    unfold lookE at h
    by_cases q : keyOf a = some k
    · rw [if_pos q] at h; cases h
    · rw [if_neg q] at h
      show (((a, d) :: es).filter fun e => !decide (keyOf e.1 = some k)) = _
      rw [List.filter_cons, if_pos (by simp [q])]
      congr 1
      exact ih h
def dPopN (i : Nat) (dk : DE) : DS := fun DD ρ => (∃ es, ρ[i]? = some (some (.ow (.dict es))) ∧ isT es = false) ∧ dk ρ fun q ρ1 => ∃ es, ρ1[i]? = some (some (.ow (.dict es))) ∧ isT es = false ∧ wK (res ρ1 q) fun k => DD.nx (ρ1.set i (some (.ow (.dict (dropE es k)))))
section
variable {K : PySem.W.Frag} {tk te to : TE} {dk de do' : DE} {i : Nat}
theorem ls_popN (h : LE K tk dk) : LS K (tDrop (tDPop2 (tVar i) tk (tC .non))) (dPopN i dk) := by
  intro f g σ H ρ DD E hK R hd l
  obtain ⟨⟨es0, e0, nt0⟩, q1⟩ := hd
  obtain ⟨w, w1, a, wa, m, h0, ns, rr⟩ := R.slot i _ e0
  subst wa
  obtain ⟨a0, kvs0, ea0, hk0, _⟩ := (show RN f.K (Fz H g.M) H (.ref a) (.dict es0) from .inr ⟨a, rfl, rr⟩).dict fz_sub nt0
  cases ea0
  refine ⟨.ref a, w1, a, rfl, .inl ⟨kvs0, .inl hk0⟩, ?_⟩
  refine h.opd hK R q1 fun u H3 g3 ρ3 r3 R3 G3 O3 q3 => ?_
  obtain ⟨es, s4, nt, q3⟩ := q3
  obtain ⟨key, e5, q3⟩ := wK_some q3
  obtain ⟨w', w2, a', wa', m', h0', ns', r4⟩ := R3.slot i _ s4
  rw [w1] at w2; cases w2; cases wa'
  obtain ⟨a2, kvs, ea, hk, hr⟩ := (show RN f.K (Fz H3 g3.M) H3 (.ref a) (.dict es) from .inr ⟨a, rfl, r4⟩).dict fz_sub nt
  cases ea
  refine ⟨kvs, key, hk, (O3.rn R3 e5).key, fun v hv => ?_, fun hv => ?_⟩
  · obtain ⟨R5, G5⟩ := R3.mutOwn (o := .dK (dropK kvs key)) (d' := .dict (dropE es key)) s4 w1 (.dic upd_same (hr.drop key))
    exact l.nx g3 σ _ _ R5 (G3.trans G5) q3
  · rcases hr.look key with ⟨_, z⟩ | ⟨_, _, z, _⟩
    · rw [dropE_no z] at q3
      have e : ρ3.set i (some (.ow (.dict es))) = ρ3 := by
        apply List.ext_getElem?
        intro j
        by_cases q : i = j
        · subst q; rw [s4]; exact List.getElem?_set_self (List.getElem?_eq_some_iff.mp s4).1
        · rw [List.getElem?_set_ne q]
      rw [e] at q3
      exact l.nx g3 σ _ _ R3 G3 q3
    · rw [hv] at z; cases z
/-! ### xs.count(k) of ints -/
def dCount (da de : DE) : DE := fun ρ Q => da ρ fun r ρ1 => wA ((res ρ1 r).bind listOf) fun _ => de ρ1 fun q ρ2 => wA ((res ρ2 r).bind listOf) fun ds => wN (intsOf ds) fun ns => wI (res ρ2 q) fun k => Q (.fz (.int (ns.count k : Nat))) ρ2
theorem le_count (h : LE K to do') (h' : LE K te de) : LE K (tBM K "list" (rCntI K) to (tCons te tNil)) (dCount do' de) := by
  intro f g σ H ρ Q R hK hR hd k
  refine h.opd hK hR hd fun v H1 g1 ρ1 r1 R1 G1 O1 q1 => ?_
  obtain ⟨ds0, e0, q1⟩ := wA_some q1
  obtain ⟨x0, e01, e02⟩ := Option.bind_eq_some_iff.mp e0
  have x0l : x0 = .list ds0 := by
    cases x0 <;> first | (cases e02; rfl) | cases e02
  subst x0l
  obtain ⟨a, xs0, rfl, hl0, _⟩ := (O1.rn R1 e01).list fz_sub
  refine ⟨.inl ⟨rfl, _, .inl (.inl hl0)⟩, ?_⟩
  refine h'.opd hK R1 q1 fun u H2 g2 ρ2 r2 R2 G2 O2 q2 => ?_
  obtain ⟨ds, e2, q2⟩ := wA_some q2
  obtain ⟨x, e21, e22⟩ := Option.bind_eq_some_iff.mp e2
  have xl : x = .list ds := by
    cases x <;> first | (cases e22; rfl) | cases e22
  subst xl
  obtain ⟨ns, e3, q3⟩ := wN_some q2
  obtain ⟨i, e4, q4⟩ := wI_some q3
  clear q2 q3
  obtain rfl := intsOf_eq e3
  subst hK
  obtain ⟨a', e5, e6⟩ := ((O1.mono G2).rn R2 e21).lints fz_sub
  cases e5
  refine ⟨a, ns, i, rfl, by rw [(O2.rn R2 e4).int], e6, ?_⟩
  exact k _ H2 g2 ρ2 (.fz (.int _)) R2 (G1.trans G2) (Rp.int _) q4
/-! ### len(set(xs)) -/
def tLenSetG (K : PySem.W.Frag) (ta : TE) : TE := fun σ H Q => ta σ H fun x H1 => ∃ (l : Addr) (ns : List Int), x = V.ref l ∧ SqL K H1 l (ns.map V.int) ∧ ns.length ≤ 4000 ∧ ∀ out : List Int, out.Nodup → (∀ k, k ∈ out ↔ k ∈ ns) → Q (.int (out.length : Nat)) H1
end
section
variable {X : Cx} {K : PySem.W.Frag}
theorem pe_lenSetG {a : Expr} {ta : TE} {p p2 q pos : Pos} (h : X.K = K) (hc : X.calm = true) (hg : Gl X "len") (hm : X.mg "len" = none) (hg2 : Gl X "set") (hm2 : X.mg "set" = none) (ha : PE X a ta)
    (na : starEach [a] X.env = (false, eval a X.env) :: starEach [] X.env := by rfl) : PE X (.Call (.Name "len" p) [.Call (.Name "set" p2) [a] [] q] [] pos) (tLenSetG K ta) := by
  subst h
  refine ⟨fun pins s σ H Q I h => ?_⟩
  refine Call_ (ld_blt I hg hm (show bootBuiltins "len" = some (.builtin "len") by decide +kernel) ?_)
  refine callWith_builtin1 (args_cons ?_ rfl) rfl rfl
  refine Call_ (ld_blt I hg2 hm2 (show bootBuiltins "set" = some (.type "set") by decide +kernel) ?_)
  refine callWith_type1 (args_cons (thn (ha.run pins s σ H _ I h) fun v s1 ⟨x, H1, I1, r1, q1⟩ => args_nil ?_) na) na rfl
  obtain ⟨l, ns, rfl, hq, hl, q1⟩ := q1
  cases r1
  obtain ⟨its, r, pl, hz⟩ := I1.list hq
  refine call_set_lsI (P := X.prog) (w := X.w) (I1.ok.hd hc) pl.isList (by simpa using ints_of_vals r) (by unfold scanBound; omega) fun s2 hs => ?_
  refine args_nil ?_
  obtain ⟨h', tk, c, rfl, R, k⟩ := hs
  obtain ⟨o, es, ep, t, ho, hex, hd, g, nd, hm, hb, hf, hn, _⟩ := R
  have I2 : Inv X pins σ H1 { s1 with heap := h', toks := tk } := I1.kept k
  have e : ((es.toList.map L2.keyOf).length : Nat) = es.size := by rw [List.length_map, Array.length_toList]
  refine call_len_set ho hex hd hf (by unfold scanBound at hb; omega) ⟨.int ((es.toList.map L2.keyOf).length : Nat), H1, I2.tok _, ⟨_, by rw [e]⟩, q1 _ nd fun j => by rw [← hm j, decide_eq_true_eq]⟩
end
section
variable {K : PySem.W.Frag}
def fLenSet : F1 := fInts fun ns Q => ns.length ≤ 4000 ∧ ∀ out : List Int, out.Nodup → (∀ k, k ∈ out ↔ k ∈ ns) → Q (.fz (.int (out.length : Nat)))
def dLenSet (da : DE) : DE := fun ρ Q => da ρ fun r ρ1 => wD (res ρ1 r) fun d => fLenSet d fun r => Q r ρ1
theorem le_lenSet {ta : TE} {da : DE} (h : LE K ta da) : LE K (tLenSetG K ta) (dLenSet da) := by
  intro f g σ H ρ Q R hK hR hd k
  refine h.opd hK hR hd fun v H1 g1 ρ1 r1 R1 G1 O1 q1 => ?_
  obtain ⟨d, e1, q1⟩ := wD_some q1
  obtain ⟨ns, rfl, hl, q1⟩ := fInts_some q1
  subst hK
  obtain ⟨a, rfl, e⟩ := (O1.rn R1 e1).lints fz_sub
  exact ⟨a, ns, rfl, e, hl, fun out h1 h2 => k _ H1 g1 ρ1 (.fz (.int _)) R1 G1 (Rp.int _) (q1 out h1 h2)⟩
end
end DL

set_option Elab.async false
set_option linter.all false
set_option maxRecDepth 100000
set_option maxHeartbeats 4000000
set_option autoImplicit false
namespace DL
open PySem L2 PySem.Spec PyProof.Rows
/-! ### a def that gives a tuple of something frozen and a list of its own -/
structure PostQ (K : PySem.W.Frag) (M0 : AP) (src : Option (Addr × Addr)) (H H' : Hp) (v : V) (xs : List D) (d : D) : Prop where
  keep : ∀ a o, H a = some o → NoS src a → H' a = some o
  dom : ∀ a, H' a = none → H a = none
  sok : ∀ p c, src = some (p, c) → SrcOk H' p c
  ret : ∃ (p l : Addr) (vs : List V) (u : V), v = .ref p ∧ H l = none ∧ H p = none ∧ p ≠ l ∧ H' l = some (.lst vs) ∧ RpA K (Fz H' (fun b => M0 b ∨ b = l)) vs xs ∧ H' p = some (.tup [u, .ref l]) ∧ Rp K (Fz H' (fun b => M0 b ∨ b = l)) u d
def spQ (K : PySem.W.Frag) (ks : List Kd) (C : ConP) : Sp := fun vs H Q _ => ∃ (M0 : AP) (src : Option (Addr × Addr)) (ds : List D), PreC K M0 src [] (.fl []) H ks vs ds ∧ ∃ Qc : List D → D → Prop, C ds Qc ∧ ∀ xs d, Qc xs d → ∀ v H', PostQ K M0 src H H' v xs d → Q v H'
abbrev tPairQ (te : TE) (j : Nat) : TS := tRet (tTup (tCons te (tCons (tVar j) tNil)))
def dEndQ (de : DE) (j : Nat) (Qc : List D → D → Prop) : Rho → Prop := fun ρ => de ρ fun r ρ1 => wF (frz ρ1 r) fun e ρ2 => ∃ xs, ρ2[j]? = some (some (.ow (.list xs))) ∧ Qc xs e
theorem def_endQ {K : PySem.W.Frag} {ks : List Kd} {C : ConP} {N : List Str} {t : TS} {d : DS} {te : TE} {de : DE} {vs : List V} {H : Hp} {Q : VK} {E : XK} {j : Nat} (h : spQ K ks C vs H Q E) (hk : noMu ks = true) (hl : LS K t d) (he : LE K te de)
    (hd : ∀ ds Qc, C ds Qc → d { nx := dEndQ de j Qc, rt := fun _ _ => False } (startR N.length ks ds)) : tSeq t (tPairQ te j) { nx := fun _ H' => Q .non H', rt := Q } (L2.start N vs) H := by
  obtain ⟨M0, src, ds, P, Qc, hC, hQ⟩ := h
  refine hl ⟨K, H, M0, srcSet src []⟩ ⟨M0, src, [], []⟩ (L2.start N vs) H _ _ _ rfl (rel_start P (oneMu_of hk)) (hd ds _ hC) ⟨fun g' σ' H' ρ' R' G' q => ?_, fun _ _ _ _ _ _ _ _ _ q => q.elim, fun _ _ _ _ _ _ q => q.elim, fun _ _ _ _ _ _ q => q.elim⟩
  refine he.opd rfl R' q fun u H1 g1 ρ1 r1 R1 G1 O1 q1 => ?_
  obtain ⟨e, ρ2, e1, xs, e2, q2⟩ := wF_some q1
  obtain ⟨g2, R2, G2, hu⟩ := O1.frz R1 e1
  obtain ⟨v, e3, l, rfl, m, h0, ns, t⟩ := R2.slot j _ e2
  obtain ⟨vs1, b1, c1⟩ := t.lstOf
  have G12 := (G'.trans G1).trans G2
  refine ⟨.ref l, e3, by show 2 ≤ sizeLine; rw [sizeLine_eq]; omega, fun p hp => ?_⟩
  obtain ⟨R3, G3, _⟩ := R2.new (o := .tup [u, .ref l]) hp
  have npl : p ≠ l := fun z => by rw [z, b1] at hp; cases hp
  have sub : Same (Fz H1 g2.M) (Fz (upd H1 p (.tup [u, .ref l])) (fun b => M0 b ∨ b = l)) := fz_mono fun b o e n => ⟨by
    rw [upd_ne (fun z => by rw [z, hp] at e; cases e)]; exact e, fun z => z.elim (fun z => n (R2.m0 b z)) fun z => n (z ▸ m)⟩
  refine hQ xs e q2 _ _ ⟨fun a o e n => R3.keep a o e (n.set List.not_mem_nil), R3.dom, fun p c e => (R3.src p c (G12.src _ e)).2.2.2.2.2, p, l, vs1, u, rfl, h0, R2.dom p hp, npl, ?_, c1.mono sub, upd_same, hu.mono sub⟩
  rw [upd_ne (Ne.symm npl)]
  exact b1
section
variable {P : Program} {w : World} {K : PySem.W.Frag} {mg : Str → Option Value} {base : Heap}
theorem calGQ {x : Str} {st : Stmt} {f : Addr} {fd : FuncData} {N ps : List Str} {k : Nat} {ks : List Kd} {C : ConP} (j : Nat) (F : C8.Def K mg x st f fd) (b : Binds K fd ps []) (S : FnScope N ps (C8.fnScope st)) (hl : ks.length = ps.length)
    (hb : ∀ (cdv : Value) (A : Around) (outer : List Env) (s : Shared) (H : Hp) (E : XK), (A.deeper (envOfC x (C8.fnScope st) s.heap.objs.size f cdv)).guards = some [] → Room k (A.deeper (envOfC x (C8.fnScope st) s.heap.objs.size f cdv)) →
      ∃ t t1 te d de, PSs (cxOf C8.CX0 P w K mg base N x (C8.fnScope st) f cdv A outer s H E).nox (C8.fnBody st) t ∧ LS K t1 d ∧ LE K te de ∧ t = tSeq t1 (tPairQ te j) ∧
        ∀ ds Qc, C ds Qc → d { nx := dEndQ de j Qc, rt := fun _ _ => False } (startR N.length ks ds)) (hk : noMu ks = true := by rfl) :
    CalG P w K mg base (k + 1) x (spQ K ks C) := by
  refine ⟨f, fd, ps, fnG_of F.fn S (fun vs H Q E h => ?_) (fun cdv A outer s H vs Q E hg hr h => ?_), F.mgf, F.kp, b⟩
  · obtain ⟨M0, src, ds, P, _⟩ := h
    rw [← hl, P.args.length.1]
  · obtain ⟨t, t1, te, d, de, h1, h2, h2', rfl, h3⟩ := hb cdv A outer s H E hg hr
    exact ⟨_, h1.nox, def_endQ h hk h2 h2' h3⟩
end
/-! ### .. called -/
section
variable {f : Fr} {g : Gs} {σ : L2.St} {H H' : Hp} {ρ : Rho} {v : V} {xs : List D} {d : D}
theorem PostQ.fin (R : Rel f g σ H ρ) (P : PostQ f.K g.M g.src H H' v xs d) : ∃ (p l : Addr) (u : V), v = .ref p ∧ Rel f (g.add l) σ H' ρ ∧ Gro g H (g.add l) H' ∧ VR f (g.add l) σ H' ρ (.ref l) (.nw (.list xs)) ∧ Fz H' (g.add l).M p = some (.tup [u, .ref l]) ∧ Rp f.K (Fz H' (g.add l).M) u d := by
  obtain ⟨p, l, vs, u, rfl, hl, hp, npl, b1, c1, b2, hu⟩ := P.ret
  obtain ⟨R1, G1, V1⟩ := R.ownC hl P.keep P.dom P.sok (.lst b1 c1)
  exact ⟨p, l, u, rfl, R1, G1, V1, fz_of b2 (fun z => z.elim (R.mH p hp) npl), hu⟩
end
section
variable {K : PySem.W.Frag} {ks : List Kd} {C : ConP} {E : XK} {tr : TA} {dr : DA}
/-- f(..)[1] -/
def dPairQ1 (ks : List Kd) (C : ConP) (dr : DA) : DE := fun ρ Q => dr ρ fun rs ρ1 => wFA (argA ρ1 ks rs) fun ds ρ2 => C ds fun xs _ => Q (.nw (.list xs)) ρ2
theorem le_pairQ1 (h : LA K tr dr) (hk : noMu ks = true := by rfl) : LE K (tOp (rIx K) (tCall (spQ K ks C) [] E tr) (tC (.int 1))) (dPairQ1 ks C dr) := by
  intro f g σ H ρ Q R hK hR hd k
  refine h f g σ H ρ _ _ hK hR hd fun vs H1 g1 ρ1 rs R1 G1 O1 q1 => ?_
  obtain ⟨ds, ρ2, e1, q1⟩ := wFA_some q1
  obtain ⟨g2, R2, G2, s2, A⟩ := O1.arg (fp := []) (.inl rfl) (fun z => by
    have := List.all_eq_true.mp hk _ z
    cases this) R1 e1
  subst hK
  rw [List.append_nil]
  refine ⟨g2.M, g2.src, ds, preC R2 s2 A, _, q1, fun xs d q v H' P => ?_⟩
  obtain ⟨p, l, u, rfl, R3, G3, V3, hp, _⟩ := P.fin R2
  refine .inr (.inl ⟨p, [u, .ref l], 1, .ref l, rfl, rfl, .inl (.inl (of_fz hp).1), rfl, ?_⟩)
  exact k _ H' _ ρ2 _ R3 ((G1.trans G2).trans G3) V3 q
/-- f(..), frozen -/
def dPairQF (ks : List Kd) (C : ConP) (dr : DA) : DE := fun ρ Q => dr ρ fun rs ρ1 => wFA (argA ρ1 ks rs) fun ds ρ2 => C ds fun xs d => Q (.fz (.tuple [d, .list xs])) ρ2
theorem le_pairQF (h : LA K tr dr) (hk : noMu ks = true := by rfl) : LE K (tCall (spQ K ks C) [] E tr) (dPairQF ks C dr) := by
  intro f g σ H ρ Q R hK hR hd k
  refine h f g σ H ρ _ _ hK hR hd fun vs H1 g1 ρ1 rs R1 G1 O1 q1 => ?_
  obtain ⟨ds, ρ2, e1, q1⟩ := wFA_some q1
  obtain ⟨g2, R2, G2, s2, A⟩ := O1.arg (fp := []) (.inl rfl) (fun z => by
    have := List.all_eq_true.mp hk _ z
    cases this) R1 e1
  subst hK
  rw [List.append_nil]
  refine ⟨g2.M, g2.src, ds, preC R2 s2 A, _, q1, fun xs d q v H' P => ?_⟩
  obtain ⟨p, l, u, rfl, R3, G3, V3, hp, hu⟩ := P.fin R2
  obtain ⟨g4, R4, G4, O4⟩ := VR.opd R3 V3
  obtain ⟨g5, R5, G5, hv⟩ := O4.frz R4 (show frz ρ2 (.nw (.list xs)) = some (_, ρ2) from rfl)
  have ch := G4.fz.trans G5.fz
  exact k _ H' g5 ρ2 (.fz _) R5 ((((G1.trans G2).trans G3).trans G4).trans G5) (Rp.tup (ch _ _ hp) (.cons (hu.mono ch) (.cons hv .nil))) q
end
end DL

set_option Elab.async false
set_option linter.all false
set_option maxRecDepth 100000
set_option maxHeartbeats 4000000
set_option autoImplicit false
namespace DL
open PySem L2 PySem.Spec PyProof.Rows
/-! ### x = f(..); if ..: return ..; ..; x[1].append(None) -/
abbrev DPq := (Rho → Prop) → (Rv → Rho → Prop) → Rho → Prop
/-- statements ahead of others that leave the names -/
def LSP (K : PySem.W.Frag) (T : TS → TS) (Dd : DPq) : Prop := ∀ (f : Fr) (g : Gs) (σ : L2.St) (H : Hp) (ρ : Rho) (t : TS) (E : Ends) (k : Rho → Prop) (rt : Rv → Rho → Prop), f.K = K → Rel f g σ H ρ → Dd k rt ρ →
  (∀ (g' : Gs) (H' : Hp) (ρ' : Rho), Rel f g' σ H' ρ' → Gro g H g' H' → k ρ' → t E σ H') →
  (∀ (g' : Gs) (σ' : L2.St) (H' : Hp) (ρ' : Rho) (v : V) (r : Rv), Rel f g' σ' H' ρ' → Gro g H g' H' → VR f g' σ' H' ρ' v r → rt r ρ' → E.rt v H') → T t E σ H
section
variable {K : PySem.W.Frag} {T : TS → TS} {Dd : DPq} {tt : TT} {dt : DT} {te : TE} {de : DE}
def dpNil : DPq := fun k _ ρ => k ρ
theorem lsp_nil : LSP K (fun t => t) dpNil := fun f g σ H ρ t E k rt _ R hd hk _ => hk g H ρ R Gro.refl hd
def dpIf (dt : DT) (de : DE) (Dd : DPq) : DPq := fun k rt ρ => dt ρ fun b ρ1 => useB b (de ρ1 rt) (Dd k rt ρ1)
theorem lsp_if (hc : LT K tt dt) (hr : LE K te de) (h : LSP K T Dd) : LSP K (fun t => tSeq (tIfS tt (tRet te) tNext) (T t)) (dpIf dt de Dd) := by
  intro f g σ H ρ t E k rt hK R hd hk hrt
  refine hc f g σ H ρ _ _ hK R hd fun b H1 g1 ρ1 R1 G1 q1 => ?_
  cases b with
  | true => exact hr f g1 σ H1 ρ1 _ _ hK R1 (useB_t q1) fun v H2 g2 ρ2 r R2 G2 V2 q2 => hrt g2 σ H2 ρ2 v r R2 (G1.trans G2) V2 q2
  | false => exact h f g1 σ H1 ρ1 t E k rt hK R1 (useB_f q1) (fun g' H' ρ' R' G' => hk g' H' ρ' R' (G1.trans G')) fun g' σ' H' ρ' v r R' G' => hrt g' σ' H' ρ' v r R' (G1.trans G')
end
def noOwS : Option Sl → Bool
  | some (.ow _) => false
  | some (.mu _) => false
  | _ => true
def noOwR (ρ : Rho) : Bool := ρ.all noOwS
theorem noOwR_get {ρ : Rho} (h : noOwR ρ = true) {i : Nat} {s : Sl} (e : ρ[i]? = some (some s)) : noOwS (some s) = true := List.all_eq_true.mp h _ (List.mem_of_getElem? e)
section
variable {f : Fr} {g0 g' : Gs} {σ : L2.St} {H0 H1 : Hp} {ρ : Rho} {a : Addr} {xs : List V} {i : Nat} {w : V}
/-- a list kept frozen for a while is one's own again -/
theorem Rel.thaw (R0 : Rel f (g0.add a) σ H0 ρ) (hn : noOwR (ρ.set i none) = true) (R : Rel f g' (σ.set i (some w)) H1 (ρ.set i none)) (hT : g'.T = g0.T) (hth : ∀ b ∈ g0.T, H1 b = H0 b) (hfp : g'.fp = g0.fp) (hsrc : ∀ pc, g0.src = some pc → g'.src = some pc)
    (S : ∀ b o, H0 b = some o → ¬ (g0.add a).M b → H1 b = some o ∧ ¬ g'.M b) (ea : H1 a = some (.lst xs)) (na : ¬ g'.M a) :
    Rel f (g'.add a) (σ.set i (some w)) H1 (ρ.set i none) ∧ Gro (g0.add a) H0 (g'.add a) H1 ∧ NoSrc (g'.add a) a ∧ a ∉ (g'.add a).T := by
  have S2 : Same (Fz H0 (g0.add a).M) (Fz H1 (g'.add a).M) := fz_mono fun b o e n => by
    obtain ⟨h1, h2⟩ := S b o e n
    exact ⟨h1, fun z => z.elim h2 fun z => n (.inr z)⟩
  have ow : ∀ (j : Nat) (e : D), (ρ.set i none)[j]? ≠ some (some (.ow e)) := fun j e h => by
    have := noOwR_get hn h; cases this
  have nS : NoSrc (g'.add a) a := ⟨fun p c e => ⟨fun z => na (by rw [z]; exact (R.src p c e).2.1), fun z => na (by rw [z]; exact (R.src p c e).2.2.1)⟩, fun z => na (R.fpM a z).1⟩
  have nT : a ∉ (g'.add a).T := fun z => na (R.tmp a z).1
  refine ⟨⟨R.keep, R.dom, fun b m => .inl (R.m0 b m), R.m00, fun b m => ?_, fun p c e => ?_, R.len, fun j s e => ?_, fun j l b d e h1 => absurd h1 (ow j d), fun b hb => ⟨.inl (R.tmp b hb).1, (R.tmp b hb).2.1, fun j e h1 => absurd h1 (ow j e)⟩, fun b hb => ⟨.inl (R.fpM b hb).1, (R.fpM b hb).2⟩, R.fpn, R.mq⟩, ⟨S2, hsrc, hT, hth, hfp⟩, nS, nT⟩
  · rcases m with m | m
    · exact R.mU b m
    · rw [m, ea]; trivial
  · obtain ⟨h1, h2, h3, h4, h5, h6⟩ := R.src p c e
    exact ⟨h1, .inl h2, .inl h3, h4, h5, h6⟩
  · have e0 := e
    rcases getset e with ⟨_, z⟩ | ⟨ne, z⟩
    · cases z
    · obtain ⟨v, e1, h⟩ := R0.slot j s z
      refine ⟨v, by rw [List.getElem?_set_ne ne]; exact e1, ?_⟩
      cases s with
      | sh d => exact Rp.mono S2 h
      | bo d => exact BoV.mono S2 h
      | ow d => have := noOwR_get hn e0; cases this
      | src =>
        obtain ⟨p, c, h1, h2⟩ := h
        exact ⟨p, c, hsrc _ h1, h2⟩
      | scr => exact h
      | mu m => have := noOwR_get hn e0; cases this
end
section
variable {K : PySem.W.Frag} {ks : List Kd} {C : ConP} {E0 : XK} {tr : TA} {dr : DA} {T : TS → TS} {Dd : DPq} {t : TS} {d : DS}
def dPairM (i : Nat) (ks : List Kd) (C : ConP) (dr : DA) (Dd : DPq) (d : DS) : DS := fun DD ρ => dr ρ fun rs ρ1 => wFA (argA ρ1 ks rs) fun ds ρ2 => C ds fun xs e =>
  i < ρ2.length ∧ noOwR (ρ2.set i none) = true ∧ Dd (fun ρ' => ρ' = ρ2.set i (some (.sh (.tuple [e, .list xs]))) ∧ xs.length < sizeLine ∧ d DD (ρ2.set i (some (.sh (.tuple [e, .list (xs ++ [.none])]))))) DD.rt (ρ2.set i (some (.sh (.tuple [e, .list xs]))))
theorem ls_pairM {i : Nat} (h1 : LA K tr dr) (hT : LSP K T Dd) (hr : LS K t d) (hk : noMu ks = true := by rfl) :
    LS K (tSeq (tAsg (tCall (spQ K ks C) [] E0 tr) (gName i)) (T (tSeq (tDrop (tBM K "list" rAppend (tOp (rIx K) (tVar i) (tC (.int 1))) (tCons (tC .non) tNil))) t))) (dPairM i ks C dr Dd d) := by
  intro f g σ H ρ DD E' hK hR hd l
  subst hK
  refine h1 f g σ H ρ _ _ rfl hR hd fun vs H1 g1 ρ1 rs R1 G1 O1 q1 => ?_
  obtain ⟨ds, ρ2, e1, q1⟩ := wFA_some q1
  obtain ⟨g2, R2, G2, s2, A⟩ := O1.arg (fp := []) (.inl rfl) (fun z => by
    have := List.all_eq_true.mp hk _ z
    cases this) R1 e1
  rw [List.append_nil]
  refine ⟨g2.M, g2.src, ds, preC R2 s2 A, _, q1, fun xs e q v H' P => ?_⟩
  obtain ⟨hi, hno, q⟩ := q
  obtain ⟨p, a, u, rfl, R3, G3, V3, hp3, hu3⟩ := P.fin R2
  have V3' := V3
  obtain ⟨a', ea, m1, z1, n1, t1, nt1, u1⟩ := V3
  cases ea
  obtain ⟨g4, R4, G4, O4⟩ := VR.opd R3 V3'
  obtain ⟨g5, R5, G5, hv⟩ := O4.frz R4 (show frz ρ2 (.nw (.list xs)) = some (_, ρ2) from rfl)
  have G35 := G4.trans G5
  have R6 := R5.set (i := i) (s := .sh (.tuple [e, .list xs])) (v := .ref p) (.tup (G35.fz _ _ hp3) (.cons (hu3.mono G35.fz) (.cons hv .nil))) (fun d z => nomatch z)
  have l6 := l.mono ((((G1.trans G2).trans G3).trans G35))
  have hi' : i < σ.length := by rw [← R3.len]; exact hi
  have hσ : (σ.set i (some (.ref p)))[i]? = some (some (.ref p)) := List.getElem?_set_self hi'
  refine hT f g5 _ H' _ _ E' _ _ rfl R6 q (fun g' H6 ρ' R' G' qk => ?_) fun g' σ' H6 ρ' v r R' G' V' qk => l6.rt g' σ' H6 ρ' v r R' G' V' qk
  obtain ⟨rfl, hl1, qk⟩ := qk
  -- the list is one's own again
  obtain ⟨xs1, b1, c1⟩ := t1.lstOf
  have na5 : ¬ g5.M a := by
    cases hv with
    | lst h _ => exact (of_fz h).2
  have fa : Fz H' g5.M a = some (.lst xs1) := fz_of b1 na5
  obtain ⟨ea6, na6⟩ := of_fz (G'.fz _ _ fa)
  have RK : Rel f g' (σ.set i (some (.ref p))) H6 (ρ2.set i none) := by
    have := R'.hide (i := i) (v := .ref p)
    rw [List.set_set, List.set_set] at this
    exact this
  obtain ⟨RT, GT, nST, nTT⟩ := Rel.thaw (g0 := g2) (a := a) (i := i) (w := .ref p) R3 hno RK ((G'.tm.trans G35.tm)) (fun b hb => (G'.th b (by rw [G35.tm]; exact hb)).trans (G35.th b hb)) (G'.fp.trans G35.fp) (fun pc h => G'.src pc (G35.src pc h))
    (fun b o h n => of_fz (G'.fz _ _ (G35.fz _ _ (fz_of h n)))) ea6 na6
  have noOw : ∀ (j : Nat) (e : D), (ρ2.set i none)[j]? = some (some (.ow e)) → (σ.set i (some (.ref p)))[j]? ≠ some (some (.ref a)) := fun j e h => by
    have := noOwR_get hno h; cases this
  obtain ⟨RA, GA⟩ := RT.mutFree (a := a) (o := .lst (xs1 ++ [.non])) (.inr rfl) z1 nST nTT noOw trivial
  have hp6 : Fz H6 (g'.add a).M p = some (.tup [u, .ref a]) := GT.fz _ _ hp3
  refine ⟨.ref p, hσ, ?_⟩
  refine .inr (.inl ⟨p, [u, .ref a], 1, .ref a, rfl, rfl, .inl (.inl (of_fz hp6).1), rfl, ?_⟩)
  refine ⟨.inl ⟨rfl, _, .inl (.inl ea6)⟩, a, xs1, .non, rfl, rfl, ea6, by rw [c1.length]; exact hl1, ?_⟩
  have r7 : Rt f.K (Fz (upd H6 a (.lst (xs1 ++ [.non]))) (g'.add a).M) (upd H6 a (.lst (xs1 ++ [.non]))) a (.list (xs ++ [.none])) := .lst upd_same (RpA.append (c1.mono (GT.fz.trans GA.fz)) (.cons .non .nil))
  obtain ⟨g10, R10, G10, O10⟩ := VR.opd (v := .ref a) (r := .nw (.list (xs ++ [.none]))) RA ⟨a, rfl, .inr rfl, z1, nST, r7, nTT, noOw⟩
  obtain ⟨g11, R11, G11, hv2⟩ := O10.frz R10 (show frz (ρ2.set i none) (.nw (.list (xs ++ [.none]))) = some (_, ρ2.set i none) from rfl)
  have ch : Same (Fz H' (g2.add a).M) (Fz (upd H6 a (.lst (xs1 ++ [.non]))) g11.M) := ((GT.fz.trans GA.fz).trans G10.fz).trans G11.fz
  have R12 := R11.set (i := i) (s := .sh (.tuple [e, .list (xs ++ [.none])])) (v := .ref p) (.tup (ch _ _ hp3) (.cons (hu3.mono ch) (.cons hv2 .nil))) (fun d z => nomatch z)
  rw [List.set_set, List.set_set] at R12
  exact hr f g11 _ _ _ DD E' rfl R12 qk (l.mono ((((G1.trans G2).trans G3).trans GT).trans (GA.trans (G10.trans G11))))
end
/-- a list of one's own is frozen from here on -/
def dFrzS (j : Nat) (d : DS) : DS := fun DD ρ => ∃ e, ρ[j]? = some (some (.ow e)) ∧ d DD (ρ.set j (some (.sh e)))
theorem ls_frzS {K : PySem.W.Frag} {t : TS} {d : DS} (j : Nat) (h : LS K t d) : LS K t (dFrzS j d) := by
  intro f g σ H ρ DD E hK R hd l
  obtain ⟨e, he, hd⟩ := hd
  obtain ⟨v, e1, _⟩ := R.slot j _ he
  obtain ⟨g', R', G', _⟩ := Opd.frz (f := f) (g := g) (σ := σ) (H := H) (r := .vr j) (v := v) R e1 (show frz ρ (.vr j) = some (e, ρ.set j (some (.sh e))) by
    show frzV ρ j ρ[j]? = _
    rw [he]; rfl)
  exact h f g' σ H _ DD E hK R' hd (l.mono G')
end DL

set_option Elab.async false
set_option linter.all false
set_option maxRecDepth 100000
set_option maxHeartbeats 4000000
set_option autoImplicit false
namespace DL
open PySem L2
/-! ### a dict against the empty dict, whatever it holds -/
def rNeE (K : PySem.W.Frag) : R2 := fun x y H Q => ∃ a b ks, x = .ref a ∧ y = .ref b ∧ H a = some (.dK ks) ∧ H b = some (.dK []) ∧ Q (.bl (!ks.isEmpty)) H
theorem op_neE {X : Cx} (hu : X.A.units + 64 < cLine) : OpR X (compareOp .NotEq) (rNeE X.K) := by
  intro pins s σ H x y v u Q I rx ry h
  obtain ⟨a, b, ks, rfl, rfl, ea, eb, q⟩ := h
  obtain rfl : v = Value.ref a := rx
  obtain rfl : u = Value.ref b := ry
  obtain ⟨_, ya, va, ra, da⟩ := (show ObjOk X.prog X.w H s.heap a (.dK ks) from I.hok a _ ea)
  obtain ⟨_, yb, vb, rb, db⟩ := (show ObjOk X.prog X.w H s.heap b (.dK []) from I.hok b _ eb)
  have hb : vb.length = 0 := by rw [← rb.length]; rfl
  have hz : ks.length = va.length := ra.length
  refine PySem.W.keq_ne (knd := mixKind X.prog X.w) (r := true) ya yb da db (by omega) (fun hl => hits_all rb ra (fun p hp => by
    have : ks = [] := List.length_eq_zero_iff.mp (by omega)
    rw [this] at hp; cases hp)) (fin_bl I q ?_)
  cases ks with
  | nil => simp at hz; simp [hb, ← hz]
  | cons k ks =>
    have h0 : va.length ≠ 0 := by simp at hz; omega
    rw [hb]
    show true = !(va.length == 0 && true)
    simp [h0]
theorem k_neE {X : Cx} {K : PySem.W.Frag} (h : X.K = K) (hu : X.A.units + 64 < cLine) : OpR X (compareOp .NotEq) (rNeE K) := by subst h; exact op_neE hu
def fNeE : F2 := fun x y Q => ∃ es, x = .dict es ∧ isT es = false ∧ y = .dict [] ∧ Q (.fz (.bool (!es.isEmpty)))
theorem ol_neE {K : PySem.W.Frag} : OpL K (rNeE K) fNeE := by
  intro f g σ H ρ v u x y Q R hK hR h1 h2 hF k
  subst hK
  obtain ⟨es, rfl, nt, rfl, q⟩ := hF
  obtain ⟨a, kvs, rfl, e1, r1⟩ := h1.dict fz_sub nt
  obtain ⟨b, kvs2, rfl, e2, r2⟩ := h2.dict fz_sub rfl
  cases r2
  refine ⟨a, b, kvs, rfl, rfl, e1, e2, OEnd.fz k hR (.bl _) ?_⟩
  have e : kvs.isEmpty = es.isEmpty := by
    have := r1.length
    cases kvs <;> cases es <;> simp_all
  simpa [e] using q
end DL

set_option Elab.async false
set_option linter.all false
set_option maxRecDepth 100000
set_option maxHeartbeats 4000000
set_option autoImplicit false
namespace DL
open PySem L2 PySem.Spec PyProof.Rows
/-! ### sorted(d) of a dict with ints as keys, any number of them -/
def rSortDA (K : PySem.W.Frag) : List V → Hp → VK → Prop := fun vs H Q => rSortedI K vs H Q ∨ ∃ (a : Addr) (kvs : List (Key × V)) (ns : List Int), vs = [V.ref a] ∧ Rd H a (.dK kvs) ∧ kvs.map (·.1) = ns.map Sum.inl ∧ ns.length ≤ 60000 ∧
  ∀ (ms : List Int) (p : Addr), ms.Perm ns → ms.Pairwise (· ≤ ·) → H p = none → Q (.ref p) (upd H p (.lst (ms.map V.int)))
section
variable {X : Cx}
theorem cr_sortDA0 (hc : X.calm = true) : CallR X (.builtin "sorted") (fun vs H Q => ∃ (a : Addr) (kvs : List (Key × V)) (ns : List Int), vs = [V.ref a] ∧ Rd H a (.dK kvs) ∧ kvs.map (·.1) = ns.map Sum.inl ∧ ns.length ≤ 60000 ∧
    ∀ (ms : List Int) (p : Addr), ms.Perm ns → ms.Pairwise (· ≤ ·) → H p = none → Q (.ref p) (upd H p (.lst (ms.map V.int)))) := by
  rintro pins s σ H vs us Q I rel ⟨a, kvs, ns, rfl, rd, hk, hl, q⟩
  have e0 := Vals.ref1 rel
  subst e0
  obtain ⟨_, low, cs, rc, dd⟩ := dk_rd I.hok rd
  obtain ⟨ep, hat⟩ := dd.dictAt
  have hkc : cs.map (·.1) = ns.map Sum.inl := by rw [← hk]; exact rc.keys.symm
  have hn : cs.length = ns.length := by simpa using congrArg List.length hkc
  have hsz : cs.length ≤ sizeLine := by rw [sizeLine_eq]; omega
  refine Calls.call_function_entry kind_sorted plain_sorted entry_sorted (args_sorted1 _) ?_
  unfold Builtin.«sorted»
  refine wpAny_bind (m := checkCount "sorted" 1 1 _) (wpAny_pure ?_)
  refine wpAny_bind (PySem.W.kdu_collect (A := X.A.in1) (PySem.W.kdl_dict (knd := mixKind X.prog X.w) (kvs := cs) (ep := ep) low) (I.ok.hd hc) hat hsz fun g tk acc hg ha => ?_)
  have han : acc.toList.length = ns.length := by rw [Array.length_toList, ha.1, hn]
  have hI : IntsAre acc.toList ns := ints_each han fun j v e => by
    obtain ⟨k, x, h1, h2⟩ := ha.2 j v (by rw [← Array.getElem?_toList]; exact e)
    have h3 : (cs.map (·.1))[j]? = some k := by rw [List.getElem?_map, h1]; rfl
    rw [hkc, List.getElem?_map] at h3
    cases h4 : ns[j]? with
    | none => rw [h4] at h3; cases h3
    | some y =>
      rw [h4] at h3
      have h5 : k = Sum.inl y := (Option.some.inj h3).symm
      subst h5
      rcases keyIs_shape (show keyIs (Sum.inl y) v = true from h2) with ⟨i, t, k1, k2⟩ | ⟨z, t, k1, _⟩
      · cases k1
        exact ⟨y, t, rfl, k2⟩
      · cases k1
  have J : Inv X pins σ H { s with heap := g, toks := tk } := I.kept hg
  have hal : acc.toList.length ≤ sizeLine := by rw [han, sizeLine_eq]; omega
  refine wpAny_bind (wpAny_newList ?_ hal)
  have new : (g.push (seqObj "list" acc.toList.toArray 0)).get? g.objs.size = some (seqObj "list" acc.toList.toArray 0) := Heap.get?_push_size _ rfl
  show wpAny _ _ _ _ _ { s with heap := g.push (seqObj "list" acc.toList.toArray 0), toks := tk }
  refine wpAny_bind (wpAny_holding (wpAny_call_entry slot_list_sort ⟨_, new, rfl⟩ entry_list_sort
    (SrtO.list_sort_ord (s := { s with heap := g.push (seqObj "list" acc.toList.toArray 0), toks := tk }) SrtO.swo_int new hal (fun h2 => SrtO.ints_sortable hI h2) fun out h1 h2 => ⟨_, rfl, ?_⟩) (args_list_sort _)))
  obtain ⟨k1, k2, k3⟩ := SrtO.ints_out hI h1 h2
  obtain ⟨e', he'⟩ := sortedHeap_at (vs := acc.toList) (out := out.toArray) new
  have hms : ((out.map SrtO.iv).map V.int).length ≤ sizeLine := by rw [List.length_map, k2.length_eq, sizeLine_eq]; omega
  refine wpAny_pure ⟨_, rfl, .ref g.objs.size, upd H g.objs.size (.lst ((out.map SrtO.iv).map V.int)), J.laid (t' := tk) (fun b u e => ?_) (Nat.le_refl _) ⟨hms, out, e', vals_of_ints k1, he'⟩, rfl, q _ _ k2 k3 (J.hok.fresh (Nat.le_refl _))⟩
  have hb : b < g.objs.size := Heap.lt_size e
  rw [sortedHeap_old (Nat.ne_of_lt hb) (by rw [size_push']; exact Nat.lt_succ_of_lt hb)]
  exact Heap.get?_push_of_some _ e
theorem k_sortDA {K : PySem.W.Frag} (h : X.K = K) (hc : X.calm = true) : CallR X (.builtin "sorted") (rSortDA K) := (k_sorted h).or (cr_sortDA0 hc)
end
def fSortDA : F1 := fun x Q => match x with
  | .list _ => fSorted x Q
  | .dict es => isT es = false ∧ wN (keysI es) fun ns => ns.length ≤ 60000 ∧ ∀ ms : List Int, ms.Perm ns → ms.Pairwise (· ≤ ·) → Q (.nw (.list (ms.map PyData.int)))
  | _ => False
theorem cl_sortDA {K : PySem.W.Frag} : CaL K (rSortDA K) (fA1 fSortDA) := by
  intro f g σ H ρ vs ds Q R hK hR hA hF0 k
  obtain ⟨d, rfl, hF⟩ := fA1_some hF0
  cases d with
  | list xs => exact .inl (cl_sorted f g σ H ρ vs _ Q R hK hR hA (show fA1 fSorted [.list xs] Q from hF) k)
  | dict es =>
    subst hK
    obtain ⟨v, rfl, h⟩ := hA.one
    obtain ⟨nt, hF⟩ := hF
    obtain ⟨ns, e, hl, q⟩ := wN_some hF
    obtain ⟨a, kvs, rfl, e1, r1⟩ := h.dict fz_sub nt
    exact .inr ⟨a, kvs, ns, rfl, .inl e1, r1.keysI e, hl, fun ys p hp hs hn => OEnd.lst k hR (RpA.of_ints ys) (q ys hp hs) p hn⟩
  | none => exact hF.elim
  | bool _ => exact hF.elim
  | int _ => exact hF.elim
  | str _ => exact hF.elim
  | tuple _ => exact hF.elim
end DL

set_option Elab.async false
set_option linter.all false
set_option maxRecDepth 100000
set_option maxHeartbeats 4000000
set_option autoImplicit false
namespace DL
open PySem L2 PySem.Spec PyProof.Rows
/-! ### x = {k: v for ..}, x a local -/
abbrev Ablk (X : Cx) (scope : Scope) (P : Cx → Prop) : Prop := ∀ (s : Shared) (H : Hp) (C : Addr) (cl : List (Str × Addr)) (fp : List Addr), P (X.blk s H scope (compEnvC scope cl C X.env) fp)
theorem swd_true {kx vx : Expr} {gs : List Comprehension} {scope : Scope} {pos py : Pos} {y : Str} {l : Nat} {env : Env} (hk : env.scope.kind = .function) (hy : env.scope.names.lookup y = some .local) (hl : (py.line == pos.line) = true)
    (ha : (scope.names.any fun (n, k) => n == y && (k == .local || k == .cell)) = false) : swapsWith (.DictComp kx vx gs scope pos) (some (.Name y py)) l env = pure true := by
  have e1 : env.kindOf y = some .local := hy
  have e2 : env.blockKind = .function := by unfold Env.blockKind; rw [hk]; rfl
  unfold swapsWith
  simp only [e2, e1, ha, Expr.pos, hl]
  rfl
theorem ps_setDc {X : Cx} {i : Nat} {y : Str} {py : Pos} {kx vx tg iter : Expr} {ifs : List Expr} {scope : Scope} {own : List (Str × Nat)} {pos spos : Pos} {wi : TI} {g : TG} {tt : TT} {tk tv : TE} (hc : X.calm = true) (nd : X.N.Nodup) (at_ : X.N[i]? = some y) (lc : X.env.scope.names.lookup y = some .local)
    (sw : swapsWith (.DictComp kx vx [⟨tg, iter, ifs, 0⟩] scope pos) (some (.Name y py)) spos.line X.env = pure true) (hi : PI X tg iter wi) (ok : BlkOk X.N X.env.scope scope own)
    (hg : Ablk X scope fun B => PG B tg g) (ht : Ablk X scope fun B => PTs B ifs tt) (hk : Ablk X scope fun B => PE B kx tk) (he : Ablk X scope fun B => PE B vx tv) (hs : ∀ x, foldedSetIterable iter X.env x = pure x := by intro _; rfl) :
    PS X (.Assign [.Name y py] (.DictComp kx vx [⟨tg, iter, ifs, 0⟩] scope pos) spos) (tAsg (tDc wi g tt tk tv (own.map (·.2))) (gName i)) := by
  constructor
  intro pins s σ H D I h0
  have h : tDc wi g tt tk tv (own.map (·.2)) σ H (fun x H1 => gName i x σ H1 D.nx) := h0
  rw [exec_Assign_Name_used _ _ _ _ sw]
  refine wpAny_bind (wpAny_standAt (wpAny_bind ?_))
  show wpAny _ X.A (do let _ ← comprehension (.DictComp kx vx [⟨tg, iter, ifs, 0⟩] scope pos) scope X.env _ newDict false (eval iter X.env) (some (assign (.Name y py) X.env))) _ _ s
  refine wpAny_bind (thn (dc_core (Qf := fun _ s2 => SP X pins D .next s2) hc nd I hi ok hg ht hk he hs h fun L C s2 m H2 J q ns f => ?_) fun _ s2 hq => wpAny_pure (wpAny_pure hq))
  show wpAny _ _ (assign (.Name y py) X.env (.ref L)) _ _ _
  refine wpAny_assign_Name (store_ok2 (v := V.ref L) J nd at_ (.inl lc) rfl (fun s3 J3 ⟨a, sb, ha⟩ => ?_) (.inr lc))
  obtain ⟨f0, f1, f2, f3, f4, f5⟩ := f
  have nC : C ≠ a := ha.elim (fun z => z ▸ f1) fun z e => f4 y a z e.symm
  exact ⟨m, ns.sameBut sb nC, fun h4 sb4 => ⟨_, H2, J3.turned (t' := s3.toks) (fun b o hb e => (sb4.2 b hb).trans e) f0 f1 f3 f4 f5, q⟩⟩
end DL

set_option Elab.async false
set_option linter.all false
set_option maxRecDepth 100000
set_option maxHeartbeats 4000000
set_option autoImplicit false
namespace DL
open PySem L2 PySem.Spec PyProof.Rows
/-! ### sorted(d, key=abs) of a dict with ints as keys -/
def absI (i : Int) : Int := if i < 0 then -i else i
def absL (ns : List Int) : List Int := ns.mergeSort fun a b => decide (absI a ≤ absI b)
theorem absL_perm (ns : List Int) : (absL ns).Perm ns := List.mergeSort_perm ..
def tSortAbs (t : TA) : TE := fun σ H Q => t σ H fun vs H1 => ∃ (a : Addr) (kvs : List (Key × V)) (ns : List Int), vs = [.ref a] ∧ Rd H1 a (.dK kvs) ∧ kvs.map (·.1) = ns.map Sum.inl ∧ ns.length ≤ 60000 ∧
  ∀ p : Addr, H1 p = none → Q (.ref p) (upd H1 p (.lst ((absL ns).map V.int)))
theorem each_ints : ∀ {vs : List Value} {ns : List Int}, IntsAre vs ns → PySem.W.EachIs (fun (v : Value) (n : Int) => ∃ t, v = .int n t) vs ns
  | _, _, .nil => .nil
  | _, _, .cons n t h => .cons ⟨t, rfl⟩ (each_ints h)
theorem ints_each' : ∀ {vs : List Value} {ns : List Int}, PySem.W.EachIs (fun (v : Value) (n : Int) => ∃ t, v = .int n t) vs ns → IntsAre vs ns
  | _, _, .nil => .nil
  | _, _, .cons h r => by
    obtain ⟨t, rfl⟩ := h
    exact .cons _ t (ints_each' r)
section
variable {X : Cx}
theorem sortAbs_run (hc : X.calm = true) (hu : X.A.units + 64 < cLine) {pins : List (Addr × Obj)} {s : Shared} {σ : L2.St} {H : Hp} {a : Addr} {kvs : List (Key × V)} {ns : List Int} {Q : VK} (I : Inv X pins σ H s) (rd : Rd H a (.dK kvs)) (hk : kvs.map (·.1) = ns.map Sum.inl) (hl : ns.length ≤ 60000)
    (q : ∀ p : Addr, H p = none → Q (.ref p) (upd H p (.lst ((absL ns).map V.int)))) : wpAny (model X.prog X.w) X.A (call (.builtin "sorted") [.ref a] [(Str.ofString "key", .builtin "abs")]) (EP X pins σ Q) X.xe s := by
  obtain ⟨_, low, cs, rc, dd⟩ := dk_rd I.hok rd
  obtain ⟨ep, hat⟩ := dd.dictAt
  have hkc : cs.map (·.1) = ns.map Sum.inl := by rw [← hk]; exact rc.keys.symm
  have hn : cs.length = ns.length := by simpa using congrArg List.length hkc
  have hsz : cs.length ≤ sizeLine := by rw [sizeLine_eq]; omega
  refine call_function_entry_kw kind_sorted plain_sorted entry_sorted (ksk_s1 _ _) ?_
  unfold Builtin.«sorted»
  refine wpAny_bind (m := checkCount "sorted" 1 1 _) (wpAny_pure ?_)
  refine wpAny_bind (PySem.W.kdu_collect (A := X.A.in1) (PySem.W.kdl_dict (knd := mixKind X.prog X.w) (kvs := cs) (ep := ep) low) (I.ok.hd hc) hat hsz fun g tk acc hg ha => ?_)
  have han : acc.toList.length = ns.length := by rw [Array.length_toList, ha.1, hn]
  have hI : IntsAre acc.toList ns := ints_each han fun j v e => by
    obtain ⟨k, x, h1, h2⟩ := ha.2 j v (by rw [← Array.getElem?_toList]; exact e)
    have h3 : (cs.map (·.1))[j]? = some k := by rw [List.getElem?_map, h1]; rfl
    rw [hkc, List.getElem?_map] at h3
    cases h4 : ns[j]? with
    | none => rw [h4] at h3; cases h3
    | some y =>
      rw [h4] at h3
      have h5 : k = Sum.inl y := (Option.some.inj h3).symm
      subst h5
      rcases keyIs_shape (show keyIs (Sum.inl y) v = true from h2) with ⟨i, t, k1, k2⟩ | ⟨z, t, k1, _⟩
      · cases k1
        exact ⟨y, t, rfl, k2⟩
      · cases k1
  have J : Inv X pins σ H { s with heap := g, toks := tk } := I.kept hg
  have hal : acc.toList.length ≤ sizeLine := by rw [han, sizeLine_eq]; omega
  refine wpAny_bind (wpAny_newList ?_ hal)
  have new : (g.push (seqObj "list" acc.toList.toArray 0)).get? g.objs.size = some (seqObj "list" acc.toList.toArray 0) := Heap.get?_push_size _ rfl
  show wpAny _ _ _ _ _ { s with heap := g.push (seqObj "list" acc.toList.toArray 0), toks := tk }
  refine wpAny_bind (wpAny_holding (wpAny_call_entry_kw slot_list_sort ⟨_, new, rfl⟩ entry_list_sort ?_ (ksk_l1 _ _)))
  rw [ksk_t4]
  have he := each_ints hI
  refine PySem.W.keyH_tree (kz := ns.map fun n => PyData.int (absI n)) (s := { s with heap := g.push (seqObj "list" acc.toList.toArray 0), toks := tk }) new (by rw [List.length_map, han]) hal (PySem.W.AllAlike.of fun _ _ => by simp [PySem.W.alike]) (PySem.W.Sortable.others fun _ => ⟨by simp, by simp⟩)
    (fun d hd => ?_) (PySem.W.keyH_turns (k := fun n => PyData.int (absI n)) (s := { s with heap := g.push (seqObj "list" acc.toList.toArray 0), toks := tk }) he fun v x hR _ h tk2 kp => ?_) fun h' tk2 out c kp hD ko => ⟨_, rfl, ?_⟩
  · obtain ⟨n, _, rfl⟩ := List.mem_map.mp hd
    show X.A.units + 2 + _ < cLine
    simp only [PyData.depth]
    omega
  · obtain ⟨t, rfl⟩ := hR
    exact call_abs_int fun u tk3 => ⟨h, tk3, rfl, fun _ _ e => e, Reads.int _ _⟩
  have eo := PySem.W.keyedOut_each (rev := false) (fun n => PyData.int (absI n)) ko he
  rw [PySem.W.dataLe_int] at eo
  have hO : IntsAre out (absL ns) := ints_each' eo
  have hms : ((absL ns).map V.int).length ≤ sizeLine := by rw [List.length_map, (absL_perm ns).length_eq, sizeLine_eq]; omega
  refine wpAny_pure ⟨_, rfl, .ref g.objs.size, upd H g.objs.size (.lst ((absL ns).map V.int)), J.laid (t' := tk2) (fun b u e => ?_) (Nat.le_refl _) ⟨hms, out, c, vals_of_ints hO, hD⟩, rfl, q _ (J.hok.fresh (Nat.le_refl _))⟩
  have hb : b < g.objs.size := Heap.lt_size e
  exact kp b u (Nat.ne_of_lt hb) (Heap.get?_push_of_some _ e)
variable {e : Expr} {t : TA} {p p2 pos kpos : Pos}
theorem pe_sortAbs (hc : X.calm = true) (hu : X.A.units + 64 < cLine) (hg : Gl X "sorted") (hm : X.mg "sorted" = none) (hg2 : Gl X "abs") (hm2 : X.mg "abs" = none) (ha : PA X [e] t)
    (he : backTo pos (starEach [e] X.env) = (false, eval e X.env) :: backTo pos (starEach [] X.env) := by rfl) (hpl : (backTo pos (starEach [e] X.env)).any (·.1) = false := by rfl)
    (hall : (backToKw pos (keywordEach [⟨some (Str.ofString "key"), .Name "abs" p2, kpos⟩] X.env)).all (·.1.isSome) = true := by rfl) (hnone : (backToKw pos (keywordEach [⟨some (Str.ofString "key"), .Name "abs" p2, kpos⟩] X.env)).any (·.1.isNone) = false := by rfl) (hks : (backToKw pos (keywordEach [⟨some (Str.ofString "key"), .Name "abs" p2, kpos⟩] X.env)).filterMap (·.1) = [Str.ofString "key"] := by rfl) :
    PE X (.Call (.Name "sorted" p) [e] [⟨some (Str.ofString "key"), .Name "abs" p2, kpos⟩] pos) (tSortAbs t) := by
  refine ⟨fun pins s σ H Q I h => ?_⟩
  refine wpAny_Call_Name_kw (ld_blt I hg hm PyProof.Rows.boot_sorted ?_)
  refine PyProof.Rows.callWith_kw (thn (ha.run pos pins s σ H _ I h) fun us s1 ⟨vs, H1, I1, r1, q1⟩ => ?_) he hpl hall hnone
  rw [hks]
  show wpAny _ _ (evalAll ((do let v ← eval (.Name "abs" p2) X.env; standAt pos; pure v) :: (backToKw pos (keywordEach [] X.env)).map (·.2))) _ _ s1
  refine wpAny_evalAll_cons (wpAny_bind (ld_blt I1 hg2 hm2 PyProof.Rows.boot_abs (wpAny_bind (wpAny_standAt (wpAny_pure ?_)))))
  refine wpAny_evalAll_nil ?_
  obtain ⟨a, kvs, ns, rfl, rd, hk, hl, q3⟩ := q1
  obtain rfl := Vals.ref1 r1
  exact sortAbs_run hc hu I1 rd hk hl q3
end
section
variable {K : PySem.W.Frag}
def fSortAbs (x : D) (Q : Rv → Prop) : Prop := match x with
  | .dict es => isT es = false ∧ wN (keysI es) fun ns => ns.length ≤ 60000 ∧ Q (.nw (.list ((absL ns).map PyData.int)))
  | _ => False
def dSortAbs (da : DE) : DE := fun ρ Q => da ρ fun r ρ1 => wD (res ρ1 r) fun d => fSortAbs d fun r => Q r ρ1
theorem le_sortAbs {ta : TE} {da : DE} (h : LE K ta da) : LE K (tSortAbs (tCons ta tNil)) (dSortAbs da) := by
  intro f g σ H ρ Q R hK hR hd k
  refine h.opd hK hR hd fun v H1 g1 ρ1 r1 R1 G1 O1 q1 => ?_
  obtain ⟨d, e1, q1⟩ := wD_some q1
  cases d with
  | dict es =>
    obtain ⟨nt, q1⟩ := q1
    obtain ⟨ns, e, hl, q⟩ := wN_some q1
    subst hK
    obtain ⟨a, kvs, rfl, e2, r2⟩ := (O1.rn R1 e1).dict fz_sub nt
    exact ⟨a, kvs, ns, rfl, .inl e2, r2.keysI e, hl, OEnd.lst (fun v H2 g2 r R2 G2 V2 q2 => k v H2 g2 ρ1 r R2 (G1.trans G2) V2 q2) R1 (RpA.of_ints _) q⟩
  | none => exact q1.elim
  | bool _ => exact q1.elim
  | int _ => exact q1.elim
  | str _ => exact q1.elim
  | tuple _ => exact q1.elim
  | list _ => exact q1.elim
end
end DL

set_option Elab.async false
set_option linter.all false
set_option maxRecDepth 100000
set_option maxHeartbeats 4000000
set_option autoImplicit false
namespace DL
open PySem L2 PySem.Spec PyProof.Rows
/-! ### dict(xs) of a list of pairs -/
def rDictP (K : PySem.W.Frag) : List V → Hp → VK → Prop := fun xs H Q => ∃ (a : Addr) (ps : List Addr) (kvs : List (Key × V)), xs = [.ref a] ∧ SqL K H a (ps.map V.ref) ∧ Paired (fun p kv => SqT K H p [kV kv.1, kv.2]) ps kvs ∧
    ∀ p, H p = none → Q (.ref p) (upd H p (.dK (mergeK [] kvs)))
theorem k_dictP {X : Cx} {K : PySem.W.Frag} (h : X.K = K) (hc : X.calm = true) : CallR X (.type "dict") (rDictP K) := by subst h; exact call_dictP hc
def kdL (kds : List (Key × D)) : List D := kds.map fun p => .tuple [keyD p.1, p.2]
def kdE (kds : List (Key × D)) : List (D × D) := kds.map fun p => (keyD p.1, p.2)
section
variable {K : PySem.W.Frag} {H F : Hp}
theorem key_of_rp {k : Key} {v : V} (h : Rp K F v (keyD k)) : v = kV k := by
  cases k with
  | inl i => cases h; rfl
  | inr x => cases h; rfl
theorem pairs_rp (hF : ∀ a o, F a = some o → H a = some o) : ∀ {kds : List (Key × D)} {vs : List V}, RpA K F vs (kdL kds) →
    ∃ (ps : List Addr) (kvs : List (Key × V)), vs = ps.map V.ref ∧ Paired (fun p kv => SqT K H p [kV kv.1, kv.2]) ps kvs ∧ RpK K F kvs (kdE kds)
  | [], _, h => by
    cases h
    exact ⟨[], [], rfl, .nil, .nil⟩
  | p :: kds, _, h => by
    have e : kdL (p :: kds) = .tuple [keyD p.1, p.2] :: kdL kds := rfl
    rw [e] at h
    cases h with
    | cons h r =>
      obtain ⟨ps, kvs, rfl, hp, hk⟩ := pairs_rp hF r
      cases h with
      | tup h1 h2 =>
        rename_i a xs
        cases h2 with
        | cons hk1 h3 =>
          cases h3 with
          | cons hv h4 =>
            cases h4
            have e1 := key_of_rp hk1
            subst e1
            exact ⟨a :: ps, (p.1, _) :: kvs, rfl, .cons (.inl (.inl (hF _ _ h1))) hp, .cons hv hk⟩
end
def fDictP : F1 := fun x Q => match x with
  | .list ds => ∃ kds : List (Key × D), ds = kdL kds ∧ Q (.nw (.dict (mergeE [] (kdE kds))))
  | _ => False
theorem cl_dictP {K : PySem.W.Frag} : CaL K (rDictP K) (fA1 fDictP) := by
  intro f g σ H ρ vs ds Q R hK hR hA hF0 k
  obtain ⟨d, rfl, hF⟩ := fA1_some hF0
  cases d with
  | list xs =>
    subst hK
    obtain ⟨v, rfl, h⟩ := hA.one
    obtain ⟨kds, rfl, q⟩ := hF
    obtain ⟨a, ws, rfl, e1, r1⟩ := h.list fz_sub
    obtain ⟨ps, kvs, rfl, hp, hk⟩ := pairs_rp (H := H) fz_sub r1
    refine ⟨a, ps, kvs, rfl, .inl (.inl e1), hp, fun p hp => ?_⟩
    obtain ⟨R3, G3, V3⟩ := hR.own (o := .dK (mergeK [] kvs)) (d := .dict (mergeE [] (kdE kds))) hp (.dic upd_same (RpK.merge hk .nil))
    exact k _ _ _ (.nw (.dict (mergeE [] (kdE kds)))) R3 G3 V3 q
  | none => exact hF.elim
  | bool _ => exact hF.elim
  | int _ => exact hF.elim
  | str _ => exact hF.elim
  | tuple _ => exact hF.elim
  | dict _ => exact hF.elim
end DL

set_option Elab.async false
set_option linter.all false
set_option maxRecDepth 100000
set_option maxHeartbeats 4000000
set_option autoImplicit false
namespace DL
open PySem L2 PySem.Spec PyProof.Rows
/-! ### d.update(e), d one's own -/
def tDUpd (td te : TE) : TE := fun σ H Q => td σ H fun x H1 => ∃ a, x = .ref a ∧ IsD H1 a ∧ te σ H1 fun y H2 => ∃ (b : Addr) (kvs more : List (Key × V)), y = .ref b ∧ a ≠ b ∧ H2 a = some (.dK kvs) ∧ Rd H2 b (.dK more) ∧ kvs.length + more.length ≤ sizeLine ∧
  Q .non (upd H2 a (.dK (mergeK kvs more)))
section
variable {X : Cx} {o e : Expr} {apos cpos : Pos} {td te : TE}
theorem pe_dupd (ho : PE X o td) (he : PE X e te) (m : M1 X o "update" apos e cpos) : PE X (.Call (.Attribute o "update" apos) [e] [] cpos) (tDUpd td te) := by
  refine ⟨fun pins s σ H Q I h => ?_⟩
  refine wpAny_Call_method m.base m.few m.line PySem.F.plainAttrs_dict PySem.F.slot_dict_update PySem.F.type_dict_update (thn (ho.run pins s σ H _ I h) fun u s1 ⟨x, H1, I1, rx, a, ex, d, q1⟩ => ?_)
  subst ex
  obtain rfl : u = Value.ref a := rx
  obtain ⟨t1, t2, _⟩ := isD_at I1 d
  refine ⟨t1, t2, ?_⟩
  rw [m.trees]
  refine Calls.callWith_builtin rfl (Calls.evalArgs_plain (Calls.spliced_cons (thn (he.run pins s1 σ H1 _ I1 q1) fun iv s2 ⟨y, H2, I2, ry, b, kvs, more, ey, hab, ea, eb, hz, q2⟩ => Calls.spliced_nil ?_)))
  subst ey
  obtain rfl : iv = Value.ref b := ry
  obtain ⟨z, hd, vs, rel, dd⟩ := dk_of I2.hok ea
  obtain ⟨z2, hd2, ws, rel2, dd2⟩ := dk_rd I2.hok eb
  refine call_meetsIn PySem.F.slot_dict_update dd.typeIs PySem.F.entry_dict_update (PySem.F.args_dict_update_2 _ _) (meets_dict_update (mixKind X.prog X.w) a b hab hd2)
    ⟨vs, ws, dd, dd2, by rw [← rel.length, ← rel2.length]; exact hz, fun h' dd' _ hs => ⟨.non, _, ?_, rfl, q2⟩⟩
  have he : ∃ q, h'.get? a = some q := let ⟨q, _, _, hq, _⟩ := dd'; ⟨q, hq⟩
  exact d_write I2 (by rw [ea]; exact True.intro) hs he (dk_new (Nat.le_trans (length_mergeK more kvs) hz) hd (KV.merge rel2 rel) dd')
end
def dDUpd (i : Nat) (de : DE) : DS := fun DD ρ => (∃ es, ρ[i]? = some (some (.ow (.dict es))) ∧ isT es = false) ∧ de ρ fun q ρ1 => wF (frz ρ1 q) fun d ρ2 => ∃ es mo, ρ2[i]? = some (some (.ow (.dict es))) ∧ isT es = false ∧ d = .dict mo ∧ isT mo = false ∧ es.length + mo.length ≤ sizeLine ∧ DD.nx (ρ2.set i (some (.ow (.dict (mergeE es mo)))))
section
variable {K : PySem.W.Frag} {te : TE} {de : DE} {i : Nat}
theorem RpK.len {F : Hp} {kvs : List (Key × V)} {es : List (D × D)} (h : RpK K F kvs es) : kvs.length = es.length := by
  induction es generalizing kvs with
  | nil => cases h; rfl
  | cons e es ih =>
    cases h with
    | cons _ r => rw [List.length_cons, List.length_cons, ih r]
theorem ls_dUpd (h : LE K te de) : LS K (tDrop (tDUpd (tVar i) te)) (dDUpd i de) := by
  intro f g σ H ρ DD E hK R hd l
  obtain ⟨⟨es0, e0, nt0⟩, q1⟩ := hd
  obtain ⟨w, w1, a, wa, m, h0, ns, rr⟩ := R.slot i _ e0
  subst wa
  obtain ⟨a0, kvs0, ea0, hk0, _⟩ := (show RN f.K (Fz H g.M) H (.ref a) (.dict es0) from .inr ⟨a, rfl, rr⟩).dict fz_sub nt0
  cases ea0
  refine ⟨.ref a, w1, a, rfl, .inl ⟨kvs0, .inl hk0⟩, ?_⟩
  refine h.opd hK R q1 fun u H3 g3 ρ3 r3 R3 G3 O3 q3 => ?_
  obtain ⟨d, ρ4, e4, q3⟩ := wF_some q3
  obtain ⟨g4, R4, G4, hv⟩ := O3.frz R3 e4
  obtain ⟨es, mo, s4, nt, rfl, ntm, hz, q3⟩ := q3
  obtain ⟨w', w2, a', wa', m', h0', ns', r4⟩ := R4.slot i _ s4
  rw [w1] at w2; cases w2; cases wa'
  obtain ⟨a2, kvs, ea, hk, hr⟩ := (show RN f.K (Fz H3 g4.M) H3 (.ref a) (.dict es) from .inr ⟨a, rfl, r4⟩).dict fz_sub nt
  cases ea
  cases hv with
  | dic hb hm =>
    rename_i b more
    obtain ⟨hb1, hb2⟩ := of_fz hb
    have hab : a ≠ b := fun z => hb2 (by rw [← z]; exact m')
    obtain ⟨R5, G5⟩ := R4.mutOwn (o := .dK (mergeK kvs more)) (d' := .dict (mergeE es mo)) s4 w1 (.dic upd_same (RpK.merge hm hr))
    exact ⟨b, kvs, more, rfl, hab, hk, .inl hb1, by rw [hr.len, hm.len]; exact hz, l.nx g4 σ _ _ R5 ((G3.trans G4).trans G5) q3⟩
  | dct _ _ => cases ntm
end
end DL

set_option Elab.async false
set_option linter.all false
set_option maxRecDepth 100000
set_option maxHeartbeats 4000000
set_option autoImplicit false
namespace DL
open PySem L2
/-! ### an own list, passed by reference for one statement -/
def noMuP (ρ : Rho) : Prop := ∀ (j : Nat) (e : MD), ρ[j]? ≠ some (some (.mu e))
section
variable {f : Fr} {g g' : Gs} {σ : L2.St} {H H' : Hp} {ρ : Rho} {i : Nat} {ds : List D}
theorem Rel.toOw {a : Addr} (R : Rel f g σ H ρ) (hi : ρ[i]? = some (some (.mu (.fl ds)))) (hf : g.fp = [a]) (h0 : f.H0 a = none) : Rel f { g with fp := [] } σ H (ρ.set i (some (.ow (.list ds)))) := by
  obtain ⟨w, w1, p, as, e1, rfl, hm⟩ := R.slot i _ hi
  rw [hf] at e1
  injection e1 with e1 e2
  subst e1
  subst e2
  obtain ⟨_, vs, hp, hr⟩ := hm
  have ht : a ∉ g.T := fun z => (R.tmp a z).2.1.2 (by rw [hf]; exact List.mem_singleton.mpr rfl)
  have hfm := R.fpM a (by rw [hf]; exact List.mem_singleton.mpr rfl)
  have nofp : ∀ (b : Addr), NoSrc g b → b ≠ a := fun b h z => h.2 (by rw [hf, z]; exact List.mem_singleton.mpr rfl)
  have no : ∀ (j : Nat) (d : D), ρ[j]? = some (some (.ow d)) → σ[j]? ≠ some (some (.ref a)) := fun j d e z => by
    obtain ⟨v, v1, b, rfl, _, _, nsb, _⟩ := R.slot j _ e
    rw [v1] at z
    cases z
    exact nofp _ nsb rfl
  refine ⟨R.keep, R.dom, R.m0, R.m00, R.mU, R.src, by rw [List.length_set]; exact R.len, fun j s e => ?_, fun j l b d e h1 h2 h3 h4 => ?_, fun b hb => ⟨(R.tmp b hb).1, ⟨(R.tmp b hb).2.1.1, fun z => nomatch z⟩, fun j e h1 => ?_⟩, (fun b hb => nomatch hb), List.nodup_nil, fun j l d e h1 h2 => ?_⟩
  · rcases getset e with ⟨e1, e2⟩ | ⟨ne, e2⟩
    · subst e1
      cases e2
      exact ⟨_, w1, a, rfl, hfm.1, h0, ⟨hfm.2.2, fun z => nomatch z⟩, .lst hp hr⟩
    · obtain ⟨v, v1, h⟩ := R.slot j s e2
      refine ⟨v, v1, ?_⟩
      cases s with
      | sh d => exact h
      | bo d => exact h
      | ow d =>
        obtain ⟨b, rfl, mb, hb0, nsb, rb⟩ := h
        exact ⟨b, rfl, mb, hb0, ⟨nsb.1, fun z => nomatch z⟩, rb⟩
      | src => exact h
      | scr => exact h
      | mu d => exact absurd (R.mq i j _ _ hi e2) ne
  · rcases getset h1 with ⟨q1, z1⟩ | ⟨_, z1⟩
    · rcases getset h2 with ⟨q2, z2⟩ | ⟨_, z2⟩
      · rw [← q1, ← q2]
      · rw [← q1, w1] at h3
        cases h3
        exact absurd h4 (no l _ z2)
    · rcases getset h2 with ⟨q2, z2⟩ | ⟨_, z2⟩
      · rw [← q2, w1] at h4
        cases h4
        exact absurd h3 (no j _ z1)
      · exact R.uq j l b d e z1 z2 h3 h4
  · rcases getset h1 with ⟨q1, z1⟩ | ⟨_, z1⟩
    · rw [← q1, w1]
      intro z
      cases z
      exact ht hb
    · exact (R.tmp b hb).2.2 j e z1
  · rcases getset h1 with ⟨_, z⟩ | ⟨n1, z1⟩
    · cases z
    · exact absurd (R.mq i j _ _ hi z1) n1
theorem killMu_id (h : noMuP ρ) : killMu ρ = ρ := by
  unfold killMu
  apply List.ext_getElem?
  intro j
  rw [List.getElem?_map]
  cases e : ρ[j]? with
  | none => rfl
  | some o =>
    cases o with
    | none => rfl
    | some s =>
      cases s with
      | mu m => exact absurd e (h j m)
      | _ => rfl
end
/-- .. and is one's own again behind it -/
def owE (i : Nat) (DD : DEnds) : DEnds where
  nx ρ := ∃ ds, ρ[i]? = some (some (.mu (.fl ds))) ∧ DD.nx (ρ.set i (some (.ow (.list ds))))
  rt _ _ := False
  bk ρ := ∃ ds, ρ[i]? = some (some (.mu (.fl ds))) ∧ DD.bk (ρ.set i (some (.ow (.list ds))))
  ct ρ := ∃ ds, ρ[i]? = some (some (.mu (.fl ds))) ∧ DD.ct (ρ.set i (some (.ow (.list ds))))
def dMuS (i : Nat) (d : DS) : DS := fun DD ρ => noMuR ρ = true ∧ ∃ ds, ρ[i]? = some (some (.ow (.list ds))) ∧ d (owE i DD) (ρ.set i (some (.mu (.fl ds))))
theorem ls_muS {K : PySem.W.Frag} {t : TS} {d : DS} (i : Nat) (h : LS K t d) : LS K t (dMuS i d) := by
  intro f g σ H ρ DD E hK R hd l
  obtain ⟨hnm, ds, hs, hd⟩ := hd
  obtain ⟨w, e1, a, rfl, m, h0, ns, r⟩ := R.slot i _ hs
  have hi : i < ρ.length := (List.getElem?_eq_some_iff.mp hs).1
  cases r with
  | lst hh rr =>
    obtain ⟨R1, S1⟩ := R.enter (H' := H) (nf := [a]) (M' := g.M) (p := a) (as := []) (m := .fl ds) hnm hi (fun _ h => h) (fun _ h => .inl h)
      (fun b hb => by
        rw [List.mem_singleton.mp hb]
        exact ⟨m, h0, ns, fun z => (R.tmp a z).2.2 i _ hs e1, fun j e h1 h2 h3 => h2 (R.uq j i a e _ h1 hs h3 e1), fun n => absurd m n⟩)
      (by simp) (fun _ _ h => h) (fun _ h => h) rfl ⟨rfl, _, hh, rr⟩
    rw [set_same e1] at R1
    have lv : ∀ (g2 : Gs) (σ2 : L2.St) (H2 : Hp) (ρ2 : Rho) (ds : List D), Rel f g2 σ2 H2 ρ2 → Gro ⟨g.M, g.src, g.fp ++ g.T, [a]⟩ H g2 H2 → ρ2[i]? = some (some (.mu (.fl ds))) → Rel f ⟨g2.M, g2.src, g.T, g.fp⟩ σ2 H2 (ρ2.set i (some (.ow (.list ds)))) ∧ Gro g H ⟨g2.M, g2.src, g.T, g.fp⟩ H2 := fun g2 σ2 H2 ρ2 ds R2 G2 h2 => by
      have A := R2.toOw h2 G2.fp h0
      have B := A.leave (g0 := g) G2.tm (fun a h => (R.fpM a h).2.1) R.fpn (fun a h => (R.tmp a h).2.1.2)
      rw [killMu_id fun j e z => by
        rcases getset z with ⟨_, q⟩ | ⟨n1, q⟩
        · cases q
        · exact n1 (R2.mq i j _ _ h2 q)] at B
      refine ⟨B, S1.trans G2.fz, G2.src, rfl, fun b hb => ?_, rfl⟩
      exact G2.th b (List.mem_append_right _ hb)
    refine h f _ σ H _ (owE i DD) E hK R1 hd ⟨fun g2 σ2 H2 ρ2 R2 G2 q => ?_, fun g2 σ2 H2 ρ2 v r R2 G2 V2 q => q.elim, fun g2 σ2 H2 ρ2 R2 G2 q => ?_, fun g2 σ2 H2 ρ2 R2 G2 q => ?_⟩
    · obtain ⟨es, h2, q⟩ := q
      obtain ⟨A, B⟩ := lv g2 σ2 H2 ρ2 es R2 G2 h2
      exact l.nx _ σ2 H2 _ A B q
    · obtain ⟨es, h2, q⟩ := q
      obtain ⟨A, B⟩ := lv g2 σ2 H2 ρ2 es R2 G2 h2
      exact l.bk _ σ2 H2 _ A B q
    · obtain ⟨es, h2, q⟩ := q
      obtain ⟨A, B⟩ := lv g2 σ2 H2 ρ2 es R2 G2 h2
      exact l.ct _ σ2 H2 _ A B q
end DL

set_option Elab.async false
set_option linter.all false
set_option maxRecDepth 100000
set_option maxHeartbeats 4000000
set_option autoImplicit false
namespace DL
open PySem L2
/-! ### [-x in d for x in d], d an own dict of ints -/
def tNegIn (i j : Nat) : TE := tLockE (tLc (iKeys (tVar i)) (gName j) tYes (tDIn (tUn (rU fun i => .int (-i)) (tVar j)) (tVar i)) [j])
def dNegIn (i j : Nat) : DE := fun ρ Q => i ≠ j ∧ j < ρ.length ∧ ∃ es, ρ[i]? = some (some (.ow (.dict es))) ∧ isT es = false ∧ wN (keysI es) fun ns => ns.length ≤ 60000 ∧ Q (.nw (.list (ns.map fun n => PyData.bool (decide (-n ∈ ns))))) ρ
theorem valV_keys {kvs : List (Key × V)} {ns : List Int} (h : kvs.map (·.1) = ns.map Sum.inl) (k : Int) : (valV kvs (.inl k)).isSome = decide (k ∈ ns) := by
  induction ns generalizing kvs with
  | nil =>
    cases kvs with
    | nil => rfl
    | cons _ _ => cases h
  | cons n ns ih =>
    cases kvs with
    | nil => cases h
    | cons p kvs =>
      obtain ⟨q, v⟩ := p
      rw [List.map_cons, List.map_cons] at h
      injection h with h1 h2
      have h1 : q = Sum.inl n := h1
      subst h1
      have ih2 := ih h2
      unfold valV at ih2 ⊢
      by_cases e : n = k
      · subst e; simp
      · have e2 : ¬ k = n := fun z => e z.symm
        have e3 : ¬ (Sum.inl n : Key) = Sum.inl k := fun z => e (Sum.inl.inj z)
        rw [List.find?_cons_of_neg (by simp [e3]), ih2, Bool.eq_iff_iff, decide_eq_true_eq, decide_eq_true_eq, List.mem_cons]
        exact ⟨.inr, fun z => z.resolve_left e2⟩
theorem le_negIn {K : PySem.W.Frag} {i j : Nat} : LE K (tNegIn i j) (dNegIn i j) := by
  intro f g σ H ρ Q R hK hR hd k
  subst hK
  obtain ⟨hij, hjl, es, hs, nt, hd⟩ := hd
  obtain ⟨ns, e, hl, q⟩ := wN_some hd
  obtain ⟨w, w1, a, rfl, m, h0, nsrc, rr⟩ := hR.slot i _ hs
  obtain ⟨a0, kvs, ea, hk, hr⟩ := (show RN f.K (Fz H g.M) H (.ref a) (.dict es) from .inr ⟨a, rfl, rr⟩).dict fz_sub nt
  cases ea
  have hkey := hr.keysI e
  have hkl : kvs.length = ns.length := by simpa using congrArg List.length hkey
  have hjs : j < σ.length := by rw [← hR.len]; exact hjl
  refine ⟨a, .dK kvs, hk, trivial, fun od => ?_⟩
  refine ⟨.ref a, w1, a, od, rfl, .inl ⟨kvs, upd_same, fun D hD => ?_⟩⟩
  have hDa : D ≠ a := fun z => by rw [z, upd_same] at hD; cases hD
  have hD0 : H D = none := by rwa [upd_ne hDa] at hD
  refine ⟨fun t m H' => m = ns.length - t ∧ t ≤ ns.length ∧ H' = upd (upd H a (.frz od (.dK kvs))) D (.lst ((ns.take t).map fun n => V.bl (decide (-n ∈ ns)))), ⟨_, rfl, Nat.zero_le _, rfl⟩, ?_⟩
  rintro t m H' ⟨rfl, ht, rfl⟩
  have hfa : ∀ o, upd (upd H a (.frz od (.dK kvs))) D o a = some (.frz od (.dK kvs)) := fun o => by rw [upd_ne hDa.symm, upd_same]
  by_cases hlt : t < ns.length
  · refine .inr ⟨⟨hfa _, by omega⟩, fun H' => H' = upd (upd H a (.frz od (.dK kvs))) D (.lst ((ns.take (t + 1)).map fun n => V.bl (decide (-n ∈ ns)))), fun H' e => ⟨_, by omega, rfl, by omega, e⟩, fun x H' y => ?_⟩
    obtain ⟨rfl, key, v, h1, rfl⟩ := y
    have h2 : (kvs.map (·.1))[t]? = some key := by rw [List.getElem?_map, h1]; rfl
    rw [hkey, List.getElem?_map, List.getElem?_eq_getElem hlt] at h2
    cases h2
    refine ⟨(wipe_set (List.mem_singleton.mpr rfl)).trans wipe_wipe, ?_⟩
    refine ⟨.int ns[t], ?_, ns[t], rfl, .ref a, ?_, a, valV kvs (.inl (-ns[t])), rfl, .inl ⟨kvs, .inl (-ns[t]), .inr ⟨od, hfa _⟩, rfl, rfl⟩, _, upd_same, ?_, ?_⟩
    · show ((wipe σ [j]).set j _)[j]? = _
      rw [List.getElem?_set_self (by rw [wipe_length]; exact hjs)]; rfl
    · show ((wipe σ [j]).set j _)[i]? = _
      rw [List.getElem?_set_ne (fun z => hij z.symm)]
      show (σ.set j none)[i]? = _
      rw [List.getElem?_set_ne (fun z => hij z.symm)]
      exact w1
    · rw [List.length_map, List.length_take, sizeLine_eq]; omega
    · rw [valV_keys hkey, List.take_succ, List.getElem?_eq_getElem hlt]
      show upd (upd (upd H a (.frz od (.dK kvs))) D _) D _ = _
      rw [upd_upd, List.map_append]
      rfl
  · refine .inl ⟨⟨hfa _, by omega⟩, hfa _, ?_⟩
    have et : ns.take t = ns := List.take_of_length_le (by omega)
    rw [et]
    have eH : upd (upd (upd H a (.frz od (.dK kvs))) D (.lst (ns.map fun n => V.bl (decide (-n ∈ ns))))) a (.dK kvs) = upd H D (.lst (ns.map fun n => V.bl (decide (-n ∈ ns)))) := by
      funext b
      by_cases hb : b = a
      · subst hb
        rw [upd_same, upd_ne hDa.symm, hk]
      · rw [upd_ne hb]
        by_cases hb2 : b = D
        · subst hb2; rw [upd_same, upd_same]
        · rw [upd_ne hb2, upd_ne hb, upd_ne hb2]
    rw [eH]
    have hr2 : ∀ F : Hp, RpA f.K F (ns.map fun n => V.bl (decide (-n ∈ ns))) (ns.map fun n => PyData.bool (decide (-n ∈ ns))) := fun F => by
      have key : ∀ (l : List Int) (G : Int → Bool), RpA f.K F (l.map fun n => V.bl (G n)) (l.map fun n => PyData.bool (G n)) := fun l G => by
        induction l with
        | nil => exact .nil
        | cons a l ih => exact .cons (.bl _) ih
      exact key ns _
    obtain ⟨R3, G3, V3⟩ := hR.own (o := .lst (ns.map fun n => V.bl (decide (-n ∈ ns)))) (d := .list (ns.map fun n => PyData.bool (decide (-n ∈ ns)))) hD0 (.lst upd_same (hr2 _))
    exact k _ _ _ ρ (.nw _) R3 G3 V3 q
end DL

set_option Elab.async false
set_option linter.all false
set_option maxRecDepth 100000
set_option maxHeartbeats 4000000
set_option autoImplicit false
namespace DL
open PySem L2
/-! ### graphs -/
structure Gr where
  ins : Nat
  regs : List (Int × Int)
  ands : List (Int × Int)
  outs : List Int
def pD (p : Int × Int) : D := .tuple [.int p.1, .int p.2]
def Gr.toD (g : Gr) : D := .tuple [.int g.ins, .tuple (g.regs.map pD), .tuple (g.ands.map pD), .tuple (g.outs.map PyData.int)]
def Gr.first (g : Gr) : Nat := 1 + g.ins + g.regs.length
def Gr.many (g : Gr) : Nat := g.first + g.ands.length
def inL (l : Int) (n : Nat) : Prop := 0 ≤ l ∧ l < 2 * (n : Int)
structure Gr.ok (g : Gr) : Prop where
  ins : g.ins ≤ 10
  rl : g.regs.length ≤ 10
  al : g.ands.length ≤ 300
  ol : g.outs.length ≤ 10
  regs : ∀ p ∈ g.regs, bit p.1 ∧ inL p.2 g.many
  ands : ∀ k (h : k < g.ands.length), inL (g.ands[k]).1 (g.first + k) ∧ inL (g.ands[k]).2 (g.first + k)
  outs : ∀ l ∈ g.outs, inL l g.many
def litV (vs : List Int) (l : Int) : Int := Builtin.bitXor (vs.getD (l.fdiv 2).toNat 0) (l.fmod 2)
def nodesV (vs : List Int) (ps : List (Int × Int)) : List Int := ps.foldl (fun acc p => acc ++ [Builtin.bitAnd (litV acc p.1) (litV acc p.2)]) vs
def Gr.nodes (g : Gr) (st lot : List Int) : List Int := nodesV (0 :: (lot ++ st)) g.ands
def Gr.outV (g : Gr) (vs : List Int) : List Int := g.outs.map (litV vs)
def Gr.nxtV (g : Gr) (vs : List Int) : List Int := g.regs.map fun p => litV vs p.2
def Gr.st0 (g : Gr) : List Int := g.regs.map (·.1)
def Gr.stF (g : Gr) (lots : List (List Int)) : List Int := lots.foldl (fun s lot => g.nxtV (g.nodes s lot)) g.st0
def Gr.due (g : Gr) (lots : List (List Int)) (n : Nat) : List (List Int) := (List.range n).map fun j => g.outV (g.nodes (g.stF (lots.take j)) (lots.getD j []))
def Gr.sts (g : Gr) (lots : List (List Int)) (n : Nat) : List (List Int) := (List.range (n + 1)).map fun j => g.stF (lots.take j)
def lotD (l : List Int) : D := .tuple (l.map PyData.int)
def bits (l : List Int) : Prop := ∀ b ∈ l, bit b
theorem bits_app {a b : List Int} (h : bits a) (h' : bits b) : bits (a ++ b) := fun x hx => (List.mem_append.mp hx).elim (h x) (h' x)
theorem bits_one {a : Int} (h : bit a) : bits [a] := fun x hx => by rw [List.mem_singleton.mp hx]; exact h
theorem getD_bit {vs : List Int} (h : bits vs) (i : Nat) : bit (vs.getD i 0) := by
  rw [List.getD_eq_getElem?_getD]
  cases e : vs[i]? with
  | none => exact .inl rfl
  | some b => exact h b (List.mem_of_getElem? e)
theorem litV_bit {vs : List Int} (h : bits vs) (l : Int) : bit (litV vs l) := bit_xor (getD_bit h _) (bit_mod l)
theorem and1 (l : Int) : Builtin.bitAnd l 1 = l.fmod 2 := by rw [PyProof.Rows.bitAnd_m1, Int.fmod_eq_emod_of_nonneg _ (by decide)]
theorem inL_div {l : Int} {n : Nat} (h : inL l n) : 0 ≤ l.fdiv 2 ∧ l.fdiv 2 < n := by
  obtain ⟨h1, h2⟩ := h
  rw [Int.fdiv_eq_ediv_of_nonneg _ (by decide)]
  omega
theorem nodesV_succ (vs : List Int) (ps : List (Int × Int)) (i : Nat) (h : i < ps.length) : nodesV vs (ps.take (i + 1)) = nodesV vs (ps.take i) ++ [Builtin.bitAnd (litV (nodesV vs (ps.take i)) (ps[i]).1) (litV (nodesV vs (ps.take i)) (ps[i]).2)] := by
  unfold nodesV
  rw [List.take_succ, List.getElem?_eq_getElem h, List.foldl_append]
  rfl
theorem nodesV_len (ps : List (Int × Int)) : ∀ vs : List Int, (nodesV vs ps).length = vs.length + ps.length := by
  induction ps with
  | nil => intro vs; rfl
  | cons p ps ih =>
    intro vs
    show (nodesV (vs ++ [_]) ps).length = _
    rw [ih]
    simp
    omega
theorem nodesV_bits (ps : List (Int × Int)) : ∀ vs : List Int, bits vs → bits (nodesV vs ps) := by
  induction ps with
  | nil => intro vs h; exact h
  | cons p ps ih =>
    intro vs h
    exact ih _ (bits_app h (bits_one (bit_and (litV_bit h _) (litV_bit h _))))
section
variable {g : Gr}
theorem Gr.nodes_len (st lot : List Int) : (g.nodes st lot).length = 1 + lot.length + st.length + g.ands.length := by
  unfold Gr.nodes; rw [nodesV_len]; simp; omega
theorem Gr.nodes_bits {st lot : List Int} (h : bits st) (h' : bits lot) : bits (g.nodes st lot) := nodesV_bits _ _ fun x hx => by
  rcases List.mem_cons.mp hx with rfl | hx
  · exact .inl rfl
  · exact bits_app h' h x hx
theorem Gr.outV_bits {vs : List Int} (h : bits vs) : bits (g.outV vs) := fun x hx => by
  obtain ⟨l, _, rfl⟩ := List.mem_map.mp hx
  exact litV_bit h l
theorem Gr.nxtV_bits {vs : List Int} (h : bits vs) : bits (g.nxtV vs) := fun x hx => by
  obtain ⟨l, _, rfl⟩ := List.mem_map.mp hx
  exact litV_bit h l.2
theorem Gr.st0_bits (h : g.ok) : bits g.st0 := fun x hx => by
  obtain ⟨p, hp, rfl⟩ := List.mem_map.mp hx
  exact (h.regs p hp).1
theorem Gr.stF_succ (lots : List (List Int)) (i : Nat) (h : i < lots.length) : g.stF (lots.take (i + 1)) = g.nxtV (g.nodes (g.stF (lots.take i)) (lots[i])) := by
  unfold Gr.stF
  rw [List.take_succ, List.getElem?_eq_getElem h, List.foldl_append]
  rfl
theorem Gr.stF_len (lots : List (List Int)) : (g.stF lots).length = g.regs.length := by
  unfold Gr.stF
  have : ∀ (lots : List (List Int)) (s : List Int), s.length = g.regs.length → (lots.foldl (fun s lot => g.nxtV (g.nodes s lot)) s).length = g.regs.length := by
    intro lots
    induction lots with
    | nil => intro s h; exact h
    | cons l lots ih => intro s h; exact ih _ (by simp [Gr.nxtV])
  exact this lots _ (by simp [Gr.st0])
theorem Gr.stF_bits (h : g.ok) (lots : List (List Int)) (hb : ∀ l ∈ lots, bits l) : bits (g.stF lots) := by
  unfold Gr.stF
  have : ∀ (lots : List (List Int)) (s : List Int), (∀ l ∈ lots, bits l) → bits s → bits (lots.foldl (fun s lot => g.nxtV (g.nodes s lot)) s) := by
    intro lots
    induction lots with
    | nil => intro s _ h; exact h
    | cons l lots ih => intro s hl h; exact ih _ (fun x hx => hl x (List.mem_cons_of_mem _ hx)) (Gr.nxtV_bits (Gr.nodes_bits h (hl l List.mem_cons_self)))
  exact this lots _ hb (Gr.st0_bits h)
theorem Gr.due_succ (lots : List (List Int)) (i : Nat) (h : i < lots.length) : g.due lots (i + 1) = g.due lots i ++ [g.outV (g.nodes (g.stF (lots.take i)) (lots[i]))] := by
  unfold Gr.due
  rw [List.range_succ, List.map_append, List.map_singleton, List.getD_eq_getElem?_getD, List.getElem?_eq_getElem h]
  rfl
theorem Gr.sts_succ (lots : List (List Int)) (i : Nat) : g.sts lots (i + 1) = g.sts lots i ++ [g.stF (lots.take (i + 1))] := by
  unfold Gr.sts
  rw [List.range_succ, List.map_append, List.map_singleton]
theorem Gr.due_len (lots : List (List Int)) (n : Nat) : (g.due lots n).length = n := by simp [Gr.due]
theorem Gr.sts_len (lots : List (List Int)) (n : Nat) : (g.sts lots n).length = n + 1 := by simp [Gr.sts]
theorem Gr.outV_len (vs : List Int) : (g.outV vs).length = g.outs.length := by simp [Gr.outV]
theorem Gr.nxtV_len (vs : List Int) : (g.nxtV vs).length = g.regs.length := by simp [Gr.nxtV]
theorem Gr.many_nodes (st lot : List Int) (h : lot.length = g.ins) (h' : st.length = g.regs.length) : (g.nodes st lot).length = g.many := by
  rw [Gr.nodes_len]; unfold Gr.many Gr.first; omega
end
/-- lots for a graph -/
structure LotsOk (g : Gr) (lots : List (List Int)) : Prop where
  len : ∀ l ∈ lots, l.length = g.ins
  bit : ∀ l ∈ lots, bits l
/-! ### what is asked of the defs -/
def Clit : Con := fun ds Q => ∃ (vs : List Int) (l : Int), ds = [.list (vs.map PyData.int), .int l] ∧ inL l vs.length ∧ Q (.fz (.int (litV vs l)))
def Clit1 : Con := fun ds Q => ∃ (vs : List Int) (l : Int), ds = [.list (vs.map PyData.int), .int l, .int 1] ∧ inL l vs.length ∧ Q (.fz (.int (litV vs l)))
def Cst0 : Con := fun ds Q => ∃ g : Gr, ds = [g.toD] ∧ g.ok ∧ Q (.fz (lotD g.st0))
def Cnodes : Con := fun ds Q => ∃ (g : Gr) (st lot : List Int), ds = [g.toD, lotD st, lotD lot] ∧ g.ok ∧ st.length = g.regs.length ∧ lot.length = g.ins ∧ Q (.nw (.list ((g.nodes st lot).map PyData.int)))
def Cnodes1 : Con := fun ds Q => ∃ (g : Gr) (st lot : List Int), ds = [g.toD, lotD st, lotD lot, .int 1] ∧ g.ok ∧ st.length = g.regs.length ∧ lot.length = g.ins ∧ Q (.nw (.list ((g.nodes st lot).map PyData.int)))
def Cstep : Con := fun ds Q => ∃ (g : Gr) (st lot : List Int), ds = [g.toD, lotD st, lotD lot] ∧ g.ok ∧ st.length = g.regs.length ∧ lot.length = g.ins ∧ Q (.fz (.tuple [lotD (g.outV (g.nodes st lot)), lotD (g.nxtV (g.nodes st lot))]))
def seqD (d : D) (ds : List D) : Prop := d = .list ds ∨ d = .tuple ds
def Crun : Con := fun ds Q => ∃ (g : Gr) (lots : List (List Int)) (d : D), ds = [g.toD, d] ∧ seqD d (lots.map lotD) ∧ g.ok ∧ LotsOk g lots ∧ lots.length ≤ 1000 ∧ Q (.nw (.list ((g.due lots lots.length).map lotD)))
def Crun1 : Con := fun ds Q => ∃ (g : Gr) (lots : List (List Int)) (d : D), ds = [g.toD, d, .int 1] ∧ seqD d (lots.map lotD) ∧ g.ok ∧ LotsOk g lots ∧ lots.length ≤ 1000 ∧ Q (.fz (.tuple [.list ((g.due lots lots.length).map lotD), .list ((g.sts lots lots.length).map lotD)]))
def Cdlit : Con := fun ds Q => ∃ n : Nat, ds = [.none, .int (n : Int)] ∧ 1 ≤ n ∧ n ≤ 10000 ∧ ∀ l, inL l n → Q (.fz (.int l))
def Cdraw : Con := fun ds Q => ∃ a b c : Int, ds = [.none, .int a, .int b, .int c] ∧ (0 ≤ a ∧ a ≤ 10) ∧ (0 ≤ b ∧ b ≤ 10) ∧ (0 ≤ c ∧ c ≤ 250) ∧ ∀ g : Gr, g.ok → g.ins ≤ a → g.regs.length ≤ b → g.ands.length ≤ c → g.outs.length ≤ 4 → Q (.fz g.toD)
def Cloose : Con := fun ds Q => ∃ g : Gr, ds = [.none, g.toD] ∧ g.ok ∧ g.ands.length ≤ 250 ∧ g.outs.length ≤ 4 ∧ ∀ g' : Gr, g'.ok → g'.ins = g.ins → g'.regs.length = g.regs.length → g'.outs.length ≤ 6 → Q (.fz g'.toD)
theorem map_mem_pD {ps : List (Int × Int)} {x : D} (h : x ∈ ps.map pD) : ∃ p ∈ ps, x = pD p := by
  obtain ⟨p, hp, rfl⟩ := List.mem_map.mp h
  exact ⟨p, hp, rfl⟩
theorem get_pD {ps : List (Int × Int)} {i : Nat} {x : D} (h : (ps.map pD)[i]? = some x) : ∃ (hi : i < ps.length), x = pD ps[i] := by
  rw [List.getElem?_map] at h
  cases e : ps[i]? with
  | none => rw [e] at h; cases h
  | some p =>
    rw [e] at h; cases h
    obtain ⟨hi, e⟩ := List.getElem?_eq_some_iff.mp e
    exact ⟨hi, by rw [e]⟩
theorem get_map {α : Type} {f : α → D} {ps : List α} {i : Nat} {x : D} (h : (ps.map f)[i]? = some x) : ∃ (hi : i < ps.length), x = f ps[i] := by
  rw [List.getElem?_map] at h
  cases e : ps[i]? with
  | none => rw [e] at h; cases h
  | some p =>
    rw [e] at h; cases h
    obtain ⟨hi, e⟩ := List.getElem?_eq_some_iff.mp e
    exact ⟨hi, by rw [e]⟩
theorem rb_lots {ls : List (List Int)} {n k : Nat} (hb : ∀ l ∈ ls, bits l) (hl : ∀ l ∈ ls, l.length ≤ k) (hn : ls.length ≤ n) : RBs ((2 * k + 1) * n) 2 (ls.map lotD) := .all (fun d hd => by
  obtain ⟨l, h, rfl⟩ := List.mem_map.mp hd
  exact .tuple (.bits (hb l h) (hl l h))) (by simpa using hn)
def d1 : D → D
  | .tuple [a, _] => a
  | _ => .none
def d2 (f : Int → Int) : D → D
  | .tuple [_, .int l] => .int (f l)
  | _ => .none
def dI (f : Int → Int) : D → D
  | .int l => .int (f l)
  | _ => .none
theorem map_d1 (ps : List (Int × Int)) : (ps.map pD).map d1 = (ps.map (·.1)).map PyData.int := by rw [List.map_map, List.map_map]; rfl
theorem map_d2 (f : Int → Int) (ps : List (Int × Int)) : (ps.map pD).map (d2 f) = (ps.map fun p => f p.2).map PyData.int := by rw [List.map_map, List.map_map]; rfl
theorem map_dI (f : Int → Int) (ps : List Int) : (ps.map PyData.int).map (dI f) = (ps.map f).map PyData.int := by rw [List.map_map, List.map_map]; rfl
def Gr.v0 (st lot : List Int) : List Int := 0 :: (lot ++ st)
theorem Gr.nodes_eq {g : Gr} (st lot : List Int) : g.nodes st lot = nodesV (Gr.v0 st lot) g.ands := rfl
theorem Gr.pre_len {g : Gr} (st lot : List Int) (hs : st.length = g.regs.length) (hl : lot.length = g.ins) (i : Nat) (hi : i ≤ g.ands.length) : (nodesV (Gr.v0 st lot) (g.ands.take i)).length = g.first + i := by
  rw [nodesV_len, List.length_take, Nat.min_eq_left hi]
  unfold Gr.v0 Gr.first
  simp
  omega
theorem map_v0 (st lot : List Int) : PyData.int 0 :: (lot.map PyData.int ++ st.map PyData.int) = (nodesV (Gr.v0 st lot) ([] : List (Int × Int))).map PyData.int := by
  show _ = (Gr.v0 st lot).map PyData.int
  simp [Gr.v0]
theorem of_eq {p q : Prop} (e : p = q) (h : q) : p := e ▸ h
def d1i (f : Int → Int) : D → D
  | .tuple [.int l, _] => .int (f l)
  | _ => .none
theorem map_d1i (f : Int → Int) (ps : List (Int × Int)) : (ps.map pD).map (d1i f) = (ps.map fun p => f p.1).map PyData.int := by rw [List.map_map, List.map_map]; rfl
theorem st0_mul (g : Gr) : (g.regs.map fun p => 1 * p.1) = g.st0 := by unfold Gr.st0; congr 1; funext p; exact Int.one_mul _
def Gr.pre (g : Gr) (lots : List (List Int)) (n : Nat) : List (List Int) := (List.range n).map fun j => g.stF (lots.take j)
theorem Gr.sts_eq (g : Gr) (lots : List (List Int)) (n : Nat) : (g.sts lots n).map lotD = (g.pre lots n).map lotD ++ [lotD (g.stF (lots.take n))] := by
  unfold Gr.sts Gr.pre
  rw [List.range_succ, List.map_append, List.map_append]
  rfl
/-! ### drawing -/
def AndsOk (first : Nat) (ps : List (Int × Int)) : Prop := ∀ k (h : k < ps.length), inL (ps[k]).1 (first + k) ∧ inL (ps[k]).2 (first + k)
def entT (p : Int × Int) : D × D := (pD p, .bool true)
theorem AndsOk.snoc {first : Nat} {ps : List (Int × Int)} {x y : Int} (h : AndsOk first ps) (hx : inL x (first + ps.length)) (hy : inL y (first + ps.length)) : AndsOk first (ps ++ [(x, y)]) := by
  intro k hk
  by_cases e : k < ps.length
  · rw [List.getElem_append_left e]; exact h k e
  · have e : k = ps.length := by simp at hk; omega
    subst e
    rw [List.getElem_append_right (Nat.le_refl _)]
    simp only [Nat.sub_self, List.getElem_cons_zero]
    exact ⟨hx, hy⟩
theorem putT_ent {first : Nat} {ps : List (Int × Int)} {x y : Int} (h : AndsOk first ps) (hx : inL x (first + ps.length)) (hy : inL y (first + ps.length)) :
    ∃ ps', putT (ps.map entT) [.inl x, .inl y] (.bool true) = ps'.map entT ∧ AndsOk first ps' ∧ ps'.length ≤ ps.length + 1 := by
  unfold putT
  by_cases q : hasT (ps.map entT) [.inl x, .inl y] = true
  · rw [if_pos q]
    refine ⟨ps, ?_, h, by omega⟩
    rw [List.map_map]
    apply List.map_congr_left
    intro p _
    show (if _ then ((entT p).1, PyData.bool true) else entT p) = entT p
    split <;> rfl
  · rw [if_neg q]
    exact ⟨ps ++ [(x, y)], by rw [List.map_append]; rfl, h.snoc hx hy, by simp⟩
theorem keysT_ent (ps : List (Int × Int)) : keysT (ps.map entT) = ps.map pD := by unfold keysT; rw [List.map_map]; rfl
theorem two_of {ms ns : List Int} (h : ms.Perm ns) (hl : ns.length = 2) {p : Int → Prop} (hp : ∀ n ∈ ns, p n) : ∃ x y, ms = [x, y] ∧ p x ∧ p y := by
  have e := h.length_eq
  rw [hl] at e
  match ms, e with
  | [x, y], _ => exact ⟨x, y, rfl, hp x (h.subset (by simp)), hp y (h.subset (by simp))⟩
/-- for x in range(a draw if .. else 0) -/
theorem useB_lp {b : Bool} {A : Prop} {dg : DG} {db : DS} {DD : DEnds} {ρ : Rho} {c : Int} (hc : 0 ≤ c) (h : (∀ n : Int, 0 ≤ n → n ≤ c → dLoop dg db DD (rngD 0 n.toNat) ρ) → A) (loop : ∀ n : Int, 0 ≤ n → n ≤ c → dLoop dg db DD (rngD 0 n.toNat) ρ) :
    useB b A ((-(2 ^ 62) ≤ (0 : Int) ∧ (0 : Int) < 2 ^ 62) ∧ dLoop dg db DD (rngD 0 (0 : Int).toNat) ρ) := useB_b (fun _ => h loop) (fun _ => ⟨⟨by decide, by decide⟩, loop 0 (Int.le_refl _) hc⟩)
theorem xor1 {l : Int} {n : Nat} (h : inL l n) : inL (Builtin.bitXor l 1) n := by
  obtain ⟨h1, h2⟩ := h
  rw [PyProof.Rows.bitXor_and, PyProof.Rows.bitAnd_m1]
  unfold inL
  omega
theorem inL.mono {l : Int} {n m : Nat} (h : inL l n) (e : n ≤ m) : inL l m := by
  unfold inL at h ⊢; omega
theorem cutD_mem {xs : List D} {lo hi : Option Int} {x : D} (h : x ∈ cutD xs lo hi) : x ∈ xs := List.mem_of_mem_drop (List.mem_of_mem_take h)
theorem cutD_len (xs : List D) (lo hi : Option Int) : (cutD xs lo hi).length ≤ xs.length := by
  unfold cutD
  rw [List.length_take, List.length_drop]
  omega
/-- a pair of literals -/
def PairD (n : Nat) (x : D) : Prop := ∃ u v : Int, x = pD (u, v) ∧ inL u n ∧ inL v n
theorem AndsOk.pair {F : Nat} {ps : List (Int × Int)} (h : AndsOk F ps) {x : D} (hx : x ∈ ps.map pD) : PairD (F + ps.length) x := by
  obtain ⟨p, hp, rfl⟩ := List.mem_map.mp hx
  obtain ⟨i, hi, rfl⟩ := List.mem_iff_getElem.mp hp
  have := h i hi
  exact ⟨_, _, rfl, this.1.mono (by omega), this.2.mono (by omega)⟩
def revP : D → D
  | .tuple ds => .tuple ds.reverse
  | _ => .none
theorem PairD.rev {n : Nat} {x : D} (h : PairD n x) : PairD n (revP x) := by
  obtain ⟨u, v, rfl, hu, hv⟩ := h
  exact ⟨v, u, rfl, hv, hu⟩
theorem atI_mapG {α : Type} {f : α → D} {xs : List α} {k : Int} (h1 : 0 ≤ k) (h2 : k < xs.length) : L2.atI (xs.map f) k = some (f (xs[k.toNat]'(by omega))) := by
  rw [atI_ok h1 (by simpa using h2)]
  simp
section
variable {g : Gr} {lots : List (List Int)}
theorem Gr.due_bits (hg : g.ok) (hl : LotsOk g lots) {n : Nat} (hn : n ≤ lots.length) : ∀ l ∈ g.due lots n, bits l := fun l h => by
  obtain ⟨j, hj, rfl⟩ := List.mem_map.mp h
  have hj := List.mem_range.mp hj
  refine Gr.outV_bits (Gr.nodes_bits (Gr.stF_bits hg _ fun x hx => hl.bit x (List.mem_of_mem_take hx)) ?_)
  rw [List.getD_eq_getElem?_getD, List.getElem?_eq_getElem (by omega)]
  exact hl.bit _ (List.getElem_mem _)
theorem Gr.due_each {n : Nat} : ∀ l ∈ g.due lots n, l.length = g.outs.length := fun l h => by
  obtain ⟨j, hj, rfl⟩ := List.mem_map.mp h
  exact Gr.outV_len _
theorem Gr.okDue (hg : g.ok) (hl : LotsOk g lots) (hn : lots.length ≤ 100) : reprOkP (.list ((g.due lots lots.length).map lotD)) :=
  RB.ok (.list (rb_lots (k := 10) (n := 100) (Gr.due_bits hg hl (Nat.le_refl _)) (fun l h => by rw [Gr.due_each l h]; exact hg.ol) (by rw [Gr.due_len]; exact hn))) (by decide) (by decide)
theorem rb_lot {l : List Int} (h : bits l) {k : Nat} (hl : l.length ≤ k) : RB (2 * k) 2 (lotD l) := .tuple (.bits h hl)
theorem Gr.okSt0 (hg : g.ok) : reprOkP (lotD g.st0) := RB.ok (rb_lot (k := 10) (Gr.st0_bits hg) (by unfold Gr.st0; rw [List.length_map]; exact hg.rl)) (by decide) (by decide)
theorem Gr.rbStep (hg : g.ok) {st lot : List Int} (hs : bits st) (hl : bits lot) : RB 42 3 (.tuple [lotD (g.outV (g.nodes st lot)), lotD (g.nxtV (g.nodes st lot))]) :=
  .tuple (.cons (rb_lot (k := 10) (Gr.outV_bits (Gr.nodes_bits hs hl)) (by rw [Gr.outV_len]; exact hg.ol)) (.one (rb_lot (k := 10) (Gr.nxtV_bits (Gr.nodes_bits hs hl)) (by rw [Gr.nxtV_len]; exact hg.rl))))
theorem Gr.okStep (hg : g.ok) {st lot : List Int} (hs : bits st) (hl : bits lot) : reprOkP (.tuple [lotD (g.outV (g.nodes st lot)), lotD (g.nxtV (g.nodes st lot))]) := RB.ok (Gr.rbStep hg hs hl) (by decide) (by decide)
theorem Gr.rbNodes (hg : g.ok) {st lot : List Int} (hs : bits st) (hl : bits lot) (h : lot.length = g.ins) (h' : st.length = g.regs.length) : RB 700 2 (.list ((g.nodes st lot).map PyData.int)) :=
  .list (.bits (k := 350) (Gr.nodes_bits hs hl) (by rw [Gr.many_nodes st lot h h']; have := hg.ins; have := hg.rl; have := hg.al; unfold Gr.many Gr.first; omega))
theorem Gr.okNodes (hg : g.ok) {st lot : List Int} (hs : bits st) (hl : bits lot) (h : lot.length = g.ins) (h' : st.length = g.regs.length) : reprOkP (.list ((g.nodes st lot).map PyData.int)) := RB.ok (Gr.rbNodes hg hs hl h h') (by decide) (by decide)
theorem Gr.okBoth (hg : g.ok) {st lot : List Int} (hs : bits st) (hl : bits lot) (h : lot.length = g.ins) (h' : st.length = g.regs.length) : reprOkP (.list [.list ((g.nodes st lot).map PyData.int), .tuple [lotD (g.outV (g.nodes st lot)), lotD (g.nxtV (g.nodes st lot))]]) :=
  RB.ok (.list (.cons ((Gr.rbNodes hg hs hl h h').mono (Nat.le_refl _) (by decide : 2 ≤ 3)) (.one (Gr.rbStep hg hs hl)))) (by decide) (by decide)
theorem Gr.due_at {k : Int} (h1 : 0 ≤ k) (h2 : k < lots.length) : L2.atI ((g.due lots lots.length).map lotD) k = some (lotD (g.outV (g.nodes (g.stF (lots.take k.toNat)) (lots[k.toNat]'(by omega))))) := by
  rw [atI_mapG h1 (by rw [Gr.due_len]; exact h2)]
  unfold Gr.due
  rw [List.getElem_map, List.getElem_range, List.getD_eq_getElem?_getD, List.getElem?_eq_getElem (by omega)]
  rfl
theorem Gr.sts_at {k : Int} (h1 : 0 ≤ k) (h2 : k ≤ lots.length) : L2.atI ((g.sts lots lots.length).map lotD) k = some (lotD (g.stF (lots.take k.toNat))) := by
  rw [atI_mapG h1 (by rw [Gr.sts_len]; omega)]
  unfold Gr.sts
  rw [List.getElem_map, List.getElem_range]
end
theorem mem_lotI {xs : List D} {x : D} {lo hi : Int} (hm : x ∈ xs) (h : xs.all (fun d => match d with | .int i => decide (lo ≤ i) && decide (i ≤ hi) | _ => false) = true) : ∃ i, x = .int i ∧ lo ≤ i ∧ i ≤ hi := by
  have := List.all_eq_true.mp h x hm
  cases x with
  | int i =>
    simp only [Bool.and_eq_true, decide_eq_true_eq] at this
    exact ⟨i, rfl, this.1, this.2⟩
  | _ => cases this
end DL

set_option Elab.async false
set_option linter.all false
set_option maxRecDepth 100000
set_option maxHeartbeats 4000000
set_option autoImplicit false
namespace DL
open PySem L2
/-! ### clauses -/
def iL2 (vs : List Int) : List D := vs.map PyData.int
/-- each once, by the first place -/
def ddI (ls : List Int) : List Int := ls.foldl (fun acc k => if k ∈ acc then acc else acc ++ [k]) []
/-- the clause of literals, if it has not both literals of a letter -/
def clsI (ls : List Int) : Option (List Int) := if (ddI ls).any (fun x => decide (-x ∈ ddI ls)) then none else some (absL (ddI ls))
def putC (cs : List (List Int)) (ls : List Int) : List (List Int) := match clsI ls with
  | none => cs
  | some c => cs ++ [c]
def csD (cs : List (List Int)) : List D := cs.map fun c => .tuple (iL2 c)
/-- the clause literal of a graph's literal, its letter moved on -/
def movL (l s : Int) : Int := if l.fmod 2 = 0 then l.fdiv 2 + 1 + s else -(l.fdiv 2 + 1 + s)
theorem ddI_len (ls : List Int) : (ddI ls).length ≤ ls.length := by
  have key : ∀ (ls acc : List Int), (ls.foldl (fun acc k => if k ∈ acc then acc else acc ++ [k]) acc).length ≤ acc.length + ls.length := by
    intro ls
    induction ls with
    | nil => intro acc; simp
    | cons a ls ih =>
      intro acc
      rw [List.foldl_cons]
      have := ih (if a ∈ acc then acc else acc ++ [a])
      rw [List.length_cons]
      split at this
      · rw [if_pos (by assumption)]; omega
      · rw [if_neg (by assumption)]; rw [List.length_append, List.length_singleton] at this; omega
  have := key ls []
  rw [List.length_nil, Nat.zero_add] at this
  exact this
theorem ddI_succ {ls : List Int} {j : Nat} (h : j < ls.length) : ddI (ls.take (j + 1)) = if ls[j] ∈ ddI (ls.take j) then ddI (ls.take j) else ddI (ls.take j) ++ [ls[j]] := by
  unfold ddI
  rw [List.take_succ, List.getElem?_eq_getElem h, Option.toList_some, List.foldl_append]
  rfl
def CputC : ConM := fun ds m Q => ∃ (cs : List (List Int)) (ls : List Int), ds = [.none, .list (iL2 ls)] ∧ m = .fl (csD cs) ∧ ls.length ≤ 1000 ∧ cs.length ≤ 1000000 ∧ Q (.fz .none) (.fl (csD (putC cs ls)))
def Cmov : Con := fun ds Q => ∃ l s : Int, ds = [.int l, .int s] ∧ Q (.fz (.int (movL l s)))
def Clto : Con := fun ds Q => ∃ l : Int, ds = [.int l] ∧ Q (.fz (.int (movL l 0)))
/-! ### a dict of literals -/
def wZ (n : Int) : D × D := (.int n, .bool true)
theorem wZ_T (W : List Int) : isT (W.map wZ) = false := by cases W <;> rfl
theorem keyOf_wZ (n k : Int) : (keyOf (wZ n).1 = some (.inl k)) ↔ n = k := by
  show (some (Sum.inl n) : Option Key) = some (.inl k) ↔ _
  constructor
  · intro h
    have := Option.some.inj h
    injection this
  · rintro rfl; rfl
theorem hasE_wZ (W : List Int) (k : Int) : hasE (W.map wZ) (.inl k) = decide (k ∈ W) := by
  unfold hasE
  rw [List.any_map, Bool.eq_iff_iff, List.any_eq_true, decide_eq_true_eq]
  constructor
  · rintro ⟨n, hn, e⟩
    have : n = k := (keyOf_wZ n k).mp (of_decide_eq_true e)
    exact this ▸ hn
  · intro h
    exact ⟨k, h, decide_eq_true ((keyOf_wZ k k).mpr rfl)⟩
theorem putE_wZ (W : List Int) (k : Int) : putE (W.map wZ) (.inl k) (.bool true) = (if k ∈ W then W else W ++ [k]).map wZ := by
  unfold putE
  rw [hasE_wZ]
  by_cases h : k ∈ W
  · rw [decide_eq_true h, if_pos rfl, if_pos h]
    rw [List.map_map]
    refine List.map_congr_left fun n _ => ?_
    show (if keyOf (wZ n).1 = some (Sum.inl k) then ((wZ n).1, PyData.bool true) else wZ n) = wZ n
    split <;> rfl
  · rw [decide_eq_false h, if_neg (by decide), if_neg h, List.map_append]; rfl
end DL

set_option Elab.async false
set_option linter.all false
set_option maxRecDepth 100000
set_option maxHeartbeats 4000000
set_option autoImplicit false
namespace DL
open PySem L2
/-! ### the clause by the law's own making -/
theorem ddI_fold (ls : List Int) : ∀ acc : List Int, acc.Nodup → (ls.foldl (fun acc k => if k ∈ acc then acc else acc ++ [k]) acc).Nodup ∧ ∀ x, x ∈ ls.foldl (fun acc k => if k ∈ acc then acc else acc ++ [k]) acc ↔ x ∈ acc ∨ x ∈ ls := by
  induction ls with
  | nil => intro acc h; exact ⟨h, fun x => by simp⟩
  | cons a ls ih =>
    intro acc h
    rw [List.foldl_cons]
    by_cases e : a ∈ acc
    · rw [if_pos e]
      obtain ⟨h1, h2⟩ := ih acc h
      refine ⟨h1, fun x => ?_⟩
      rw [h2 x, List.mem_cons]
      constructor
      · rintro (h | h)
        · exact .inl h
        · exact .inr (.inr h)
      · rintro (h | rfl | h)
        · exact .inl h
        · exact .inl e
        · exact .inr h
    · rw [if_neg e]
      obtain ⟨h1, h2⟩ := ih (acc ++ [a]) (List.nodup_append.mpr ⟨h, by simp, fun x hx y hy z => e (by rw [← List.mem_singleton.mp hy, ← z]; exact hx)⟩)
      refine ⟨h1, fun x => ?_⟩
      rw [h2 x, List.mem_append, List.mem_singleton, List.mem_cons]
      constructor
      · rintro ((h | h) | h)
        · exact .inl h
        · exact .inr (.inl h)
        · exact .inr (.inr h)
      · rintro (h | h | h)
        · exact .inl (.inl h)
        · exact .inl (.inr h)
        · exact .inr h
theorem ddI_nd (ls : List Int) : (ddI ls).Nodup := (ddI_fold ls [] List.nodup_nil).1
theorem ddI_mem (ls : List Int) (x : Int) : x ∈ ddI ls ↔ x ∈ ls := by
  unfold ddI
  rw [(ddI_fold ls [] List.nodup_nil).2 x]
  simp
theorem nd_le : ∀ {a b : List Int}, a.Nodup → (∀ x ∈ a, x ∈ b) → a.length ≤ b.length
  | [], _, _, _ => Nat.zero_le _
  | x :: a, b, h, hs => by
    have hx : x ∈ b := hs x List.mem_cons_self
    obtain ⟨h1, h2⟩ := List.nodup_cons.mp h
    have := nd_le (a := a) (b := b.erase x) h2 fun y hy => (List.mem_erase_of_ne fun z => h1 (by rw [← z]; exact hy)).mpr (hs y (List.mem_cons_of_mem _ hy))
    rw [List.length_erase_of_mem hx] at this
    have hb : 0 < b.length := List.length_pos_of_mem hx
    rw [List.length_cons]; omega
theorem ddI_lt : ∀ {l : List Int}, ¬ l.Nodup → (ddI l).length < l.length := by
  intro l h
  rcases Nat.lt_or_ge (ddI l).length l.length with e | e
  · exact e
  · refine absurd ?_ h
    have key : ∀ {l m : List Int}, m.Nodup → (∀ x ∈ m, x ∈ l) → l.length ≤ m.length → l.Nodup := by
      intro l
      induction l with
      | nil => intro m _ _ _; exact List.nodup_nil
      | cons a l ih =>
        intro m hm hs hl
        have ha : a ∈ m := by
          rcases Decidable.em (a ∈ m) with q | q
          · exact q
          · have := nd_le (a := m) (b := l) hm fun x hx => by
              rcases List.mem_cons.mp (hs x hx) with z | z
              · exact absurd (z ▸ hx) q
              · exact z
            rw [List.length_cons] at hl; omega
        have hl2 : l.length ≤ (m.erase a).length := by
          rw [List.length_erase_of_mem ha]; rw [List.length_cons] at hl; omega
        have hs2 : ∀ x ∈ m.erase a, x ∈ l := fun x hx => by
          have hne : x ≠ a := (hm.mem_erase_iff.mp hx).1
          rcases List.mem_cons.mp (hs x (List.mem_of_mem_erase hx)) with z | z
          · exact absurd z hne
          · exact z
        have hn := ih (hm.erase a) hs2 hl2
        refine List.nodup_cons.mpr ⟨fun z => ?_, hn⟩
        have h3 : (a :: m.erase a).Nodup := List.nodup_cons.mpr ⟨fun q => (hm.mem_erase_iff.mp q).1 rfl, hm.erase a⟩
        have h4 := nd_le h3 (b := l) fun x hx => by
          rcases List.mem_cons.mp hx with q | q
          · rw [q]; exact z
          · exact hs2 x q
        rw [List.length_cons, List.length_erase_of_mem ha] at h4
        rw [List.length_cons] at hl
        omega
    exact key (ddI_nd l) (fun x hx => (ddI_mem l x).mp hx) e
theorem absI_neg (x : Int) : absI (-x) = absI x := by unfold absI; split <;> split <;> omega
theorem absI_eq {x y : Int} (h : absI x = absI y) : x = y ∨ x = -y := by unfold absI at h; split at h <;> split at h <;> omega
theorem absI_cases (x : Int) : (absI x = x ∧ 0 ≤ x) ∨ (absI x = -x ∧ x < 0) := by unfold absI; split <;> omega
/-- whether some letter has both literals -/
def clash (u : List Int) : Bool := u.any fun x => decide (-x ∈ u)
theorem clash_no {u : List Int} (h : clash u = false) {x : Int} (hx : x ∈ u) : -x ∉ u := fun z => by
  have : clash u = true := List.any_eq_true.mpr ⟨x, hx, decide_eq_true z⟩
  rw [h] at this; cases this
theorem abs_nd {u : List Int} (hn : u.Nodup) (h : clash u = false) : (u.map absI).Nodup := by
  refine List.pairwise_map.mpr (List.Pairwise.imp_of_mem (fun {a b} ha hb hab => ?_) hn)
  intro e
  rcases absI_eq e with z | z
  · exact hab z
  · exact clash_no h hb (by rw [← z]; exact ha)
theorem abs_dup {u : List Int} (hz : ∀ x ∈ u, x ≠ 0) (h : clash u = true) : ¬ (u.map absI).Nodup := by
  obtain ⟨x, hx, e⟩ := List.any_eq_true.mp h
  have e := of_decide_eq_true e
  have hne : x ≠ -x := by have := hz x hx; omega
  intro hn
  obtain ⟨i, hi, ei⟩ := List.mem_iff_getElem.mp hx
  obtain ⟨j, hj, ej⟩ := List.mem_iff_getElem.mp e
  have hij : i ≠ j := fun z => hne (by subst z; exact ei.symm.trans ej)
  have a1 : (u.map absI)[i]'(by rw [List.length_map]; exact hi) = (u.map absI)[j]'(by rw [List.length_map]; exact hj) := by
    rw [List.getElem_map, List.getElem_map, ei, ej, absI_neg]
  exact hij ((List.getElem_inj hn).mp a1)
/-- the law's clause: the letters in order, each with the sign that stands there -/
theorem cls_law {ls some : List Int} (hz : ∀ x ∈ ls, x ≠ 0) (h1 : some.Pairwise (· < ·)) (h2 : ∀ k, k ∈ some ↔ ∃ x ∈ ls, absI x = k) :
    clsI ls = if (ddI ls).length = some.length then .some (some.map fun k => if k ∈ ls then k else -k) else none := by
  have hz2 : ∀ x ∈ ddI ls, x ≠ 0 := fun x hx => hz x ((ddI_mem ls x).mp hx)
  have hs : some.Nodup := h1.imp fun h => by omega
  have m1 : ∀ k, k ∈ some ↔ k ∈ (ddI ls).map absI := fun k => by
    rw [h2 k, List.mem_map]
    constructor
    · rintro ⟨x, hx, e⟩; exact ⟨x, (ddI_mem ls x).mpr hx, e⟩
    · rintro ⟨x, hx, e⟩; exact ⟨x, (ddI_mem ls x).mp hx, e⟩
  have hle : some.length ≤ (ddI ((ddI ls).map absI)).length := nd_le hs fun x hx => (ddI_mem _ _).mpr ((m1 x).mp hx)
  have hge : (ddI ((ddI ls).map absI)).length ≤ some.length := nd_le (ddI_nd _) fun x hx => (m1 x).mpr ((ddI_mem _ _).mp hx)
  cases hc : clash (ddI ls) with
  | true =>
    have hd := ddI_lt (abs_dup hz2 hc)
    rw [List.length_map] at hd
    rw [if_neg (by omega)]
    show (if clash (ddI ls) = true then none else _) = _
    rw [hc]; rfl
  | false =>
    have hn := abs_nd (ddI_nd ls) hc
    have e1 : (ddI ls).length = some.length := by
      have a1 : ((ddI ls).map absI).length ≤ some.length := nd_le hn fun x hx => (m1 x).mpr hx
      have a2 : some.length ≤ ((ddI ls).map absI).length := nd_le hs fun x hx => (m1 x).mp hx
      rw [List.length_map] at a1 a2
      omega
    rw [if_pos e1]
    show (if clash (ddI ls) = true then none else _) = _
    rw [hc, if_neg (by decide)]
    congr 1
    have hp := absL_perm (ddI ls)
    have e2 : some = (absL (ddI ls)).map absI := by
      have p1 : some.Perm ((absL (ddI ls)).map absI) := ((List.perm_ext_iff_of_nodup hs hn).mpr m1).trans (hp.map absI).symm
      refine p1.eq_of_pairwise (le := fun a b : Int => a ≤ b) (fun a b _ _ h1 h2 => by omega) (h1.imp fun h => by omega) ?_
      refine List.pairwise_map.mpr ?_
      have := List.pairwise_mergeSort (le := fun a b : Int => decide (absI a ≤ absI b)) (fun a b c h1 h2 => decide_eq_true (by have := of_decide_eq_true h1; have := of_decide_eq_true h2; omega)) (fun a b => by simp only [Bool.or_eq_true, decide_eq_true_eq]; omega) (ddI ls)
      exact this.imp fun h => of_decide_eq_true h
    rw [e2, List.map_map]
    have e3 : (absL (ddI ls)).map id = (absL (ddI ls)).map ((fun k => if k ∈ ls then k else -k) ∘ absI) := List.map_congr_left fun x hx => by
      have hx : x ∈ ddI ls := hp.mem_iff.mp hx
      show x = if absI x ∈ ls then absI x else -absI x
      rcases absI_cases x with ⟨q, _⟩ | ⟨q, _⟩
      · rw [q, if_pos ((ddI_mem ls x).mp hx)]
      · rw [q, if_neg fun z => clash_no hc hx ((ddI_mem ls _).mpr z)]; omega
    rw [List.map_id] at e3
    exact e3
end DL

set_option Elab.async false
set_option linter.all false
set_option maxRecDepth 100000
set_option maxHeartbeats 4000000
set_option autoImplicit false
namespace DL
open PySem L2
/-! ### what keeps clauses -/
def litT (tv : Int → Int) (l : Int) : Prop := tv (absI l) = l
def clsT (tv : Int → Int) (c : List Int) : Prop := ∃ l ∈ c, litT tv l
def keepsT (tv : Int → Int) (cs : List (List Int)) : Prop := ∀ c ∈ cs, clsT tv c
/-- truths for all letters of some literals -/
def totT (tv : Int → Int) (ls : List Int) : Prop := ∀ l ∈ ls, tv (absI l) = absI l ∨ tv (absI l) = -absI l
theorem totT.cases {tv : Int → Int} {ls : List Int} (h : totT tv ls) {l : Int} (hl : l ∈ ls) : litT tv l ∨ litT tv (-l) := by
  unfold litT
  rw [absI_neg]
  rcases absI_cases l with ⟨e, _⟩ | ⟨e, _⟩
  · rcases h l hl with q | q
    · exact .inl (by rw [q, e])
    · exact .inr (by rw [q, e])
  · rcases h l hl with q | q
    · exact .inr (by rw [q, e])
    · exact .inl (by rw [q, e]; omega)
theorem keeps_put {tv : Int → Int} {cs : List (List Int)} {ls : List Int} (ht : totT tv ls) : keepsT tv (putC cs ls) ↔ keepsT tv cs ∧ clsT tv ls := by
  unfold putC
  cases hc : clash (ddI ls) with
  | true =>
    have e : clsI ls = none := by
      show (if clash (ddI ls) = true then none else _) = _
      rw [hc]; rfl
    rw [e]
    obtain ⟨x, hx, e1⟩ := List.any_eq_true.mp hc
    have hnx := (ddI_mem ls _).mp (of_decide_eq_true e1)
    have hx := (ddI_mem ls _).mp hx
    refine ⟨fun h => ⟨h, ?_⟩, fun h => h.1⟩
    rcases ht.cases hx with q | q
    · exact ⟨x, hx, q⟩
    · exact ⟨-x, hnx, q⟩
  | false =>
    have e : clsI ls = some (absL (ddI ls)) := by
      show (if clash (ddI ls) = true then none else _) = _
      rw [hc]; rfl
    rw [e]
    show keepsT tv (cs ++ [absL (ddI ls)]) ↔ _
    have em : ∀ l, l ∈ absL (ddI ls) ↔ l ∈ ls := fun l => by rw [(absL_perm _).mem_iff, ddI_mem]
    constructor
    · intro h
      refine ⟨fun c hc => h c (List.mem_append_left _ hc), ?_⟩
      obtain ⟨l, hl, q⟩ := h _ (List.mem_append_right _ (List.mem_singleton.mpr rfl))
      exact ⟨l, (em l).mp hl, q⟩
    · rintro ⟨h, l, hl, q⟩ c hc
      rcases List.mem_append.mp hc with z | z
      · exact h c z
      · rw [List.mem_singleton.mp z]
        exact ⟨l, (em l).mpr hl, q⟩
/-- the three clauses of an and node -/
def putAnd (cs : List (List Int)) (y a b : Int) : List (List Int) := putC (putC (putC cs [-y, a]) [-y, b]) [y, -a, -b]
theorem litT_neg {tv : Int → Int} {l : Int} (hl : l ≠ 0) (h : litT tv l ∨ litT tv (-l)) : litT tv (-l) ↔ ¬ litT tv l := by
  unfold litT at h ⊢
  rw [absI_neg] at h ⊢
  constructor
  · intro e z
    rw [e] at z
    omega
  · intro z
    exact h.resolve_left z
theorem keeps_and {tv : Int → Int} {cs : List (List Int)} {y a b : Int} (hy : y ≠ 0) (ha : a ≠ 0) (hb : b ≠ 0) (ht : totT tv [y, a, b]) : keepsT tv (putAnd cs y a b) ↔ keepsT tv cs ∧ (litT tv y ↔ litT tv a ∧ litT tv b) := by
  have ty := ht y (by simp)
  have ta := ht a (by simp)
  have tb := ht b (by simp)
  have cy := litT_neg hy (ht.cases (l := y) (by simp))
  have ca := litT_neg ha (ht.cases (l := a) (by simp))
  have cb := litT_neg hb (ht.cases (l := b) (by simp))
  unfold putAnd
  rw [keeps_put, keeps_put, keeps_put]
  · have e1 : clsT tv [-y, a] ↔ (¬ litT tv y ∨ litT tv a) := by
      unfold clsT; simp only [List.mem_cons, List.mem_nil_iff, or_false, exists_eq_or_imp, exists_eq_left]; rw [cy]
    have e2 : clsT tv [-y, b] ↔ (¬ litT tv y ∨ litT tv b) := by
      unfold clsT; simp only [List.mem_cons, List.mem_nil_iff, or_false, exists_eq_or_imp, exists_eq_left]; rw [cy]
    have e3 : clsT tv [y, -a, -b] ↔ (litT tv y ∨ ¬ litT tv a ∨ ¬ litT tv b) := by
      unfold clsT; simp only [List.mem_cons, List.mem_nil_iff, or_false, exists_eq_or_imp, exists_eq_left]; rw [ca, cb]
    rw [e1, e2, e3]
    by_cases h1 : litT tv y <;> by_cases h2 : litT tv a <;> by_cases h3 : litT tv b <;> simp [h1, h2, h3]
  · intro l hl
    rcases List.mem_cons.mp hl with rfl | hl
    · rw [absI_neg]; exact ty
    · rw [List.mem_singleton.mp hl]; exact ta
  · intro l hl
    rcases List.mem_cons.mp hl with rfl | hl
    · rw [absI_neg]; exact ty
    · rw [List.mem_singleton.mp hl]; exact tb
  · intro l hl
    rcases List.mem_cons.mp hl with rfl | hl
    · exact ty
    · rcases List.mem_cons.mp hl with rfl | hl
      · rw [absI_neg]; exact ta
      · rw [List.mem_singleton.mp hl, absI_neg]; exact tb
end DL

set_option Elab.async false
set_option linter.all false
set_option maxRecDepth 100000
set_option maxHeartbeats 4000000
set_option autoImplicit false
namespace DL
open PySem L2
/-! ### the clauses of a graph and the values of its nodes -/
def tvV (vs : List Int) (s : Int) : Int → Int := fun k => if vs.getD (k - 1 - s).toNat 0 = 1 then k else -k
theorem tvV_tot (vs : List Int) (s : Int) (ls : List Int) : totT (tvV vs s) ls := fun l _ => by
  unfold tvV
  split
  · exact .inl rfl
  · exact .inr rfl
theorem litT_pos {vs : List Int} {s k : Int} (hk : 0 < k) : litT (tvV vs s) k ↔ vs.getD (k - 1 - s).toNat 0 = 1 := by
  have e : absI k = k := by unfold absI; split <;> omega
  unfold litT tvV
  rw [e]
  split
  · exact ⟨fun _ => by assumption, fun _ => rfl⟩
  · exact ⟨fun h => by omega, fun h => by contradiction⟩
theorem litT_negP {vs : List Int} {s k : Int} (hk : 0 < k) : litT (tvV vs s) (-k) ↔ ¬ vs.getD (k - 1 - s).toNat 0 = 1 := by
  rw [litT_neg (by omega) ((tvV_tot vs s [k]).cases (l := k) (by simp)), litT_pos hk]
theorem xor_one {b : Int} (h : bit b) : Builtin.bitXor b 1 = 1 ↔ ¬ b = 1 := by rcases h with rfl | rfl <;> decide
theorem xor_zero {b : Int} (h : bit b) : Builtin.bitXor b 0 = 1 ↔ b = 1 := by rcases h with rfl | rfl <;> decide
theorem and_bits {a b : Int} (h : bit a) (h' : bit b) : Builtin.bitAnd a b = 1 ↔ a = 1 ∧ b = 1 := by rcases h with rfl | rfl <;> rcases h' with rfl | rfl <;> decide
theorem movL_ne {l s : Int} (hl : 0 ≤ l) (hs : 0 ≤ s) : movL l s ≠ 0 := by
  unfold movL
  rw [Int.fdiv_eq_ediv_of_nonneg _ (by decide)]
  split <;> omega
theorem litT_mov {vs : List Int} {s l : Int} (hb : bits vs) (hl : 0 ≤ l) (hs : 0 ≤ s) : litT (tvV vs s) (movL l s) ↔ litV vs l = 1 := by
  have hd : 0 ≤ l.fdiv 2 := by rw [Int.fdiv_eq_ediv_of_nonneg _ (by decide)]; omega
  have e : (l.fdiv 2 + 1 + s - 1 - s) = l.fdiv 2 := by omega
  have hm : l.fmod 2 = 0 ∨ l.fmod 2 = 1 := by rw [Int.fmod_eq_emod_of_nonneg _ (by decide)]; omega
  unfold movL litV
  rcases hm with h | h
  · rw [if_pos h, h, litT_pos (by omega), e, xor_zero (getD_bit hb _)]
  · rw [if_neg (by omega), h, litT_negP (by omega), e, xor_one (getD_bit hb _)]
def gCn (g : Gr) (s : Int) : Nat → List (List Int)
  | 0 => [[-1 - s]]
  | i + 1 => putAnd (gCn g s i) ((g.first : Int) + i + 1 + s) (movL (g.ands.getD i (0, 0)).1 s) (movL (g.ands.getD i (0, 0)).2 s)
def gateOk (g : Gr) (vs : List Int) (k : Nat) : Prop := vs.getD (g.first + k) 0 = 1 ↔ litV vs (g.ands.getD k (0, 0)).1 = 1 ∧ litV vs (g.ands.getD k (0, 0)).2 = 1
theorem getD_and {g : Gr} {k : Nat} (h : k < g.ands.length) : g.ands.getD k (0, 0) = g.ands[k] := by
  rw [List.getD_eq_getElem?_getD, List.getElem?_eq_getElem h]; rfl
theorem keeps_gCn {g : Gr} (hg : g.ok) {vs : List Int} (hb : bits vs) {s : Int} (hs : 0 ≤ s) : ∀ i, i ≤ g.ands.length → (keepsT (tvV vs s) (gCn g s i) ↔ ¬ vs.getD 0 0 = 1 ∧ ∀ k, k < i → gateOk g vs k)
  | 0, _ => by
    have e : (-1 - s : Int) = -(1 + s) := by omega
    have e2 : (1 + s - 1 - s : Int).toNat = 0 := by omega
    unfold gCn keepsT clsT
    simp only [List.mem_singleton, forall_eq, exists_eq_left]
    rw [e, litT_negP (by omega), e2]
    exact ⟨fun h => ⟨h, fun k hk => absurd hk (Nat.not_lt_zero _)⟩, fun h => h.1⟩
  | i + 1, hi => by
    have ih := keeps_gCn hg hb hs i (by omega)
    have hi2 : i < g.ands.length := hi
    obtain ⟨h1, h2⟩ := hg.ands i hi2
    have e3 : ((g.first : Int) + i + 1 + s - 1 - s).toNat = g.first + i := by omega
    show keepsT _ (putAnd (gCn g s i) _ _ _) ↔ _
    rw [getD_and hi2, keeps_and (by omega) (movL_ne h1.1 hs) (movL_ne h2.1 hs) (tvV_tot _ _ _), ih, litT_pos (by omega), e3, litT_mov hb h1.1 hs, litT_mov hb h2.1 hs]
    constructor
    · rintro ⟨⟨a, b⟩, c⟩
      refine ⟨a, fun k hk => ?_⟩
      rcases Nat.lt_succ_iff_lt_or_eq.mp hk with h | h
      · exact b k h
      · subst h
        unfold gateOk
        rw [getD_and hi2]
        exact c
    · rintro ⟨a, b⟩
      refine ⟨⟨a, fun k hk => b k (by omega)⟩, ?_⟩
      have := b i (by omega)
      unfold gateOk at this
      rw [getD_and hi2] at this
      exact this
end DL

set_option Elab.async false
set_option linter.all false
set_option maxRecDepth 100000
set_option maxHeartbeats 4000000
set_option autoImplicit false
namespace DL
open PySem L2
/-! ### the values of the nodes keep them, a turned one breaks one -/
theorem nodesV_pre (vs : List Int) (ps : List (Int × Int)) : ∀ n i, i + n = ps.length → nodesV vs (ps.take i) <+: nodesV vs ps
  | 0, i, h => by rw [List.take_of_length_le (by omega)]; exact List.prefix_refl _
  | n + 1, i, h => by
    have hi : i < ps.length := by omega
    refine List.IsPrefix.trans ?_ (nodesV_pre vs ps n (i + 1) (by omega))
    rw [nodesV_succ _ _ _ hi]
    exact List.prefix_append _ _
theorem getD_pre {a b : List Int} (h : a <+: b) {i : Nat} (hi : i < a.length) : b.getD i 0 = a.getD i 0 := by
  obtain ⟨t, rfl⟩ := h
  rw [List.getD_eq_getElem?_getD, List.getD_eq_getElem?_getD, List.getElem?_append_left hi]
theorem litV_pre {a b : List Int} (h : a <+: b) {l : Int} (hl : inL l a.length) : litV b l = litV a l := by
  have := inL_div hl
  unfold litV
  rw [getD_pre h (by omega)]
section
variable {g : Gr} {st lot : List Int}
theorem nodes_at (hs : st.length = g.regs.length) (hl : lot.length = g.ins) {k : Nat} (hk : k < g.ands.length) : (g.nodes st lot).getD (g.first + k) 0 = Builtin.bitAnd (litV (nodesV (Gr.v0 st lot) (g.ands.take k)) (g.ands[k]).1) (litV (nodesV (Gr.v0 st lot) (g.ands.take k)) (g.ands[k]).2) := by
  have h := nodesV_pre (Gr.v0 st lot) g.ands (g.ands.length - (k + 1)) (k + 1) (by omega)
  have e := Gr.pre_len st lot hs hl k (by omega)
  rw [nodesV_succ _ _ _ hk] at h
  show (nodesV (Gr.v0 st lot) g.ands).getD _ 0 = _
  rw [getD_pre h (by rw [List.length_append, e]; simp), List.getD_eq_getElem?_getD, List.getElem?_append_right (by rw [e]; exact Nat.le_refl _), e, Nat.sub_self]
  rfl
theorem nodes_gate (hg : g.ok) (hs : st.length = g.regs.length) (hl : lot.length = g.ins) (bs : bits st) (bl : bits lot) {k : Nat} (hk : k < g.ands.length) : gateOk g (g.nodes st lot) k := by
  have hb := Gr.nodes_bits (g := g) bs bl
  have e := Gr.pre_len st lot hs hl k (by omega)
  have hp := nodesV_pre (Gr.v0 st lot) g.ands (g.ands.length - k) k (by omega)
  obtain ⟨h1, h2⟩ := hg.ands k hk
  rw [← e] at h1 h2
  have e1 : litV (g.nodes st lot) (g.ands[k]).1 = _ := litV_pre hp h1
  have e2 : litV (g.nodes st lot) (g.ands[k]).2 = _ := litV_pre hp h2
  unfold gateOk
  rw [getD_and hk, nodes_at hs hl hk, ← e1, ← e2]
  exact and_bits (litV_bit hb _) (litV_bit hb _)
theorem nodes_0 : (g.nodes st lot).getD 0 0 = 0 := by
  have hp := nodesV_pre (Gr.v0 st lot) g.ands g.ands.length 0 (by omega)
  show (nodesV (Gr.v0 st lot) g.ands).getD 0 0 = 0
  rw [getD_pre hp (by rw [List.take_zero]; show 0 < (0 :: (lot ++ st)).length; simp), List.take_zero]
  rfl
theorem nodes_keep (hg : g.ok) (hs : st.length = g.regs.length) (hl : lot.length = g.ins) (bs : bits st) (bl : bits lot) {s : Int} (h0 : 0 ≤ s) : keepsT (tvV (g.nodes st lot) s) (gCn g s g.ands.length) := by
  rw [keeps_gCn hg (Gr.nodes_bits bs bl) h0 _ (Nat.le_refl _), nodes_0]
  exact ⟨by decide, fun k hk => nodes_gate hg hs hl bs bl hk⟩
/-- one node's value turned -/
def turned (vs : List Int) (i : Nat) : List Int := vs.set i (1 - vs.getD i 0)
theorem turned_bits {vs : List Int} (h : bits vs) (i : Nat) : bits (turned vs i) := fun x hx => by
  rcases List.mem_or_eq_of_mem_set hx with z | z
  · exact h x z
  · rw [z]; rcases getD_bit h i with e | e <;> rw [e]
    · exact .inr rfl
    · exact .inl rfl
theorem turned_at {vs : List Int} {i : Nat} (h : i < vs.length) : (turned vs i).getD i 0 = 1 - vs.getD i 0 := by
  unfold turned
  rw [List.getD_eq_getElem?_getD, List.getElem?_set_self h]; rfl
theorem turned_ne {vs : List Int} {i j : Nat} (h : j ≠ i) : (turned vs i).getD j 0 = vs.getD j 0 := by
  unfold turned
  rw [List.getD_eq_getElem?_getD, List.getElem?_set_ne (fun z => h z.symm), ← List.getD_eq_getElem?_getD]
theorem turned_breaks (hg : g.ok) (hs : st.length = g.regs.length) (hl : lot.length = g.ins) (bs : bits st) (bl : bits lot) {k : Nat} (hk : k < g.ands.length) {s : Int} (h0 : 0 ≤ s) : ¬ keepsT (tvV (turned (g.nodes st lot) (g.first + k)) s) (gCn g s g.ands.length) := by
  have hb := Gr.nodes_bits (g := g) bs bl
  have hn := Gr.nodes_len (g := g) st lot
  have hf : g.first = 1 + g.ins + g.regs.length := rfl
  rw [keeps_gCn hg (turned_bits hb _) h0 _ (Nat.le_refl _)]
  rintro ⟨_, h⟩
  have h1 := h k hk
  have h2 := nodes_gate hg hs hl bs bl hk
  obtain ⟨i1, i2⟩ := hg.ands k hk
  have e : ∀ l, inL l (g.first + k) → litV (turned (g.nodes st lot) (g.first + k)) l = litV (g.nodes st lot) l := fun l i => by
    have := inL_div i
    unfold litV
    rw [turned_ne (by omega)]
  unfold gateOk at h1 h2
  rw [getD_and hk] at h1 h2
  rw [e _ i1, e _ i2, turned_at (by omega)] at h1
  rcases getD_bit hb (g.first + k) with q | q
  · rw [q] at h1 h2
    exact absurd (h2.mpr (h1.mp rfl)) (by decide)
  · rw [q] at h1 h2
    exact absurd (h1.mpr (h2.mp rfl)) (by decide)
theorem turned0_breaks (hg : g.ok) (bs : bits st) (bl : bits lot) {s : Int} (h0 : 0 ≤ s) : ¬ keepsT (tvV (turned (g.nodes st lot) 0) s) (gCn g s g.ands.length) := by
  have hb := Gr.nodes_bits (g := g) bs bl
  have hn := Gr.nodes_len (g := g) st lot
  rw [keeps_gCn hg (turned_bits hb _) h0 _ (Nat.le_refl _)]
  rintro ⟨h, _⟩
  rw [turned_at (by omega), nodes_0] at h
  exact h rfl
end
end DL
namespace DL
open PySem L2
theorem keysI_wZ (u : List Int) : keysI (u.map wZ) = some u := by
  unfold keysI
  rw [List.map_map]
  have : (u.map (Prod.fst ∘ wZ)) = u.map PyData.int := rfl
  rw [this, intsOf_map]
theorem bools_neg (u : List Int) : boolsOf (u.map fun n => PyData.bool (decide (-n ∈ u))) = some (u.map fun n => decide (-n ∈ u)) := by
  have : (u.map fun n => PyData.bool (decide (-n ∈ u))) = (u.map fun n => decide (-n ∈ u)).map PyData.bool := by rw [List.map_map]; rfl
  rw [this, boolsOf_map]
theorem clash_any (u : List Int) : (u.map fun n => decide (-n ∈ u)).any id = clash u := by rw [List.any_map]; rfl
theorem putC_len (cs : List (List Int)) (ls : List Int) : (putC cs ls).length ≤ cs.length + 1 := by
  unfold putC
  split
  · omega
  · rw [List.length_append, List.length_singleton]; exact Nat.le_refl _
theorem putAnd_len (cs : List (List Int)) (y a b : Int) : (putAnd cs y a b).length ≤ cs.length + 3 := by
  unfold putAnd
  have h1 := putC_len cs [-y, a]
  have h2 := putC_len (putC cs [-y, a]) [-y, b]
  have h3 := putC_len (putC (putC cs [-y, a]) [-y, b]) [y, -a, -b]
  omega
def CputA : ConM := fun ds m Q => ∃ (cs : List (List Int)) (y a b : Int), ds = [.none, .int y, .int a, .int b] ∧ m = .fl (csD cs) ∧ cs.length ≤ 100000 ∧ Q (.fz .none) (.fl (csD (putAnd cs y a b)))
def CputS : ConM := fun ds m Q => ∃ (cs : List (List Int)) (a b : Int), ds = [.none, .int a, .int b] ∧ m = .fl (csD cs) ∧ cs.length ≤ 100000 ∧ Q (.fz .none) (.fl (csD (putC (putC cs [-a, b]) [a, -b])))
end DL

set_option Elab.async false
set_option linter.all false
set_option maxRecDepth 100000
set_option maxHeartbeats 4000000
set_option autoImplicit false
namespace DL
open PySem L2
/-! ### clauses over clocks -/
theorem putC_app (a b : List (List Int)) (ls : List Int) : putC (a ++ b) ls = a ++ putC b ls := by
  unfold putC
  split
  · rfl
  · rw [List.append_assoc]
theorem putAnd_app (a b : List (List Int)) (y p q : Int) : putAnd (a ++ b) y p q = a ++ putAnd b y p q := by
  unfold putAnd
  rw [putC_app, putC_app, putC_app]
def putS (cs : List (List Int)) (a b : Int) : List (List Int) := putC (putC cs [-a, b]) [a, -b]
theorem putS_len (cs : List (List Int)) (a b : Int) : (putS cs a b).length ≤ cs.length + 2 := by
  unfold putS
  have h1 := putC_len cs [-a, b]
  have h2 := putC_len (putC cs [-a, b]) [a, -b]
  omega
theorem gCn_len (g : Gr) (s : Int) : ∀ i, (gCn g s i).length ≤ 1 + 3 * i
  | 0 => by unfold gCn; rw [List.length_singleton]; omega
  | i + 1 => by
    have := gCn_len g s i
    have h := putAnd_len (gCn g s i) ((g.first : Int) + i + 1 + s) (movL (g.ands.getD i (0, 0)).1 s) (movL (g.ands.getD i (0, 0)).2 s)
    unfold gCn
    omega
def rLet (g : Gr) (t : Int) (k : Int) : Int := t * (g.many : Int) + g.ins + k + 2
def rCn (g : Gr) (t : Nat) (cs : List (List Int)) : Nat → List (List Int)
  | 0 => cs
  | k + 1 => putS (rCn g t cs k) (rLet g t k) (movL (g.regs.getD k (0, 0)).2 (((t : Int) - 1) * (g.many : Int)))
theorem rCn_len (g : Gr) (t : Nat) (cs : List (List Int)) : ∀ k, (rCn g t cs k).length ≤ cs.length + 2 * k
  | 0 => Nat.le_refl _
  | k + 1 => by
    have := rCn_len g t cs k
    have h := putS_len (rCn g t cs k) (rLet g t k) (movL (g.regs.getD k (0, 0)).2 (((t : Int) - 1) * (g.many : Int)))
    unfold rCn
    omega
def nRt (g : Gr) (t : Nat) : Nat := if t = 0 then 0 else g.regs.length
def uCn (g : Gr) : Nat → List (List Int)
  | 0 => []
  | t + 1 => rCn g t (uCn g t ++ gCn g ((t : Int) * (g.many : Int)) g.ands.length) (nRt g t)
theorem uCn_len {g : Gr} (hg : g.ok) : ∀ t, (uCn g t).length ≤ 1000 * t
  | 0 => Nat.zero_le _
  | t + 1 => by
    have := uCn_len hg t
    have h1 := gCn_len g ((t : Int) * (g.many : Int)) g.ands.length
    have h2 := rCn_len g t (uCn g t ++ gCn g ((t : Int) * (g.many : Int)) g.ands.length) (nRt g t)
    have h3 : nRt g t ≤ g.regs.length := by unfold nRt; split <;> omega
    have h4 := hg.al
    have h5 := hg.rl
    rw [List.length_append] at h2
    unfold uCn
    omega
def sCn (g : Gr) : List (List Int) := (List.range g.regs.length).map fun k => [if (g.regs.getD k (0, 0)).1 = 1 then rLet g 0 k else -(rLet g 0 k)]
/-! ### letters -/
def absIn (a b : Int) (cs : List (List Int)) : Prop := ∀ c ∈ cs, ∀ l ∈ c, a < absI l ∧ absI l ≤ b
theorem absIn.mono {a b a' b' : Int} {cs : List (List Int)} (h : absIn a b cs) (h1 : a' ≤ a) (h2 : b ≤ b') : absIn a' b' cs := fun c hc l hl => by
  have := h c hc l hl
  omega
theorem absIn.app {a b : Int} {cs ds : List (List Int)} (h : absIn a b cs) (h' : absIn a b ds) : absIn a b (cs ++ ds) := fun c hc => (List.mem_append.mp hc).elim (h c) (h' c)
theorem absIn.put {a b : Int} {cs : List (List Int)} {ls : List Int} (h : absIn a b cs) (h' : ∀ l ∈ ls, a < absI l ∧ absI l ≤ b) : absIn a b (putC cs ls) := by
  unfold putC
  cases hc : clash (ddI ls) with
  | true =>
    have e : clsI ls = none := by
      show (if clash (ddI ls) = true then none else _) = _
      rw [hc]; rfl
    rw [e]; exact h
  | false =>
    have e : clsI ls = some (absL (ddI ls)) := by
      show (if clash (ddI ls) = true then none else _) = _
      rw [hc]; rfl
    rw [e]
    refine h.app fun c hc l hl => ?_
    rw [List.mem_singleton.mp hc, (absL_perm _).mem_iff, ddI_mem] at hl
    exact h' l hl
theorem absI_pos {k : Int} (h : 0 ≤ k) : absI k = k := by unfold absI; split <;> omega
theorem absI_of_neg {k : Int} (h : 0 ≤ k) : absI (-k) = k := by rw [absI_neg, absI_pos h]
theorem absIn.and {a b y p q : Int} {cs : List (List Int)} (h : absIn a b cs) (hy : a < absI y ∧ absI y ≤ b) (hp : a < absI p ∧ absI p ≤ b) (hq : a < absI q ∧ absI q ≤ b) : absIn a b (putAnd cs y p q) := by
  unfold putAnd
  refine ((h.put ?_).put ?_).put ?_
  · intro l hl
    simp only [List.mem_cons, List.mem_nil_iff, or_false] at hl
    rcases hl with rfl | rfl
    · rw [absI_neg]; exact hy
    · exact hp
  · intro l hl
    simp only [List.mem_cons, List.mem_nil_iff, or_false] at hl
    rcases hl with rfl | rfl
    · rw [absI_neg]; exact hy
    · exact hq
  · intro l hl
    simp only [List.mem_cons, List.mem_nil_iff, or_false] at hl
    rcases hl with rfl | rfl | rfl
    · exact hy
    · rw [absI_neg]; exact hp
    · rw [absI_neg]; exact hq
theorem absIn.same {a b p q : Int} {cs : List (List Int)} (h : absIn a b cs) (hp : a < absI p ∧ absI p ≤ b) (hq : a < absI q ∧ absI q ≤ b) : absIn a b (putS cs p q) := by
  unfold putS
  refine (h.put ?_).put ?_
  · intro l hl
    simp only [List.mem_cons, List.mem_nil_iff, or_false] at hl
    rcases hl with rfl | rfl
    · rw [absI_neg]; exact hp
    · exact hq
  · intro l hl
    simp only [List.mem_cons, List.mem_nil_iff, or_false] at hl
    rcases hl with rfl | rfl
    · exact hp
    · rw [absI_neg]; exact hq
theorem absI_mov {l s : Int} {n : Nat} (hl : inL l n) (hs : 0 ≤ s) : s < absI (movL l s) ∧ absI (movL l s) ≤ n + s := by
  have := inL_div hl
  unfold movL
  split
  · rw [absI_pos (by omega)]; omega
  · rw [absI_of_neg (by omega)]; omega
theorem gCn_in {g : Gr} (hg : g.ok) {s : Int} (hs : 0 ≤ s) : ∀ i, i ≤ g.ands.length → absIn s (g.many + s) (gCn g s i)
  | 0, _ => by
    unfold gCn
    intro c hc l hl
    rw [List.mem_singleton.mp hc, List.mem_singleton] at hl
    have e : l = -(1 + s) := by omega
    rw [e, absI_of_neg (by omega)]
    unfold Gr.many Gr.first
    omega
  | i + 1, hi => by
    have ih := gCn_in hg hs i (by omega)
    obtain ⟨h1, h2⟩ := hg.ands i hi
    have m1 := absI_mov h1 hs
    have m2 := absI_mov h2 hs
    unfold gCn
    rw [getD_and hi]
    have em : (g.many : Int) = g.first + g.ands.length := by unfold Gr.many; omega
    refine ih.and ?_ ⟨m1.1, by omega⟩ ⟨m2.1, by omega⟩
    rw [absI_pos (by omega)]
    omega
/-! ### truths that agree on letters -/
theorem litT_congr {tv tv' : Int → Int} {l : Int} (h : tv (absI l) = tv' (absI l)) : litT tv l ↔ litT tv' l := by unfold litT; rw [h]
theorem keepsT_congr {tv tv' : Int → Int} {a b : Int} {cs : List (List Int)} (hc : absIn a b cs) (h : ∀ k, a < k → k ≤ b → tv k = tv' k) : keepsT tv cs ↔ keepsT tv' cs := by
  unfold keepsT clsT
  refine ⟨fun q c hm => ?_, fun q c hm => ?_⟩
  · obtain ⟨l, hl, z⟩ := q c hm
    have := hc c hm l hl
    exact ⟨l, hl, (litT_congr (h _ this.1 this.2)).mp z⟩
  · obtain ⟨l, hl, z⟩ := q c hm
    have := hc c hm l hl
    exact ⟨l, hl, (litT_congr (h _ this.1 this.2)).mpr z⟩
theorem keeps_app {tv : Int → Int} {a b : List (List Int)} : keepsT tv (a ++ b) ↔ keepsT tv a ∧ keepsT tv b := by
  unfold keepsT
  constructor
  · intro h
    exact ⟨fun c hc => h c (List.mem_append_left _ hc), fun c hc => h c (List.mem_append_right _ hc)⟩
  · rintro ⟨h1, h2⟩ c hc
    exact (List.mem_append.mp hc).elim (h1 c) (h2 c)
theorem keeps_same {tv : Int → Int} {cs : List (List Int)} {a b : Int} (ha : a ≠ 0) (hb : b ≠ 0) (ht : totT tv [a, b]) : keepsT tv (putS cs a b) ↔ keepsT tv cs ∧ (litT tv a ↔ litT tv b) := by
  have ta := ht a (by simp)
  have tb := ht b (by simp)
  have ca := litT_neg ha (ht.cases (l := a) (by simp))
  have cb := litT_neg hb (ht.cases (l := b) (by simp))
  unfold putS
  rw [keeps_put, keeps_put]
  · have e1 : clsT tv [-a, b] ↔ (¬ litT tv a ∨ litT tv b) := by
      unfold clsT; simp only [List.mem_cons, List.mem_nil_iff, or_false, exists_eq_or_imp, exists_eq_left]; rw [ca]
    have e2 : clsT tv [a, -b] ↔ (litT tv a ∨ ¬ litT tv b) := by
      unfold clsT; simp only [List.mem_cons, List.mem_nil_iff, or_false, exists_eq_or_imp, exists_eq_left]; rw [cb]
    rw [e1, e2]
    by_cases h1 : litT tv a <;> by_cases h2 : litT tv b <;> simp [h1, h2]
  · intro l hl
    rcases List.mem_cons.mp hl with rfl | hl
    · rw [absI_neg]; exact ta
    · rw [List.mem_singleton.mp hl]; exact tb
  · intro l hl
    rcases List.mem_cons.mp hl with rfl | hl
    · exact ta
    · rw [List.mem_singleton.mp hl, absI_neg]; exact tb
end DL

set_option Elab.async false
set_option linter.all false
set_option maxRecDepth 100000
set_option maxHeartbeats 4000000
set_option autoImplicit false
namespace DL
open PySem L2
/-! ### the values of a run keep the clauses over clocks -/
section
variable {g : Gr}
theorem nodes_st {st lot : List Int} (hl : lot.length = g.ins) {k : Nat} (hk : k < st.length) : (g.nodes st lot).getD (1 + g.ins + k) 0 = st.getD k 0 := by
  have hp := nodesV_pre (Gr.v0 st lot) g.ands g.ands.length 0 (by omega)
  show (nodesV (Gr.v0 st lot) g.ands).getD _ 0 = _
  have e0 : nodesV (Gr.v0 st lot) (g.ands.take 0) = 0 :: (lot ++ st) := by rw [List.take_zero]; rfl
  rw [e0] at hp
  rw [getD_pre hp (by simp; omega)]
  have e : 1 + g.ins + k = (lot.length + k) + 1 := by omega
  rw [e, List.getD_cons_succ, List.getD_eq_getElem?_getD, List.getElem?_append_right (by omega), List.getD_eq_getElem?_getD]
  congr 2
  omega
def wRun (g : Gr) (lots : List (List Int)) : Nat → List Int
  | 0 => []
  | t + 1 => wRun g lots t ++ g.nodes (g.stF (lots.take t)) (lots.getD t [])
structure LotsT (g : Gr) (lots : List (List Int)) (T : Nat) : Prop where
  len : lots.length = T
  ok : LotsOk g lots
theorem lots_at {lots : List (List Int)} {T t : Nat} (h : LotsT g lots T) (ht : t < T) : (lots.getD t []).length = g.ins ∧ bits (lots.getD t []) := by
  have hl := h.len
  have hm : lots.getD t [] ∈ lots := by
    rw [List.getD_eq_getElem?_getD, List.getElem?_eq_getElem (by omega)]
    exact List.getElem_mem _
  exact ⟨h.ok.len _ hm, h.ok.bit _ hm⟩
theorem wRun_len {lots : List (List Int)} {T : Nat} (h : LotsT g lots T) : ∀ t, t ≤ T → (wRun g lots t).length = t * g.many
  | 0, _ => by rw [Nat.zero_mul]; rfl
  | t + 1, ht => by
    have ih := wRun_len h t (by omega)
    have := (lots_at h (t := t) (by omega)).1
    unfold wRun
    rw [List.length_append, ih, Gr.many_nodes _ _ this (Gr.stF_len _), Nat.succ_mul]
theorem wRun_at {lots : List (List Int)} {T : Nat} (h : LotsT g lots T) {t i : Nat} (hi : i < g.many) : ∀ U, t < U → U ≤ T → (wRun g lots U).getD (t * g.many + i) 0 = (g.nodes (g.stF (lots.take t)) (lots.getD t [])).getD i 0
  | 0, h1, _ => absurd h1 (Nat.not_lt_zero _)
  | U + 1, h1, h2 => by
    have hl := wRun_len h U (by omega)
    unfold wRun
    rw [List.getD_eq_getElem?_getD, List.getD_eq_getElem?_getD]
    rcases Nat.lt_succ_iff_lt_or_eq.mp h1 with q | q
    · have ih := wRun_at h hi U q (by omega)
      have hb : t * g.many + i < U * g.many := by
        have : (t + 1) * g.many ≤ U * g.many := Nat.mul_le_mul_right _ q
        rw [Nat.succ_mul] at this
        omega
      rw [List.getElem?_append_left (by omega), ← List.getD_eq_getElem?_getD, ih, List.getD_eq_getElem?_getD]
    · subst q
      rw [List.getElem?_append_right (by omega), hl, Nat.add_sub_cancel_left]
      simp only [List.getD_eq_getElem?_getD]
/-- at a clock's letters -/
theorem tv_run {lots : List (List Int)} {T : Nat} (h : LotsT g lots T) {t : Nat} (ht : t < T) {k : Int} (h1 : (t : Int) * (g.many : Int) < k) (h2 : k ≤ (g.many : Int) + (t : Int) * (g.many : Int)) : tvV (wRun g lots T) 0 k = tvV (g.nodes (g.stF (lots.take t)) (lots.getD t [])) ((t : Int) * (g.many : Int)) k := by
  unfold tvV
  have h0 : (0 : Int) ≤ (t : Int) * (g.many : Int) := Int.mul_nonneg (by omega) (by omega)
  have em : ((t * g.many : Nat) : Int) = (t : Int) * (g.many : Int) := by rw [Int.natCast_mul]
  have e : (k - 1 - 0).toNat = t * g.many + (k - 1 - (t : Int) * (g.many : Int)).toNat := by omega
  rw [e, wRun_at h (by omega) T ht (Nat.le_refl _)]
theorem bits_run {lots : List (List Int)} {T : Nat} (hg : g.ok) (h : LotsT g lots T) {t : Nat} (ht : t < T) : bits (g.nodes (g.stF (lots.take t)) (lots.getD t [])) :=
  Gr.nodes_bits (Gr.stF_bits hg _ fun l hl => h.ok.bit l (List.mem_of_mem_take hl)) (lots_at h ht).2
theorem keeps_rCn (hg : g.ok) {tv : Int → Int} (ht : ∀ ls, totT tv ls) {t : Nat} (h0 : 0 < t) (cs : List (List Int)) : ∀ k, k ≤ g.regs.length → (keepsT tv (rCn g t cs k) ↔ keepsT tv cs ∧ ∀ j, j < k → (litT tv (rLet g t j) ↔ litT tv (movL (g.regs.getD j (0, 0)).2 (((t : Int) - 1) * (g.many : Int)))))
  | 0, _ => ⟨fun h => ⟨h, fun j hj => absurd hj (Nat.not_lt_zero _)⟩, fun h => h.1⟩
  | k + 1, hk => by
    have ih := keeps_rCn hg ht h0 cs k (by omega)
    have hr := hg.regs _ (List.getElem_mem (show k < g.regs.length from hk))
    have er : g.regs.getD k (0, 0) = g.regs[k] := by rw [List.getD_eq_getElem?_getD, List.getElem?_eq_getElem (show k < g.regs.length from hk)]; rfl
    have p0 : (0 : Int) ≤ (t : Int) * (g.many : Int) := Int.mul_nonneg (by omega) (by omega)
    have p1 : (0 : Int) ≤ ((t : Int) - 1) * (g.many : Int) := Int.mul_nonneg (by omega) (by omega)
    unfold rCn
    rw [keeps_same (by unfold rLet; omega) (by rw [er]; exact movL_ne hr.2.1 p1) (ht _), ih]
    constructor
    · rintro ⟨⟨a, b⟩, c⟩
      refine ⟨a, fun j hj => ?_⟩
      rcases Nat.lt_succ_iff_lt_or_eq.mp hj with h | h
      · exact b j h
      · subst h; exact c
    · rintro ⟨a, b⟩
      exact ⟨⟨a, fun j hj => b j (by omega)⟩, b k (by omega)⟩
theorem run_keeps (hg : g.ok) {lots : List (List Int)} {T : Nat} (h : LotsT g lots T) : ∀ t, t ≤ T → keepsT (tvV (wRun g lots T) 0) (uCn g t)
  | 0, _ => fun c hc => by cases hc
  | t + 1, ht => by
    have ih := run_keeps hg h t (by omega)
    have p0 : (0 : Int) ≤ (t : Int) * (g.many : Int) := Int.mul_nonneg (by omega) (by omega)
    have hlot := lots_at h (t := t) (by omega)
    have a1 : keepsT (tvV (wRun g lots T) 0) (gCn g ((t : Int) * (g.many : Int)) g.ands.length) := by
      rw [keepsT_congr (gCn_in hg p0 _ (Nat.le_refl _)) fun k h1 h2 => tv_run h (by omega) h1 h2]
      exact nodes_keep hg (Gr.stF_len _) hlot.1 (Gr.stF_bits hg _ fun l hl => h.ok.bit l (List.mem_of_mem_take hl)) hlot.2 p0
    unfold uCn
    by_cases hz : t = 0
    · subst hz
      show keepsT _ (uCn g 0 ++ _)
      exact keeps_app.mpr ⟨ih, a1⟩
    · have e : nRt g t = g.regs.length := if_neg hz
      rw [e, keeps_rCn hg (fun ls => tvV_tot _ _ _) (by omega) _ _ (Nat.le_refl _), keeps_app]
      refine ⟨⟨ih, a1⟩, fun j hj => ?_⟩
      have hr := hg.regs _ (List.getElem_mem hj)
      have er : g.regs.getD j (0, 0) = g.regs[j] := by rw [List.getD_eq_getElem?_getD, List.getElem?_eq_getElem hj]; rfl
      have hm : 1 + g.ins + j < g.many := by unfold Gr.many Gr.first; omega
      have em : ((t * g.many : Nat) : Int) = (t : Int) * (g.many : Int) := by rw [Int.natCast_mul]
      obtain ⟨u, rfl⟩ : ∃ u, t = u + 1 := ⟨t - 1, by omega⟩
      have hlotu := lots_at h (t := u) (by omega)
      have pu : (0 : Int) ≤ (u : Int) * (g.many : Int) := Int.mul_nonneg (by omega) (by omega)
      have eu : (((u + 1 : Nat) : Int) - 1) * (g.many : Int) = (u : Int) * (g.many : Int) := by
        congr 1; omega
      rw [er, eu]
      have mv := absI_mov hr.2 pu
      rw [litT_congr (tv_run h (t := u) (by omega) mv.1 mv.2), litT_mov (bits_run hg h (by omega)) hr.2.1 pu]
      have hz1 : rLet g ((u + 1 : Nat) : Int) (j : Int) = ((u + 1 : Nat) : Int) * (g.many : Int) + g.ins + j + 2 := rfl
      rw [litT_pos (by rw [hz1]; omega), hz1]
      have ez : (((u + 1 : Nat) : Int) * (g.many : Int) + g.ins + j + 2 - 1 - 0).toNat = (u + 1) * g.many + (1 + g.ins + j) := by omega
      have hul : u < lots.length := by have := h.len; omega
      have ex : lots.getD u [] = lots[u] := by rw [List.getD_eq_getElem?_getD, List.getElem?_eq_getElem hul]; rfl
      rw [ez, wRun_at h hm T (by omega) (Nat.le_refl _), nodes_st hlot.1 (by rw [Gr.stF_len]; exact hj), Gr.stF_succ lots u hul, ← ex]
      have e9 : (g.nxtV (g.nodes (g.stF (lots.take u)) (lots.getD u []))).getD j 0 = litV (g.nodes (g.stF (lots.take u)) (lots.getD u [])) (g.regs[j]).2 := by
        unfold Gr.nxtV
        rw [List.getD_eq_getElem?_getD, List.getElem?_map, List.getElem?_eq_getElem hj]; rfl
      rw [e9]
theorem start_keeps (hg : g.ok) {lots : List (List Int)} {T : Nat} (h : LotsT g lots T) (hT : 0 < T) : keepsT (tvV (wRun g lots T) 0) (sCn g) := by
  intro c hc
  obtain ⟨k, hk, rfl⟩ := List.mem_map.mp hc
  have hk := List.mem_range.mp hk
  have hr := hg.regs _ (List.getElem_mem hk)
  have er : g.regs.getD k (0, 0) = g.regs[k] := by rw [List.getD_eq_getElem?_getD, List.getElem?_eq_getElem hk]; rfl
  have hm : 1 + g.ins + k < g.many := by unfold Gr.many Gr.first; omega
  have hlot := lots_at h (t := 0) hT
  have hz1 : rLet g 0 (k : Int) = (g.ins : Int) + k + 2 := by unfold rLet; rw [Int.zero_mul]; omega
  have ev := wRun_at h hm T hT (Nat.le_refl _)
  rw [nodes_st hlot.1 (by rw [Gr.stF_len]; exact hk), List.take_zero, show g.stF [] = g.st0 from rfl] at ev
  have e9 : g.st0.getD k 0 = (g.regs[k]).1 := by
    unfold Gr.st0
    rw [List.getD_eq_getElem?_getD, List.getElem?_map, List.getElem?_eq_getElem hk]; rfl
  rw [e9] at ev
  have ez : ((g.ins : Int) + k + 2 - 1 - 0).toNat = 0 * g.many + (1 + g.ins + k) := by omega
  refine ⟨_, List.mem_singleton.mpr rfl, ?_⟩
  rw [er, hz1]
  split
  · rename_i q
    rw [litT_pos (by omega), ez, ev]; exact q
  · rename_i q
    rw [litT_negP (by omega), ez, ev]; exact q
theorem uCn_in (hg : g.ok) : ∀ t : Nat, absIn 0 ((t : Int) * (g.many : Int)) (uCn g t)
  | 0 => fun c hc => by cases hc
  | t + 1 => by
    have ih := uCn_in hg t
    have p0 : (0 : Int) ≤ (t : Int) * (g.many : Int) := Int.mul_nonneg (by omega) (by omega)
    have es : ((t + 1 : Nat) : Int) * (g.many : Int) = (t : Int) * (g.many : Int) + (g.many : Int) := by
      rw [Int.natCast_add, Int.add_mul]; simp
    have a1 : absIn 0 (((t + 1 : Nat) : Int) * (g.many : Int)) (uCn g t ++ gCn g ((t : Int) * (g.many : Int)) g.ands.length) :=
      (ih.mono (Int.le_refl _) (by omega)).app ((gCn_in hg p0 _ (Nat.le_refl _)).mono p0 (by omega))
    unfold uCn
    have key : ∀ k, k ≤ nRt g t → absIn 0 (((t + 1 : Nat) : Int) * (g.many : Int)) (rCn g t (uCn g t ++ gCn g ((t : Int) * (g.many : Int)) g.ands.length) k) := by
      intro k
      induction k with
      | zero => intro _; exact a1
      | succ k ih2 =>
        intro hk
        have ht : t ≠ 0 := fun z => by unfold nRt at hk; rw [if_pos z] at hk; omega
        have hk2 : k < g.regs.length := by unfold nRt at hk; rw [if_neg ht] at hk; omega
        have hr := hg.regs _ (List.getElem_mem hk2)
        have er : g.regs.getD k (0, 0) = g.regs[k] := by rw [List.getD_eq_getElem?_getD, List.getElem?_eq_getElem hk2]; rfl
        have pu : (0 : Int) ≤ ((t : Int) - 1) * (g.many : Int) := Int.mul_nonneg (by omega) (by omega)
        have mv := absI_mov hr.2 pu
        have eu : ((t : Int) - 1) * (g.many : Int) = (t : Int) * (g.many : Int) - (g.many : Int) := by rw [Int.sub_mul]; omega
        have hm : (1 : Int) + g.ins + k < g.many := by unfold Gr.many Gr.first; omega
        have hz1 : rLet g (t : Int) (k : Int) = (t : Int) * (g.many : Int) + g.ins + k + 2 := rfl
        unfold rCn
        refine (ih2 (by omega)).same ?_ ?_
        · rw [hz1, absI_pos (by omega)]; omega
        · rw [er]; omega
    exact key _ (Nat.le_refl _)
theorem sCn_in (hg : g.ok) : absIn 0 (g.many : Int) (sCn g) := by
  intro c hc l hl
  obtain ⟨k, hk, rfl⟩ := List.mem_map.mp hc
  have hk := List.mem_range.mp hk
  have hz1 : rLet g 0 (k : Int) = (g.ins : Int) + k + 2 := by unfold rLet; rw [Int.zero_mul]; omega
  have hm : (1 : Int) + g.ins + k < g.many := by unfold Gr.many Gr.first; omega
  rw [List.mem_singleton] at hl
  rw [hl, hz1]
  split
  · rw [absI_pos (by omega)]; omega
  · rw [absI_of_neg (by omega)]; omega
end
end DL

set_option Elab.async false
set_option linter.all false
set_option maxRecDepth 100000
set_option maxHeartbeats 4000000
set_option autoImplicit false
namespace DL
open PySem L2
/-! ### what is asked of the defs of k84 -/
def CputG : ConM := fun ds m Q => ∃ (cs : List (List Int)) (g : Gr) (s : Int), ds = [.none, g.toD, .int s] ∧ m = .fl (csD cs) ∧ g.ok ∧ cs.length ≤ 50000 ∧ Q (.fz .none) (.fl (csD (cs ++ gCn g s g.ands.length)))
def CfstG : Con := fun ds Q => ∃ g : Gr, ds = [g.toD] ∧ g.ok ∧ Q (.fz (.int g.first))
def CsizG : Con := fun ds Q => ∃ g : Gr, ds = [g.toD] ∧ g.ok ∧ Q (.fz (.int g.many))
def CrLet : Con := fun ds Q => ∃ (g : Gr) (k t : Int), ds = [g.toD, .int k, .int t] ∧ g.ok ∧ (0 ≤ t ∧ t ≤ 100) ∧ Q (.fz (.int (rLet g t k)))
def CcloG : Con := fun ds Q => ∃ g : Gr, ds = [g.toD] ∧ g.ok ∧ Q (.nw (.list (csD (gCn g 0 g.ands.length))))
def CcloL : Con := fun ds Q => ∃ (g : Gr) (s : Int), ds = [g.toD, .int s] ∧ g.ok ∧ 0 ≤ s ∧ Q (.nw (.list (csD (gCn g s g.ands.length))))
def CunrG : Con := fun ds Q => ∃ (g : Gr) (t : Nat), ds = [g.toD, .int (t : Int)] ∧ g.ok ∧ t ≤ 10 ∧ Q (.nw (.list (csD (uCn g t))))
def CstaG : Con := fun ds Q => ∃ g : Gr, ds = [g.toD] ∧ g.ok ∧ Q (.nw (.list (csD (sCn g))))
def CputL : ConM := fun ds m Q => ∃ (cs : List (List Int)) (ls : List Int), ds = [.none, .list (iL2 ls)] ∧ m = .fl (csD cs) ∧ ls.length ≤ 60 ∧ (∀ x ∈ ls, x ≠ 0) ∧ cs.length ≤ 1000000 ∧ Q (.fz .none) (.fl (csD (putC cs ls)))
theorem cmul_s {a b : Int} (h : 0 ≤ a ∧ a ≤ 1000000) : CMul a b := .inl ⟨by omega, by omega⟩
theorem csD_app (a b : List (List Int)) : csD (a ++ b) = csD a ++ csD b := by unfold csD; rw [List.map_append]
theorem csD_len (a : List (List Int)) : (csD a).length = a.length := by unfold csD; rw [List.length_map]
theorem rCn_sj (g : Gr) (t : Nat) (cs : List (List Int)) (k : Nat) : rCn g t cs (k + 1) = putS (rCn g t cs k) (rLet g t k) (movL (g.regs.getD k (0, 0)).2 (((t : Int) - 1) * (g.many : Int))) := rfl
theorem gCn_sj (g : Gr) (s : Int) (i : Nat) : gCn g s (i + 1) = putAnd (gCn g s i) ((g.first : Int) + i + 1 + s) (movL (g.ands.getD i (0, 0)).1 s) (movL (g.ands.getD i (0, 0)).2 s) := rfl
theorem getD_reg {g : Gr} {k : Nat} (h : k < g.regs.length) : g.regs.getD k (0, 0) = g.regs[k] := by
  rw [List.getD_eq_getElem?_getD, List.getElem?_eq_getElem h]; rfl
end DL
namespace DL
open PySem L2
theorem get_enumP {ps : List (Int × Int)} {i : Nat} {x : D} (h : (enumD (ps.map pD))[i]? = some x) : ∃ (hi : i < ps.length), x = .tuple [.int i, pD ps[i]] := by
  unfold enumD at h
  rw [List.getElem?_mapIdx, List.getElem?_map] at h
  cases e : ps[i]? with
  | none => rw [e] at h; cases h
  | some p =>
    rw [e] at h; cases h
    obtain ⟨hi, e⟩ := List.getElem?_eq_some_iff.mp e
    exact ⟨hi, by rw [e]⟩
theorem enumP_len (ps : List (Int × Int)) : (enumD (ps.map pD)).length = ps.length := by simp [enumD]
theorem csD_0 (cs : List (List Int)) (g : Gr) (s : Int) : csD (cs ++ gCn g s 0) = csD cs ++ [.tuple [.int (-1 - s)]] := by rw [csD_app]; rfl
end DL
namespace DL
open PySem L2
theorem rng0_get {n : Nat} {i : Nat} {x : D} (h : (rngD 0 ((n : Int)).toNat)[i]? = some x) : i < n ∧ x = .int (i : Int) := by
  rw [Int.toNat_natCast] at h
  have hl : i < n := by have := (List.getElem?_eq_some_iff.mp h).1; rwa [rngD_length] at this
  refine ⟨hl, ?_⟩
  unfold rngD at h
  rw [List.getElem?_map, List.getElem?_range hl] at h
  cases h
  show PyData.int (0 + (i : Int)) = _
  rw [Int.zero_add]
theorem useB_en {b : Bool} {A C : Prop} {dg : DG} {db : DS} {DD : DEnds} {ρ : Rho} (P : List D → Prop) (h : b = true → (∀ ds, P ds → dLoop dg db DD ds ρ) → A) (h0 : b = false → P []) (loop : ∀ ds, P ds → dLoop dg db DD ds ρ) (hC : C) :
    useB b A (C ∧ dLoop dg db DD [] ρ) := useB_b (fun e => h e loop) (fun e => ⟨hC, loop _ (h0 e)⟩)
end DL
namespace DL
open PySem L2
theorem get_zipC {xs ys : List D} {i : Nat} {x : D} (h : (zipD xs ys)[i]? = some x) : ∃ (hi : i < xs.length) (hj : i < ys.length), x = .tuple [xs[i], ys[i]] := by
  unfold zipD at h
  rw [List.getElem?_zipWith] at h
  split at h
  · rename_i a b e1 e2
    obtain ⟨hi, e1⟩ := List.getElem?_eq_some_iff.mp e1
    obtain ⟨hj, e2⟩ := List.getElem?_eq_some_iff.mp e2
    cases h
    exact ⟨hi, hj, by rw [e1, e2]⟩
  · cases h
theorem zipC_len {xs ys : List D} (h : xs.length = ys.length) : (zipD xs ys).length = xs.length := by unfold zipD; rw [List.length_zipWith, h, Nat.min_self]
def sC1 (g : Gr) (k : Nat) : List Int := [if (g.regs.getD k (0, 0)).1 = 1 then rLet g 0 k else -(rLet g 0 k)]
theorem sCn_eq (g : Gr) : sCn g = (List.range g.regs.length).map (sC1 g) := rfl
def letD (g : Gr) (n : Nat) : List D := (List.range n).map fun k : Nat => .int (rLet g 0 (k : Int))
theorem letD_succ (g : Gr) (n : Nat) : letD g (n + 1) = letD g n ++ [.int (rLet g 0 (n : Int))] := by unfold letD; rw [List.range_succ, List.map_append]; rfl
theorem letD_len (g : Gr) (n : Nat) : (letD g n).length = n := by unfold letD; rw [List.length_map, List.length_range]
theorem letD_get (g : Gr) {n k : Nat} (h : k < (letD g n).length) : (letD g n)[k] = .int (rLet g 0 (k : Int)) := by
  have e : (letD g n)[k]? = some (.int (rLet g 0 (k : Int))) := by
    have hk : k < n := by rwa [letD_len] at h
    unfold letD
    rw [List.getElem?_map, List.getElem?_range hk]; rfl
  rw [List.getElem?_eq_getElem h] at e
  exact Option.some.inj e
def sC0 (g : Gr) (n : Nat) : List D := csD ((List.range n).map (sC1 g))
theorem sC0_succ (g : Gr) (n : Nat) : sC0 g (n + 1) = sC0 g n ++ [.tuple (iL2 (sC1 g n))] := by unfold sC0; rw [List.range_succ, List.map_append, csD_app]; rfl
theorem sC0_len (g : Gr) (n : Nat) : (sC0 g n).length = n := by unfold sC0; rw [csD_len, List.length_map, List.length_range]
theorem sC0_eq (g : Gr) : sC0 g g.regs.length = csD (sCn g) := rfl
theorem rngN_get {n : Nat} {i : Nat} {x : D} {ds : List D} (h : (rngD 0 ((ds.length : Int)).toNat)[i]? = some x) (e : ds.length = n) : i < n ∧ x = .int (i : Int) := by
  rw [e] at h; exact rng0_get h
end DL

set_option Elab.async false
set_option linter.all false
set_option maxRecDepth 100000
set_option maxHeartbeats 4000000
set_option autoImplicit false
namespace DL
open PySem L2
/-! ### truths as dicts -/
def tZ (s : Int) (W : List Int) (n : Nat) : Key × D := (.inl ((n : Int) + 1 + s), .int (if W.getD n 0 = 1 then (n : Int) + 1 + s else -((n : Int) + 1 + s)))
def entZ (s : Int) (W : List Int) : List (Key × D) := (List.range W.length).map (tZ s W)
def entD (s : Int) (W : List Int) : List (D × D) := kdE (entZ s W)
theorem entD_T (s : Int) (W : List Int) : isT (entD s W) = false := by
  unfold entD entZ kdE
  cases h : List.range W.length with
  | nil => rfl
  | cons a l => rfl
theorem entD_len (s : Int) (W : List Int) : (entD s W).length = W.length := by unfold entD kdE entZ; rw [List.length_map, List.length_map, List.length_range]
theorem kdE_app (a b : List (Key × D)) : kdE (a ++ b) = kdE a ++ kdE b := by unfold kdE; rw [List.map_append]
theorem hasE_kdE (es : List (Key × D)) (k : Key) : hasE (kdE es) k = es.any fun p => decide (p.1 = k) := by
  unfold hasE kdE
  rw [List.any_map]
  congr 1
  funext p
  show decide (keyOf (keyD p.1) = some k) = _
  rw [keyOf_keyD]
  simp
theorem mergeE_new : ∀ (mo es : List (Key × D)), (∀ p ∈ mo, ∀ q ∈ es, q.1 ≠ p.1) → (mo.map (·.1)).Nodup → mergeE (kdE es) (kdE mo) = kdE (es ++ mo)
  | [], es, _, _ => by rw [List.append_nil]; rfl
  | p :: mo, es, h, hn => by
    rw [List.map_cons] at hn
    obtain ⟨h1, h2⟩ := List.nodup_cons.mp hn
    have e : mergeE (kdE es) (kdE (p :: mo)) = mergeE (putE (kdE es) p.1 p.2) (kdE mo) := by
      unfold mergeE kdE
      rw [List.map_cons, List.foldl_cons]
      congr 1
      show (match keyOf (keyD p.1) with | some k => _ | none => _) = _
      rw [keyOf_keyD]
    have e2 : putE (kdE es) p.1 p.2 = kdE (es ++ [p]) := by
      unfold putE
      rw [hasE_kdE, if_neg]
      · rw [kdE_app]; rfl
      · intro z
        obtain ⟨q, hq, e⟩ := List.any_eq_true.mp z
        exact h p List.mem_cons_self q hq (of_decide_eq_true e)
    rw [e, e2, mergeE_new mo (es ++ [p]) (fun r hr q hq => ?_) h2, List.append_assoc]
    · rfl
    · rcases List.mem_append.mp hq with z | z
      · exact h r (List.mem_cons_of_mem _ hr) q z
      · rw [List.mem_singleton.mp z]
        intro w
        exact h1 (List.mem_map.mpr ⟨r, hr, w.symm⟩)
theorem entZ_keys (s : Int) (W : List Int) : ((entZ s W).map (·.1)).Nodup := by
  unfold entZ
  rw [List.map_map]
  refine List.pairwise_map.mpr (List.nodup_range.imp fun {a b} h => ?_)
  intro z
  have z : (Sum.inl ((a : Int) + 1 + s) : Key) = .inl ((b : Int) + 1 + s) := z
  injection z with z
  omega
theorem entZ_app (s : Int) (W V : List Int) : entZ s (W ++ V) = entZ s W ++ entZ (s + (W.length : Int)) V := by
  unfold entZ
  rw [List.length_append, List.range_add, List.map_append, List.map_map]
  congr 1
  · refine List.map_congr_left fun n hn => ?_
    have hn := List.mem_range.mp hn
    unfold tZ
    rw [show (W ++ V).getD n 0 = W.getD n 0 from by rw [List.getD_eq_getElem?_getD, List.getD_eq_getElem?_getD, List.getElem?_append_left hn]]
  · refine List.map_congr_left fun n hn => ?_
    show tZ s (W ++ V) (W.length + n) = tZ _ V n
    unfold tZ
    rw [show (W ++ V).getD (W.length + n) 0 = V.getD n 0 from by rw [List.getD_eq_getElem?_getD, List.getD_eq_getElem?_getD, List.getElem?_append_right (by omega), Nat.add_sub_cancel_left]]
    have e : ((W.length + n : Nat) : Int) + 1 + s = (n : Int) + 1 + (s + (W.length : Int)) := by omega
    rw [e]
theorem merge_ent (W V : List Int) : mergeE (entD 0 W) (entD (W.length : Int) V) = entD 0 (W ++ V) := by
  unfold entD
  rw [mergeE_new _ _ (fun p hp q hq => ?_) (entZ_keys _ _), entZ_app, Int.zero_add]
  obtain ⟨n, hn, rfl⟩ := List.mem_map.mp hp
  obtain ⟨m, hm, rfl⟩ := List.mem_map.mp hq
  have hm := List.mem_range.mp hm
  intro z
  have z : (Sum.inl ((m : Int) + 1 + 0) : Key) = .inl ((n : Int) + 1 + (W.length : Int)) := z
  injection z with z
  omega
theorem merge_ent0 (s : Int) (V : List Int) : mergeE [] (entD s V) = entD s V := mergeE_new (entZ s V) [] (fun _ _ _ hq => by cases hq) (entZ_keys _ _)
theorem look_kdE (es : List (Key × D)) (k : Key) : lookE (kdE es) k = (es.find? fun p => decide (p.1 = k)).map (·.2) := by
  induction es with
  | nil => rfl
  | cons p es ih =>
    show lookE ((keyD p.1, p.2) :: kdE es) k = _
    unfold lookE
    rw [keyOf_keyD, List.find?_cons]
    by_cases h : p.1 = k
    · rw [if_pos (by rw [h]), decide_eq_true h]; rfl
    · rw [if_neg (fun z => h (Option.some.inj z)), decide_eq_false h, ih]
theorem look_ent {s : Int} {W : List Int} {k : Int} (h1 : s < k) (h2 : k ≤ s + (W.length : Int)) : lookE (entD s W) (.inl k) = some (.int (tvV W s k)) := by
  unfold entD
  rw [look_kdE]
  have hn : (k - 1 - s).toNat < W.length := by omega
  have e : (((k - 1 - s).toNat : Nat) : Int) + 1 + s = k := by omega
  have hf : (entZ s W).find? (fun p => decide (p.1 = .inl k)) = some (tZ s W (k - 1 - s).toNat) := by
    unfold entZ
    rw [List.find?_map]
    have : (List.range W.length).find? ((fun p : Key × D => decide (p.1 = .inl k)) ∘ tZ s W) = some (k - 1 - s).toNat := by
      rw [List.find?_range_eq_some]
      refine ⟨?_, List.mem_range.mpr hn, fun j hj => ?_⟩
      · exact decide_eq_true (by show (Sum.inl _ : Key) = _; rw [e])
      · show (!decide ((Sum.inl ((j : Int) + 1 + s) : Key) = .inl k)) = true
        rw [decide_eq_false]
        · rfl
        · intro z
          injection z with z
          omega
    rw [this]; rfl
  rw [hf]
  show some (PyData.int _) = _
  unfold tvV
  rw [e]
/-! ### kept -/
def keepsB (tv : Int → Int) (cs : List (List Int)) : Bool := cs.all fun c => c.any fun l => decide (tv (absI l) = l)
theorem keepsB_iff {tv : Int → Int} {cs : List (List Int)} : keepsB tv cs = true ↔ keepsT tv cs := by
  unfold keepsB keepsT clsT litT
  rw [List.all_eq_true]
  constructor
  · intro h c hc
    obtain ⟨l, hl, e⟩ := List.any_eq_true.mp (h c hc)
    exact ⟨l, hl, of_decide_eq_true e⟩
  · intro h c hc
    obtain ⟨l, hl, e⟩ := h c hc
    exact List.any_eq_true.mpr ⟨l, hl, decide_eq_true e⟩
def Ckept : Con := fun ds Q => ∃ (cs : List (List Int)) (s : Int) (W : List Int), ds = [.list (csD cs), .dict (entD s W)] ∧ absIn s (s + (W.length : Int)) cs ∧ (∀ c ∈ cs, c.length ≤ 1000) ∧ Q (.fz (.bool (keepsB (tvV W s) cs)))
def Ctrue : Con := fun ds Q => ∃ (W : List Int) (s : Int), ds = [.list (W.map PyData.int), .int s] ∧ W.length ≤ 10000 ∧ Q (.nw (.dict (entD s W)))
end DL
namespace DL
open PySem L2
theorem absI_nat (x : Int) : absI x = (x.natAbs : Int) := by unfold absI; split <;> omega
theorem mem_eqv (l : Int) (ls : List Int) : ((iL2 ls).any fun z => PyData.eqv z (.int l)) = decide (l ∈ ls) := by
  unfold iL2
  rw [List.any_map, Bool.eq_iff_iff, List.any_eq_true, decide_eq_true_eq]
  constructor
  · rintro ⟨n, hn, e⟩
    have e : PyData.eqv (.int n) (.int l) = true := e
    rw [eqv_int] at e
    have : n = l := by simpa using e
    exact this ▸ hn
  · intro h
    exact ⟨l, h, by show PyData.eqv (.int l) (.int l) = true; rw [eqv_int]; simp⟩
theorem nd_same {a b ls : List Int} (ha : a.Nodup) (hb : b.Nodup) (h1 : ∀ k, k ∈ a ↔ k ∈ ls) (h2 : ∀ k, k ∈ b ↔ k ∈ ls) : a.length = b.length :=
  Nat.le_antisymm (nd_le ha fun x hx => (h2 x).mpr ((h1 x).mp hx)) (nd_le hb fun x hx => (h1 x).mpr ((h2 x).mp hx))
theorem all_flat (ls : List Int) : (iL2 ls).all flatP = true := by
  unfold iL2
  rw [List.all_map, List.all_eq_true]
  intro x _; rfl
def sgnL (ls : List Int) : D → D
  | .int k => .int (if k ∈ ls then k else -k)
  | _ => .none
theorem map_sgn (ls some : List Int) : (some.map PyData.int).map (sgnL ls) = iL2 (some.map fun k => if k ∈ ls then k else -k) := by unfold iL2; rw [List.map_map, List.map_map]; rfl
end DL
namespace DL
open PySem L2
def foldC (cs : List (List Int)) (ls : List (List Int)) : List (List Int) := ls.foldl putC cs
theorem foldC_succ (cs ls : List (List Int)) {m : Nat} (h : m < ls.length) : foldC cs (ls.take (m + 1)) = putC (foldC cs (ls.take m)) ls[m] := by
  unfold foldC
  rw [List.take_succ, List.getElem?_eq_getElem h, List.foldl_append]; rfl
theorem foldC_len (ls : List (List Int)) : ∀ cs, (foldC cs ls).length ≤ cs.length + ls.length := by
  induction ls with
  | nil => intro cs; exact Nat.le_refl _
  | cons l ls ih =>
    intro cs
    have h1 := putC_len cs l
    have h2 := ih (putC cs l)
    show (foldC (putC cs l) ls).length ≤ _
    rw [List.length_cons]
    omega
def lsD (ls : List (List Int)) : List D := ls.map fun l => PyData.list (iL2 l)
theorem lsD_get {ls : List (List Int)} {i : Nat} {x : D} (h : (lsD ls)[i]? = some x) : ∃ (hi : i < ls.length), x = .list (iL2 ls[i]) := get_map h
theorem lsD_len (ls : List (List Int)) : (lsD ls).length = ls.length := List.length_map _
def pL (y a b : Int) : List (List Int) := [[-y, a], [-y, b], [y, -a, -b]]
theorem foldC_pL (cs : List (List Int)) (y a b : Int) : foldC cs (pL y a b) = putAnd cs y a b := rfl
def qL (y a : Int) : List (List Int) := [[-y, a], [y, -a]]
theorem foldC_qL (cs : List (List Int)) (y a : Int) : foldC cs (qL y a) = putS cs y a := rfl
theorem pL_ok {y a b : Int} (hy : y ≠ 0) (ha : a ≠ 0) (hb : b ≠ 0) : ∀ l ∈ pL y a b, l.length ≤ 60 ∧ ∀ x ∈ l, x ≠ 0 := by
  intro l hl
  unfold pL at hl
  simp only [List.mem_cons, List.mem_nil_iff, or_false] at hl
  rcases hl with rfl | rfl | rfl <;> refine ⟨by simp, fun x hx => ?_⟩ <;> simp only [List.mem_cons, List.mem_nil_iff, or_false] at hx
  · rcases hx with rfl | rfl <;> omega
  · rcases hx with rfl | rfl <;> omega
  · rcases hx with rfl | rfl | rfl <;> omega
theorem qL_ok {y a : Int} (hy : y ≠ 0) (ha : a ≠ 0) : ∀ l ∈ qL y a, l.length ≤ 60 ∧ ∀ x ∈ l, x ≠ 0 := by
  intro l hl
  unfold qL at hl
  simp only [List.mem_cons, List.mem_nil_iff, or_false] at hl
  rcases hl with rfl | rfl <;> refine ⟨by simp, fun x hx => ?_⟩ <;> simp only [List.mem_cons, List.mem_nil_iff, or_false] at hx
  · rcases hx with rfl | rfl <;> omega
  · rcases hx with rfl | rfl <;> omega
end DL

set_option Elab.async false
set_option linter.all false
set_option maxRecDepth 100000
set_option maxHeartbeats 4000000
set_option autoImplicit false
namespace DL
open PySem L2
/-! ### reprs of clauses -/
theorem Tm.intS {i : Int} (h : i.natAbs < 1024) : Tm 12 2 (.int i) := by
  have hl : i.natAbs.log2 < 10 := by
    by_cases e : i.natAbs = 0
    · rw [e]; decide
    · rw [Nat.log2_lt e]; exact h
  refine ⟨?_, rfl, ?_, ?_, ?_⟩
  · simp only [PyData.showable, decide_eq_true_eq]; omega
  · simp only [PyData.leavesShort, decide_eq_true_eq]
    have e := int_text_length_le10 (a := i) (k := 4) (by decide) (by omega)
    show (Str.ofString (toString i)).length ≤ 70
    rw [ofString_length]; omega
  · simp only [PyData.weight]
    split <;> omega
  · simp [PyData.depth]
def widC (n : Nat) (cs : List (List Int)) : Prop := ∀ c ∈ cs, c.length ≤ n
theorem widC.app {n : Nat} {a b : List (List Int)} (h : widC n a) (h' : widC n b) : widC n (a ++ b) := fun c hc => (List.mem_append.mp hc).elim (h c) (h' c)
theorem widC.put {n : Nat} {cs : List (List Int)} {ls : List Int} (h : widC n cs) (hl : ls.length ≤ n) : widC n (putC cs ls) := by
  unfold putC
  cases hc : clash (ddI ls) with
  | true =>
    have e : clsI ls = none := by
      show (if clash (ddI ls) = true then none else _) = _
      rw [hc]; rfl
    rw [e]; exact h
  | false =>
    have e : clsI ls = some (absL (ddI ls)) := by
      show (if clash (ddI ls) = true then none else _) = _
      rw [hc]; rfl
    rw [e]
    refine h.app fun c hc => ?_
    rw [List.mem_singleton.mp hc, (absL_perm _).length_eq]
    exact Nat.le_trans (ddI_len ls) hl
theorem gCn_wid (g : Gr) (s : Int) : ∀ i, widC 3 (gCn g s i)
  | 0 => fun c hc => by
    unfold gCn at hc
    rw [List.mem_singleton.mp hc, List.length_singleton]; omega
  | i + 1 => by
    unfold gCn putAnd
    exact ((((gCn_wid g s i).put (by simp)).put (by simp)).put (by simp))
theorem rCn_wid (g : Gr) (t : Nat) {cs : List (List Int)} (h : widC 3 cs) : ∀ k, widC 3 (rCn g t cs k)
  | 0 => h
  | k + 1 => by
    unfold rCn putS
    exact ((rCn_wid g t h k).put (by simp)).put (by simp)
theorem uCn_wid (g : Gr) : ∀ t, widC 3 (uCn g t)
  | 0 => fun c hc => by cases hc
  | t + 1 => by
    unfold uCn
    exact rCn_wid g t ((uCn_wid g t).app (gCn_wid g _ _)) _
theorem sCn_wid (g : Gr) : widC 3 (sCn g) := fun c hc => by
  obtain ⟨k, _, rfl⟩ := List.mem_map.mp hc
  rw [List.length_singleton]; omega
theorem uCn_lenS {g : Gr} (ha : g.ands.length ≤ 20) (hr : g.regs.length ≤ 10) : ∀ t, (uCn g t).length ≤ 100 * t
  | 0 => Nat.zero_le _
  | t + 1 => by
    have := uCn_lenS ha hr t
    have h1 := gCn_len g ((t : Int) * (g.many : Int)) g.ands.length
    have h2 := rCn_len g t (uCn g t ++ gCn g ((t : Int) * (g.many : Int)) g.ands.length) (nRt g t)
    have h3 : nRt g t ≤ g.regs.length := by unfold nRt; split <;> omega
    rw [List.length_append] at h2
    unfold uCn
    omega
theorem repr_cs {cs : List (List Int)} {a b : Int} (hw : widC 3 cs) (hi : absIn a b cs) (ha : 0 ≤ a) (hb : b ≤ 1000) (hl : cs.length ≤ 2000) : reprOkS (.list (csD cs)) := by
  refine Tm.ok (n := 80000) (m := 4) (Tm.lst (TmA.all (n := 39) (fun d hd => ?_) (by rw [csD_len]; omega))) (by omega) (by omega)
  obtain ⟨c, hc, rfl⟩ := List.mem_map.mp hd
  refine Tm.tup (TmA.all (n := 12) (m := 2) (fun x hx => ?_) ?_)
  · obtain ⟨l, hl, rfl⟩ := List.mem_map.mp hx
    have := hi c hc l hl
    rw [absI_nat] at this
    exact Tm.intS (by omega)
  · have := hw c hc
    unfold iL2
    rw [List.length_map]; omega
theorem repr_i {i : Int} (h : i.natAbs < 1024) : reprOkS (.int i) := Tm.ok (Tm.intS h) (by omega) (by omega)
structure Sml (g : Gr) : Prop where
  ok : g.ok
  ins : g.ins ≤ 3
  regs : g.regs.length ≤ 3
  ands : g.ands.length ≤ 20
theorem Sml.many {g : Gr} (h : Sml g) : g.many ≤ 27 := by
  have h1 := h.ins; have h2 := h.regs; have h3 := h.ands
  unfold Gr.many Gr.first; omega
theorem Sml.repr0 {g : Gr} (h : Sml g) : reprOkS (.list (csD (gCn g 0 g.ands.length))) := by
  have := h.many; have h3 := h.ands
  have h1 := gCn_len g 0 g.ands.length
  exact repr_cs (gCn_wid g _ _) (gCn_in h.ok (Int.le_refl _) _ (Nat.le_refl _)) (Int.le_refl _) (by omega) (by omega)
theorem Sml.reprU {g : Gr} (h : Sml g) {t : Nat} (ht : t ≤ 4) : reprOkS (.list (csD (uCn g t))) := by
  have hm := h.many
  have h1 := uCn_lenS h.ands (by have := h.regs; omega) t
  have h2 : (t : Int) * (g.many : Int) ≤ 4 * 27 := by
    have : t * g.many ≤ 4 * 27 := Nat.mul_le_mul ht hm
    have e : ((t * g.many : Nat) : Int) = (t : Int) * (g.many : Int) := Int.natCast_mul _ _
    omega
  exact repr_cs (uCn_wid g t) (uCn_in h.ok t) (Int.le_refl _) (by omega) (by omega)
theorem Sml.reprT {g : Gr} (h : Sml g) : reprOkS (.list (csD (sCn g))) := by
  have hm := h.many; have hr := h.regs
  exact repr_cs (sCn_wid g) (sCn_in h.ok) (Int.le_refl _) (by omega) (by unfold sCn; rw [List.length_map, List.length_range]; omega)
/-! ### all bits -/
def allB : Nat → List (List Int)
  | 0 => [[]]
  | n + 1 => (allB n).map (fun b => b ++ [0]) ++ (allB n).map (fun b => b ++ [1])
theorem allB_len : ∀ n, (allB n).length = 2 ^ n
  | 0 => rfl
  | n + 1 => by
    unfold allB
    rw [List.length_append, List.length_map, List.length_map, allB_len n, Nat.pow_succ]; omega
theorem allB_bits : ∀ (n : Nat) (b : List Int), b ∈ allB n → b.length = n ∧ bits b
  | 0, b, h => by
    unfold allB at h
    rw [List.mem_singleton.mp h]
    exact ⟨rfl, fun _ h => nomatch h⟩
  | n + 1, b, h => by
    unfold allB at h
    rcases List.mem_append.mp h with z | z
    all_goals
      obtain ⟨c, hc, rfl⟩ := List.mem_map.mp z
      obtain ⟨h1, h2⟩ := allB_bits n c hc
      refine ⟨by rw [List.length_append, h1]; rfl, bits_app h2 (bits_one ?_)⟩
    · exact .inl rfl
    · exact .inr rfl
def CallB : Con := fun ds Q => ∃ n : Nat, ds = [.int (n : Int)] ∧ n ≤ 10 ∧ Q (.nw (.list ((allB n).map lotD)))
def CroughG : Con := fun ds Q => ds = [.none] ∧ ∀ g : Gr, Sml g → Q (.fz g.toD)
def CstepL : Con := fun ds Q => ∃ (g : Gr) (st lot : List Int), ds = [g.toD, lotD lot, lotD st] ∧ g.ok ∧ st.length = g.regs.length ∧ lot.length = g.ins ∧ Q (.fz (.tuple [lotD (g.outV (g.nodes st lot)), lotD (g.nxtV (g.nodes st lot))]))
def Cvr : Con := fun ds Q => ∃ g : Gr, ds = [.none, g.toD, .list (csD (gCn g 0 g.ands.length))] ∧ Sml g ∧ Q (.fz (.bool true))
def Crr : Con := fun ds Q => ∃ g : Gr, ds = [.none, g.toD] ∧ Sml g ∧ Q (.fz (.bool true))
theorem eqv_nilC (xs : List D) : PyData.eqv (.list xs) (.list []) = decide (xs = []) := by
  cases xs with
  | nil => rfl
  | cons x xs => simp [PyData.eqv, PyData.eqvAll]
theorem eqOk_ints (ls : List Int) : eqOk2 (.list (iL2 ls)) (.list []) = true := by
  have h : eqOk (.list (iL2 ls)) = true := by
    unfold eqOk SeqAt.shaped
    have a1 : ∀ ls : List Int, PyData.hasDictAll (iL2 ls) = false := fun ls => by
      induction ls with
      | nil => rfl
      | cons x ls ih => show (PyData.hasDict (.int x) || PyData.hasDictAll (iL2 ls)) = false; rw [ih]; rfl
    have a2 : ∀ ls : List Int, PyData.canLayAll0 (iL2 ls) = true := fun ls => by
      induction ls with
      | nil => rfl
      | cons x ls ih => show (PyData.canLay0 (.int x) && PyData.canLayAll0 (iL2 ls)) = true; rw [ih]; rfl
    have a3 : ∀ ls : List Int, PyData.depthAll (iL2 ls) ≤ 1 := fun ls => by
      induction ls with
      | nil => simp [iL2, PyData.depthAll]
      | cons x ls ih =>
        show PyData.depthAll (.int x :: iL2 ls) ≤ 1
        simp only [PyData.depthAll, PyData.depth]; omega
    simp only [PyData.hasDict, PyData.canLay0, PyData.depth]
    rw [a1, a2]
    have := a3 ls
    simp; omega
  unfold eqOk2
  rw [h]
  simp [eqOk, SeqAt.shaped, PyData.hasDict, PyData.canLay0, PyData.depth, PyData.hasDictAll, PyData.canLayAll0, PyData.depthAll]
end DL
namespace DL
open PySem L2
theorem get_enumI {W : List Int} {i : Nat} {x : D} (h : (enumD (W.map PyData.int))[i]? = some x) : ∃ (hi : i < W.length), x = .tuple [.int i, .int W[i]] := by
  unfold enumD at h
  rw [List.getElem?_mapIdx, List.getElem?_map] at h
  cases e : W[i]? with
  | none => rw [e] at h; cases h
  | some p =>
    rw [e] at h; cases h
    obtain ⟨hi, e⟩ := List.getElem?_eq_some_iff.mp e
    exact ⟨hi, by rw [e]⟩
theorem enumI_len (W : List Int) : (enumD (W.map PyData.int)).length = W.length := by simp [enumD]
theorem kdL_tZ (s : Int) (W : List Int) (j : Nat) : kdL ((List.range (j + 1)).map (tZ s W)) = kdL ((List.range j).map (tZ s W)) ++ [.tuple [.int ((j : Int) + 1 + s), .int (if W.getD j 0 = 1 then (j : Int) + 1 + s else -((j : Int) + 1 + s))]] := by
  unfold kdL
  rw [List.range_succ, List.map_append, List.map_append]; rfl
theorem kdL_len (kds : List (Key × D)) : (kdL kds).length = kds.length := by unfold kdL; rw [List.length_map]
theorem getD_of {W : List Int} {j : Nat} (h : j < W.length) : W.getD j 0 = W[j] := by rw [List.getD_eq_getElem?_getD, List.getElem?_eq_getElem h]; rfl
def hitL (W : List Int) (s : Int) (c : List Int) : List Int := c.filter fun l => decide (tvV W s (absI l) = l)
theorem hit_succ (W : List Int) (s : Int) {c : List Int} {j : Nat} (h : j < c.length) : hitL W s (c.take (j + 1)) = if tvV W s (absI c[j]) = c[j] then hitL W s (c.take j) ++ [c[j]] else hitL W s (c.take j) := by
  unfold hitL
  rw [List.take_succ, List.getElem?_eq_getElem h, List.filter_append]
  by_cases e : tvV W s (absI c[j]) = c[j]
  · rw [if_pos e]; simp [e]
  · rw [if_neg e]; simp [e]
theorem hit_nil {W : List Int} {s : Int} {c : List Int} : hitL W s c = [] ↔ ¬ ∃ l ∈ c, tvV W s (absI l) = l := by
  unfold hitL
  rw [List.filter_eq_nil_iff]
  constructor
  · rintro h ⟨l, hl, e⟩
    exact h l hl (decide_eq_true e)
  · intro h l hl e
    exact h ⟨l, hl, of_decide_eq_true e⟩
theorem hit_len (W : List Int) (s : Int) (c : List Int) : (hitL W s c).length ≤ c.length := List.length_filter_le _ _
theorem csD_get {cs : List (List Int)} {i : Nat} {x : D} (h : (csD cs)[i]? = some x) : ∃ (hi : i < cs.length), x = .tuple (iL2 cs[i]) := get_map h
theorem iL2_get {c : List Int} {i : Nat} {x : D} (h : (iL2 c)[i]? = some x) : ∃ (hi : i < c.length), x = .int c[i] := get_map h
theorem iL2_len (c : List Int) : (iL2 c).length = c.length := List.length_map _
end DL
namespace DL
open PySem L2
def dapp (b : Int) : D → D
  | .tuple xs => .tuple (xs ++ [.int b])
  | _ => .none
theorem map_dapp (b : Int) (ls : List (List Int)) : (ls.map lotD).map (dapp b) = (ls.map fun l => l ++ [b]).map lotD := by
  rw [List.map_map, List.map_map]
  refine List.map_congr_left fun l _ => ?_
  show PyData.tuple (l.map PyData.int ++ [.int b]) = .tuple ((l ++ [b]).map PyData.int)
  rw [List.map_append]; rfl
theorem allB_succ (n : Nat) : (allB (n + 1)).map lotD = ((allB n).map fun l => l ++ [0]).map lotD ++ ((allB n).map fun l => l ++ [1]).map lotD := by
  rw [← List.map_append]; rfl
end DL
namespace DL
open PySem L2
theorem cutD_mapG {α : Type} (f : α → D) (rs : List α) (lo hi : Option Int) : ∃ a b, cutD (rs.map f) lo hi = ((rs.drop a).take b).map f := by
  unfold cutD
  exact ⟨_, _, by rw [List.map_take, List.map_drop]⟩
/-- and nodes of earlier literals behind a graph's own -/
theorem Sml.more {g : Gr} (h : Sml g) {ps : List (Int × Int)} {o : Int} (hp : ∀ p ∈ ps, inL p.1 g.many ∧ inL p.2 g.many) (hl : g.ands.length + ps.length ≤ 20) (ho : inL o (g.many + ps.length)) (hol : g.outs.length ≤ 9) : Sml ⟨g.ins, g.regs, g.ands ++ ps, g.outs ++ [o]⟩ := by
  have hg := h.ok
  have em : (⟨g.ins, g.regs, g.ands ++ ps, g.outs ++ [o]⟩ : Gr).many = g.many + ps.length := by
    unfold Gr.many Gr.first
    show 1 + g.ins + g.regs.length + (g.ands ++ ps).length = _
    rw [List.length_append]; omega
  refine ⟨⟨hg.ins, hg.rl, ?_, ?_, ?_, ?_, ?_⟩, h.ins, h.regs, ?_⟩
  · show (g.ands ++ ps).length ≤ 300
    rw [List.length_append]; omega
  · show (g.outs ++ [o]).length ≤ 10
    rw [List.length_append, List.length_singleton]; omega
  · intro p hp2
    have := hg.regs p hp2
    refine ⟨this.1, ?_⟩
    rw [em]
    exact this.2.mono (by omega)
  · intro k hk
    have hk : k < (g.ands ++ ps).length := hk
    rw [List.length_append] at hk
    show inL ((g.ands ++ ps)[k]).1 (g.first + k) ∧ inL ((g.ands ++ ps)[k]).2 (g.first + k)
    by_cases e : k < g.ands.length
    · rw [List.getElem_append_left e]; exact hg.ands k e
    · rw [List.getElem_append_right (by omega)]
      have := hp _ (List.getElem_mem (show k - g.ands.length < ps.length by omega))
      have e2 : g.many ≤ g.first + k := by unfold Gr.many; omega
      exact ⟨this.1.mono e2, this.2.mono e2⟩
  · intro l hl2
    have hl2 : l ∈ g.outs ++ [o] := hl2
    rw [em]
    rcases List.mem_append.mp hl2 with z | z
    · exact (hg.outs l z).mono (by omega)
    · rw [List.mem_singleton.mp z]; exact ho
  · show (g.ands ++ ps).length ≤ 20
    rw [List.length_append]; exact hl
end DL
namespace DL
open PySem L2
theorem cutD_dropI (b : List Int) (n : Nat) : cutD (b.map PyData.int) (some (n : Int)) none = (b.drop n).map PyData.int := by
  unfold cutD
  rw [HT.sIx_nat, HT.sIx_none, List.length_map, List.map_drop]
  rcases Nat.le_total n b.length with h | h
  · rw [Nat.min_eq_left h, List.take_of_length_le (by rw [List.length_drop, List.length_map]; exact Nat.le_refl _)]
  · rw [Nat.min_eq_right h, List.drop_of_length_le (by rw [List.length_map]; exact Nat.le_refl _), List.drop_of_length_le (by rw [List.length_map]; exact h), List.take_nil]
theorem cutD_takeI (b : List Int) (n : Nat) : cutD (b.map PyData.int) none (some (n : Int)) = (b.take n).map PyData.int := by
  unfold cutD
  rw [HT.sIx_nat, HT.sIx_none, List.length_map, List.drop_zero, Nat.sub_zero, List.map_take]
  rcases Nat.le_total n b.length with h | h
  · rw [Nat.min_eq_left h]
  · rw [Nat.min_eq_right h, List.take_of_length_le (by rw [List.length_map]; exact Nat.le_refl _), List.take_of_length_le (by rw [List.length_map]; exact h)]
theorem setI (vs : List Int) (i : Nat) : (vs.map PyData.int).set i (.int (1 - vs.getD i 0)) = (turned vs i).map PyData.int := by
  unfold turned
  rw [List.map_set]
theorem turned_len (vs : List Int) (i : Nat) : (turned vs i).length = vs.length := by unfold turned; rw [List.length_set]
end DL
namespace DL
open PySem L2
theorem stF_snoc (g : Gr) (lots : List (List Int)) (lot : List Int) : g.stF (lots ++ [lot]) = g.nxtV (g.nodes (g.stF lots) lot) := by
  unfold Gr.stF
  rw [List.foldl_append]; rfl
theorem wRun_app (g : Gr) (lots : List (List Int)) (lot : List Int) : ∀ t, t ≤ lots.length → wRun g (lots ++ [lot]) t = wRun g lots t
  | 0, _ => rfl
  | t + 1, h => by
    have ih := wRun_app g lots lot t (by omega)
    unfold wRun
    rw [ih, List.take_append_of_le_length (by omega), List.getD_eq_getElem?_getD, List.getD_eq_getElem?_getD, List.getElem?_append_left (by omega)]
theorem wRun_snoc (g : Gr) (lots : List (List Int)) (lot : List Int) : wRun g (lots ++ [lot]) (lots.length + 1) = wRun g lots lots.length ++ g.nodes (g.stF lots) lot := by
  show wRun g (lots ++ [lot]) lots.length ++ g.nodes (g.stF ((lots ++ [lot]).take lots.length)) ((lots ++ [lot]).getD lots.length []) = _
  rw [wRun_app g lots lot _ (Nat.le_refl _), List.take_left, List.getD_eq_getElem?_getD, List.getElem?_append_right (Nat.le_refl _), Nat.sub_self]
  rfl
theorem LotsT.nil (g : Gr) : LotsT g [] 0 := ⟨rfl, (fun _ h => nomatch h), (fun _ h => nomatch h)⟩
theorem LotsT.snoc {g : Gr} {lots : List (List Int)} {t : Nat} {lot : List Int} (h : LotsT g lots t) (hl : lot.length = g.ins) (hb : bits lot) : LotsT g (lots ++ [lot]) (t + 1) := by
  refine ⟨by rw [List.length_append, h.len]; rfl, ⟨fun l hm => ?_, fun l hm => ?_⟩⟩
  · rcases List.mem_append.mp hm with z | z
    · exact h.ok.len l z
    · rw [List.mem_singleton.mp z]; exact hl
  · rcases List.mem_append.mp hm with z | z
    · exact h.ok.bit l z
    · rw [List.mem_singleton.mp z]; exact hb
theorem ent_step {g : Gr} {lots : List (List Int)} {t : Nat} {lot : List Int} (h : LotsT g lots t) : mergeE (entD 0 (wRun g lots t)) (entD ((t : Int) * (g.many : Int)) (g.nodes (g.stF lots) lot)) = entD 0 (wRun g (lots ++ [lot]) (t + 1)) := by
  have e := wRun_len h t (Nat.le_refl _)
  have e2 : ((wRun g lots t).length : Int) = (t : Int) * (g.many : Int) := by rw [e, Int.natCast_mul]
  rw [← e2, merge_ent]
  have := h.len
  subst this
  rw [wRun_snoc]
end DL
namespace DL
open PySem L2
def gE84 : Gr := ⟨1, [(0, 6)], [(2, 4)], [7, 5]⟩
theorem gE84_ok : gE84.ok := by
  refine ⟨by decide, by decide, by decide, by decide, ?_, ?_, ?_⟩
  · intro p hp
    rw [List.mem_singleton.mp (show p ∈ [((0 : Int), (6 : Int))] from hp)]
    exact ⟨.inl rfl, by decide, by decide⟩
  · intro k hk
    have hk : k < 1 := hk
    have : k = 0 := by omega
    subst this
    show inL 2 (gE84.first + 0) ∧ inL 4 (gE84.first + 0)
    exact ⟨⟨by decide, by decide⟩, ⟨by decide, by decide⟩⟩
  · intro l hl
    have hl : l ∈ [(7 : Int), 5] := hl
    simp only [List.mem_cons, List.mem_nil_iff, or_false] at hl
    rcases hl with rfl | rfl <;> exact ⟨by decide, by decide⟩
theorem putC_calc (cs : List (List Int)) (ls some c : List Int) (hz : ∀ x ∈ ls, x ≠ 0) (h1 : some.Pairwise (· < ·)) (h2 : (∀ k ∈ some, k ∈ ls.map absI) ∧ ∀ k ∈ ls.map absI, k ∈ some) (hl : (ddI ls).length = some.length) (hc : (some.map fun k => if k ∈ ls then k else -k) = c) : putC cs ls = cs ++ [c] := by
  have e := cls_law hz h1 fun k => by
    constructor
    · intro h
      obtain ⟨x, hx, e⟩ := List.mem_map.mp (h2.1 k h)
      exact ⟨x, hx, e⟩
    · rintro ⟨x, hx, e⟩
      exact h2.2 k (List.mem_map.mpr ⟨x, hx, e⟩)
  rw [if_pos hl, hc] at e
  unfold putC
  rw [e]
theorem gE84_cs : gCn gE84 0 gE84.ands.length = [[-1], [2, -4], [3, -4], [-2, -3, 4]] := by
  have e0 : gCn gE84 0 gE84.ands.length = putAnd [[-1]] 4 2 3 := rfl
  rw [e0]
  unfold putAnd
  rw [putC_calc _ [-4, 2] [2, 4] [2, -4] (by decide) (by decide) (by decide) (by decide) (by decide)]
  rw [putC_calc _ [-4, 3] [3, 4] [3, -4] (by decide) (by decide) (by decide) (by decide) (by decide)]
  rw [putC_calc _ [4, -2, -3] [2, 3, 4] [-2, -3, 4] (by decide) (by decide) (by decide) (by decide) (by decide)]
  rfl
end DL
namespace DL
open PySem L2
def cE84 : List D := [.tuple [.int (-1)], .tuple [.int 2, .int (-4)], .tuple [.int 3, .int (-4)], .tuple [.int (-2), .int (-3), .int 4]]
theorem cE84_eq : eqOk2 (.list (csD [[-1], [2, -4], [3, -4], [-2, -3, 4]])) (.list cE84) = true ∧ (false != PyData.eqv (.list (csD [[-1], [2, -4], [3, -4], [-2, -3, 4]])) (.list cE84)) = true := by decide +kernel
end DL

set_option Elab.async false
set_option linter.all false
set_option maxRecDepth 100000
set_option maxHeartbeats 4000000
set_option autoImplicit false
set_option pp.maxSteps 1000
namespace K84
open PySem L2 DL
def topS (i : Nat) : Stmt := PySem.Challenge.pw_bitloom_k84_whole_clauses_of_graphs.main.body.getD i (.Pass ⟨0, 0, 0, 0⟩)
structure Txt (mg : Str → Option Value) : Prop where
  abs : mg "abs" = none
  any : mg "any" = none
  dict : mg "dict" = none
  enumerate : mg "enumerate" = none
  int : mg "int" = none
  len : mg "len" = none
  list : mg "list" = none
  max : mg "max" = none
  min : mg "min" = none
  range : mg "range" = none
  repr : mg "repr" = none
  set : mg "set" = none
  sorted : mg "sorted" = none
  tuple : mg "tuple" = none
  zip : mg "zip" = none
section
variable {P : Program} {w : World} {K : PySem.W.Frag} {mg : Str → Option Value} {base : Heap}
abbrev s_moved_literal : Stmt := topS 2
abbrev n_moved_literal : List Str := ["literal", "shift", "letter"]
theorem sc_moved_literal : FnScope n_moved_literal ["literal", "shift"] (C8.fnScope s_moved_literal) := C8.fnScope_by (by decide +kernel)
theorem ok_moved_literal {a : Addr} {fd : FuncData} (F : C8.Def K mg "moved_literal" s_moved_literal a fd) (b : Binds K fd ["literal", "shift"] []) (T : Txt mg) : CalG P w K mg base (1) "moved_literal" (spD K [.bo, .bo] (Cmov)) := by
  refine calG F b sc_moved_literal rfl (fun cdv A outer s H E hA hr => ?_)
  have hu := huOf hr
  have hu64 := hr.units
  refine ⟨_, _, (pss_cons (ps_asg (pe_op (k_add (K := K) rfl) (pe_op (k_add (K := K) rfl) (pe_op op_fdivL (pv 0) pe_int) pe_int) (pv 1)) (pg_name (i := 2) sc_moved_literal.nd rfl (by first | exact Or.inl rfl | exact Or.inr rfl)))
      (pss_one (ps_ret (pe_ifExp (pt_cmpR (k_eq (K := K) rfl hu64) (pe_op op_modN (pv 0) pe_int) pe_int (nomark _)) (pv 2) (pe_un un_neg (pv 2)))))),
   (ls_seq (ls_asg (le_op (le_op (le_op le_var le_int ol_fdv) le_int ol_add) le_var ol_add) lg_name)
      (ls_ret (le_if (lt_test (le_op (le_op le_var le_int ol_mod) le_int ol_eq)) le_var (le_un le_var ul_neg)))), ?_⟩
  intro ds Qc h
  obtain ⟨l, s, rfl, hq⟩ := h
  refine ⟨⟨(by intro z; cases z), Nat.le_of_ble_eq_true rfl⟩, (by intro z; cases z), rfl, useB_b (fun h => ?_) (fun h => ?_)⟩
  · have h : (false != PyData.eqv (.int (l.fmod 2)) (.int 0)) = true := h
    rw [eqv_int] at h
    have h : l.fmod 2 = 0 := by simpa using h
    unfold movL at hq
    rw [if_pos h] at hq
    exact hq
  · have h : (false != PyData.eqv (.int (l.fmod 2)) (.int 0)) = false := h
    rw [eqv_int] at h
    have h : ¬ l.fmod 2 = 0 := by simpa using h
    unfold movL at hq
    rw [if_neg h] at hq
    exact hq
abbrev s_literal_of : Stmt := topS 1
abbrev n_literal_of : List Str := ["literal"]
theorem sc_literal_of : FnScope n_literal_of ["literal"] (C8.fnScope s_literal_of) := C8.fnScope_by (by decide +kernel)
theorem ok_literal_of {a : Addr} {fd : FuncData} (F : C8.Def K mg "literal_of" s_literal_of a fd) (b : Binds K fd ["literal"] []) (T : Txt mg) (c_moved_literal : CalG P w K mg base 1 "moved_literal" (spD K [.bo, .bo] (Cmov))) : CalG P w K mg base (2) "literal_of" (spD K [.bo] (Clto)) := by
  refine calG F b sc_literal_of rfl (fun cdv A outer s H E hA hr => ?_)
  have hu := huOf hr
  have hu64 := hr.units
  refine ⟨_, _, (pss_one (ps_ret (pe_cG c_moved_literal hA hr (by first | decide | omega) rfl (pa_cons (pv 0) (pa_cons pe_int pa_nil))))),
   (ls_ret (le_call (la_cons le_var (la_cons le_int la_nil)))), ?_⟩
  intro ds Qc h
  obtain ⟨l, rfl, hq⟩ := h
  exact ⟨l, 0, rfl, hq⟩
abbrev s_put_clause : Stmt := topS 3
abbrev n_put_clause : List Str := ["clauses", "literals", "found", "literal"]
theorem sc_put_clause : FnScope n_put_clause ["clauses", "literals"] (C8.fnScope s_put_clause) := C8.fnScope_by (by decide +kernel)
theorem ok_put_clause {a : Addr} {fd : FuncData} (F : C8.Def K mg "put_clause" s_put_clause a fd) (b : Binds K fd ["clauses", "literals"] []) (T : Txt mg) : CalG P w K mg base (1) "put_clause" (spM K [.mu, .bo] (CputC)) := by
  refine calGM 0 F b sc_put_clause rfl (fun cdv A outer s H E hA hr => ?_)
  have hu := huOf hr
  have hu64 := hr.units
  refine ⟨_, _, (pss_cons (ps_asg (pe_dc rfl sc_put_clause.nd (k_iany (K := K) rfl (pv 1)) (blkOk_by (own := [("literal", 3)]) (N := n_put_clause) (sc := C8.fnScope s_put_clause) (by decide +kernel)) (fun _ _ _ _ _ => (pg_name (i := 3) sc_put_clause.nd rfl (by first | exact Or.inl rfl | exact Or.inr rfl))) (fun _ _ _ _ _ => pts_nil) (fun _ _ _ _ _ => (pv 3)) (fun _ _ _ _ _ => pe_bl)) (pg_name (i := 2) sc_put_clause.nd rfl (by first | exact Or.inl rfl | exact Or.inr rfl)))
      (pss_one (ps_if (pt_not (pt_truth (pe_callB (k_any (K := K) rfl rfl) (by rfl) T.any (by decide +kernel) (pa_cons (pe_lock (pe_lc rfl sc_put_clause.nd (pi_keys (pv 2)) (blkOk_by (own := [("literal", 3)]) (N := n_put_clause) (sc := C8.fnScope s_put_clause) (by decide +kernel)) (fun _ _ _ _ _ => (pg_name (i := 3) sc_put_clause.nd rfl (by first | exact Or.inl rfl | exact Or.inr rfl))) (fun _ _ _ _ _ => pts_nil) (fun _ _ _ _ _ => (pe_cmp (pc_din hu (pe_un un_neg (pv 3)) (pv 2)))))) pa_nil)) (by intro _; rfl))) (pss_one (ps_expr (pe_bm PySem.F.plainAttrs_list PySem.F.slot_list_append PySem.F.type_list_append mt_append (pv 0) (pa_cons (pe_callTy (k_tupleA (K := K) rfl rfl) (by rfl) T.tuple (by decide +kernel) (pa_cons (pe_sortAbs rfl hu64 (by rfl) T.sorted (by rfl) T.abs (pa_cons (pv 2) pa_nil)) pa_nil)) pa_nil)))) pss_nil))),
   (ls_seq (ls_asg (le_dc (li_any le_var) lg_name (lgw_name (by decide)) lt_yes le_var le_bl) lg_name)
      (ls_if (lt_not (lt_truth (le_cb (la_cons (le_negIn (i := 2) (j := 3)) la_nil) cl_any))) (ls_appFl (le_cb (la_cons (le_sortAbs le_var) la_nil) cl_tupleA)) ls_next)), ?_⟩
  intro ds m Qc h
  obtain ⟨cs, ls, rfl, rfl, hl, hc, hq⟩ := h
  have sl := sizeLine_eq
  refine dDcGo_of (iL2 ls) (fun j acc ρ => acc = (ddI (ls.take j)).map wZ ∧ ρ = [some (.mu (.fl (csD cs))), some (.bo (.list (iL2 ls))), none, none]) ⟨rfl, rfl⟩ ?_ ?_
  · rintro j x acc ρ k hx ⟨rfl, rfl⟩ next
    have hj : j < ls.length := by
      have := (List.getElem?_eq_some_iff.mp hx).1
      rwa [iL2, List.length_map] at this
    obtain rfl : x = .int ls[j] := by
      unfold iL2 at hx
      rw [List.getElem?_map, List.getElem?_eq_getElem hj] at hx
      cases hx; rfl
    have hd := ddI_len (ls.take j)
    rw [List.length_take] at hd
    refine useB_y rfl ⟨by rw [List.length_map]; omega, ?_⟩
    rw [putE_wZ]
    exact next _ _ ⟨by rw [ddI_succ hj], rfl⟩
  rintro acc ρ ⟨rfl, rfl⟩
  have e0 : ls.take (iL2 ls).length = ls := List.take_of_length_le (by rw [iL2, List.length_map]; exact Nat.le_refl _)
  rw [e0]
  have hd := ddI_len ls
  obtain ⟨u, hu⟩ : ∃ u, u = ddI ls := ⟨_, rfl⟩
  rw [← hu] at hd ⊢
  refine ⟨by decide, by show 3 < 4; omega, u.map wZ, rfl, wZ_T u, ?_⟩
  rw [keysI_wZ]
  refine ⟨by omega, ?_⟩
  show wBs (boolsOf (u.map fun n => PyData.bool (decide (-n ∈ u)))) _
  rw [bools_neg]
  refine ⟨⟨trivial, trivial⟩, ?_⟩
  have ec := clash_any u
  have hkeep : clash u = true → Qc (.fz .none) (.fl (csD cs)) := fun h => by
    have e : clsI ls = none := by
      show (if clash (ddI ls) = true then none else _) = _
      rw [← hu, h]; rfl
    unfold putC at hq
    rw [e] at hq
    exact hq
  have hput : clash u = false → Qc (.fz .none) (.fl (csD cs ++ [.tuple ((absL u).map PyData.int)])) := fun h => by
    have e : clsI ls = some (absL u) := by
      show (if clash (ddI ls) = true then none else some (absL (ddI ls))) = _
      rw [← hu, h]; rfl
    unfold putC at hq
    rw [e] at hq
    have e2 : csD (cs ++ [absL u]) = csD cs ++ [.tuple ((absL u).map PyData.int)] := by unfold csD; rw [List.map_append]; rfl
    rw [← e2]
    exact hq
  cases hcl : clash u with
  | true => exact useB_n (show (!((u.map fun n => decide (-n ∈ u)).any id)) = false by rw [ec, hcl]; rfl) ⟨_, rfl, hkeep hcl⟩
  | false =>
    refine useB_y (show (!((u.map fun n => decide (-n ∈ u)).any id)) = true by rw [ec, hcl]; rfl) ⟨rfl, rfl, ?_⟩
    refine ⟨wZ_T u, ?_⟩
    rw [keysI_wZ]
    exact ⟨by omega, _, rfl, by unfold csD; rw [List.length_map]; omega, _, rfl, hput hcl⟩
abbrev s_put_and : Stmt := topS 4
abbrev n_put_and : List Str := ["clauses", "letter", "one", "other"]
theorem sc_put_and : FnScope n_put_and ["clauses", "letter", "one", "other"] (C8.fnScope s_put_and) := C8.fnScope_by (by decide +kernel)
theorem ok_put_and {a : Addr} {fd : FuncData} (F : C8.Def K mg "put_and" s_put_and a fd) (b : Binds K fd ["clauses", "letter", "one", "other"] []) (T : Txt mg) (c_put_clause : CalG P w K mg base 1 "put_clause" (spM K [.mu, .bo] (CputC))) : CalG P w K mg base (2) "put_and" (spM K [.mu, .bo, .bo, .bo] (CputA)) := by
  refine calGM 0 F b sc_put_and rfl (fun cdv A outer s H E hA hr => ?_)
  have hu := huOf hr
  have hu64 := hr.units
  refine ⟨_, _, (pss_cons (ps_expr (pe_cG c_put_clause hA hr (by first | decide | omega) rfl (pa_cons (pv 0) (pa_cons (pe_lst (pa_cons (pe_un un_neg (pv 1)) (pa_cons (pv 2) pa_nil))) pa_nil))))
      (pss_cons (ps_expr (pe_cG c_put_clause hA hr (by first | decide | omega) rfl (pa_cons (pv 0) (pa_cons (pe_lst (pa_cons (pe_un un_neg (pv 1)) (pa_cons (pv 3) pa_nil))) pa_nil))))
      (pss_one (ps_expr (pe_cG c_put_clause hA hr (by first | decide | omega) rfl (pa_cons (pv 0) (pa_cons (pe_lst (pa_cons (pv 1) (pa_cons (pe_un un_neg (pv 2)) (pa_cons (pe_un un_neg (pv 3)) pa_nil)))) pa_nil))))))),
   (ls_seq (ls_drop (le_callM (la_cons le_var (la_cons (le_lst (la_cons (le_un le_var ul_neg) (la_cons le_var la_nil))) la_nil))))
      (ls_seq (ls_drop (le_callM (la_cons le_var (la_cons (le_lst (la_cons (le_un le_var ul_neg) (la_cons le_var la_nil))) la_nil))))
      (ls_drop (le_callM (la_cons le_var (la_cons (le_lst (la_cons le_var (la_cons (le_un le_var ul_neg) (la_cons (le_un le_var ul_neg) la_nil)))) la_nil)))))), ?_⟩
  intro ds m Qc h
  obtain ⟨cs, y, a, b, rfl, rfl, hc, hq⟩ := h
  have h1 := putC_len cs [-y, a]
  have h2 := putC_len (putC cs [-y, a]) [-y, b]
  exact ⟨Nat.le_of_ble_eq_true rfl, 0, _, rfl, rfl, cs, [-y, a], rfl, rfl, (by simp), by omega, Nat.le_of_ble_eq_true rfl, 0, _, rfl, rfl, _, [-y, b], rfl, rfl, (by simp), by omega, Nat.le_of_ble_eq_true rfl, 0, _, rfl, rfl, _, [y, -a, -b], rfl, rfl, (by simp), by omega, _, rfl, hq⟩
abbrev s_put_same : Stmt := topS 5
abbrev n_put_same : List Str := ["clauses", "one", "other"]
theorem sc_put_same : FnScope n_put_same ["clauses", "one", "other"] (C8.fnScope s_put_same) := C8.fnScope_by (by decide +kernel)
theorem ok_put_same {a : Addr} {fd : FuncData} (F : C8.Def K mg "put_same" s_put_same a fd) (b : Binds K fd ["clauses", "one", "other"] []) (T : Txt mg) (c_put_clause : CalG P w K mg base 1 "put_clause" (spM K [.mu, .bo] (CputC))) : CalG P w K mg base (2) "put_same" (spM K [.mu, .bo, .bo] (CputS)) := by
  refine calGM 0 F b sc_put_same rfl (fun cdv A outer s H E hA hr => ?_)
  have hu := huOf hr
  have hu64 := hr.units
  refine ⟨_, _, (pss_cons (ps_expr (pe_cG c_put_clause hA hr (by first | decide | omega) rfl (pa_cons (pv 0) (pa_cons (pe_lst (pa_cons (pe_un un_neg (pv 1)) (pa_cons (pv 2) pa_nil))) pa_nil))))
      (pss_one (ps_expr (pe_cG c_put_clause hA hr (by first | decide | omega) rfl (pa_cons (pv 0) (pa_cons (pe_lst (pa_cons (pv 1) (pa_cons (pe_un un_neg (pv 2)) pa_nil))) pa_nil)))))),
   (ls_seq (ls_drop (le_callM (la_cons le_var (la_cons (le_lst (la_cons (le_un le_var ul_neg) (la_cons le_var la_nil))) la_nil))))
      (ls_drop (le_callM (la_cons le_var (la_cons (le_lst (la_cons le_var (la_cons (le_un le_var ul_neg) la_nil))) la_nil))))), ?_⟩
  intro ds m Qc h
  obtain ⟨cs, a, b, rfl, rfl, hc, hq⟩ := h
  have h1 := putC_len cs [-a, b]
  exact ⟨Nat.le_of_ble_eq_true rfl, 0, _, rfl, rfl, cs, [-a, b], rfl, rfl, (by simp), by omega, Nat.le_of_ble_eq_true rfl, 0, _, rfl, rfl, _, [a, -b], rfl, rfl, (by simp), by omega, _, rfl, hq⟩
abbrev s_first_and : Stmt := topS 6
abbrev n_first_and : List Str := ["graph"]
theorem sc_first_and : FnScope n_first_and ["graph"] (C8.fnScope s_first_and) := C8.fnScope_by (by decide +kernel)
theorem ok_first_and {a : Addr} {fd : FuncData} (F : C8.Def K mg "first_and" s_first_and a fd) (b : Binds K fd ["graph"] []) (T : Txt mg) : CalG P w K mg base (1) "first_and" (spD K [.bo] (CfstG)) := by
  refine calG F b sc_first_and rfl (fun cdv A outer s H E hA hr => ?_)
  have hu := huOf hr
  have hu64 := hr.units
  refine ⟨_, _, (pss_one (ps_ret (pe_op (k_add (K := K) rfl) (pe_op (k_add (K := K) rfl) pe_int (pe_ix (k_ix (K := K) rfl) (pv 0) pe_int (fun _ _ => rfl))) (pe_callB (k_lenA (K := K) rfl) (by rfl) T.len (by decide +kernel) (pa_cons (pe_ix (k_ix (K := K) rfl) (pv 0) pe_int (fun _ _ => rfl)) pa_nil))))),
   (ls_ret (le_op (le_op le_int (le_op le_var le_int ol_ix) ol_add) (le_cb (la_cons (le_op le_var le_int ol_ix) la_nil) cl_lenA) ol_add)), ?_⟩
  intro ds Qc h
  obtain ⟨g, rfl, hg, hq⟩ := h
  have hrl := hg.rl
  have e : (1 : Int) + g.ins + ((g.regs.map pD).length : Nat) = (g.first : Int) := by rw [List.length_map]; unfold Gr.first; omega
  refine ⟨trivial, _, rfl, trivial, _, rfl, ?_⟩
  rw [← e] at hq
  exact hq
abbrev s_size_of : Stmt := topS 7
abbrev n_size_of : List Str := ["graph"]
theorem sc_size_of : FnScope n_size_of ["graph"] (C8.fnScope s_size_of) := C8.fnScope_by (by decide +kernel)
theorem ok_size_of {a : Addr} {fd : FuncData} (F : C8.Def K mg "size_of" s_size_of a fd) (b : Binds K fd ["graph"] []) (T : Txt mg) (c_first_and : CalG P w K mg base 1 "first_and" (spD K [.bo] (CfstG))) : CalG P w K mg base (2) "size_of" (spD K [.bo] (CsizG)) := by
  refine calG F b sc_size_of rfl (fun cdv A outer s H E hA hr => ?_)
  have hu := huOf hr
  have hu64 := hr.units
  refine ⟨_, _, (pss_one (ps_ret (pe_op (k_add (K := K) rfl) (pe_cG c_first_and hA hr (by first | decide | omega) rfl (pa_cons (pv 0) pa_nil)) (pe_callB (k_lenA (K := K) rfl) (by rfl) T.len (by decide +kernel) (pa_cons (pe_ix (k_ix (K := K) rfl) (pv 0) pe_int (fun _ _ => rfl)) pa_nil))))),
   (ls_ret (le_op (le_call (la_cons le_var la_nil)) (le_cb (la_cons (le_op le_var le_int ol_ix) la_nil) cl_lenA) ol_add)), ?_⟩
  intro ds Qc h
  obtain ⟨g, rfl, hg, hq⟩ := h
  have hrl := hg.rl
  have e : (g.first : Int) + ((g.ands.map pD).length : Nat) = (g.many : Int) := by rw [List.length_map]; unfold Gr.many; omega
  refine ⟨g, rfl, hg, trivial, _, rfl, ?_⟩
  rw [← e] at hq
  exact hq
abbrev s_put_graph : Stmt := topS 8
abbrev n_put_graph : List Str := ["clauses", "graph", "shift", "number", "one", "other", "letter"]
theorem sc_put_graph : FnScope n_put_graph ["clauses", "graph", "shift"] (C8.fnScope s_put_graph) := C8.fnScope_by (by decide +kernel)
theorem ok_put_graph {a : Addr} {fd : FuncData} (F : C8.Def K mg "put_graph" s_put_graph a fd) (b : Binds K fd ["clauses", "graph", "shift"] []) (T : Txt mg) (c_first_and : CalG P w K mg base 1 "first_and" (spD K [.bo] (CfstG))) (c_put_and : CalG P w K mg base 2 "put_and" (spM K [.mu, .bo, .bo, .bo] (CputA))) (c_moved_literal : CalG P w K mg base 1 "moved_literal" (spD K [.bo, .bo] (Cmov))) : CalG P w K mg base (3) "put_graph" (spM K [.mu, .bo, .bo] (CputG)) := by
  refine calGM 0 F b sc_put_graph rfl (fun cdv A outer s H E hA hr => ?_)
  have hu := huOf hr
  have hu64 := hr.units
  refine ⟨_, _, (pss_cons (ps_expr (pe_bm PySem.F.plainAttrs_list PySem.F.slot_list_append PySem.F.type_list_append mt_append (pv 0) (pa_cons (pe_tup (pa_cons (pe_op op_sub (pe_un un_neg pe_int) (pv 2)) pa_nil)) pa_nil)))
      (pss_one (ps_for PassesOwn.never rfl (k_enum (K := K) rfl (by rfl) T.enumerate (pa_cons (pe_ix (k_ix (K := K) rfl) (pv 1) pe_int (fun _ _ => rfl)) pa_nil)) (k_gtup (n := 2) (K := K) rfl (by rfl) (pgs_cons (pg_name (i := 3) sc_put_graph.nd rfl (by first | exact Or.inl rfl | exact Or.inr rfl)) (pgs_cons (k_gtup (n := 2) (K := K) rfl (by rfl) (pgs_cons (pg_name (i := 4) sc_put_graph.nd rfl (by first | exact Or.inl rfl | exact Or.inr rfl)) (pgs_cons (pg_name (i := 5) sc_put_graph.nd rfl (by first | exact Or.inl rfl | exact Or.inr rfl)) pgs_nil))) pgs_nil)))
      (pss_cons (ps_asg (pe_op (k_add (K := K) rfl) (pe_op (k_add (K := K) rfl) (pe_op (k_add (K := K) rfl) (pe_cG c_first_and hA hr (by first | decide | omega) rfl (pa_cons (pv 1) pa_nil)) (pv 3)) pe_int) (pv 2)) (pg_name (i := 6) sc_put_graph.nd rfl (by first | exact Or.inl rfl | exact Or.inr rfl)))
      (pss_one (ps_expr (pe_cG c_put_and hA hr (by first | decide | omega) rfl (pa_cons (pv 0) (pa_cons (pv 6) (pa_cons (pe_cG c_moved_literal hA hr (by first | decide | omega) rfl (pa_cons (pv 4) (pa_cons (pv 2) pa_nil))) (pa_cons (pe_cG c_moved_literal hA hr (by first | decide | omega) rfl (pa_cons (pv 5) (pa_cons (pv 2) pa_nil))) pa_nil))))))))))),
   (ls_seq (ls_appFl (le_tup (la_cons (le_op (le_un le_int ul_neg) le_var ol_sub) la_nil)))
      (ls_for (li_enum (la_cons (le_op le_var le_int ol_ix) la_nil)) (lg_tup (lgs_cons lg_name (lgs_cons (lg_tup (lgs_cons lg_name (lgs_cons lg_name lgs_nil))) lgs_nil)))
      (ls_seq (ls_asg (le_op (le_op (le_op (le_call (la_cons le_var la_nil)) le_var ol_add) le_int ol_add) le_var ol_add) lg_name)
      (ls_drop (le_callM (la_cons le_var (la_cons le_var (la_cons (le_call (la_cons le_var (la_cons le_var la_nil))) (la_cons (le_call (la_cons le_var (la_cons le_var la_nil))) la_nil))))))))), ?_⟩
  intro ds m Qc h
  obtain ⟨cs, g, s, rfl, rfl, hg, hc, hq⟩ := h
  have ha := hg.al
  have sl := sizeLine_eq
  refine ⟨rfl, rfl, Nat.le_of_ble_eq_true rfl, _, rfl, by rw [csD_len]; omega, trivial, _, rfl, ?_⟩
  refine dLoop_of (enumD (g.ands.map pD)) (fun i ρ => ∃ o3 o4 o5 o6 : Option Sl, ρ = [some (.mu (.fl (csD (cs ++ gCn g s i)))), some (.bo g.toD), some (.bo (.int s)), o3, o4, o5, o6]) ⟨none, none, none, none, by rw [csD_0]; rfl⟩ ?_ ?_
  · rintro i x ρ k hx ⟨o3, o4, o5, o6, rfl⟩ next
    obtain ⟨hi, rfl⟩ := get_enumP hx
    have hl := gCn_len g s i
    have e := gCn_sj g s i
    rw [getD_and hi] at e
    refine ⟨rfl, rfl, rfl, rfl, g, rfl, hg, _, _, rfl, _, _, rfl, 0, _, rfl, rfl, cs ++ gCn g s i, _, _, _, rfl, rfl, by rw [List.length_append]; omega, next _ ⟨some (.sh (.int i)), some (.sh (.int (g.ands[i]).1)), some (.sh (.int (g.ands[i]).2)), some (.sh (.int ((g.first : Int) + i + 1 + s))), ?_⟩⟩
    rw [e, ← putAnd_app]
    rfl
  · rintro ρ ⟨o3, o4, o5, o6, rfl⟩
    rw [enumP_len]
    exact ⟨_, rfl, hq⟩
abbrev s_clauses_of : Stmt := topS 9
abbrev n_clauses_of : List Str := ["graph", "clauses"]
theorem sc_clauses_of : FnScope n_clauses_of ["graph"] (C8.fnScope s_clauses_of) := C8.fnScope_by (by decide +kernel)
theorem ok_clauses_of {a : Addr} {fd : FuncData} (F : C8.Def K mg "clauses_of" s_clauses_of a fd) (b : Binds K fd ["graph"] []) (T : Txt mg) (c_put_graph : CalG P w K mg base 3 "put_graph" (spM K [.mu, .bo, .bo] (CputG))) : CalG P w K mg base (4) "clauses_of" (spD K [.bo] (CcloG)) := by
  refine calG F b sc_clauses_of rfl (fun cdv A outer s H E hA hr => ?_)
  have hu := huOf hr
  have hu64 := hr.units
  refine ⟨_, _, (pss_cons (ps_asg (pe_lst pa_nil) (pg_name (i := 1) sc_clauses_of.nd rfl (by first | exact Or.inl rfl | exact Or.inr rfl)))
      (pss_cons (ps_expr (pe_cG c_put_graph hA hr (by first | decide | omega) rfl (pa_cons (pv 1) (pa_cons (pv 0) (pa_cons pe_int pa_nil)))))
      (pss_one (ps_ret (pv 1))))),
   (ls_seq (ls_asg (le_lst la_nil) lg_name)
      (ls_seq (ls_muS 1 (ls_drop (le_callM (la_cons le_var (la_cons le_var (la_cons le_int la_nil))))))
      (ls_ret le_var))), ?_⟩
  intro ds Qc h
  obtain ⟨g, rfl, hg, hq⟩ := h
  have hq2 : Qc (.nw (.list (csD ([] ++ gCn g 0 g.ands.length)))) := hq
  exact ⟨Nat.le_of_ble_eq_true rfl, rfl, _, rfl, 1, _, rfl, rfl, [], g, 0, rfl, rfl, hg, Nat.le_of_ble_eq_true rfl, _, rfl, hq2⟩
abbrev s_register_letter : Stmt := topS 10
abbrev n_register_letter : List Str := ["graph", "index", "clock"]
theorem sc_register_letter : FnScope n_register_letter ["graph", "index", "clock"] (C8.fnScope s_register_letter) := C8.fnScope_by (by decide +kernel)
theorem ok_register_letter {a : Addr} {fd : FuncData} (F : C8.Def K mg "register_letter" s_register_letter a fd) (b : Binds K fd ["graph", "index", "clock"] []) (T : Txt mg) (c_size_of : CalG P w K mg base 2 "size_of" (spD K [.bo] (CsizG))) : CalG P w K mg base (3) "register_letter" (spD K [.bo, .bo, .bo] (CrLet)) := by
  refine calG F b sc_register_letter rfl (fun cdv A outer s H E hA hr => ?_)
  have hu := huOf hr
  have hu64 := hr.units
  refine ⟨_, _, (pss_one (ps_ret (pe_op (k_add (K := K) rfl) (pe_op (k_add (K := K) rfl) (pe_op (k_add (K := K) rfl) (pe_op op_mulA (pv 2) (pe_cG c_size_of hA hr (by first | decide | omega) rfl (pa_cons (pv 0) pa_nil))) (pe_ix (k_ix (K := K) rfl) (pv 0) pe_int (fun _ _ => rfl))) (pv 1)) pe_int))),
   (ls_ret (le_op (le_op (le_op (le_op le_var (le_call (la_cons le_var la_nil)) ol_mul) (le_op le_var le_int ol_ix) ol_add) le_var ol_add) le_int ol_add)), ?_⟩
  intro ds Qc h
  obtain ⟨g, k, t, rfl, hg, ht, hq⟩ := h
  exact ⟨g, rfl, hg, cmul_s (by omega), trivial, _, atI0, hq⟩
abbrev s_unrolled : Stmt := topS 11
abbrev n_unrolled : List Str := ["graph", "clocks", "clauses", "size", "clock", "index", "start", "taken"]
theorem sc_unrolled : FnScope n_unrolled ["graph", "clocks"] (C8.fnScope s_unrolled) := C8.fnScope_by (by decide +kernel)
theorem ok_unrolled {a : Addr} {fd : FuncData} (F : C8.Def K mg "unrolled" s_unrolled a fd) (b : Binds K fd ["graph", "clocks"] []) (T : Txt mg) (c_size_of : CalG P w K mg base 2 "size_of" (spD K [.bo] (CsizG))) (c_put_graph : CalG P w K mg base 3 "put_graph" (spM K [.mu, .bo, .bo] (CputG))) (c_register_letter : CalG P w K mg base 3 "register_letter" (spD K [.bo, .bo, .bo] (CrLet))) (c_moved_literal : CalG P w K mg base 1 "moved_literal" (spD K [.bo, .bo] (Cmov))) (c_put_same : CalG P w K mg base 2 "put_same" (spM K [.mu, .bo, .bo] (CputS))) : CalG P w K mg base (4) "unrolled" (spD K [.bo, .bo] (CunrG)) := by
  refine calG F b sc_unrolled rfl (fun cdv A outer s H E hA hr => ?_)
  have hu := huOf hr
  have hu64 := hr.units
  refine ⟨_, _, (pss_cons (ps_par (i := 2) (j := 3) (by rfl) sc_unrolled.nd rfl rfl (by decide) rfl rfl (pa_cons (pe_lst pa_nil) (pa_cons (pe_cG c_size_of hA hr (by first | decide | omega) rfl (pa_cons (pv 0) pa_nil)) pa_nil)) (by rfl))
      (pss_cons (ps_for PassesOwn.never rfl (pi_range1 (by rfl) T.range (pa_cons (pv 1) pa_nil)) (pg_name (i := 4) sc_unrolled.nd rfl (by first | exact Or.inl rfl | exact Or.inr rfl))
      (pss_cons (ps_expr (pe_cG c_put_graph hA hr (by first | decide | omega) rfl (pa_cons (pv 2) (pa_cons (pv 0) (pa_cons (pe_op op_mulA (pv 4) (pv 3)) pa_nil)))))
      (pss_one (ps_for PassesOwn.never rfl (k_enum (K := K) rfl (by rfl) T.enumerate (pa_cons (pe_ifExp (pt_cmpR op_gt (pv 4) pe_int (nomark _)) (pe_ix (k_ix (K := K) rfl) (pv 0) pe_int (fun _ _ => rfl)) (pe_tup pa_nil)) pa_nil)) (k_gtup (n := 2) (K := K) rfl (by rfl) (pgs_cons (pg_name (i := 5) sc_unrolled.nd rfl (by first | exact Or.inl rfl | exact Or.inr rfl)) (pgs_cons (k_gtup (n := 2) (K := K) rfl (by rfl) (pgs_cons (pg_name (i := 6) sc_unrolled.nd rfl (by first | exact Or.inl rfl | exact Or.inr rfl)) (pgs_cons (pg_name (i := 7) sc_unrolled.nd rfl (by first | exact Or.inl rfl | exact Or.inr rfl)) pgs_nil))) pgs_nil)))
      (pss_one (ps_expr (pe_cG c_put_same hA hr (by first | decide | omega) rfl (pa_cons (pv 2) (pa_cons (pe_cG c_register_letter hA hr (by first | decide | omega) rfl (pa_cons (pv 0) (pa_cons (pv 5) (pa_cons (pv 4) pa_nil)))) (pa_cons (pe_cG c_moved_literal hA hr (by first | decide | omega) rfl (pa_cons (pv 7) (pa_cons (pe_op op_mulA (pe_op op_sub (pv 4) pe_int) (pv 3)) pa_nil))) pa_nil))))))))))
      (pss_one (ps_ret (pv 2))))),
   (ls_seq (ls_par (le_lst la_nil) (le_call (la_cons le_var la_nil)))
      (ls_seq (ls_for (li_rng1 (la_cons le_var la_nil)) lg_name
      (ls_seq (ls_muS 2 (ls_drop (le_callM (la_cons le_var (la_cons le_var (la_cons (le_op le_var le_var ol_mul) la_nil))))))
      (ls_for (li_enum (la_cons (le_if (lt_test (le_op le_var le_int ol_gt)) (le_op le_var le_int ol_ix) (le_tup la_nil)) la_nil)) (lg_tup (lgs_cons lg_name (lgs_cons (lg_tup (lgs_cons lg_name (lgs_cons lg_name lgs_nil))) lgs_nil)))
      (ls_muS 2 (ls_drop (le_callM (la_cons le_var (la_cons (le_call (la_cons le_var (la_cons le_var (la_cons le_var la_nil)))) (la_cons (le_call (la_cons le_var (la_cons (le_op (le_op le_var le_int ol_sub) le_var ol_mul) la_nil))) la_nil)))))))))
      (ls_ret le_var))), ?_⟩
  intro ds Qc h
  obtain ⟨g, t, rfl, hg, ht, hq⟩ := h
  have ha := hg.al
  have hrl := hg.rl
  have sl := sizeLine_eq
  refine ⟨Nat.le_of_ble_eq_true rfl, g, rfl, hg, ⟨by omega, by omega⟩, ?_⟩
  refine dLoop_of _ (fun i ρ => ∃ (o4 : Option Sl) (o5 o6 o7 : Option D), ρ = [some (.bo g.toD), some (.bo (.int (t : Int))), some (.ow (.list (csD (uCn g i)))), some (.sh (.int (g.many : Int))), o4, o5.map Sl.sh, o6.map Sl.sh, o7.map Sl.sh]) ⟨none, none, none, none, rfl⟩ ?_ ?_
  · rintro i x ρ k hx ⟨o4, o5, o6, o7, rfl⟩ next
    obtain ⟨hi, rfl⟩ := rng0_get hx
    have hu := uCn_len hg i
    refine ⟨(by cases o5 <;> cases o6 <;> cases o7 <;> rfl), _, rfl, cmul_s (by omega), 2, _, rfl, rfl, uCn g i, g, (i : Int) * (g.many : Int), rfl, rfl, hg, by omega, _, rfl, ?_⟩
    refine useB_en (fun ds => ds = enumD ((g.regs.take (nRt g i)).map pD)) (fun e loop => ⟨trivial, _, atI1, loop _ ?_⟩) (fun e => ?_) ?_ (Nat.le_of_ble_eq_true rfl)
    · have e : decide ((i : Int) > 0) = true := e
      have e := of_decide_eq_true e
      have en : nRt g i = g.regs.length := if_neg (by omega)
      rw [en, List.take_length]
    · have e : decide ((i : Int) > 0) = false := e
      have e := of_decide_eq_false e
      have en : nRt g i = 0 := if_pos (by omega)
      rw [en, List.take_zero]
      rfl
    · rintro ds rfl
      have hn : nRt g i ≤ g.regs.length := by unfold nRt; split <;> omega
      refine dLoop_of _ (fun j ρ => ∃ (o5 o6 o7 : Option D), ρ = [some (.bo g.toD), some (.bo (.int (t : Int))), some (.ow (.list (csD (rCn g i (uCn g i ++ gCn g ((i : Int) * (g.many : Int)) g.ands.length) j)))), some (.sh (.int (g.many : Int))), some (.sh (.int (i : Int))), o5.map Sl.sh, o6.map Sl.sh, o7.map Sl.sh]) ⟨o5, o6, o7, rfl⟩ ?_ ?_
      · rintro j x ρ k hx ⟨o5, o6, o7, rfl⟩ next
        obtain ⟨hj, rfl⟩ := get_enumP hx
        rw [List.length_take, Nat.min_eq_left hn] at hj
        have hj2 : j < g.regs.length := by omega
        have h1 := rCn_len g i (uCn g i ++ gCn g ((i : Int) * (g.many : Int)) g.ands.length) j
        have h2 := gCn_len g ((i : Int) * (g.many : Int)) g.ands.length
        rw [List.length_append] at h1
        have e := rCn_sj g i (uCn g i ++ gCn g ((i : Int) * (g.many : Int)) g.ands.length) j
        rw [getD_reg hj2] at e
        rw [List.getElem_take]
        refine ⟨rfl, rfl, rfl, rfl, (by cases o5 <;> cases o6 <;> cases o7 <;> rfl), _, rfl, g, j, i, rfl, hg, ⟨by omega, by omega⟩, .inl ⟨by omega, by omega⟩, _, _, rfl, 2, _, rfl, rfl, rCn g i (uCn g i ++ gCn g ((i : Int) * (g.many : Int)) g.ands.length) j, _, _, rfl, rfl, by omega, _, rfl, next _ ⟨some (.int j), some (.int (g.regs[j]).1), some (.int (g.regs[j]).2), ?_⟩⟩
        rw [e]
        rfl
      · rintro ρ ⟨o5, o6, o7, rfl⟩
        rw [enumP_len, List.length_take, Nat.min_eq_left hn]
        exact next _ ⟨_, o5, o6, o7, rfl⟩
  · rintro ρ ⟨o4, o5, o6, o7, rfl⟩
    rw [rngD_length, Int.toNat_natCast]
    exact hq
abbrev s_starting : Stmt := topS 12
abbrev n_starting : List Str := ["graph", "letters", "index", "letter", "start", "taken"]
theorem sc_starting : FnScope n_starting ["graph"] (C8.fnScope s_starting) := C8.fnScope_by (by decide +kernel)
theorem ok_starting {a : Addr} {fd : FuncData} (F : C8.Def K mg "starting" s_starting a fd) (b : Binds K fd ["graph"] []) (T : Txt mg) (c_register_letter : CalG P w K mg base 3 "register_letter" (spD K [.bo, .bo, .bo] (CrLet))) : CalG P w K mg base (4) "starting" (spD K [.bo] (CstaG)) := by
  refine calG F b sc_starting rfl (fun cdv A outer s H E hA hr => ?_)
  have hu := huOf hr
  have hu64 := hr.units
  refine ⟨_, _, (pss_cons (ps_setLc (i := 1) rfl sc_starting.nd rfl rfl (sw_true rfl rfl rfl (by decide +kernel)) (pi_range1 (by rfl) T.range (pa_cons (pe_callB (k_lenA (K := K) rfl) (by rfl) T.len (by decide +kernel) (pa_cons (pe_ix (k_ix (K := K) rfl) (pv 0) pe_int (fun _ _ => rfl)) pa_nil)) pa_nil)) (blkOk_by (own := [("index", 2)]) (N := n_starting) (sc := C8.fnScope s_starting) (by decide +kernel)) (fun _ _ _ _ _ => (pg_name (i := 2) sc_starting.nd rfl (by first | exact Or.inl rfl | exact Or.inr rfl))) (fun _ _ _ _ _ => pts_nil) (fun _ _ _ _ _ => (pe_cG c_register_letter hA hr (by first | decide | omega) rfl (pa_cons (pv 0) (pa_cons (pv 2) (pa_cons pe_int pa_nil))))))
      (pss_one (ps_ret (pe_lc rfl sc_starting.nd (k_zips (K := K) rfl (by rfl) T.zip (pa_cons (pv 1) (pa_cons (pe_ix (k_ix (K := K) rfl) (pv 0) pe_int (fun _ _ => rfl)) pa_nil))) (blkOk_by (own := [("letter", 3), ("start", 4), ("taken", 5)]) (N := n_starting) (sc := C8.fnScope s_starting) (by decide +kernel)) (fun _ _ _ _ _ => (k_gtup (n := 2) (K := K) rfl (by rfl) (pgs_cons (pg_name (i := 3) sc_starting.nd rfl (by first | exact Or.inl rfl | exact Or.inr rfl)) (pgs_cons (k_gtup (n := 2) (K := K) rfl (by rfl) (pgs_cons (pg_name (i := 4) sc_starting.nd rfl (by first | exact Or.inl rfl | exact Or.inr rfl)) (pgs_cons (pg_name (i := 5) sc_starting.nd rfl (by first | exact Or.inl rfl | exact Or.inr rfl)) pgs_nil))) pgs_nil)))) (fun _ _ _ _ _ => pts_nil) (fun _ _ _ _ _ => (pe_tup (pa_cons (pe_ifExp (pt_cmpR (k_eq (K := K) rfl hu64) (pv 4) pe_int (nomark _)) (pv 3) (pe_un un_neg (pv 3))) pa_nil))))))),
   (ls_seq (ls_asg (le_lc (li_rng1 (la_cons (le_cb (la_cons (le_op le_var le_int ol_ix) la_nil) cl_lenA) la_nil)) lg_name (lgw_name (by decide)) lt_yes (le_call (la_cons le_var (la_cons le_var (la_cons le_int la_nil))))) lg_name)
      (ls_ret (le_lc (li_zip (la_cons le_var (la_cons (le_op le_var le_int ol_ix) la_nil))) (lg_tup (lgs_cons lg_name (lgs_cons (lg_tup (lgs_cons lg_name (lgs_cons lg_name lgs_nil))) lgs_nil))) (lgw_tup (lgsw_cons mog_name (mogs_cons (mog_tup (mogs_cons mog_name (mogs_cons mog_name mogs_nil))) mogs_nil) (lgw_name (by decide)) (lgsw_cons (mog_tup (mogs_cons mog_name (mogs_cons mog_name mogs_nil))) mogs_nil (lgw_tup (lgsw_cons mog_name (mogs_cons mog_name mogs_nil) (lgw_name (by decide)) (lgsw_cons mog_name mogs_nil (lgw_name (by decide)) lgsw_nil))) lgsw_nil))) lt_yes (le_tup (la_cons (le_if (lt_test (le_op le_var le_int ol_eq)) le_var (le_un le_var ul_neg)) la_nil))))), ?_⟩
  intro ds Qc h
  obtain ⟨g, rfl, hg, hq⟩ := h
  have hrl := hg.rl
  have sl := sizeLine_eq
  have en : (g.regs.map pD).length = g.regs.length := List.length_map _
  refine ⟨trivial, _, atI1, ⟨by omega, by omega⟩, ?_⟩
  refine dLcGo_of _ (fun j acc ρ => acc = letD g j ∧ ρ = [some (.bo g.toD), none, none, none, none, none]) ⟨rfl, rfl⟩ ?_ ?_
  · rintro j x acc ρ k hx ⟨rfl, rfl⟩ next
    obtain ⟨hj, rfl⟩ := rngN_get hx en
    refine useB_y rfl ⟨g, j, 0, rfl, hg, ⟨by omega, by omega⟩, by rw [letD_len]; omega, next _ _ ⟨(letD_succ g j).symm, rfl⟩⟩
  · rintro acc ρ ⟨rfl, rfl⟩
    rw [rngD_length, Int.toNat_natCast, en]
    refine ⟨trivial, _, atI1, (fun _ => by rw [letD_len, en]), ?_⟩
    refine dLcGo_of _ (fun j acc ρ => acc = sC0 g j ∧ ρ = [some (.bo g.toD), some (.sh (.list (letD g g.regs.length))), none, none, none, none]) ⟨rfl, rfl⟩ ?_ ?_
    · rintro j x acc ρ k hx ⟨rfl, rfl⟩ next
      obtain ⟨hj, hj2, rfl⟩ := get_zipC hx
      rw [letD_get]
      have hj3 : j < g.regs.length := by rw [letD_len] at hj; exact hj
      rw [List.getElem_map]
      refine ⟨rfl, rfl, rfl, rfl, useB_y rfl ⟨rfl, useB_b (fun h => ⟨Nat.le_of_ble_eq_true rfl, by rw [sC0_len]; omega, next _ _ ⟨?_, rfl⟩⟩) (fun h => ⟨Nat.le_of_ble_eq_true rfl, by rw [sC0_len]; omega, next _ _ ⟨?_, rfl⟩⟩)⟩⟩
      · have h : (false != PyData.eqv (.int (g.regs[j]).1) (.int 1)) = true := h
        rw [eqv_int] at h
        have h : (g.regs[j]).1 = 1 := by simpa using h
        rw [sC0_succ]
        unfold sC1
        rw [getD_reg hj3, if_pos h]
        rfl
      · have h : (false != PyData.eqv (.int (g.regs[j]).1) (.int 1)) = false := h
        rw [eqv_int] at h
        have h : ¬ (g.regs[j]).1 = 1 := by simpa using h
        rw [sC0_succ]
        unfold sC1
        rw [getD_reg hj3, if_neg h]
        rfl
    · rintro acc ρ ⟨rfl, rfl⟩
      rw [zipC_len (by rw [letD_len, en]), letD_len]
      exact hq
end
end K84

set_option Elab.async false
set_option linter.all false
set_option maxRecDepth 100000
set_option maxHeartbeats 4000000
set_option autoImplicit false
set_option pp.maxSteps 1000
namespace K84
open PySem L2 DL
section
variable {P : Program} {w : World} {K : PySem.W.Frag} {mg : Str → Option Value} {base : Heap}
abbrev s_law_pick : Stmt := topS 19
abbrev n_law_pick : List Str := ["_law_source_here", "_law_many", "_law_left", "_law_mixed"]
theorem sc_law_pick : FnScope n_law_pick ["_law_source_here", "_law_many"] (C8.fnScope s_law_pick) := C8.fnScope_by (by decide +kernel)
theorem ok_law_pick {a : Addr} {fd : FuncData} (F : C8.Def K mg "_law_pick" s_law_pick a fd) (b : Binds K fd ["_law_source_here", "_law_many"] []) (T : Txt mg) : CalG P w K mg base 1 "_law_pick" (spD K [.src, .bo] Cpick) := by
  refine ⟨a, fd, _, fnG_of F.fn sc_law_pick (fun vs H Q E h => ?_) (fun cdv A outer s H vs Q E hA hr h => ?_), F.mgf, F.kp, b⟩
  · obtain ⟨M0, src, ds, P, _⟩ := h
    exact P.args.length.1.symm
  obtain ⟨M0, src, ds, P, Qc, ⟨m, rfl, hm, hQc⟩, hQ⟩ := h
  obtain ⟨p, c, rfl, rfl, hpc, hsrc⟩ := pre_src2 P
  have fin : ∀ (k : Int) (H' : Hp), 0 ≤ k → k < m → Fm H p c H' → SrcOk H' p c → Q (.int k) H' := fun k H' h1 h2 f s => hQ _ (hQc k h1 h2) _ _ (f.post s fun _ => .int k)
  have hcp : c ≠ p := Ne.symm hpc
  have hu : _ + 1 < cLine := Nat.lt_of_le_of_lt (Nat.add_le_add_left (by decide : 1 ≤ 64) _) hr.units
  have hu64 := hr.units
  refine ⟨_, PSs.nox (pss_cons (ps_while PassesOwn.never (PW.pt (pw_and (pt_cmpR op_gt (pv 1) pe_int (nomark _)) (pw_and (pt_cmpR op_lt (pe_dget hu (pv 0) pe_str (fun _ _ => rfl)) pe_int (nomark _)) (pw_and1 (pt_cmpR op_gt (pe_callB call_len (by rfl) T.len (by decide +kernel) (pa_cons (pe_dget hu (pv 0) pe_str (fun _ _ => rfl)) pa_nil)) pe_int (nomark _))))))
      (pss_one (ps_dput hu (pv 0) pe_str (pe_bm0 PySem.F.plainAttrs_list PySem.F.slot_list_pop PySem.F.type_list_pop mt_pop (pe_dget hu (pv 0) pe_str (fun _ _ => rfl))) rfl)))
      (pss_cons (ps_asg (pe_dget hu (pv 0) pe_str (fun _ _ => rfl)) (pg_name (i := 2) sc_law_pick.nd rfl (by first | exact Or.inl rfl | exact Or.inr rfl)))
      (pss_cons (ps_if (PW.pt (pw_or (pt_cmpR op_lt (pv 1) pe_int (nomark _)) (pw_or1 (pt_cmpR op_gt (pv 2) pe_int (nomark _))))) (pss_cons (ps_dput hu (pv 0) pe_str (pe_op op_fdivL (pv 2) (pe_callB (call_max2 rfl) (by rfl) T.max (by decide +kernel) (pa_cons pe_int (pa_cons (pv 1) pa_nil)))) rfl)
      (pss_one (ps_ret (pe_op op_modN (pe_callTy call_int1 (by rfl) T.int (by decide +kernel) (pa_cons (pv 2) pa_nil)) (pe_callB (call_max2 rfl) (by rfl) T.max (by decide +kernel) (pa_cons pe_int (pa_cons (pv 1) pa_nil))))))) pss_nil)
      (pss_cons (ps_dput hu (pv 0) pe_str (pe_op op_add (pe_dget hu (pv 0) pe_str (fun _ _ => rfl)) pe_int) rfl)
      (pss_cons (ps_asg (pe_op op_modN (pe_callTy call_int1 (by rfl) T.int (by decide +kernel) (pa_cons (pe_op op_add (pe_dget hu (pv 0) pe_str (fun _ _ => rfl)) (pe_op op_mul (pe_dget hu (pv 0) pe_str (fun _ _ => rfl)) pe_int)) pa_nil)) pe_int) (pg_name (i := 3) sc_law_pick.nd rfl (by first | exact Or.inl rfl | exact Or.inr rfl)))
      (pss_cons (ps_asg (pe_op op_modN (pe_callTy call_int1 (by rfl) T.int (by decide +kernel) (pa_cons (pe_op op_add (pe_op op_mul (pv 3) (pv 3)) (pe_op op_mul (pe_dget hu (pv 0) pe_str (fun _ _ => rfl)) pe_int)) pa_nil)) pe_int) (pg_name (i := 3) sc_law_pick.nd rfl (by first | exact Or.inl rfl | exact Or.inr rfl)))
      (pss_cons (ps_dput hu (pv 0) pe_str (pv 3) rfl)
      (pss_one (ps_ret (pe_op op_modN (pe_callTy call_int1 (by rfl) T.int (by decide +kernel) (pa_cons (pe_op op_fdivL (pv 3) pe_int) pa_nil)) (pv 1))))))))))), ?_⟩
  obtain ⟨ns0, l0, m0, t0, mo0, S0⟩ := hsrc.sx
  refine ⟨fun n σ' H' => σ' = [some (.ref p), some (.int m), none, none] ∧ Fm H p c H' ∧ ∃ ns l mi t more, Sx c H' p ns l mi t more ∧ n = ns.length, ⟨_, rfl, Fm.refl, ns0, l0, m0, t0, mo0, S0, rfl⟩, ?_⟩
  rintro n σ' H' ⟨rfl, f, ns, l, mi, t, more, S, rfl⟩
  refine ⟨_, rfl, _, _, rfl, rfl, _, rfl, ite_b (fun h1 => ⟨_, rfl, p, .int l, rfl, S.gL, _, _, rfl, rfl, _, rfl, ite_b (fun h2 => ⟨_, rfl, p, .ref c, rfl, S.gC, _, _, rfl, .inl ⟨_, .inl (.inl S.hc), rfl⟩, _, _, rfl, rfl, _, rfl, ite_b (fun h3 => ?turn) (fun h3 => ?t1)⟩) (fun h2 => ?t2)⟩) (fun h1 => ?t3)⟩
  case turn =>
    have hne : 0 < ns.length := by simpa using h3
    refine ⟨fun σ'' H'' => ∃ k, k < ns.length ∧ (σ'' = [some (.ref p), some (.int m), none, none] ∧ Fm H p c H'' ∧ ∃ ns l mi t more, Sx c H'' p ns l mi t more ∧ k = ns.length), fun _ _ h => h, ?_⟩
    obtain ⟨ms, q, rfl⟩ : ∃ ms q, ns = ms ++ [q] := ⟨ns.dropLast, ns.getLast (by intro z; simp [z] at hne), (List.dropLast_concat_getLast _).symm⟩
    have hq : 0 ≤ q := S.nn q (by simp)
    refine ⟨_, rfl, p, .ref c, rfl, S.gC, .inl ⟨rfl, _, .inl (.inl S.hc)⟩, c, _, .int q, rfl, rfl, S.hc, by simp, ?_⟩
    have e1 : ((ms ++ [q]).map V.int).dropLast = ms.map V.int := by simp
    rw [e1]
    have S1 := S.setC hcp (ms := ms) fun n hn => S.nn n (by simp [hn])
    exact ⟨_, rfl, p, _, rfl, S1.pL (x := q), ms.length, by simp, rfl, f.updC.updP, ms, q, mi, t, more, S1.setL hcp hq, rfl⟩
  all_goals
    first | rw [if_neg Bool.false_ne_true] | skip
    have hmx : (if m > 1 then m else 1) = m := by split <;> omega
    have l0 := S.l0
    refine ⟨_, rfl, p, .int l, rfl, S.gL, ?_⟩
    refine ⟨_, rfl, _, _, rfl, rfl, _, rfl, ite_b (fun g1 => ?_) (fun g1 => ⟨_, rfl, _, _, rfl, rfl, _, rfl, ite_b (fun g2 => ?_) (fun g2 => ?_)⟩)⟩
    rotate_right 1
    ·
      have g1 : ¬ m < 2 := by simpa using g1
      have S1 := S.setT (x := t + 1) hcp
      have m1 : 0 ≤ (mi + (t + 1) * 104729).fmod 998244353 ∧ (mi + (t + 1) * 104729).fmod 998244353 < 998244353 := ⟨Int.fmod_nonneg_of_pos _ (by decide), Int.fmod_lt_of_pos _ (by decide)⟩
      generalize hm1 : (mi + (t + 1) * 104729).fmod 998244353 = M1 at m1
      have m2 : 0 ≤ (M1 * M1 + (t + 1) * 17).fmod 2147483647 ∧ (M1 * M1 + (t + 1) * 17).fmod 2147483647 < 2147483647 := ⟨Int.fmod_nonneg_of_pos _ (by decide), Int.fmod_lt_of_pos _ (by decide)⟩
      generalize hm2 : (M1 * M1 + (t + 1) * 17).fmod 2147483647 = M2 at m2
      have S2 := S1.setM (x := M2) hcp m2.1 m2.2
      refine ⟨_, rfl, p, _, rfl, S.gT, _, _, rfl, rfl, _, rfl, p, _, rfl, S.pT, ?_⟩
      refine ⟨_, rfl, p, _, rfl, S1.gM, _, rfl, p, _, rfl, S1.gT, _, _, rfl, rfl, .inr ⟨by decide, by decide⟩, _, _, rfl, rfl, .inl ⟨_, rfl, _, _, rfl, rfl, (by intro z; cases z), ?_⟩⟩
      dsimp only []
      rw [hm1]
      refine ⟨_, rfl, _, rfl, _, _, rfl, rfl, .inl ⟨by omega, by omega⟩, _, rfl, p, _, rfl, S1.gT, _, _, rfl, rfl, .inr ⟨by decide, by decide⟩, _, _, rfl, rfl, .inl ⟨_, rfl, _, _, rfl, rfl, (by intro z; cases z), ?_⟩⟩
      dsimp only []
      rw [hm2]
      refine ⟨_, rfl, _, rfl, p, _, rfl, S1.pM, _, rfl, _, _, rfl, rfl, ⟨by decide, by decide⟩, .inl ⟨_, rfl, _, rfl, _, _, rfl, rfl, by omega, ?_⟩⟩
      exact fin _ _ (Int.fmod_nonneg_of_pos _ (by omega)) (Int.fmod_lt_of_pos _ (by omega)) f.updP.updP S2.ok
    all_goals
      refine ⟨_, rfl, _, rfl, _, _, rfl, ?_⟩
      rw [hmx]
      refine ⟨_, _, rfl, rfl, ⟨by omega, log_pick hm.1 hm.2⟩, _, rfl, p, _, rfl, S.pL, _, rfl, .inl ⟨_, rfl, _, rfl, _, _, rfl, ?_⟩⟩
      rw [hmx]
      exact ⟨_, _, rfl, rfl, by omega, fin _ _ (Int.fmod_nonneg_of_pos _ (by omega)) (Int.fmod_lt_of_pos _ (by omega)) f.updP (S.setL hcp (Int.fdiv_nonneg l0 (by omega))).ok⟩
abbrev s_law_source : Stmt := topS 18
abbrev n_law_source : List Str := ["_law_script", "_law_mixed", "_law_cell"]
theorem sc_law_source : FnScope n_law_source ["_law_script"] (C8.fnScope s_law_source) := C8.fnScope_by (by decide +kernel)
theorem ok_law_source {a : Addr} {fd : FuncData} (F : C8.Def K mg "_law_source" s_law_source a fd) (b : Binds K fd ["_law_script"] []) (T : Txt mg) : CalG P w K mg base 1 "_law_source" (spSrc K) := by
  refine ⟨a, fd, _, fnG_of F.fn sc_law_source (fun vs H Q E h => ?_) (fun cdv A outer s H vs Q E hA hr h => ?_), F.mgf, F.kp, b⟩
  · obtain ⟨_, _, rfl, _⟩ := h; rfl
  obtain ⟨a, ns, rfl, hs, hl, hQ⟩ := h
  refine ⟨_, PSs.nox (pss_cons (ps_asg pe_int (pg_name (i := 1) sc_law_source.nd rfl (by first | exact Or.inl rfl | exact Or.inr rfl)))
      (pss_cons (ps_for PassesOwn.never rfl (pi_any (pv 0)) (pg_name (i := 2) sc_law_source.nd rfl (by first | exact Or.inl rfl | exact Or.inr rfl)) (pss_one (ps_asg (pe_op op_modN (pe_callTy call_int1 (by rfl) T.int (by decide +kernel) (pa_cons (pe_op op_add (pe_op op_add (pe_op op_mul (pv 1) pe_int) (pe_op op_mul (pv 2) pe_int)) pe_int) pa_nil)) pe_int) (pg_name (i := 1) sc_law_source.nd rfl (by first | exact Or.inl rfl | exact Or.inr rfl)))))
      (pss_one (ps_ret (pe_disp (pps_cons pe_str (pe_revL (pe_lc rfl sc_law_source.nd (pi_any (pv 0)) (blkOk_by (own := [("_law_cell", 2)]) (N := n_law_source) (sc := C8.fnScope s_law_source) (by decide +kernel)) (fun _ _ _ _ _ => (pg_name (i := 2) sc_law_source.nd rfl (by first | exact Or.inl rfl | exact Or.inr rfl))) (fun _ _ _ _ _ => pts_nil) (fun _ _ _ _ _ => (pe_callB call_abs (by rfl) T.abs (by decide +kernel) (pa_cons (pv 2) pa_nil))))) (pps_cons pe_str pe_int (pps_cons pe_str (pv 1) (pps_cons pe_str pe_int pps_nil)))) (by rfl) (by rfl) (fun z => by cases z) (by decide)))))), ?_⟩
  refine ⟨_, rfl, .inl ⟨a, rfl, ⟨_, hs⟩, fun i m σ H' => H' = H ∧ i + m = ns.length ∧ ∃ x o, σ = [some (.ref a), some (.int x), o] ∧ 0 ≤ x ∧ x < 2147483629, ⟨ns.length, rfl, by simp, 11, none, rfl, by decide, by decide⟩, ?_⟩⟩
  rintro i m σ H' ⟨rfl, e, x, o, rfl, hx⟩
  by_cases hi : i < ns.length
  · right
    refine ⟨⟨_, .int ns[i], hs, by simp [hi]⟩, fun σ' H'' => H'' = H' ∧ ∃ x o, σ' = [some (.ref a), some (.int x), o] ∧ 0 ≤ x ∧ x < 2147483629, fun σ' H'' h => ⟨m - 1, by omega, h.1, by omega, h.2⟩, ?_⟩
    rintro y H'' ⟨rfl, hy⟩
    have hy := hy _ hs
    have hy : y = .int ns[i] := by simpa [hi] using hy.symm
    subst hy
    refine ⟨_, rfl, _, _, rfl, rfl, .inr ⟨by decide, by decide⟩, _, rfl, _, _, rfl, rfl, .inr ⟨by decide, by decide⟩, _, _, rfl, rfl, _, _, rfl, rfl, .inl ⟨_, rfl, _, _, rfl, rfl, (by intro z; cases z), ?_⟩⟩
    exact ⟨rfl, _, _, rfl, Int.fmod_nonneg_of_pos _ (by decide), Int.fmod_lt_of_pos _ (by decide)⟩
  · left
    refine ⟨⟨_, hs, by simp; omega⟩, fun p hp => ?_⟩
    have ext : ∀ {G : Hp}, (∀ x o, H' x = some o → G x = some o) → SqL K G a (ns.map V.int) := fun h => hs.elim (fun h1 => .inl (h1.elim (fun h2 => .inl (h _ _ h2)) fun ⟨o, h2⟩ => .inr ⟨o, h _ _ h2⟩)) fun h1 => .inr h1
    have e1 : ∀ x o, H' x = some o → upd H' p (.dK []) x = some o := fun x o h => by rw [upd_ne (by rintro rfl; rw [hp] at h; cases h)]; exact h
    refine ⟨_, rfl, .inl ⟨a, rfl, ⟨_, ext e1⟩, fun q hq => ?_⟩⟩
    have hqp : q ≠ p := by rintro rfl; rw [upd_same] at hq; cases hq
    have hq' : H' q = none := by rw [upd_ne hqp] at hq; exact hq
    refine ⟨fun i m G => i + m = ns.length ∧ G = upd (upd H' p (.dK [])) q (.lst ((ns.take i).map fun n => .int (if n < 0 then -n else n))), ⟨ns.length, by simp, by simp⟩, ?_⟩
    rintro i m G ⟨e2, rfl⟩
    have e3 : ∀ {z : List V} x o, H' x = some o → upd (upd H' p (.dK [])) q (.lst z) x = some o := fun x o h => by rw [upd_ne (by rintro rfl; rw [hq'] at h; cases h)]; exact e1 x o h
    by_cases hi : i < ns.length
    · right
      refine ⟨⟨_, .int ns[i], ext e3, by simp [hi]⟩, fun G => G = upd (upd H' p (.dK [])) q (.lst ((ns.take (i + 1)).map fun n => .int (if n < 0 then -n else n))), fun G h => ⟨m - 1, by omega, by omega, h⟩, ?_⟩
      rintro y G ⟨rfl, hy⟩
      have hy := hy _ (ext e3)
      have hy : y = .int ns[i] := by simpa [hi] using hy.symm
      subst hy
      refine ⟨rfl, ?_⟩
      refine ⟨_, rfl, _, rfl, _, upd_same, by simp [sizeLine_eq]; omega, ?_⟩
      have e4 : ((ns.take i).map fun n => V.int (if n < 0 then -n else n)) ++ [.int (if ns[i] < 0 then -ns[i] else ns[i])] = (ns.take (i + 1)).map fun n => V.int (if n < 0 then -n else n) := by
        rw [List.take_succ, List.map_append, List.getElem?_eq_getElem hi]; rfl
      rw [upd_upd]
      exact congrArg (fun z => upd (upd H' p (.dK [])) q (.lst z)) e4
    · left
      have ht : ns.take i = ns := List.take_of_length_le (by omega)
      rw [ht]
      refine ⟨⟨_, ext e3, by simp; omega⟩, q, _, rfl, .inl (.inl upd_same), fun c hc => ?_⟩
      have hcq : c ≠ q := by rintro rfl; rw [upd_same] at hc; cases hc
      rw [upd_ne hcq] at hc
      have hcp : c ≠ p := by rintro rfl; rw [upd_same] at hc; cases hc
      rw [upd_ne hcp] at hc
      refine ⟨_, rfl, ?_⟩
      refine ⟨by rw [upd_ne (Ne.symm hcp), upd_ne (Ne.symm hqp), upd_same], [(.inr "cells", .ref c), (.inr "left", .int 1), (.inr "mixed", .int x), (.inr "turn", .int 0)], rfl, by simp, ?_⟩
      refine hQ p c _ (Ne.symm hcp) hp hc (fun y o h => ?_) (fun y h => ?_) ⟨(ns.map fun n => if n < 0 then -n else n).reverse, 1, x, 0, [], upd_same, ?_, ?_, (by omega : (0 : Int) ≤ 1), hx.1, by omega, .inl rfl⟩
      · have n1 : y ≠ p := by rintro rfl; rw [hp] at h; cases h
        have n2 : y ≠ q := by rintro rfl; rw [hq'] at h; cases h
        have n3 : y ≠ c := by rintro rfl; rw [hc] at h; cases h
        rw [upd_ne n1, upd_ne n3, upd_ne n2, upd_ne n1]; exact h
      · by_cases n1 : y = p
        · rw [n1, upd_same] at h; cases h
        by_cases n2 : y = q
        · rw [n2]; exact hq'
        by_cases n3 : y = c
        · rw [n3]; exact hc
        rw [upd_ne n1, upd_ne n3, upd_ne n2, upd_ne n1] at h; exact h
      · rw [upd_ne hcp, upd_same]
        simp [List.map_reverse, Function.comp_def]
      · intro n hn
        simp only [List.mem_reverse, List.mem_map] at hn
        obtain ⟨k, _, rfl⟩ := hn
        split <;> omega
abbrev s_law_literal : Stmt := topS 14
abbrev n_law_literal : List Str := ["_law_values", "_law_l", "_law_full"]
theorem sc_law_literal : FnScope n_law_literal ["_law_values", "_law_l", "_law_full"] (C8.fnScope s_law_literal) := C8.fnScope_by (by decide +kernel)
theorem ok_law_literal {a : Addr} {fd : FuncData} (F : C8.Def K mg "_law_literal" s_law_literal a fd) (b : Binds K fd ["_law_values", "_law_l", "_law_full"] []) (T : Txt mg) : CalG P w K mg base (1) "_law_literal" (spD K [.bo, .bo, .bo] (Clit1)) := by
  refine calG F b sc_law_literal rfl (fun cdv A outer s H E hA hr => ?_)
  have hu := huOf hr
  have hu64 := hr.units
  refine ⟨_, _, (pss_one (ps_ret (pe_op op_xor (pe_ix (k_ix (K := K) rfl) (pv 0) (pe_op op_fdivL (pv 1) pe_int) (fun _ _ => rfl)) (pe_op op_mulA (pv 2) (pe_op op_modN (pe_callTy call_int1 (by rfl) T.int (by decide +kernel) (pa_cons (pv 1) pa_nil)) pe_int))))),
   (ls_ret (le_op (le_op le_var (le_op le_var le_int ol_fdv) ol_ix) (le_op le_var (le_op (le_cb (la_cons le_var la_nil) cl_int) le_int ol_mod) ol_mul) ol_xor)), ?_⟩
  intro ds Qc h
  obtain ⟨vs, l, rfl, hl, hq⟩ := h
  obtain ⟨h1, h2⟩ := inL_div hl
  refine ⟨⟨(by intro z; cases z), Nat.le_of_ble_eq_true rfl⟩, trivial, _, atI_ints h1 h2, ?_⟩
  refine ⟨(by intro z; cases z), .inl ⟨by decide, by decide⟩, ?_⟩
  show Qc (.fz (.int (Builtin.bitXor _ (1 * l.fmod 2))))
  rw [Int.one_mul]
  exact hq
abbrev s_law_nodes : Stmt := topS 15
abbrev n_law_nodes : List Str := ["_law_graph", "_law_state", "_law_lot", "_law_full", "_law_found", "_law_l", "_law_m"]
theorem sc_law_nodes : FnScope n_law_nodes ["_law_graph", "_law_state", "_law_lot", "_law_full"] (C8.fnScope s_law_nodes) := C8.fnScope_by (by decide +kernel)
theorem ok_law_nodes {a : Addr} {fd : FuncData} (F : C8.Def K mg "_law_nodes" s_law_nodes a fd) (b : Binds K fd ["_law_graph", "_law_state", "_law_lot", "_law_full"] []) (T : Txt mg) (c_law_literal : CalG P w K mg base 1 "_law_literal" (spD K [.bo, .bo, .bo] (Clit1))) : CalG P w K mg base (2) "_law_nodes" (spD K [.bo, .bo, .bo, .bo] (Cnodes1)) := by
  refine calG F b sc_law_nodes rfl (fun cdv A outer s H E hA hr => ?_)
  have hu := huOf hr
  have hu64 := hr.units
  refine ⟨_, _, (pss_cons (ps_asg (pe_op (k_add (K := K) rfl) (pe_op (k_add (K := K) rfl) (pe_lst (pa_cons pe_int pa_nil)) (pe_callTy (k_listA (K := K) rfl rfl) (by rfl) T.list (by decide +kernel) (pa_cons (pv 2) pa_nil))) (pe_callTy (k_listA (K := K) rfl rfl) (by rfl) T.list (by decide +kernel) (pa_cons (pv 1) pa_nil))) (pg_name (i := 4) sc_law_nodes.nd rfl (by first | exact Or.inl rfl | exact Or.inr rfl)))
      (pss_cons (ps_for PassesOwn.never rfl (k_iany (K := K) rfl (pe_ix (k_ix (K := K) rfl) (pv 0) pe_int (fun _ _ => rfl))) (k_gtup (n := 2) (K := K) rfl (by rfl) (pgs_cons (pg_name (i := 5) sc_law_nodes.nd rfl (by first | exact Or.inl rfl | exact Or.inr rfl)) (pgs_cons (pg_name (i := 6) sc_law_nodes.nd rfl (by first | exact Or.inl rfl | exact Or.inr rfl)) pgs_nil)))
      (pss_one (ps_expr (pe_bm PySem.F.plainAttrs_list PySem.F.slot_list_append PySem.F.type_list_append mt_append (pv 4) (pa_cons (pe_op op_and (pe_cG c_law_literal hA hr (by first | decide | omega) rfl (pa_cons (pv 4) (pa_cons (pv 5) (pa_cons (pv 3) pa_nil)))) (pe_cG c_law_literal hA hr (by first | decide | omega) rfl (pa_cons (pv 4) (pa_cons (pv 6) (pa_cons (pv 3) pa_nil))))) pa_nil)))))
      (pss_one (ps_ret (pv 4))))),
   (ls_seq (ls_asg (le_op (le_op (le_lst (la_cons le_int la_nil)) (le_cb (la_cons le_var la_nil) cl_listA) ol_add) (le_cb (la_cons le_var la_nil) cl_listA) ol_add) lg_name)
      (ls_seq (ls_for (li_any (le_op le_var le_int ol_ix)) (lg_tup (lgs_cons lg_name (lgs_cons lg_name lgs_nil)))
      (ls_app (le_op (le_call (la_cons le_var (la_cons le_var (la_cons le_var la_nil)))) (le_call (la_cons le_var (la_cons le_var (la_cons le_var la_nil)))) ol_and)))
      (ls_ret le_var))), ?_⟩
  intro ds Qc h
  obtain ⟨g, st, lot, rfl, hg, hs, hl, hq⟩ := h
  have ha := hg.al
  have hr := hg.rl
  have hin := hg.ins
  refine ⟨Nat.le_of_ble_eq_true rfl, by simp only [List.length_map, List.length_cons, List.length_nil]; rw [sizeLine_eq]; omega, ?_⟩
  refine ⟨by simp only [List.length_map, List.length_append, List.length_cons, List.length_nil]; rw [sizeLine_eq]; omega, ?_⟩
  refine ⟨trivial, _, rfl, dLoop_of (g.ands.map pD) (fun i ρ => ∃ o1 o2, ρ = [some (.bo g.toD), some (.bo (lotD st)), some (.bo (lotD lot)), some (.bo (.int 1)), some (.ow (.list ((nodesV (Gr.v0 st lot) (g.ands.take i)).map PyData.int))), o1, o2]) ⟨none, none, by rw [List.take_zero, ← map_v0]; rfl⟩ ?_ ?_⟩
  · rintro i x ρ k hx ⟨o1, o2, rfl⟩ next
    obtain ⟨hi, rfl⟩ := get_map hx
    have hn := Gr.pre_len st lot hs hl i (Nat.le_of_lt hi)
    have hk := hg.ands i hi
    rw [← hn] at hk
    rw [nodesV_succ _ _ _ hi, List.map_append] at next
    refine ⟨rfl, rfl, _, _, rfl, hk.1, _, _, rfl, hk.2, ?_, next _ ⟨_, _, rfl⟩⟩
    unfold Gr.first at hn
    rw [List.length_map, sizeLine_eq]; omega
  · rintro ρ ⟨o1, o2, rfl⟩
    rw [List.length_map, List.take_length]
    exact hq
abbrev s_law_draw_literal : Stmt := topS 16
abbrev n_law_draw_literal : List Str := ["_law_source_here", "_law_many", "_law_node"]
theorem sc_law_draw_literal : FnScope n_law_draw_literal ["_law_source_here", "_law_many"] (C8.fnScope s_law_draw_literal) := C8.fnScope_by (by decide +kernel)
theorem ok_law_draw_literal {a : Addr} {fd : FuncData} (F : C8.Def K mg "_law_draw_literal" s_law_draw_literal a fd) (b : Binds K fd ["_law_source_here", "_law_many"] []) (T : Txt mg) (c_law_pick : CalG P w K mg base 1 "_law_pick" (spD K [.src, .bo] (Cpick))) : CalG P w K mg base (2) "_law_draw_literal" (spD K [.src, .bo] (Cdlit)) := by
  refine calG F b sc_law_draw_literal rfl (fun cdv A outer s H E hA hr => ?_)
  have hu := huOf hr
  have hu64 := hr.units
  refine ⟨_, _, (pss_cons (ps_asg (pe_ifExp (pt_cmpR op_gt (pe_cG c_law_pick hA hr (by first | decide | omega) rfl (pa_cons (pv 0) (pa_cons pe_int pa_nil))) pe_int (nomark _)) (pe_op op_sub (pe_op op_sub (pv 1) pe_int) (pe_cG c_law_pick hA hr (by first | decide | omega) rfl (pa_cons (pv 0) (pa_cons (pe_callB (call_min2 rfl) (by rfl) T.min (by decide +kernel) (pa_cons (pv 1) (pa_cons pe_int pa_nil))) pa_nil)))) (pe_cG c_law_pick hA hr (by first | decide | omega) rfl (pa_cons (pv 0) (pa_cons (pv 1) pa_nil)))) (pg_name (i := 2) sc_law_draw_literal.nd rfl (by first | exact Or.inl rfl | exact Or.inr rfl)))
      (pss_one (ps_ret (pe_op (k_add (K := K) rfl) (pe_op op_mulA pe_int (pv 2)) (pe_cG c_law_pick hA hr (by first | decide | omega) rfl (pa_cons (pv 0) (pa_cons pe_int pa_nil))))))),
   (ls_seq (ls_asg (le_if (lt_test (le_op (le_call (la_cons le_var (la_cons le_int la_nil))) le_int ol_gt)) (le_op (le_op le_var le_int ol_sub) (le_call (la_cons le_var (la_cons (le_cb (la_cons le_var (la_cons le_int la_nil)) cl_min2) la_nil))) ol_sub) (le_call (la_cons le_var (la_cons le_var la_nil)))) lg_name)
      (ls_ret (le_op (le_op le_int le_var ol_mul) (le_call (la_cons le_var (la_cons le_int la_nil))) ol_add))), ?_⟩
  intro ds Qc h
  obtain ⟨n, rfl, h1, h2, hq⟩ := h
  refine ⟨3, rfl, ⟨by omega, by omega⟩, fun a a1 a2 => useB_d (fun _ => ?_) (fun _ => ?_)⟩
  · refine ⟨min (n : Int) 10, rfl, ⟨by omega, by omega⟩, fun c c1 c2 => ⟨.inl ⟨by decide, by decide⟩, 2, rfl, ⟨by omega, by omega⟩, fun e e1 e2 => hq _ ⟨by omega, by omega⟩⟩⟩
  · refine ⟨(n : Int), rfl, ⟨by omega, by omega⟩, fun c c1 c2 => ⟨.inl ⟨by decide, by decide⟩, 2, rfl, ⟨by omega, by omega⟩, fun e e1 e2 => hq _ ⟨by omega, by omega⟩⟩⟩
abbrev s_law_draw_graph : Stmt := topS 17
abbrev n_law_draw_graph : List Str := ["_law_source_here", "_law_many_ins", "_law_many_regs", "_law_most", "_law_ins", "_law_regs", "_law_known", "_law_first", "_law_lap", "_law_pair", "_law_many", "_law_told", "_law_outs", "_law_side", "_law_k"]
theorem sc_law_draw_graph : FnScope n_law_draw_graph ["_law_source_here", "_law_many_ins", "_law_many_regs", "_law_most"] (C8.fnScope s_law_draw_graph) := C8.fnScope_by (by decide +kernel)
theorem ok_law_draw_graph {a : Addr} {fd : FuncData} (F : C8.Def K mg "_law_draw_graph" s_law_draw_graph a fd) (b : Binds K fd ["_law_source_here", "_law_many_ins", "_law_many_regs", "_law_most"] []) (T : Txt mg) (c_law_pick : CalG P w K mg base 1 "_law_pick" (spD K [.src, .bo] (Cpick))) (c_law_draw_literal : CalG P w K mg base 2 "_law_draw_literal" (spD K [.src, .bo] (Cdlit))) : CalG P w K mg base (3) "_law_draw_graph" (spD K [.src, .bo, .bo, .bo] (Cdraw)) := by
  refine calG F b sc_law_draw_graph rfl (fun cdv A outer s H E hA hr => ?_)
  have hu := huOf hr
  have hu64 := hr.units
  refine ⟨_, _, (pss_cons (ps_asg (pe_tup (pa_cons (pe_cG c_law_pick hA hr (by first | decide | omega) rfl (pa_cons (pv 0) (pa_cons (pe_op (k_add (K := K) rfl) (pv 1) pe_int) pa_nil))) (pa_cons (pe_cG c_law_pick hA hr (by first | decide | omega) rfl (pa_cons (pv 0) (pa_cons (pe_op (k_add (K := K) rfl) (pv 2) pe_int) pa_nil))) (pa_cons pe_dnewT pa_nil)))) (k_gtup (n := 3) (K := K) rfl (by rfl) (pgs_cons (pg_name (i := 4) sc_law_draw_graph.nd rfl (by first | exact Or.inl rfl | exact Or.inr rfl)) (pgs_cons (pg_name (i := 5) sc_law_draw_graph.nd rfl (by first | exact Or.inl rfl | exact Or.inr rfl)) (pgs_cons (pg_name (i := 6) sc_law_draw_graph.nd rfl (by first | exact Or.inl rfl | exact Or.inr rfl)) pgs_nil)))))
      (pss_cons (ps_asg (pe_op (k_add (K := K) rfl) (pe_op (k_add (K := K) rfl) pe_int (pv 4)) (pv 5)) (pg_name (i := 7) sc_law_draw_graph.nd rfl (by first | exact Or.inl rfl | exact Or.inr rfl)))
      (pss_cons (ps_for PassesOwn.never rfl (pi_range1 (by rfl) T.range (pa_cons (pe_ifExp (pt_cmpR op_gt (pv 7) pe_int (nomark _)) (pe_cG c_law_pick hA hr (by first | decide | omega) rfl (pa_cons (pv 0) (pa_cons (pe_op (k_add (K := K) rfl) (pv 3) pe_int) pa_nil))) pe_int) pa_nil)) (pg_name (i := 8) sc_law_draw_graph.nd rfl (by first | exact Or.inl rfl | exact Or.inr rfl))
      (pss_cons (ps_asg (pe_callTy (k_tupleA (K := K) rfl rfl) (by rfl) T.tuple (by decide +kernel) (pa_cons (pe_callB (k_sortedD (K := K) rfl rfl) (by rfl) T.sorted (by decide +kernel) (pa_cons (pe_lc rfl sc_law_draw_graph.nd (pi_range1 (by rfl) T.range (pa_cons pe_int pa_nil)) (blkOk_by (own := [("_law_side", 13)]) (N := n_law_draw_graph) (sc := C8.fnScope s_law_draw_graph) (by decide +kernel)) (fun _ _ _ _ _ => (pg_name (i := 13) sc_law_draw_graph.nd rfl (by first | exact Or.inl rfl | exact Or.inr rfl))) (fun _ _ _ _ _ => pts_nil) (fun _ _ _ _ _ => (pe_cG c_law_draw_literal hA hr (by first | decide | omega) rfl (pa_cons (pv 0) (pa_cons (pe_op (k_add (K := K) rfl) (pv 7) (pe_callB (k_lenA (K := K) rfl) (by rfl) T.len (by decide +kernel) (pa_cons (pv 6) pa_nil))) pa_nil))))) pa_nil)) pa_nil)) (pg_name (i := 9) sc_law_draw_graph.nd rfl (by first | exact Or.inl rfl | exact Or.inr rfl)))
      (pss_one (ps_if (PW.pt (pw_and (pt_cmpR op_gt (pe_ix (k_ix (K := K) rfl) (pv 9) pe_int (fun _ _ => rfl)) pe_int (nomark _)) (pw_and1 (pt_cmpR (k_ne (K := K) rfl hu64) (pe_op op_fdivL (pe_ix (k_ix (K := K) rfl) (pv 9) pe_int (fun _ _ => rfl)) pe_int) (pe_op op_fdivL (pe_ix (k_ix (K := K) rfl) (pv 9) pe_int (fun _ _ => rfl)) pe_int) (nomark _))))) (pss_one (ps_dput hu (pv 6) (pv 9) pe_bl rfl)) pss_nil))))
      (pss_cons (ps_asg (pe_op (k_add (K := K) rfl) (pv 7) (pe_callB (k_lenA (K := K) rfl) (by rfl) T.len (by decide +kernel) (pa_cons (pv 6) pa_nil))) (pg_name (i := 10) sc_law_draw_graph.nd rfl (by first | exact Or.inl rfl | exact Or.inr rfl)))
      (pss_cons (ps_asg (pe_callTy (k_tupleA (K := K) rfl rfl) (by rfl) T.tuple (by decide +kernel) (pa_cons (pe_lc rfl sc_law_draw_graph.nd (pi_range1 (by rfl) T.range (pa_cons (pv 5) pa_nil)) (blkOk_by (own := [("_law_k", 14)]) (N := n_law_draw_graph) (sc := C8.fnScope s_law_draw_graph) (by decide +kernel)) (fun _ _ _ _ _ => (pg_name (i := 14) sc_law_draw_graph.nd rfl (by first | exact Or.inl rfl | exact Or.inr rfl))) (fun _ _ _ _ _ => pts_nil) (fun _ _ _ _ _ => (pe_tup (pa_cons (pe_cG c_law_pick hA hr (by first | decide | omega) rfl (pa_cons (pv 0) (pa_cons pe_int pa_nil))) (pa_cons (pe_cG c_law_draw_literal hA hr (by first | decide | omega) rfl (pa_cons (pv 0) (pa_cons (pv 10) pa_nil))) pa_nil))))) pa_nil)) (pg_name (i := 11) sc_law_draw_graph.nd rfl (by first | exact Or.inl rfl | exact Or.inr rfl)))
      (pss_cons (ps_asg (pe_callTy (k_tupleA (K := K) rfl rfl) (by rfl) T.tuple (by decide +kernel) (pa_cons (pe_lc rfl sc_law_draw_graph.nd (pi_range1 (by rfl) T.range (pa_cons (pe_op (k_add (K := K) rfl) pe_int (pe_cG c_law_pick hA hr (by first | decide | omega) rfl (pa_cons (pv 0) (pa_cons pe_int pa_nil)))) pa_nil)) (blkOk_by (own := [("_law_k", 14)]) (N := n_law_draw_graph) (sc := C8.fnScope s_law_draw_graph) (by decide +kernel)) (fun _ _ _ _ _ => (pg_name (i := 14) sc_law_draw_graph.nd rfl (by first | exact Or.inl rfl | exact Or.inr rfl))) (fun _ _ _ _ _ => pts_nil) (fun _ _ _ _ _ => (pe_cG c_law_draw_literal hA hr (by first | decide | omega) rfl (pa_cons (pv 0) (pa_cons (pv 10) pa_nil))))) pa_nil)) (pg_name (i := 12) sc_law_draw_graph.nd rfl (by first | exact Or.inl rfl | exact Or.inr rfl)))
      (pss_one (ps_ret (pe_tup (pa_cons (pv 4) (pa_cons (pv 11) (pa_cons (pe_callTy (k_tupleA (K := K) rfl rfl) (by rfl) T.tuple (by decide +kernel) (pa_cons (pv 6) pa_nil)) (pa_cons (pv 12) pa_nil))))))))))))),
   (ls_seq (ls_par3T (i := 4) (j := 5) (l := 6) (le_call (la_cons le_var (la_cons (le_op le_var le_int ol_add) la_nil))) (le_call (la_cons le_var (la_cons (le_op le_var le_int ol_add) la_nil))) le_dnewT)
      (ls_seq (ls_asg (le_op (le_op le_int le_var ol_add) le_var ol_add) lg_name)
      (ls_seq (ls_for (li_rng1 (la_cons (le_if (lt_test (le_op le_var le_int ol_gt)) (le_call (la_cons le_var (la_cons (le_op le_var le_int ol_add) la_nil))) le_int) la_nil)) lg_name
      (ls_seq (ls_asg (le_cb (la_cons (le_cb (la_cons (le_lc (li_rng1 (la_cons le_int la_nil)) lg_name (lgw_name (by decide)) lt_yes (le_call (la_cons le_var (la_cons (le_op le_var (le_cb (la_cons le_var la_nil) cl_lenA) ol_add) la_nil)))) la_nil) cl_sortedD) la_nil) cl_tupleA) lg_name)
      (ls_if (lt_and (lt_test (le_op (le_op le_var le_int ol_ix) le_int ol_gt)) (lt_test (le_op (le_op (le_op le_var le_int ol_ix) le_int ol_fdv) (le_op (le_op le_var le_int ol_ix) le_int ol_fdv) ol_ne))) (ls_dputT le_var le_bl) ls_next)))
      (ls_seq (ls_asg (le_op le_var (le_cb (la_cons le_var la_nil) cl_lenA) ol_add) lg_name)
      (ls_seq (ls_asg (le_cb (la_cons (le_lc (li_rng1 (la_cons le_var la_nil)) lg_name (lgw_name (by decide)) lt_yes (le_tup (la_cons (le_call (la_cons le_var (la_cons le_int la_nil))) (la_cons (le_call (la_cons le_var (la_cons le_var la_nil))) la_nil)))) la_nil) cl_tupleA) lg_name)
      (ls_seq (ls_asg (le_cb (la_cons (le_lc (li_rng1 (la_cons (le_op le_int (le_call (la_cons le_var (la_cons le_int la_nil))) ol_add) la_nil)) lg_name (lgw_name (by decide)) lt_yes (le_call (la_cons le_var (la_cons le_var la_nil)))) la_nil) cl_tupleA) lg_name)
      (ls_ret (le_tup (la_cons le_var (la_cons le_var (la_cons (le_cb (la_cons le_var la_nil) cl_tupleA) (la_cons le_var la_nil)))))))))))), ?_⟩
  intro ds Qc h
  obtain ⟨a, b', c, rfl, ha, hb, hc, hq⟩ := h
  refine ⟨a + 1, rfl, ⟨by omega, by omega⟩, fun i i1 i2 => ⟨b' + 1, rfl, ⟨by omega, by omega⟩, fun r r1 r2 => ?_⟩⟩
  obtain ⟨i, rfl⟩ := Int.eq_ofNat_of_zero_le i1
  obtain ⟨r, rfl⟩ := Int.eq_ofNat_of_zero_le r1
  refine useB_lp (c := c) hc.1 (fun loop => ⟨c + 1, rfl, ⟨by omega, by omega⟩, fun n n1 n2 => ⟨⟨by omega, by omega⟩, loop n n1 (by omega)⟩⟩) ?_
  intro n n1 n2
  refine dLoop_of _ (fun t ρ => ∃ (ps : List (Int × Int)) (o1 o2 : Option Sl), AndsOk (1 + i + r) ps ∧ ps.length ≤ t ∧ ρ = [some .src, some (.bo (.int a)), some (.bo (.int b')), some (.bo (.int c)), some (.sh (.int i)), some (.sh (.int r)), some (.ow (.dict (tmark :: ps.map entT))), some (.sh (.int (1 + i + r))), o1, o2, none, none, none, none, none]) ⟨[], none, none, (fun _ h => nomatch h), Nat.le_refl _, rfl⟩ ?_ ?_
  · rintro t x ρ k hx ⟨ps, o1, o2, hps, hl, rfl⟩ next
    have ht : t < (rngD 0 n.toNat).length := (List.getElem?_eq_some_iff.mp hx).1
    rw [rngD_length] at ht
    refine ⟨⟨by decide, by decide⟩, dLcGo_of _ (fun j acc ρ => ∃ (ns : List Int), acc = ns.map PyData.int ∧ ns.length = j ∧ (∀ z ∈ ns, inL z (1 + i + r + ps.length)) ∧ ρ = [some .src, some (.bo (.int a)), some (.bo (.int b')), some (.bo (.int c)), some (.sh (.int i)), some (.sh (.int r)), some (.ow (.dict (tmark :: ps.map entT))), some (.sh (.int (1 + i + r))), some (.sh x), o2, none, none, none, none, none]) ⟨[], rfl, rfl, (fun _ h => nomatch h), rfl⟩ ?_ ?_⟩
    · rintro j y acc ρ k hy ⟨ns, rfl, hnl, hns, rfl⟩ next
      have hj : j < (rngD 0 (2 : Int).toNat).length := (List.getElem?_eq_some_iff.mp hy).1
      rw [rngD_length] at hj
      refine useB_y rfl ⟨1 + i + r + ps.length, ?_, by omega, by omega, fun l hl => ⟨by rw [List.length_map, sizeLine_eq]; have : j < 2 := hj; omega, next _ _ ⟨ns ++ [l], by simp, by simp; omega, ?_, rfl⟩⟩⟩
      · show [PyData.none, PyData.int (1 + (i : Int) + r + ((ps.map entT).length + 1 - 1 : Nat))] = _
        rw [List.length_map, Nat.add_sub_cancel]
        simp
      · intro z hz
        rcases List.mem_append.mp hz with hz | hz
        · exact hns z hz
        · rw [List.mem_singleton.mp hz]; exact hl
    · rintro acc ρ ⟨ns, rfl, hnl, hns, rfl⟩
      rw [rngD_length] at hnl
      show wN (intsOf _) _
      rw [intsOf_map]
      intro ms hp _
      obtain ⟨u, v, rfl, hu1, hv1⟩ := two_of hp hnl hns
      refine ⟨trivial, _, atI0, useB_d (fun _ => ⟨trivial, _, atI0, ⟨(by intro z; cases z), Nat.le_of_ble_eq_true rfl⟩, trivial, _, atI1, ⟨(by intro z; cases z), Nat.le_of_ble_eq_true rfl⟩, rfl, useB_b (fun _ => ?_) (fun _ => next _ ⟨ps, _, _, hps, by omega, rfl⟩)⟩) (fun _ => useB_n rfl (next _ ⟨ps, _, _, hps, by omega, rfl⟩))⟩
      obtain ⟨ps', e, h1, h2⟩ := putT_ent hps hu1 hv1
      refine ⟨⟨_, rfl⟩, _, rfl, [.inl u, .inl v], rfl, ?_, next _ ⟨ps', some (.sh x), some (.sh (.tuple ([u, v].map PyData.int))), h1, by omega, ?_⟩⟩
      · rw [List.length_map, sizeLine_eq]; omega
      · rw [← e]; rfl
  · rintro ρ ⟨ps, o1, o2, hps, hl, rfl⟩
    rw [rngD_length] at hl
    have hN : 1 + (i : Int) + r + ((ps.map entT).length + 1 - 1 : Nat) = ((1 + i + r + ps.length : Nat) : Int) := by rw [List.length_map, Nat.add_sub_cancel]; simp
    refine ⟨⟨by omega, by omega⟩, dLcGo_of _ (fun j acc ρ => ∃ (rs : List (Int × Int)), acc = rs.map pD ∧ rs.length = j ∧ (∀ z ∈ rs, bit z.1 ∧ inL z.2 (1 + i + r + ps.length)) ∧ ρ = [some .src, some (.bo (.int a)), some (.bo (.int b')), some (.bo (.int c)), some (.sh (.int i)), some (.sh (.int r)), some (.ow (.dict (tmark :: ps.map entT))), some (.sh (.int (1 + i + r))), o1, o2, some (.sh (.int ((1 + i + r + ps.length : Nat) : Int))), none, none, none, none]) ⟨[], rfl, rfl, (fun _ h => nomatch h), ?_⟩ ?_ ?_⟩
    · rw [← hN]; rfl
    · rintro j y acc ρ k hy ⟨rs, rfl, hrl, hrs, rfl⟩ next
      have hj : j < (rngD 0 ((r : Int)).toNat).length := (List.getElem?_eq_some_iff.mp hy).1
      rw [rngD_length] at hj
      refine useB_y rfl ⟨2, rfl, ⟨by omega, by omega⟩, fun q q1 q2 => ⟨_, rfl, by omega, by omega, fun l hl => ⟨Nat.le_of_ble_eq_true rfl, by rw [List.length_map, sizeLine_eq]; omega, next _ _ ⟨rs ++ [(q, l)], by simp [pD], by simp; omega, ?_, rfl⟩⟩⟩⟩
      intro z hz
      rcases List.mem_append.mp hz with hz | hz
      · exact hrs z hz
      · rw [List.mem_singleton.mp hz]
        exact ⟨by unfold bit; show q = 0 ∨ q = 1; omega, hl⟩
    · rintro acc ρ ⟨rs, rfl, hrl, hrs, rfl⟩
      rw [rngD_length] at hrl
      refine ⟨4, rfl, ⟨by omega, by omega⟩, fun q q1 q2 => ⟨⟨by omega, by omega⟩, dLcGo_of _ (fun j acc ρ => ∃ (os : List Int), acc = os.map PyData.int ∧ os.length = j ∧ (∀ z ∈ os, inL z (1 + i + r + ps.length)) ∧ ρ = [some .src, some (.bo (.int a)), some (.bo (.int b')), some (.bo (.int c)), some (.sh (.int i)), some (.sh (.int r)), some (.ow (.dict (tmark :: ps.map entT))), some (.sh (.int (1 + i + r))), o1, o2, some (.sh (.int ((1 + i + r + ps.length : Nat) : Int))), some (.sh (.tuple (rs.map pD))), none, none, none]) ⟨[], rfl, rfl, (fun _ h => nomatch h), rfl⟩ ?_ ?_⟩⟩
      · rintro j y acc ρ k hy ⟨os, rfl, hol, hos, rfl⟩ next
        have hj : j < (rngD 0 (1 + q).toNat).length := (List.getElem?_eq_some_iff.mp hy).1
        rw [rngD_length] at hj
        refine useB_y rfl ⟨_, rfl, by omega, by omega, fun l hl => ⟨by rw [List.length_map, sizeLine_eq]; omega, next _ _ ⟨os ++ [l], by simp, by simp; omega, ?_, rfl⟩⟩⟩
        intro z hz
        rcases List.mem_append.mp hz with hz | hz
        · exact hos z hz
        · rw [List.mem_singleton.mp hz]; exact hl
      · rintro acc ρ ⟨os, rfl, hol, hos, rfl⟩
        rw [rngD_length] at hol
        refine ⟨rfl, Nat.le_of_ble_eq_true rfl, ?_⟩
        have hrl' : rs.length = r := by omega
        have := hq ⟨i, rs, ps, os⟩ ⟨by show i ≤ 10; omega, by show rs.length ≤ 10; omega, by show ps.length ≤ 300; omega, by show os.length ≤ 10; omega, ?_, ?_, ?_⟩ (by show (i : Int) ≤ a; omega) (by show (rs.length : Int) ≤ b'; omega) (by show (ps.length : Int) ≤ c; omega) (by show os.length ≤ 4; omega)
        · show Qc (.fz (.tuple [.int i, .tuple (rs.map pD), .tuple (keysT (ps.map entT)), .tuple (os.map PyData.int)]))
          rw [keysT_ent]
          exact this
        · intro p hp
          have := hrs p hp
          refine ⟨this.1, ?_⟩
          show inL p.2 (1 + i + rs.length + ps.length)
          rw [hrl']; exact this.2
        · show AndsOk (1 + i + rs.length) ps
          rw [hrl']; exact hps
        · intro l hl
          show inL l (1 + i + rs.length + ps.length)
          rw [hrl']; exact hos l hl
abbrev s_law_far : Stmt := topS 23
abbrev n_law_far : List Str := ["_law_literal_here", "_law_shift", "_law_letter"]
theorem sc_law_far : FnScope n_law_far ["_law_literal_here", "_law_shift"] (C8.fnScope s_law_far) := C8.fnScope_by (by decide +kernel)
theorem ok_law_far {a : Addr} {fd : FuncData} (F : C8.Def K mg "_law_far" s_law_far a fd) (b : Binds K fd ["_law_literal_here", "_law_shift"] []) (T : Txt mg) : CalG P w K mg base (1) "_law_far" (spD K [.bo, .bo] (Cmov)) := by
  refine calG F b sc_law_far rfl (fun cdv A outer s H E hA hr => ?_)
  have hu := huOf hr
  have hu64 := hr.units
  refine ⟨_, _, (pss_cons (ps_asg (pe_op (k_add (K := K) rfl) (pe_op (k_add (K := K) rfl) (pe_op op_fdivL (pv 0) pe_int) pe_int) (pv 1)) (pg_name (i := 2) sc_law_far.nd rfl (by first | exact Or.inl rfl | exact Or.inr rfl)))
      (pss_one (ps_ret (pe_ifExp (pt_cmpR (k_eq (K := K) rfl hu64) (pe_op op_modN (pe_callTy call_int1 (by rfl) T.int (by decide +kernel) (pa_cons (pv 0) pa_nil)) pe_int) pe_int (nomark _)) (pv 2) (pe_un un_neg (pv 2)))))),
   (ls_seq (ls_asg (le_op (le_op (le_op le_var le_int ol_fdv) le_int ol_add) le_var ol_add) lg_name)
      (ls_ret (le_if (lt_test (le_op (le_op (le_cb (la_cons le_var la_nil) cl_int) le_int ol_mod) le_int ol_eq)) le_var (le_un le_var ul_neg)))), ?_⟩
  intro ds Qc h
  obtain ⟨l, s, rfl, hq⟩ := h
  refine ⟨⟨(by intro z; cases z), Nat.le_of_ble_eq_true rfl⟩, (by intro z; cases z), rfl, useB_b (fun h => ?_) (fun h => ?_)⟩
  · have h : (false != PyData.eqv (.int (l.fmod 2)) (.int 0)) = true := h
    rw [eqv_int] at h
    have h : l.fmod 2 = 0 := by simpa using h
    unfold movL at hq
    rw [if_pos h] at hq
    exact hq
  · have h : (false != PyData.eqv (.int (l.fmod 2)) (.int 0)) = false := h
    rw [eqv_int] at h
    have h : ¬ l.fmod 2 = 0 := by simpa using h
    unfold movL at hq
    rw [if_neg h] at hq
    exact hq
abbrev s_law_size : Stmt := topS 25
abbrev n_law_size : List Str := ["_law_graph"]
theorem sc_law_size : FnScope n_law_size ["_law_graph"] (C8.fnScope s_law_size) := C8.fnScope_by (by decide +kernel)
theorem ok_law_size {a : Addr} {fd : FuncData} (F : C8.Def K mg "_law_size" s_law_size a fd) (b : Binds K fd ["_law_graph"] []) (T : Txt mg) : CalG P w K mg base (1) "_law_size" (spD K [.bo] (CsizG)) := by
  refine calG F b sc_law_size rfl (fun cdv A outer s H E hA hr => ?_)
  have hu := huOf hr
  have hu64 := hr.units
  refine ⟨_, _, (pss_one (ps_ret (pe_op (k_add (K := K) rfl) (pe_op (k_add (K := K) rfl) (pe_op (k_add (K := K) rfl) pe_int (pe_ix (k_ix (K := K) rfl) (pv 0) pe_int (fun _ _ => rfl))) (pe_callB (k_lenA (K := K) rfl) (by rfl) T.len (by decide +kernel) (pa_cons (pe_ix (k_ix (K := K) rfl) (pv 0) pe_int (fun _ _ => rfl)) pa_nil))) (pe_callB (k_lenA (K := K) rfl) (by rfl) T.len (by decide +kernel) (pa_cons (pe_ix (k_ix (K := K) rfl) (pv 0) pe_int (fun _ _ => rfl)) pa_nil))))),
   (ls_ret (le_op (le_op (le_op le_int (le_op le_var le_int ol_ix) ol_add) (le_cb (la_cons (le_op le_var le_int ol_ix) la_nil) cl_lenA) ol_add) (le_cb (la_cons (le_op le_var le_int ol_ix) la_nil) cl_lenA) ol_add)), ?_⟩
  intro ds Qc h
  obtain ⟨g, rfl, hg, hq⟩ := h
  have hrl := hg.rl
  have e : (1 : Int) + g.ins + ((g.regs.map pD).length : Nat) + ((g.ands.map pD).length : Nat) = (g.many : Int) := by rw [List.length_map, List.length_map]; unfold Gr.many Gr.first; omega
  refine ⟨trivial, _, rfl, trivial, _, rfl, trivial, _, rfl, ?_⟩
  rw [← e] at hq
  exact hq
abbrev s_law_put : Stmt := topS 22
abbrev n_law_put : List Str := ["_law_clauses", "_law_literals", "_law_some", "_law_one", "_law_letter"]
theorem sc_law_put : FnScope n_law_put ["_law_clauses", "_law_literals"] (C8.fnScope s_law_put) := C8.fnScope_by (by decide +kernel)
theorem ok_law_put {a : Addr} {fd : FuncData} (F : C8.Def K mg "_law_put" s_law_put a fd) (b : Binds K fd ["_law_clauses", "_law_literals"] []) (T : Txt mg) : CalG P w K mg base (1) "_law_put" (spM K [.mu, .bo] (CputL)) := by
  refine calGM 0 F b sc_law_put rfl (fun cdv A outer s H E hA hr => ?_)
  have hu := huOf hr
  have hu64 := hr.units
  refine ⟨_, _, (pss_cons (ps_asg (pe_sortSet (K := K) rfl rfl (by rfl) T.sorted (by rfl) T.set (pe_lc rfl sc_law_put.nd (k_iany (K := K) rfl (pv 1)) (blkOk_by (own := [("_law_one", 3)]) (N := n_law_put) (sc := C8.fnScope s_law_put) (by decide +kernel)) (fun _ _ _ _ _ => (pg_name (i := 3) sc_law_put.nd rfl (by first | exact Or.inl rfl | exact Or.inr rfl))) (fun _ _ _ _ _ => pts_nil) (fun _ _ _ _ _ => (pe_callB call_abs (by rfl) T.abs (by decide +kernel) (pa_cons (pv 3) pa_nil))))) (pg_name (i := 2) sc_law_put.nd rfl (by first | exact Or.inl rfl | exact Or.inr rfl)))
      (pss_one (ps_if (pt_cmpR (k_eq (K := K) rfl hu64) (pe_lenSetG (K := K) rfl rfl (by rfl) T.len (by rfl) T.set (pv 1)) (pe_callB (k_lenA (K := K) rfl) (by rfl) T.len (by decide +kernel) (pa_cons (pv 2) pa_nil)) (nomark _)) (pss_one (ps_expr (pe_bm PySem.F.plainAttrs_list PySem.F.slot_list_append PySem.F.type_list_append mt_append (pv 0) (pa_cons (pe_callTy (k_tupleA (K := K) rfl rfl) (by rfl) T.tuple (by decide +kernel) (pa_cons (pe_lc rfl sc_law_put.nd (k_iany (K := K) rfl (pv 2)) (blkOk_by (own := [("_law_letter", 4)]) (N := n_law_put) (sc := C8.fnScope s_law_put) (by decide +kernel)) (fun _ _ _ _ _ => (pg_name (i := 4) sc_law_put.nd rfl (by first | exact Or.inl rfl | exact Or.inr rfl))) (fun _ _ _ _ _ => pts_nil) (fun _ _ _ _ _ => (pe_ifExp (pt_cmpR (k_in (K := K) rfl) (pv 4) (pv 1) (by with_unfolding_all rfl)) (pv 4) (pe_un un_neg (pv 4))))) pa_nil)) pa_nil)))) pss_nil))),
   (ls_seq (ls_asg (le_sortSet (le_lc (li_any le_var) lg_name (lgw_name (by decide)) lt_yes (le_cb (la_cons le_var la_nil) cl_abs))) lg_name)
      (ls_if (lt_test (le_op (le_lenSet le_var) (le_cb (la_cons le_var la_nil) cl_lenA) ol_eq)) (ls_appFl (le_cb (la_cons (le_lc (li_any le_var) lg_name (lgw_name (by decide)) lt_yes (le_if (lt_test (le_op le_var le_var ol_in)) le_var (le_un le_var ul_neg))) la_nil) cl_tupleA)) ls_next)), ?_⟩
  intro ds m Qc h
  obtain ⟨cs, ls, rfl, rfl, hl, hz, hc, hq⟩ := h
  have sl := sizeLine_eq
  have el : (iL2 ls).length = ls.length := List.length_map _
  refine dLcGo_map _ (dI absI) (by omega) (fun x k hx q => ?_) ?_
  · obtain ⟨v, _, rfl⟩ := List.mem_map.mp hx
    have q : k (.int (absI v)) _ := q
    rw [absI_nat] at q
    exact q
  · have em : (iL2 ls).map (dI absI) = (ls.map absI).map PyData.int := map_dI absI ls
    rw [em]
    show wN (intsOf _) _
    rw [intsOf_map]
    refine ⟨⟨by rw [List.length_map]; omega, fun out h1 h2 => ?_⟩, fun some h1 h2 => ?_⟩
    · have := nd_le h1 h2
      rw [List.length_map] at this
      omega
    · have hs : some.Nodup := h1.imp fun h => by omega
      have h2 : ∀ k, k ∈ some ↔ ∃ x ∈ ls, absI x = k := fun k => by rw [h2 k, List.mem_map]
      have hlen : some.length ≤ 60 := by
        have := nd_le (b := ls.map absI) hs fun x hx => by
          obtain ⟨y, hy, e⟩ := (h2 x).mp hx
          exact List.mem_map.mpr ⟨y, hy, e⟩
        rw [List.length_map] at this
        omega
      have hcl := cls_law hz h1 h2
      have es : (some.map PyData.int).length = some.length := List.length_map _
      show wN (intsOf (iL2 ls)) _
      unfold iL2
      rw [intsOf_map]
      refine ⟨by omega, fun out o1 o2 => ⟨rfl, useB_b (fun h => ?_) (fun h => ?_)⟩⟩
      · have h : (false != PyData.eqv (.int (out.length : Int)) (.int ((some.map PyData.int).length : Nat))) = true := h
        rw [eqv_int, es] at h
        have h : (out.length : Int) = (some.length : Int) := by simpa using h
        have h : out.length = some.length := by omega
        have ed : (ddI ls).length = some.length := by rw [← h]; exact nd_same (ddI_nd ls) o1 (ddI_mem ls) o2
        rw [if_pos ed] at hcl
        have ep : putC cs ls = cs ++ [some.map fun k => if k ∈ ls then k else -k] := by unfold putC; rw [hcl]
        rw [ep, csD_app] at hq
        refine ⟨rfl, rfl, dLcGo_map _ (sgnL ls) (by omega) (fun x k hx q => ?_) ?_⟩
        · obtain ⟨v, _, rfl⟩ := List.mem_map.mp hx
          refine ⟨⟨rfl, all_flat ls⟩, useB_b (fun h => ?_) (fun h => ?_)⟩
          · have h : (false != (iL2 ls).any fun z => PyData.eqv z (.int v)) = true := h
            rw [mem_eqv] at h
            have h : v ∈ ls := by simpa using h
            have q : k (.int (if v ∈ ls then v else -v)) _ := q
            rw [if_pos h] at q
            exact q
          · have h : (false != (iL2 ls).any fun z => PyData.eqv z (.int v)) = false := h
            rw [mem_eqv] at h
            have h : ¬ v ∈ ls := by simpa using h
            have q : k (.int (if v ∈ ls then v else -v)) _ := q
            rw [if_neg h] at q
            exact q
        · rw [map_sgn]
          exact ⟨_, rfl, by rw [csD_len]; omega, _, rfl, hq⟩
      · have h : (false != PyData.eqv (.int (out.length : Int)) (.int ((some.map PyData.int).length : Nat))) = false := h
        rw [eqv_int, es] at h
        have h : ¬ (out.length : Int) = (some.length : Int) := by simpa using h
        have h : ¬ out.length = some.length := by omega
        have ed : ¬ (ddI ls).length = some.length := by rw [nd_same (ddI_nd ls) o1 (ddI_mem ls) o2]; exact h
        rw [if_neg ed] at hcl
        have ep : putC cs ls = cs := by unfold putC; rw [hcl]
        rw [ep] at hq
        exact ⟨_, rfl, hq⟩
abbrev s_law_graph_clauses : Stmt := topS 24
abbrev n_law_graph_clauses : List Str := ["_law_graph", "_law_shift", "_law_found", "_law_first", "_law_number", "_law_pair", "_law_y", "_law_a", "_law_b", "_law_some"]
theorem sc_law_graph_clauses : FnScope n_law_graph_clauses ["_law_graph", "_law_shift"] (C8.fnScope s_law_graph_clauses) := C8.fnScope_by (by decide +kernel)
theorem ok_law_graph_clauses {a : Addr} {fd : FuncData} (F : C8.Def K mg "_law_graph_clauses" s_law_graph_clauses a fd) (b : Binds K fd ["_law_graph", "_law_shift"] []) (T : Txt mg) (c_law_far : CalG P w K mg base 1 "_law_far" (spD K [.bo, .bo] (Cmov))) (c_law_put : CalG P w K mg base 1 "_law_put" (spM K [.mu, .bo] (CputL))) : CalG P w K mg base (3) "_law_graph_clauses" (spD K [.bo, .bo] (CcloL)) := by
  refine calG F b sc_law_graph_clauses rfl (fun cdv A outer s H E hA hr => ?_)
  have hu := huOf hr
  have hu64 := hr.units
  refine ⟨_, _, (pss_cons (ps_par (i := 2) (j := 3) (by rfl) sc_law_graph_clauses.nd rfl rfl (by decide) rfl rfl (pa_cons (pe_lst (pa_cons (pe_tup (pa_cons (pe_op op_sub (pe_un un_neg pe_int) (pv 1)) pa_nil)) pa_nil)) (pa_cons (pe_op (k_add (K := K) rfl) (pe_op (k_add (K := K) rfl) pe_int (pe_ix (k_ix (K := K) rfl) (pv 0) pe_int (fun _ _ => rfl))) (pe_callB (k_lenA (K := K) rfl) (by rfl) T.len (by decide +kernel) (pa_cons (pe_ix (k_ix (K := K) rfl) (pv 0) pe_int (fun _ _ => rfl)) pa_nil))) pa_nil)) (by rfl))
      (pss_cons (ps_for PassesOwn.never rfl (k_enum (K := K) rfl (by rfl) T.enumerate (pa_cons (pe_ix (k_ix (K := K) rfl) (pv 0) pe_int (fun _ _ => rfl)) pa_nil)) (k_gtup (n := 2) (K := K) rfl (by rfl) (pgs_cons (pg_name (i := 4) sc_law_graph_clauses.nd rfl (by first | exact Or.inl rfl | exact Or.inr rfl)) (pgs_cons (pg_name (i := 5) sc_law_graph_clauses.nd rfl (by first | exact Or.inl rfl | exact Or.inr rfl)) pgs_nil)))
      (pss_cons (ps_par3 (i := 6) (j := 7) (l := 8) (by rfl) sc_law_graph_clauses.nd rfl rfl rfl (by decide) (by decide) (by decide) rfl rfl rfl (pa_cons (pe_op (k_add (K := K) rfl) (pe_op (k_add (K := K) rfl) (pe_op (k_add (K := K) rfl) (pv 3) (pv 4)) pe_int) (pv 1)) (pa_cons (pe_cG c_law_far hA hr (by first | decide | omega) rfl (pa_cons (pe_ix (k_ix (K := K) rfl) (pv 5) pe_int (fun _ _ => rfl)) (pa_cons (pv 1) pa_nil))) (pa_cons (pe_cG c_law_far hA hr (by first | decide | omega) rfl (pa_cons (pe_ix (k_ix (K := K) rfl) (pv 5) pe_int (fun _ _ => rfl)) (pa_cons (pv 1) pa_nil))) pa_nil))) (by rfl))
      (pss_one (ps_for PassesOwn.never rfl (k_iany (K := K) rfl (pe_tup (pa_cons (pe_lst (pa_cons (pe_un un_neg (pv 6)) (pa_cons (pv 7) pa_nil))) (pa_cons (pe_lst (pa_cons (pe_un un_neg (pv 6)) (pa_cons (pv 8) pa_nil))) (pa_cons (pe_lst (pa_cons (pv 6) (pa_cons (pe_un un_neg (pv 7)) (pa_cons (pe_un un_neg (pv 8)) pa_nil)))) pa_nil))))) (pg_name (i := 9) sc_law_graph_clauses.nd rfl (by first | exact Or.inl rfl | exact Or.inr rfl))
      (pss_one (ps_expr (pe_cG c_law_put hA hr (by first | decide | omega) rfl (pa_cons (pv 2) (pa_cons (pv 9) pa_nil)))))))))
      (pss_one (ps_ret (pv 2))))),
   (ls_seq (ls_par (le_lst (la_cons (le_tup (la_cons (le_op (le_un le_int ul_neg) le_var ol_sub) la_nil)) la_nil)) (le_op (le_op le_int (le_op le_var le_int ol_ix) ol_add) (le_cb (la_cons (le_op le_var le_int ol_ix) la_nil) cl_lenA) ol_add))
      (ls_seq (ls_for (li_enum (la_cons (le_op le_var le_int ol_ix) la_nil)) (lg_tup (lgs_cons lg_name (lgs_cons lg_name lgs_nil)))
      (ls_seq (ls_par3 (le_op (le_op (le_op le_var le_var ol_add) le_int ol_add) le_var ol_add) (le_call (la_cons (le_op le_var le_int ol_ix) (la_cons le_var la_nil))) (le_call (la_cons (le_op le_var le_int ol_ix) (la_cons le_var la_nil))))
      (ls_for (li_any (le_tup (la_cons (le_lst (la_cons (le_un le_var ul_neg) (la_cons le_var la_nil))) (la_cons (le_lst (la_cons (le_un le_var ul_neg) (la_cons le_var la_nil))) (la_cons (le_lst (la_cons le_var (la_cons (le_un le_var ul_neg) (la_cons (le_un le_var ul_neg) la_nil)))) la_nil))))) lg_name
      (ls_muS 2 (ls_drop (le_callM (la_cons le_var (la_cons le_var la_nil))))))))
      (ls_ret le_var))), ?_⟩
  intro ds Qc h
  obtain ⟨g, s, rfl, hg, hs, hq⟩ := h
  have ha := hg.al
  have hrl := hg.rl
  have sl := sizeLine_eq
  have ef : (1 : Int) + g.ins + ((g.regs.map pD).length : Nat) = (g.first : Int) := by rw [List.length_map]; unfold Gr.first; omega
  refine ⟨Nat.le_of_ble_eq_true rfl, Nat.le_of_ble_eq_true rfl, trivial, _, atI0, trivial, _, atI1, trivial, _, atI2, ?_⟩
  refine dLoop_of (enumD (g.ands.map pD)) (fun i ρ => ∃ (o4 o5 o6 o7 o8 o9 : Option D), ρ = [some (.bo g.toD), some (.bo (.int s)), some (.ow (.list (csD (gCn g s i)))), some (.sh (.int (g.first : Int))), o4.map Sl.sh, o5.map Sl.sh, o6.map Sl.sh, o7.map Sl.sh, o8.map Sl.sh, o9.map Sl.sh]) ⟨none, none, none, none, none, none, by rw [← ef]; rfl⟩ ?_ ?_
  · rintro i x ρ k hx ⟨o4, o5, o6, o7, o8, o9, rfl⟩ next
    obtain ⟨hi, rfl⟩ := get_enumP hx
    obtain ⟨g1, g2⟩ := hg.ands i hi
    have hl := gCn_len g s i
    have e := gCn_sj g s i
    rw [getD_and hi] at e
    refine ⟨rfl, rfl, trivial, _, atI0, _, _, rfl, trivial, _, atI1, _, _, rfl, Nat.le_of_ble_eq_true rfl, Nat.le_of_ble_eq_true rfl, Nat.le_of_ble_eq_true rfl, Nat.le_of_ble_eq_true rfl, ?_⟩
    obtain ⟨y, hy⟩ : ∃ y, y = (g.first : Int) + i + 1 + s := ⟨_, rfl⟩
    obtain ⟨p, hp⟩ : ∃ p, p = movL (g.ands[i]).1 s := ⟨_, rfl⟩
    obtain ⟨q, hq2⟩ : ∃ q, q = movL (g.ands[i]).2 s := ⟨_, rfl⟩
    have hok : ∀ l ∈ pL y p q, l.length ≤ 60 ∧ ∀ x ∈ l, x ≠ 0 := pL_ok (by omega) (by rw [hp]; exact movL_ne g1.1 hs) (by rw [hq2]; exact movL_ne g2.1 hs)
    rw [← hy, ← hp, ← hq2] at e
    dsimp only [wF, itD, seqOf, wA, frz, res, ofRe, plainV, setR, List.set_cons_zero, List.set_cons_succ]
    rw [← hy, ← hp, ← hq2]
    refine dLoop_of (lsD (pL y p q)) (fun m ρ => ∃ o9 : Option D, ρ = [some (.bo g.toD), some (.bo (.int s)), some (.ow (.list (csD (foldC (gCn g s i) ((pL y p q).take m))))), some (.sh (.int (g.first : Int))), some (.sh (.int (i : Int))), some (.sh (pD g.ands[i])), some (.sh (.int y)), some (.sh (.int p)), some (.sh (.int q)), o9.map Sl.sh]) ⟨o9, rfl⟩ ?_ ?_
    · rintro m x ρ k hx ⟨o9, rfl⟩ next
      obtain ⟨hm, rfl⟩ := lsD_get hx
      have hk := hok _ (List.getElem_mem hm)
      have hfl := foldC_len ((pL y p q).take m) (gCn g s i)
      have h3 : (pL y p q).length = 3 := rfl
      rw [List.length_take] at hfl
      rw [foldC_succ _ _ hm] at next
      exact ⟨(by rfl), _, rfl, 2, _, rfl, rfl, _, _, rfl, rfl, hk.1, hk.2, by omega, _, rfl, next _ ⟨some (.list (iL2 (pL y p q)[m])), rfl⟩⟩
    · rintro ρ ⟨o9, rfl⟩
      rw [lsD_len, List.take_length, foldC_pL, ← e]
      exact next _ ⟨some (.int i), some (pD g.ands[i]), some (.int y), some (.int p), some (.int q), o9, rfl⟩
  · rintro ρ ⟨o4, o5, o6, o7, o8, o9, rfl⟩
    rw [enumP_len]
    exact hq
abbrev s_law_unrolled : Stmt := topS 26
abbrev n_law_unrolled : List Str := ["_law_graph", "_law_clocks", "_law_found", "_law_size_here", "_law_clock", "_law_k", "_law_reg", "_law_z", "_law_x", "_law_some"]
theorem sc_law_unrolled : FnScope n_law_unrolled ["_law_graph", "_law_clocks"] (C8.fnScope s_law_unrolled) := C8.fnScope_by (by decide +kernel)
theorem ok_law_unrolled {a : Addr} {fd : FuncData} (F : C8.Def K mg "_law_unrolled" s_law_unrolled a fd) (b : Binds K fd ["_law_graph", "_law_clocks"] []) (T : Txt mg) (c_law_size : CalG P w K mg base 1 "_law_size" (spD K [.bo] (CsizG))) (c_law_graph_clauses : CalG P w K mg base 3 "_law_graph_clauses" (spD K [.bo, .bo] (CcloL))) (c_law_far : CalG P w K mg base 1 "_law_far" (spD K [.bo, .bo] (Cmov))) (c_law_put : CalG P w K mg base 1 "_law_put" (spM K [.mu, .bo] (CputL))) : CalG P w K mg base (4) "_law_unrolled" (spD K [.bo, .bo] (CunrG)) := by
  refine calG F b sc_law_unrolled rfl (fun cdv A outer s H E hA hr => ?_)
  have hu := huOf hr
  have hu64 := hr.units
  refine ⟨_, _, (pss_cons (ps_par (i := 2) (j := 3) (by rfl) sc_law_unrolled.nd rfl rfl (by decide) rfl rfl (pa_cons (pe_lst pa_nil) (pa_cons (pe_cG c_law_size hA hr (by first | decide | omega) rfl (pa_cons (pv 0) pa_nil)) pa_nil)) (by rfl))
      (pss_cons (ps_for PassesOwn.never rfl (pi_range1 (by rfl) T.range (pa_cons (pv 1) pa_nil)) (pg_name (i := 4) sc_law_unrolled.nd rfl (by first | exact Or.inl rfl | exact Or.inr rfl))
      (pss_cons (ps_asg (pe_op (k_add (K := K) rfl) (pv 2) (pe_cG c_law_graph_clauses hA hr (by first | decide | omega) rfl (pa_cons (pv 0) (pa_cons (pe_op op_mulA (pv 4) (pv 3)) pa_nil)))) (pg_name (i := 2) sc_law_unrolled.nd rfl (by first | exact Or.inl rfl | exact Or.inr rfl)))
      (pss_one (ps_for PassesOwn.never rfl (k_enum (K := K) rfl (by rfl) T.enumerate (pa_cons (pe_ifExp (pt_cmpR op_gt (pv 4) pe_int (nomark _)) (pe_ix (k_ix (K := K) rfl) (pv 0) pe_int (fun _ _ => rfl)) (pe_tup pa_nil)) pa_nil)) (k_gtup (n := 2) (K := K) rfl (by rfl) (pgs_cons (pg_name (i := 5) sc_law_unrolled.nd rfl (by first | exact Or.inl rfl | exact Or.inr rfl)) (pgs_cons (pg_name (i := 6) sc_law_unrolled.nd rfl (by first | exact Or.inl rfl | exact Or.inr rfl)) pgs_nil)))
      (pss_cons (ps_par (i := 7) (j := 8) (by rfl) sc_law_unrolled.nd rfl rfl (by decide) rfl rfl (pa_cons (pe_op (k_add (K := K) rfl) (pe_op (k_add (K := K) rfl) (pe_op (k_add (K := K) rfl) (pe_op op_mulA (pv 4) (pv 3)) (pe_ix (k_ix (K := K) rfl) (pv 0) pe_int (fun _ _ => rfl))) (pv 5)) pe_int) (pa_cons (pe_cG c_law_far hA hr (by first | decide | omega) rfl (pa_cons (pe_ix (k_ix (K := K) rfl) (pv 6) pe_int (fun _ _ => rfl)) (pa_cons (pe_op op_mulA (pe_op op_sub (pv 4) pe_int) (pv 3)) pa_nil))) pa_nil)) (by rfl))
      (pss_one (ps_for PassesOwn.never rfl (k_iany (K := K) rfl (pe_tup (pa_cons (pe_lst (pa_cons (pe_un un_neg (pv 7)) (pa_cons (pv 8) pa_nil))) (pa_cons (pe_lst (pa_cons (pv 7) (pa_cons (pe_un un_neg (pv 8)) pa_nil))) pa_nil)))) (pg_name (i := 9) sc_law_unrolled.nd rfl (by first | exact Or.inl rfl | exact Or.inr rfl))
      (pss_one (ps_expr (pe_cG c_law_put hA hr (by first | decide | omega) rfl (pa_cons (pv 2) (pa_cons (pv 9) pa_nil))))))))))))
      (pss_one (ps_ret (pv 2))))),
   (ls_seq (ls_par (le_lst la_nil) (le_call (la_cons le_var la_nil)))
      (ls_seq (ls_for (li_rng1 (la_cons le_var la_nil)) lg_name
      (ls_seq (ls_asg (le_op le_var (le_call (la_cons le_var (la_cons (le_op le_var le_var ol_mul) la_nil))) ol_add) lg_name)
      (ls_for (li_enum (la_cons (le_if (lt_test (le_op le_var le_int ol_gt)) (le_op le_var le_int ol_ix) (le_tup la_nil)) la_nil)) (lg_tup (lgs_cons lg_name (lgs_cons lg_name lgs_nil)))
      (ls_seq (ls_par (le_op (le_op (le_op (le_op le_var le_var ol_mul) (le_op le_var le_int ol_ix) ol_add) le_var ol_add) le_int ol_add) (le_call (la_cons (le_op le_var le_int ol_ix) (la_cons (le_op (le_op le_var le_int ol_sub) le_var ol_mul) la_nil))))
      (ls_for (li_any (le_tup (la_cons (le_lst (la_cons (le_un le_var ul_neg) (la_cons le_var la_nil))) (la_cons (le_lst (la_cons le_var (la_cons (le_un le_var ul_neg) la_nil))) la_nil)))) lg_name
      (ls_muS 2 (ls_drop (le_callM (la_cons le_var (la_cons le_var la_nil))))))))))
      (ls_ret le_var))), ?_⟩
  intro ds Qc h
  obtain ⟨g, t, rfl, hg, ht, hq⟩ := h
  have ha := hg.al
  have hrl := hg.rl
  have sl := sizeLine_eq
  refine ⟨Nat.le_of_ble_eq_true rfl, g, rfl, hg, ⟨by omega, by omega⟩, ?_⟩
  refine dLoop_of _ (fun i ρ => ∃ (o4 o5 o6 o7 o8 o9 : Option D), ρ = [some (.bo g.toD), some (.bo (.int (t : Int))), some (.ow (.list (csD (uCn g i)))), some (.sh (.int (g.many : Int))), o4.map Sl.sh, o5.map Sl.sh, o6.map Sl.sh, o7.map Sl.sh, o8.map Sl.sh, o9.map Sl.sh]) ⟨none, none, none, none, none, none, rfl⟩ ?_ ?_
  · rintro i x ρ k hx ⟨o4, o5, o6, o7, o8, o9, rfl⟩ next
    obtain ⟨hi, rfl⟩ := rng0_get hx
    have hu := uCn_len hg i
    have p0 : (0 : Int) ≤ (i : Int) * (g.many : Int) := Int.mul_nonneg (by omega) (by omega)
    have h2 := gCn_len g ((i : Int) * (g.many : Int)) g.ands.length
    refine ⟨cmul_s (by omega), g, _, rfl, hg, p0, ⟨by rw [csD_len, csD_len]; omega, ?_⟩⟩
    refine useB_en (fun ds => ds = enumD ((g.regs.take (nRt g i)).map pD)) (fun e loop => ⟨trivial, _, atI1, loop _ ?_⟩) (fun e => ?_) ?_ (Nat.le_of_ble_eq_true rfl)
    · have e : decide ((i : Int) > 0) = true := e
      have e := of_decide_eq_true e
      have en : nRt g i = g.regs.length := if_neg (by omega)
      rw [en, List.take_length]
    · have e : decide ((i : Int) > 0) = false := e
      have e := of_decide_eq_false e
      have en : nRt g i = 0 := if_pos (by omega)
      rw [en, List.take_zero]
      rfl
    · rintro ds rfl
      have hn : nRt g i ≤ g.regs.length := by unfold nRt; split <;> omega
      refine dLoop_of _ (fun j ρ => ∃ (o5 o6 o7 o8 o9 : Option D), ρ = [some (.bo g.toD), some (.bo (.int (t : Int))), some (.ow (.list (csD (rCn g i (uCn g i ++ gCn g ((i : Int) * (g.many : Int)) g.ands.length) j)))), some (.sh (.int (g.many : Int))), some (.sh (.int (i : Int))), o5.map Sl.sh, o6.map Sl.sh, o7.map Sl.sh, o8.map Sl.sh, o9.map Sl.sh]) ⟨o5, o6, o7, o8, o9, by rw [show rCn g i (uCn g i ++ gCn g ((i : Int) * (g.many : Int)) g.ands.length) 0 = uCn g i ++ gCn g ((i : Int) * (g.many : Int)) g.ands.length from rfl, csD_app]; rfl⟩ ?_ ?_
      · rintro j x ρ k hx ⟨o5, o6, o7, o8, o9, rfl⟩ next
        obtain ⟨hj, rfl⟩ := get_enumP hx
        rw [List.length_take, Nat.min_eq_left hn] at hj
        have hj2 : j < g.regs.length := by omega
        have h1 := rCn_len g i (uCn g i ++ gCn g ((i : Int) * (g.many : Int)) g.ands.length) j
        rw [List.length_append] at h1
        have e := rCn_sj g i (uCn g i ++ gCn g ((i : Int) * (g.many : Int)) g.ands.length) j
        rw [getD_reg hj2] at e
        rw [List.getElem_take]
        have hi0 : i ≠ 0 := fun z => by unfold nRt at hj; rw [if_pos z] at hj; omega
        have p1 : (0 : Int) ≤ ((i : Int) - 1) * (g.many : Int) := Int.mul_nonneg (by omega) (by omega)
        have hr := hg.regs _ (List.getElem_mem hj2)
        refine ⟨rfl, rfl, cmul_s (by omega), trivial, _, atI0, trivial, _, atI1, .inl ⟨by omega, by omega⟩, _, _, rfl, Nat.le_of_ble_eq_true rfl, Nat.le_of_ble_eq_true rfl, Nat.le_of_ble_eq_true rfl, ?_⟩
        obtain ⟨y, hy⟩ : ∃ y, y = (i : Int) * (g.many : Int) + g.ins + j + 2 := ⟨_, rfl⟩
        obtain ⟨p, hp⟩ : ∃ p, p = movL (g.regs[j]).2 (((i : Int) - 1) * (g.many : Int)) := ⟨_, rfl⟩
        have ey : rLet g (i : Int) (j : Int) = y := by rw [hy]; rfl
        have hok : ∀ l ∈ qL y p, l.length ≤ 60 ∧ ∀ x ∈ l, x ≠ 0 := qL_ok (by omega) (by rw [hp]; exact movL_ne hr.2.1 p1)
        rw [ey, ← hp] at e
        dsimp only [wF, itD, seqOf, wA, frz, res, ofRe, plainV, setR, List.set_cons_zero, List.set_cons_succ]
        rw [← hy, ← hp]
        refine dLoop_of (lsD (qL y p)) (fun m ρ => ∃ o9 : Option D, ρ = [some (.bo g.toD), some (.bo (.int (t : Int))), some (.ow (.list (csD (foldC (rCn g i (uCn g i ++ gCn g ((i : Int) * (g.many : Int)) g.ands.length) j) ((qL y p).take m))))), some (.sh (.int (g.many : Int))), some (.sh (.int (i : Int))), some (.sh (.int (j : Int))), some (.sh (pD g.regs[j])), some (.sh (.int y)), some (.sh (.int p)), o9.map Sl.sh]) ⟨o9, rfl⟩ ?_ ?_
        · rintro m x ρ k hx ⟨o9, rfl⟩ next
          obtain ⟨hm, rfl⟩ := lsD_get hx
          have hk := hok _ (List.getElem_mem hm)
          have hfl := foldC_len ((qL y p).take m) (rCn g i (uCn g i ++ gCn g ((i : Int) * (g.many : Int)) g.ands.length) j)
          have h3 : (qL y p).length = 2 := rfl
          rw [List.length_take] at hfl
          rw [foldC_succ _ _ hm] at next
          exact ⟨(by rfl), _, rfl, 2, _, rfl, rfl, _, _, rfl, rfl, hk.1, hk.2, by omega, _, rfl, next _ ⟨some (.list (iL2 (qL y p)[m])), rfl⟩⟩
        · rintro ρ ⟨o9, rfl⟩
          rw [lsD_len, List.take_length, foldC_qL, ← e]
          exact next _ ⟨some (.int j), some (pD g.regs[j]), some (.int y), some (.int p), o9, rfl⟩
      · rintro ρ ⟨o5, o6, o7, o8, o9, rfl⟩
        rw [enumP_len, List.length_take, Nat.min_eq_left hn]
        exact next _ ⟨some (.int i), o5, o6, o7, o8, o9, rfl⟩
  · rintro ρ ⟨o4, o5, o6, o7, o8, o9, rfl⟩
    rw [rngD_length, Int.toNat_natCast]
    exact hq
abbrev s_law_starting : Stmt := topS 27
abbrev n_law_starting : List Str := ["_law_graph", "_law_letters", "_law_k", "_law_z", "_law_reg"]
theorem sc_law_starting : FnScope n_law_starting ["_law_graph"] (C8.fnScope s_law_starting) := C8.fnScope_by (by decide +kernel)
theorem ok_law_starting {a : Addr} {fd : FuncData} (F : C8.Def K mg "_law_starting" s_law_starting a fd) (b : Binds K fd ["_law_graph"] []) (T : Txt mg) : CalG P w K mg base (2) "_law_starting" (spD K [.bo] (CstaG)) := by
  refine calG F b sc_law_starting rfl (fun cdv A outer s H E hA hr => ?_)
  have hu := huOf hr
  have hu64 := hr.units
  refine ⟨_, _, (pss_cons (ps_setLc (i := 1) rfl sc_law_starting.nd rfl rfl (sw_true rfl rfl rfl (by decide +kernel)) (pi_range1 (by rfl) T.range (pa_cons (pe_callB (k_lenA (K := K) rfl) (by rfl) T.len (by decide +kernel) (pa_cons (pe_ix (k_ix (K := K) rfl) (pv 0) pe_int (fun _ _ => rfl)) pa_nil)) pa_nil)) (blkOk_by (own := [("_law_k", 2)]) (N := n_law_starting) (sc := C8.fnScope s_law_starting) (by decide +kernel)) (fun _ _ _ _ _ => (pg_name (i := 2) sc_law_starting.nd rfl (by first | exact Or.inl rfl | exact Or.inr rfl))) (fun _ _ _ _ _ => pts_nil) (fun _ _ _ _ _ => (pe_op (k_add (K := K) rfl) (pe_op (k_add (K := K) rfl) (pe_ix (k_ix (K := K) rfl) (pv 0) pe_int (fun _ _ => rfl)) (pv 2)) pe_int)))
      (pss_one (ps_ret (pe_lc rfl sc_law_starting.nd (k_zip (K := K) rfl (by rfl) T.zip (pa_cons (pv 1) (pa_cons (pe_ix (k_ix (K := K) rfl) (pv 0) pe_int (fun _ _ => rfl)) pa_nil))) (blkOk_by (own := [("_law_z", 3), ("_law_reg", 4)]) (N := n_law_starting) (sc := C8.fnScope s_law_starting) (by decide +kernel)) (fun _ _ _ _ _ => (k_gtup (n := 2) (K := K) rfl (by rfl) (pgs_cons (pg_name (i := 3) sc_law_starting.nd rfl (by first | exact Or.inl rfl | exact Or.inr rfl)) (pgs_cons (pg_name (i := 4) sc_law_starting.nd rfl (by first | exact Or.inl rfl | exact Or.inr rfl)) pgs_nil)))) (fun _ _ _ _ _ => pts_nil) (fun _ _ _ _ _ => (pe_ifExp (pt_cmpR (k_eq (K := K) rfl hu64) (pe_ix (k_ix (K := K) rfl) (pv 4) pe_int (fun _ _ => rfl)) pe_int (nomark _)) (pe_tup (pa_cons (pv 3) pa_nil)) (pe_tup (pa_cons (pe_un un_neg (pv 3)) pa_nil)))))))),
   (ls_seq (ls_asg (le_lc (li_rng1 (la_cons (le_cb (la_cons (le_op le_var le_int ol_ix) la_nil) cl_lenA) la_nil)) lg_name (lgw_name (by decide)) lt_yes (le_op (le_op (le_op le_var le_int ol_ix) le_var ol_add) le_int ol_add)) lg_name)
      (ls_ret (le_lc (li_zip (la_cons le_var (la_cons (le_op le_var le_int ol_ix) la_nil))) (lg_tup (lgs_cons lg_name (lgs_cons lg_name lgs_nil))) (lgw_tup (lgsw_cons mog_name (mogs_cons mog_name mogs_nil) (lgw_name (by decide)) (lgsw_cons mog_name mogs_nil (lgw_name (by decide)) lgsw_nil))) lt_yes (le_if (lt_test (le_op (le_op le_var le_int ol_ix) le_int ol_eq)) (le_tup (la_cons le_var la_nil)) (le_tup (la_cons (le_un le_var ul_neg) la_nil)))))), ?_⟩
  intro ds Qc h
  obtain ⟨g, rfl, hg, hq⟩ := h
  have hrl := hg.rl
  have sl := sizeLine_eq
  have en : (g.regs.map pD).length = g.regs.length := List.length_map _
  have ez : ∀ j : Nat, (g.ins : Int) + (j : Int) + 2 = rLet g 0 (j : Int) := fun j => by unfold rLet; rw [Int.zero_mul]; omega
  refine ⟨trivial, _, atI1, ⟨by omega, by omega⟩, ?_⟩
  refine dLcGo_of _ (fun j acc ρ => acc = letD g j ∧ ρ = [some (.bo g.toD), none, none, none, none]) ⟨rfl, rfl⟩ ?_ ?_
  · rintro j x acc ρ k hx ⟨rfl, rfl⟩ next
    obtain ⟨hj, rfl⟩ := rngN_get hx en
    refine useB_y rfl ⟨trivial, _, atI0, by rw [letD_len]; omega, next _ _ ⟨?_, rfl⟩⟩
    rw [letD_succ, ← ez]
  · rintro acc ρ ⟨rfl, rfl⟩
    rw [rngD_length, Int.toNat_natCast, en]
    refine ⟨trivial, _, atI1, (fun h => nomatch h), ?_⟩
    refine dLcGo_of _ (fun j acc ρ => acc = sC0 g j ∧ ρ = [some (.bo g.toD), some (.sh (.list (letD g g.regs.length))), none, none, none]) ⟨rfl, rfl⟩ ?_ ?_
    · rintro j x acc ρ k hx ⟨rfl, rfl⟩ next
      obtain ⟨hj, hj2, rfl⟩ := get_zipC hx
      rw [letD_get]
      have hj3 : j < g.regs.length := by rw [letD_len] at hj; exact hj
      rw [List.getElem_map]
      refine ⟨rfl, rfl, useB_y rfl ⟨trivial, _, atI0, rfl, useB_b (fun h => ⟨Nat.le_of_ble_eq_true rfl, by rw [sC0_len]; omega, next _ _ ⟨?_, rfl⟩⟩) (fun h => ⟨Nat.le_of_ble_eq_true rfl, by rw [sC0_len]; omega, next _ _ ⟨?_, rfl⟩⟩)⟩⟩
      · have h : (false != PyData.eqv (.int (g.regs[j]).1) (.int 1)) = true := h
        rw [eqv_int] at h
        have h : (g.regs[j]).1 = 1 := by simpa using h
        rw [sC0_succ]
        unfold sC1
        rw [getD_reg hj3, if_pos h]
        rfl
      · have h : (false != PyData.eqv (.int (g.regs[j]).1) (.int 1)) = false := h
        rw [eqv_int] at h
        have h : ¬ (g.regs[j]).1 = 1 := by simpa using h
        rw [sC0_succ]
        unfold sC1
        rw [getD_reg hj3, if_neg h]
        rfl
    · rintro acc ρ ⟨rfl, rfl⟩
      rw [zipC_len (by rw [letD_len, en]), letD_len]
      exact hq
end
end K84

set_option Elab.async false
set_option linter.all false
set_option maxRecDepth 100000
set_option maxHeartbeats 4000000
set_option autoImplicit false
set_option pp.maxSteps 1000
namespace K84
open PySem L2 DL
section
variable {P : Program} {w : World} {K : PySem.W.Frag} {mg : Str → Option Value} {base : Heap}
abbrev s_law_step_of : Stmt := topS 28
abbrev n_law_step_of : List Str := ["_law_graph", "_law_lot", "_law_state", "_law_values", "_law_outs", "_law_l", "_law_reg"]
theorem sc_law_step_of : FnScope n_law_step_of ["_law_graph", "_law_lot", "_law_state"] (C8.fnScope s_law_step_of) := C8.fnScope_by (by decide +kernel)
theorem ok_law_step_of {a : Addr} {fd : FuncData} (F : C8.Def K mg "_law_step_of" s_law_step_of a fd) (b : Binds K fd ["_law_graph", "_law_lot", "_law_state"] []) (T : Txt mg) (c_law_nodes : CalG P w K mg base 2 "_law_nodes" (spD K [.bo, .bo, .bo, .bo] (Cnodes1))) (c_law_literal : CalG P w K mg base 1 "_law_literal" (spD K [.bo, .bo, .bo] (Clit1))) : CalG P w K mg base (3) "_law_step_of" (spD K [.bo, .bo, .bo] (CstepL)) := by
  refine calG F b sc_law_step_of rfl (fun cdv A outer s H E hA hr => ?_)
  have hu := huOf hr
  have hu64 := hr.units
  refine ⟨_, _, (pss_cons (ps_asg (pe_cG c_law_nodes hA hr (by first | decide | omega) rfl (pa_cons (pv 0) (pa_cons (pv 2) (pa_cons (pv 1) (pa_cons pe_int pa_nil))))) (pg_name (i := 3) sc_law_step_of.nd rfl (by first | exact Or.inl rfl | exact Or.inr rfl)))
      (pss_cons (ps_asg (pe_callTy (k_tupleA (K := K) rfl rfl) (by rfl) T.tuple (by decide +kernel) (pa_cons (pe_lc rfl sc_law_step_of.nd (k_iany (K := K) rfl (pe_ix (k_ix (K := K) rfl) (pv 0) pe_int (fun _ _ => rfl))) (blkOk_by (own := [("_law_l", 5)]) (N := n_law_step_of) (sc := C8.fnScope s_law_step_of) (by decide +kernel)) (fun _ _ _ _ _ => (pg_name (i := 5) sc_law_step_of.nd rfl (by first | exact Or.inl rfl | exact Or.inr rfl))) (fun _ _ _ _ _ => pts_nil) (fun _ _ _ _ _ => (pe_cG c_law_literal hA hr (by first | decide | omega) rfl (pa_cons (pv 3) (pa_cons (pv 5) (pa_cons pe_int pa_nil)))))) pa_nil)) (pg_name (i := 4) sc_law_step_of.nd rfl (by first | exact Or.inl rfl | exact Or.inr rfl)))
      (pss_one (ps_ret (pe_tup (pa_cons (pv 4) (pa_cons (pe_callTy (k_tupleA (K := K) rfl rfl) (by rfl) T.tuple (by decide +kernel) (pa_cons (pe_lc rfl sc_law_step_of.nd (k_iany (K := K) rfl (pe_ix (k_ix (K := K) rfl) (pv 0) pe_int (fun _ _ => rfl))) (blkOk_by (own := [("_law_reg", 6)]) (N := n_law_step_of) (sc := C8.fnScope s_law_step_of) (by decide +kernel)) (fun _ _ _ _ _ => (pg_name (i := 6) sc_law_step_of.nd rfl (by first | exact Or.inl rfl | exact Or.inr rfl))) (fun _ _ _ _ _ => pts_nil) (fun _ _ _ _ _ => (pe_cG c_law_literal hA hr (by first | decide | omega) rfl (pa_cons (pv 3) (pa_cons (pe_ix (k_ix (K := K) rfl) (pv 6) pe_int (fun _ _ => rfl)) (pa_cons pe_int pa_nil)))))) pa_nil)) pa_nil))))))),
   (ls_seq (ls_asg (le_call (la_cons le_var (la_cons le_var (la_cons le_var (la_cons le_int la_nil))))) lg_name)
      (ls_seq (ls_asg (le_cb (la_cons (le_lc (li_any (le_op le_var le_int ol_ix)) lg_name (lgw_name (by decide)) lt_yes (le_call (la_cons le_var (la_cons le_var (la_cons le_int la_nil))))) la_nil) cl_tupleA) lg_name)
      (ls_ret (le_tup (la_cons le_var (la_cons (le_cb (la_cons (le_lc (li_any (le_op le_var le_int ol_ix)) lg_name (lgw_name (by decide)) lt_yes (le_call (la_cons le_var (la_cons (le_op le_var le_int ol_ix) (la_cons le_int la_nil))))) la_nil) cl_tupleA) la_nil)))))), ?_⟩
  intro ds Qc h
  obtain ⟨g, st, lot, rfl, hg, hs, hl, hq⟩ := h
  have hn := Gr.many_nodes (g := g) st lot hl hs
  refine ⟨g, st, lot, rfl, hg, hs, hl, trivial, _, rfl, dLcGo_map _ (dI (litV (g.nodes st lot))) ?_ (fun x k hx q => ?_) ?_⟩
  · have := hg.ol; rw [List.length_map, sizeLine_eq]; omega
  · obtain ⟨l, hm, rfl⟩ := List.mem_map.mp hx
    have := hg.outs l hm
    rw [← hn] at this
    exact ⟨_, _, rfl, this, q⟩
  · rw [map_dI]
    refine ⟨trivial, _, rfl, dLcGo_map _ (d2 (litV (g.nodes st lot))) ?_ (fun x k hx q => ?_) ?_⟩
    · have := hg.rl; rw [List.length_map, sizeLine_eq]; omega
    · obtain ⟨p, hp, rfl⟩ := map_mem_pD hx
      have := (hg.regs p hp).2
      rw [← hn] at this
      exact ⟨trivial, _, atI1, _, _, rfl, this, q⟩
    · rw [map_d2]
      exact ⟨Nat.le_of_ble_eq_true rfl, hq⟩
abbrev s_law_true_of : Stmt := topS 30
abbrev n_law_true_of : List Str := ["_law_values", "_law_shift", "_law_n", "_law_bit"]
theorem sc_law_true_of : FnScope n_law_true_of ["_law_values", "_law_shift"] (C8.fnScope s_law_true_of) := C8.fnScope_by (by decide +kernel)
theorem ok_law_true_of {a : Addr} {fd : FuncData} (F : C8.Def K mg "_law_true_of" s_law_true_of a fd) (b : Binds K fd ["_law_values", "_law_shift"] []) (T : Txt mg) : CalG P w K mg base (1) "_law_true_of" (spD K [.bo, .bo] (Ctrue)) := by
  refine calG F b sc_law_true_of rfl (fun cdv A outer s H E hA hr => ?_)
  have hu := huOf hr
  have hu64 := hr.units
  refine ⟨_, _, (pss_one (ps_ret (pe_callTy (k_dictP (K := K) rfl rfl) (by rfl) T.dict (by decide +kernel) (pa_cons (pe_lc rfl sc_law_true_of.nd (k_enum (K := K) rfl (by rfl) T.enumerate (pa_cons (pv 0) pa_nil)) (blkOk_by (own := [("_law_n", 2), ("_law_bit", 3)]) (N := n_law_true_of) (sc := C8.fnScope s_law_true_of) (by decide +kernel)) (fun _ _ _ _ _ => (k_gtup (n := 2) (K := K) rfl (by rfl) (pgs_cons (pg_name (i := 2) sc_law_true_of.nd rfl (by first | exact Or.inl rfl | exact Or.inr rfl)) (pgs_cons (pg_name (i := 3) sc_law_true_of.nd rfl (by first | exact Or.inl rfl | exact Or.inr rfl)) pgs_nil)))) (fun _ _ _ _ _ => pts_nil) (fun _ _ _ _ _ => (pe_tup (pa_cons (pe_op (k_add (K := K) rfl) (pe_op (k_add (K := K) rfl) (pv 2) pe_int) (pv 1)) (pa_cons (pe_ifExp (pt_cmpR (k_eq (K := K) rfl hu64) (pv 3) pe_int (nomark _)) (pe_op (k_add (K := K) rfl) (pe_op (k_add (K := K) rfl) (pv 2) pe_int) (pv 1)) (pe_op op_sub (pe_op op_sub (pe_un un_neg (pv 2)) pe_int) (pv 1))) pa_nil))))) pa_nil)))),
   (ls_ret (le_cb (la_cons (le_lc (li_enum (la_cons le_var la_nil)) (lg_tup (lgs_cons lg_name (lgs_cons lg_name lgs_nil))) (lgw_tup (lgsw_cons mog_name (mogs_cons mog_name mogs_nil) (lgw_name (by decide)) (lgsw_cons mog_name mogs_nil (lgw_name (by decide)) lgsw_nil))) lt_yes (le_tup (la_cons (le_op (le_op le_var le_int ol_add) le_var ol_add) (la_cons (le_if (lt_test (le_op le_var le_int ol_eq)) (le_op (le_op le_var le_int ol_add) le_var ol_add) (le_op (le_op (le_un le_var ul_neg) le_int ol_sub) le_var ol_sub)) la_nil)))) la_nil) cl_dictP)), ?_⟩
  intro ds Qc h
  obtain ⟨W, s, rfl, hl, hq⟩ := h
  have sl := sizeLine_eq
  refine dLcGo_of _ (fun j acc ρ => acc = kdL ((List.range j).map (tZ s W)) ∧ ρ = [some (.bo (.list (W.map PyData.int))), some (.bo (.int s)), none, none]) ⟨rfl, rfl⟩ ?_ ?_
  · rintro j x acc ρ k hx ⟨rfl, rfl⟩ next
    obtain ⟨hj, rfl⟩ := get_enumI hx
    have hlen : (kdL ((List.range j).map (tZ s W))).length < sizeLine := by rw [kdL_len, List.length_map, List.length_range]; omega
    refine ⟨rfl, rfl, useB_y rfl ⟨rfl, useB_b (fun h => ⟨Nat.le_of_ble_eq_true rfl, hlen, next _ _ ⟨?_, rfl⟩⟩) (fun h => ⟨Nat.le_of_ble_eq_true rfl, hlen, next _ _ ⟨?_, rfl⟩⟩)⟩⟩
    · have h : (false != PyData.eqv (.int W[j]) (.int 1)) = true := h
      rw [eqv_int] at h
      have h : W[j] = 1 := by simpa using h
      rw [kdL_tZ, getD_of hj, if_pos h]
    · have h : (false != PyData.eqv (.int W[j]) (.int 1)) = false := h
      rw [eqv_int] at h
      have h : ¬ W[j] = 1 := by simpa using h
      have e : -((j : Int) + 1 + s) = -(j : Int) - 1 - s := by omega
      rw [kdL_tZ, getD_of hj, if_neg h, e]
  · rintro acc ρ ⟨rfl, rfl⟩
    have el : (enumD (W.map PyData.int)).length = W.length := enumI_len W
    refine ⟨(List.range W.length).map (tZ s W), ?_, ?_⟩
    · exact congrArg (fun n => kdL ((List.range n).map (tZ s W))) el
    · have e : mergeE [] (kdE ((List.range W.length).map (tZ s W))) = entD s W := merge_ent0 s W
      rw [e]
      exact hq
abbrev s_law_kept : Stmt := topS 21
abbrev n_law_kept : List Str := ["_law_clauses", "_law_true", "_law_clause", "_law_one"]
theorem sc_law_kept : FnScope n_law_kept ["_law_clauses", "_law_true"] (C8.fnScope s_law_kept) := C8.fnScope_by (by decide +kernel)
theorem ok_law_kept {a : Addr} {fd : FuncData} (F : C8.Def K mg "_law_kept" s_law_kept a fd) (b : Binds K fd ["_law_clauses", "_law_true"] []) (T : Txt mg) : CalG P w K mg base (1) "_law_kept" (spD K [.bo, .bo] (Ckept)) := by
  refine calG F b sc_law_kept rfl (fun cdv A outer s H E hA hr => ?_)
  have hu := huOf hr
  have hu64 := hr.units
  refine ⟨_, _, (pss_cons (ps_for PassesOwn.never rfl (k_iany (K := K) rfl (pv 0)) (pg_name (i := 2) sc_law_kept.nd rfl (by first | exact Or.inl rfl | exact Or.inr rfl))
      (pss_one (ps_if (pt_cmpR (k_eq (K := K) rfl hu64) (pe_lc rfl sc_law_kept.nd (k_iany (K := K) rfl (pv 2)) (blkOk_by (own := [("_law_one", 3)]) (N := n_law_kept) (sc := C8.fnScope s_law_kept) (by decide +kernel)) (fun _ _ _ _ _ => (pg_name (i := 3) sc_law_kept.nd rfl (by first | exact Or.inl rfl | exact Or.inr rfl))) (fun _ _ _ _ _ => (pts_one (pt_cmpR (k_eq (K := K) rfl hu64) (pe_dget1 hu (pv 1) (pe_callB call_abs (by rfl) T.abs (by decide +kernel) (pa_cons (pv 3) pa_nil)) ⟨rfl, rfl, rfl, rfl⟩) (pv 3) (nomark _)))) (fun _ _ _ _ _ => (pv 3))) (pe_lst pa_nil) (nomark _)) (pss_one (ps_ret pe_bl)) pss_nil)))
      (pss_one (ps_ret pe_bl))),
   (ls_seq (ls_for (li_any le_var) lg_name
      (ls_if (lt_test (le_op (le_lc (li_any le_var) lg_name (lgw_name (by decide)) (lt_test (le_op (le_dget1 le_var (le_cb (la_cons le_var la_nil) cl_abs)) le_var ol_eq)) le_var) (le_lst la_nil) ol_eq)) (ls_ret le_bl) ls_next))
      (ls_ret le_bl)), ?_⟩
  intro ds Qc h
  obtain ⟨cs, s, W, rfl, hin, hw, hq⟩ := h
  have sl := sizeLine_eq
  refine dLoop_of (csD cs) (fun i ρ => (∀ c ∈ cs.take i, ∃ l ∈ c, tvV W s (absI l) = l) ∧ ∃ o2 : Option Sl, ρ = [some (.bo (.list (csD cs))), some (.bo (.dict (entD s W))), o2, none]) ⟨(fun c hc => by rw [List.take_zero] at hc; cases hc), none, rfl⟩ ?_ ?_
  · rintro i x ρ k hx ⟨hk, o2, rfl⟩ next
    obtain ⟨hi, rfl⟩ := csD_get hx
    obtain ⟨c, hc⟩ : ∃ c, c = cs[i] := ⟨_, rfl⟩
    have hcm : c ∈ cs := by rw [hc]; exact List.getElem_mem hi
    have hcl := hw c hcm
    rw [← hc]
    refine dLcGo_of (iL2 c) (fun j acc ρ => acc = iL2 (hitL W s (c.take j)) ∧ ρ = [some (.bo (.list (csD cs))), some (.bo (.dict (entD s W))), some (.sh (.tuple (iL2 c))), none]) ⟨rfl, rfl⟩ ?_ ?_
    · rintro j x acc ρ k hx ⟨rfl, rfl⟩ next
      obtain ⟨hj, rfl⟩ := iL2_get hx
      have hlt := hin c hcm c[j] (List.getElem_mem hj)
      have hle := hit_len W s (c.take j)
      rw [List.length_take] at hle
      have hlk := look_ent (W := W) hlt.1 hlt.2
      rw [absI_nat] at hlk
      have hsc := hit_succ W s hj
      refine ⟨entD_T _ _, entD_T _ _, .int (tvV W s ((c[j]).natAbs : Int)), by rw [hlk]; rfl, rfl, useB_b (fun h => ⟨by rw [iL2_len]; omega, next _ _ ⟨?_, rfl⟩⟩) (fun h => next _ _ ⟨?_, rfl⟩)⟩
      · have h : (false != PyData.eqv (.int (tvV W s ((c[j]).natAbs : Int))) (.int c[j])) = true := h
        rw [eqv_int, ← absI_nat] at h
        have h : tvV W s (absI c[j]) = c[j] := by simpa using h
        rw [hsc, if_pos h]
        unfold iL2
        rw [List.map_append]
        rfl
      · have h : (false != PyData.eqv (.int (tvV W s ((c[j]).natAbs : Int))) (.int c[j])) = false := h
        rw [eqv_int, ← absI_nat] at h
        have h : ¬ tvV W s (absI c[j]) = c[j] := by simpa using h
        rw [hsc, if_neg h]
    · rintro acc ρ ⟨rfl, rfl⟩
      rw [iL2_len, List.take_length]
      refine ⟨Nat.le_of_ble_eq_true rfl, eqOk_ints _, useB_b (fun h => ?_) (fun h => ?_)⟩
      · have h : (false != PyData.eqv (.list (iL2 (hitL W s c))) (.list [])) = true := h
        rw [eqv_nilC] at h
        have h : iL2 (hitL W s c) = [] := by simpa using h
        have h : hitL W s c = [] := List.map_eq_nil_iff.mp h
        have e : keepsB (tvV W s) cs = false := by
          rw [Bool.eq_false_iff]
          intro z
          obtain ⟨l, hl, e⟩ := keepsB_iff.mp z c hcm
          exact hit_nil.mp h ⟨l, hl, e⟩
        rw [e] at hq
        exact hq
      · have h : (false != PyData.eqv (.list (iL2 (hitL W s c))) (.list [])) = false := h
        rw [eqv_nilC] at h
        have h : ¬ iL2 (hitL W s c) = [] := by simpa using h
        refine next _ ⟨fun d hd => ?_, _, rfl⟩
        rw [List.take_succ, List.getElem?_eq_getElem hi, ← hc] at hd
        rcases List.mem_append.mp hd with z | z
        · exact hk d z
        · have z : d ∈ [c] := z
          rw [List.mem_singleton.mp z]
          refine Decidable.byContradiction fun w => h ?_
          rw [hit_nil.mpr w]
          rfl
  · rintro ρ ⟨hk, o2, rfl⟩
    rw [csD_len, List.take_length] at hk
    have e : keepsB (tvV W s) cs = true := keepsB_iff.mpr hk
    rw [e] at hq
    exact hq
abbrev s_law_all_bits : Stmt := topS 20
abbrev n_law_all_bits : List Str := ["_law_many", "_law_found", "_law_lap", "_law_bits"]
theorem sc_law_all_bits : FnScope n_law_all_bits ["_law_many"] (C8.fnScope s_law_all_bits) := C8.fnScope_by (by decide +kernel)
theorem ok_law_all_bits {a : Addr} {fd : FuncData} (F : C8.Def K mg "_law_all_bits" s_law_all_bits a fd) (b : Binds K fd ["_law_many"] []) (T : Txt mg) : CalG P w K mg base (1) "_law_all_bits" (spD K [.bo] (CallB)) := by
  refine calG F b sc_law_all_bits rfl (fun cdv A outer s H E hA hr => ?_)
  have hu := huOf hr
  have hu64 := hr.units
  refine ⟨_, _, (pss_cons (ps_asg (pe_lst (pa_cons (pe_tup pa_nil) pa_nil)) (pg_name (i := 1) sc_law_all_bits.nd rfl (by first | exact Or.inl rfl | exact Or.inr rfl)))
      (pss_cons (ps_for PassesOwn.never rfl (pi_range1 (by rfl) T.range (pa_cons (pv 0) pa_nil)) (pg_name (i := 2) sc_law_all_bits.nd rfl (by first | exact Or.inl rfl | exact Or.inr rfl))
      (pss_one (ps_asg (pe_op (k_add (K := K) rfl) (pe_lc rfl sc_law_all_bits.nd (k_iany (K := K) rfl (pv 1)) (blkOk_by (own := [("_law_bits", 3)]) (N := n_law_all_bits) (sc := C8.fnScope s_law_all_bits) (by decide +kernel)) (fun _ _ _ _ _ => (pg_name (i := 3) sc_law_all_bits.nd rfl (by first | exact Or.inl rfl | exact Or.inr rfl))) (fun _ _ _ _ _ => pts_nil) (fun _ _ _ _ _ => (pe_op (k_add (K := K) rfl) (pv 3) (pe_tup (pa_cons pe_int pa_nil))))) (pe_lc rfl sc_law_all_bits.nd (k_iany (K := K) rfl (pv 1)) (blkOk_by (own := [("_law_bits", 3)]) (N := n_law_all_bits) (sc := C8.fnScope s_law_all_bits) (by decide +kernel)) (fun _ _ _ _ _ => (pg_name (i := 3) sc_law_all_bits.nd rfl (by first | exact Or.inl rfl | exact Or.inr rfl))) (fun _ _ _ _ _ => pts_nil) (fun _ _ _ _ _ => (pe_op (k_add (K := K) rfl) (pv 3) (pe_tup (pa_cons pe_int pa_nil)))))) (pg_name (i := 1) sc_law_all_bits.nd rfl (by first | exact Or.inl rfl | exact Or.inr rfl)))))
      (pss_one (ps_ret (pv 1))))),
   (ls_seq (ls_asg (le_lst (la_cons (le_tup la_nil) la_nil)) lg_name)
      (ls_seq (ls_for (li_rng1 (la_cons le_var la_nil)) lg_name
      (ls_asg (le_op (le_lc (li_any le_var) lg_name (lgw_name (by decide)) lt_yes (le_op le_var (le_tup (la_cons le_int la_nil)) ol_add)) (le_lc (li_any le_var) lg_name (lgw_name (by decide)) lt_yes (le_op le_var (le_tup (la_cons le_int la_nil)) ol_add)) ol_add) lg_name))
      (ls_ret le_var))), ?_⟩
  intro ds Qc h
  obtain ⟨n, rfl, hn, hq⟩ := h
  have sl := sizeLine_eq
  refine ⟨Nat.le_of_ble_eq_true rfl, Nat.le_of_ble_eq_true rfl, ⟨by omega, by omega⟩, ?_⟩
  refine dLoop_of _ (fun i ρ => ∃ o2 : Option Sl, ρ = [some (.bo (.int (n : Int))), some (.ow (.list ((allB i).map lotD))), o2, none]) ⟨none, rfl⟩ ?_ ?_
  · rintro i x ρ k hx ⟨o2, rfl⟩ next
    obtain ⟨hi, rfl⟩ := rng0_get hx
    have hbl := allB_len i
    have hb2 : 2 ^ i ≤ 2 ^ 10 := Nat.pow_le_pow_right (by omega) (by omega)
    have hml : ((allB i).map lotD).length ≤ 1024 := by rw [List.length_map, hbl]; exact hb2
    have step : ∀ x ∈ (allB i).map lotD, ∃ b, x = lotD b ∧ b.length ≤ 10 := fun x hx => by
      obtain ⟨b, hb, rfl⟩ := List.mem_map.mp hx
      exact ⟨b, rfl, by rw [(allB_bits i b hb).1]; omega⟩
    refine dLcGo_map _ (dapp 0) (by omega) (fun x k hx q => ?_) ?_
    · obtain ⟨b, rfl, hb⟩ := step x hx
      exact ⟨Nat.le_of_ble_eq_true rfl, by simp only [List.length_map, List.length_cons, List.length_nil]; omega, q⟩
    · refine dLcGo_map _ (dapp 1) (by omega) (fun x k hx q => ?_) ?_
      · obtain ⟨b, rfl, hb⟩ := step x hx
        exact ⟨Nat.le_of_ble_eq_true rfl, by simp only [List.length_map, List.length_cons, List.length_nil]; omega, q⟩
      · refine ⟨by simp only [List.length_map] at hml ⊢; omega, next _ ⟨some (.sh (.int i)), ?_⟩⟩
        rw [allB_succ, ← map_dapp, ← map_dapp]
        rfl
  · rintro ρ ⟨o2, rfl⟩
    rw [rngD_length, Int.toNat_natCast]
    exact hq
abbrev s_law_rough_graph : Stmt := topS 29
abbrev n_law_rough_graph : List Str := ["_law_source_here", "_law_graph", "_law_l", "_law_ands"]
theorem sc_law_rough_graph : FnScope n_law_rough_graph ["_law_source_here"] (C8.fnScope s_law_rough_graph) := C8.fnScope_by (by decide +kernel)
theorem ok_law_rough_graph {a : Addr} {fd : FuncData} (F : C8.Def K mg "_law_rough_graph" s_law_rough_graph a fd) (b : Binds K fd ["_law_source_here"] []) (T : Txt mg) (c_law_pick : CalG P w K mg base 1 "_law_pick" (spD K [.src, .bo] (Cpick))) (c_law_draw_graph : CalG P w K mg base 3 "_law_draw_graph" (spD K [.src, .bo, .bo, .bo] (Cdraw))) (c_law_size : CalG P w K mg base 1 "_law_size" (spD K [.bo] (CsizG))) : CalG P w K mg base (4) "_law_rough_graph" (spD K [.src] (CroughG)) := by
  refine calG F b sc_law_rough_graph rfl (fun cdv A outer s H E hA hr => ?_)
  have hu := huOf hr
  have hu64 := hr.units
  refine ⟨_, _, (pss_cons (ps_asg (pe_cG c_law_draw_graph hA hr (by first | decide | omega) rfl (pa_cons (pv 0) (pa_cons pe_int (pa_cons pe_int (pa_cons pe_int pa_nil))))) (pg_name (i := 1) sc_law_rough_graph.nd rfl (by first | exact Or.inl rfl | exact Or.inr rfl)))
      (pss_cons (ps_if (pt_cmpR (k_eq (K := K) rfl hu64) (pe_cG c_law_pick hA hr (by first | decide | omega) rfl (pa_cons (pv 0) (pa_cons pe_int pa_nil))) pe_int (nomark _)) (pss_one (ps_ret (pv 1))) pss_nil)
      (pss_cons (ps_asg (pe_cG c_law_pick hA hr (by first | decide | omega) rfl (pa_cons (pv 0) (pa_cons (pe_op op_mulA pe_int (pe_cG c_law_size hA hr (by first | decide | omega) rfl (pa_cons (pv 1) pa_nil))) pa_nil))) (pg_name (i := 2) sc_law_rough_graph.nd rfl (by first | exact Or.inl rfl | exact Or.inr rfl)))
      (pss_cons (ps_asg (pe_op (k_add (K := K) rfl) (pe_ix (k_ix (K := K) rfl) (pv 1) pe_int (fun _ _ => rfl)) (pe_slice (k_sl (K := K) rfl) (pe_tup (pa_cons (pe_tup (pa_cons (pv 2) (pa_cons (pv 2) pa_nil))) (pa_cons (pe_tup (pa_cons (pv 2) (pa_cons (pe_op op_xor (pv 2) pe_int) pa_nil))) (pa_cons (pe_tup (pa_cons (pv 2) (pa_cons pe_int pa_nil))) (pa_cons (pe_tup (pa_cons pe_int (pa_cons (pv 2) pa_nil))) pa_nil))))) po_none (po_some (pe_op (k_add (K := K) rfl) pe_int (pe_cG c_law_pick hA hr (by first | decide | omega) rfl (pa_cons (pv 0) (pa_cons pe_int pa_nil))))))) (pg_name (i := 3) sc_law_rough_graph.nd rfl (by first | exact Or.inl rfl | exact Or.inr rfl)))
      (pss_one (ps_ret (pe_tup (pa_cons (pe_ix (k_ix (K := K) rfl) (pv 1) pe_int (fun _ _ => rfl)) (pa_cons (pe_ix (k_ix (K := K) rfl) (pv 1) pe_int (fun _ _ => rfl)) (pa_cons (pv 3) (pa_cons (pe_op (k_add (K := K) rfl) (pe_ix (k_ix (K := K) rfl) (pv 1) pe_int (fun _ _ => rfl)) (pe_tup (pa_cons (pe_op op_mulA pe_int (pe_op (k_add (K := K) rfl) (pe_cG c_law_size hA hr (by first | decide | omega) rfl (pa_cons (pv 1) pa_nil)) (pe_cG c_law_pick hA hr (by first | decide | omega) rfl (pa_cons (pv 0) (pa_cons pe_int pa_nil))))) pa_nil))) pa_nil))))))))))),
   (ls_seq (ls_asg (le_call (la_cons le_var (la_cons le_int (la_cons le_int (la_cons le_int la_nil))))) lg_name)
      (ls_seq (ls_if (lt_test (le_op (le_call (la_cons le_var (la_cons le_int la_nil))) le_int ol_eq)) (ls_ret le_var) ls_next)
      (ls_seq (ls_asg (le_call (la_cons le_var (la_cons (le_op le_int (le_call (la_cons le_var la_nil)) ol_mul) la_nil))) lg_name)
      (ls_seq (ls_asg (le_op (le_op le_var le_int ol_ix) (le_sl (le_tup (la_cons (le_tup (la_cons le_var (la_cons le_var la_nil))) (la_cons (le_tup (la_cons le_var (la_cons (le_op le_var le_int ol_xor) la_nil))) (la_cons (le_tup (la_cons le_var (la_cons le_int la_nil))) (la_cons (le_tup (la_cons le_int (la_cons le_var la_nil))) la_nil))))) lo_none (lo_some (le_op le_int (le_call (la_cons le_var (la_cons le_int la_nil))) ol_add))) ol_add) lg_name)
      (ls_ret (le_tup (la_cons (le_op le_var le_int ol_ix) (la_cons (le_op le_var le_int ol_ix) (la_cons le_var (la_cons (le_op (le_op le_var le_int ol_ix) (le_tup (la_cons (le_op le_int (le_op (le_call (la_cons le_var la_nil)) (le_call (la_cons le_var (la_cons le_int la_nil))) ol_add) ol_mul) la_nil)) ol_add) la_nil)))))))))), ?_⟩
  intro ds Qc h
  obtain ⟨rfl, hq⟩ := h
  refine ⟨3, 3, 9, rfl, ⟨by omega, by omega⟩, ⟨by omega, by omega⟩, ⟨by omega, by omega⟩, fun g hg h1 h2 h3 h4 => ?_⟩
  have h1 : g.ins ≤ 3 := by omega
  have h2 : g.regs.length ≤ 3 := by omega
  have h3 : g.ands.length ≤ 9 := by omega
  refine ⟨2, rfl, ⟨by omega, by omega⟩, fun a a1 a2 => ⟨rfl, useB_b (fun _ => hq g ⟨hg, h1, h2, by omega⟩) (fun _ => ?_)⟩⟩
  have hm : 0 < g.many ∧ g.many ≤ 20 := by unfold Gr.many Gr.first; omega
  refine ⟨g, rfl, hg, .inl ⟨by decide, by decide⟩, 2 * (g.many : Int), rfl, ⟨by omega, by omega⟩, fun l l1 l2 => ?_⟩
  refine ⟨trivial, _, atI2, Nat.le_of_ble_eq_true rfl, Nat.le_of_ble_eq_true rfl, Nat.le_of_ble_eq_true rfl, Nat.le_of_ble_eq_true rfl, Nat.le_of_ble_eq_true rfl, 4, rfl, ⟨by omega, by omega⟩, fun c c1 c2 => ?_⟩
  have hll : inL l g.many := ⟨l1, l2⟩
  have h00 : inL 0 g.many := ⟨by omega, by omega⟩
  have h11 : inL 1 g.many := ⟨by omega, by omega⟩
  have ec : cutD (([(l, l), (l, Builtin.bitXor l 1), (l, 0), (1, l)] : List (Int × Int)).map pD) none (some (1 + c)) = (([(l, l), (l, Builtin.bitXor l 1), (l, 0), (1, l)] : List (Int × Int)).take (1 + c).toNat).map pD := by
    rcases (by omega : c = 0 ∨ c = 1 ∨ c = 2 ∨ c = 3) with rfl | rfl | rfl | rfl <;> rfl
  have hps : ∀ p ∈ ([(l, l), (l, Builtin.bitXor l 1), (l, 0), (1, l)] : List (Int × Int)).take (1 + c).toNat, inL p.1 g.many ∧ inL p.2 g.many := fun p hp => by
    have hp := List.mem_of_mem_take hp
    simp only [List.mem_cons, List.mem_nil_iff, or_false] at hp
    rcases hp with rfl | rfl | rfl | rfl
    · exact ⟨hll, hll⟩
    · exact ⟨hll, xor1 hll⟩
    · exact ⟨hll, h00⟩
    · exact ⟨h11, hll⟩
  have hpl : (([(l, l), (l, Builtin.bitXor l 1), (l, 0), (1, l)] : List (Int × Int)).take (1 + c).toNat).length = (1 + c).toNat := by rw [List.length_take]; simp; omega
  obtain ⟨ps, eps⟩ : ∃ ps, ps = ([(l, l), (l, Builtin.bitXor l 1), (l, 0), (1, l)] : List (Int × Int)).take (1 + c).toNat := ⟨_, rfl⟩
  rw [← eps] at ec hps hpl
  have ec2 : cutD [.tuple [.int l, .int l], .tuple [.int l, .int (Builtin.bitXor l 1)], .tuple [.int l, .int 0], .tuple [.int 1, .int l]] none (some (1 + c)) = ps.map pD := ec
  show ((g.ands.map pD).length + (cutD [.tuple [.int l, .int l], .tuple [.int l, .int (Builtin.bitXor l 1)], .tuple [.int l, .int 0], .tuple [.int 1, .int l]] none (some (1 + c))).length ≤ sizeLine) ∧ _
  rw [ec2]
  have sl := sizeLine_eq
  refine ⟨by rw [List.length_map, List.length_map]; omega, trivial, _, atI0, trivial, _, atI1, trivial, _, rfl, g, rfl, hg, 1, rfl, ⟨by omega, by omega⟩, fun d d1 d2 => ⟨.inl ⟨by decide, by decide⟩, Nat.le_of_ble_eq_true rfl, ?_, Nat.le_of_ble_eq_true rfl, ?_⟩⟩
  · have hol := hg.ol
    show (g.outs.map PyData.int).length + 1 ≤ sizeLine
    rw [List.length_map]; omega
  · have e : d = 0 := by omega
    subst e
    have := hq _ ((Sml.mk hg h1 h2 (by omega)).more (ps := ps) (o := 2 * ((g.many : Int) + 0)) hps (by omega) ⟨by omega, by omega⟩ (by omega))
    have e2 : Gr.toD ⟨g.ins, g.regs, g.ands ++ ps, g.outs ++ [2 * ((g.many : Int) + 0)]⟩ = .tuple [.int g.ins, .tuple (g.regs.map pD), .tuple (g.ands.map pD ++ ps.map pD), .tuple (g.outs.map PyData.int ++ [.int (2 * ((g.many : Int) + 0))])] := by
      unfold Gr.toD
      dsimp only
      rw [List.map_append, List.map_append]; rfl
    rw [e2] at this
    exact this
end
end K84

set_option Elab.async false
set_option linter.all false
set_option maxRecDepth 100000
set_option maxHeartbeats 4000000
set_option autoImplicit false
set_option pp.maxSteps 1000
namespace K84
open PySem L2 DL
section
variable {P : Program} {w : World} {K : PySem.W.Frag} {mg : Str → Option Value} {base : Heap}
abbrev s_law_values_right : Stmt := topS 31
abbrev n_law_values_right : List Str := ["_law_source_here", "_law_graph", "_law_clauses", "_law_first", "_law_size_here", "_law_bits", "_law_values", "_law_spot"]
theorem sc_law_values_right : FnScope n_law_values_right ["_law_source_here", "_law_graph", "_law_clauses"] (C8.fnScope s_law_values_right) := C8.fnScope_by (by decide +kernel)
theorem ok_law_values_right {a : Addr} {fd : FuncData} (F : C8.Def K mg "_law_values_right" s_law_values_right a fd) (b : Binds K fd ["_law_source_here", "_law_graph", "_law_clauses"] []) (T : Txt mg) (c_law_pick : CalG P w K mg base 1 "_law_pick" (spD K [.src, .bo] (Cpick))) (c_law_size : CalG P w K mg base 1 "_law_size" (spD K [.bo] (CsizG))) (c_law_all_bits : CalG P w K mg base 1 "_law_all_bits" (spD K [.bo] (CallB))) (c_law_nodes : CalG P w K mg base 2 "_law_nodes" (spD K [.bo, .bo, .bo, .bo] (Cnodes1))) (c_law_true_of : CalG P w K mg base 1 "_law_true_of" (spD K [.bo, .bo] (Ctrue))) (c_law_kept : CalG P w K mg base 1 "_law_kept" (spD K [.bo, .bo] (Ckept))) : CalG P w K mg base (4) "_law_values_right" (spD K [.src, .bo, .bo] (Cvr)) := by
  refine calG F b sc_law_values_right rfl (fun cdv A outer s H E hA hr => ?_)
  have hu := huOf hr
  have hu64 := hr.units
  refine ⟨_, _, (pss_cons (ps_par (i := 3) (j := 4) (by rfl) sc_law_values_right.nd rfl rfl (by decide) rfl rfl (pa_cons (pe_op (k_add (K := K) rfl) (pe_op (k_add (K := K) rfl) pe_int (pe_ix (k_ix (K := K) rfl) (pv 1) pe_int (fun _ _ => rfl))) (pe_callB (k_lenA (K := K) rfl) (by rfl) T.len (by decide +kernel) (pa_cons (pe_ix (k_ix (K := K) rfl) (pv 1) pe_int (fun _ _ => rfl)) pa_nil))) (pa_cons (pe_cG c_law_size hA hr (by first | decide | omega) rfl (pa_cons (pv 1) pa_nil)) pa_nil)) (by rfl))
      (pss_cons (ps_for PassesOwn.never rfl (k_iany (K := K) rfl (pe_cG c_law_all_bits hA hr (by first | decide | omega) rfl (pa_cons (pe_op op_sub (pv 3) pe_int) pa_nil))) (pg_name (i := 5) sc_law_values_right.nd rfl (by first | exact Or.inl rfl | exact Or.inr rfl))
      (pss_cons (ps_asg (pe_cG c_law_nodes hA hr (by first | decide | omega) rfl (pa_cons (pv 1) (pa_cons (pe_slice (k_sl (K := K) rfl) (pv 5) (po_some (pe_ix (k_ix (K := K) rfl) (pv 1) pe_int (fun _ _ => rfl))) po_none) (pa_cons (pe_slice (k_sl (K := K) rfl) (pv 5) po_none (po_some (pe_ix (k_ix (K := K) rfl) (pv 1) pe_int (fun _ _ => rfl)))) (pa_cons pe_int pa_nil))))) (pg_name (i := 6) sc_law_values_right.nd rfl (by first | exact Or.inl rfl | exact Or.inr rfl)))
      (pss_cons (ps_if (pt_not (pt_truth (pe_cG c_law_kept hA hr (by first | decide | omega) rfl (pa_cons (pv 2) (pa_cons (pe_cG c_law_true_of hA hr (by first | decide | omega) rfl (pa_cons (pv 6) (pa_cons pe_int pa_nil))) pa_nil))) (by intro _; rfl))) (pss_one (ps_ret pe_bl)) pss_nil)
      (pss_cons (ps_asg (pe_ifExp (pt_cmpR op_gt (pv 4) (pv 3) (nomark _)) (pe_op (k_add (K := K) rfl) (pe_cG c_law_pick hA hr (by first | decide | omega) rfl (pa_cons (pv 0) (pa_cons (pe_op op_sub (pv 4) (pv 3)) pa_nil))) (pv 3)) pe_int) (pg_name (i := 7) sc_law_values_right.nd rfl (by first | exact Or.inl rfl | exact Or.inr rfl)))
      (pss_cons (ps_asg (pe_op op_sub pe_int (pe_ix (k_ix (K := K) rfl) (pv 6) (pv 7) (fun _ _ => rfl))) (pg_sub (pv 6) (pv 7) set_list))
      (pss_one (ps_if (pt_truth (pe_cG c_law_kept hA hr (by first | decide | omega) rfl (pa_cons (pv 2) (pa_cons (pe_cG c_law_true_of hA hr (by first | decide | omega) rfl (pa_cons (pv 6) (pa_cons pe_int pa_nil))) pa_nil))) (by intro _; rfl)) (pss_one (ps_ret pe_bl)) pss_nil)))))))
      (pss_one (ps_ret pe_bl)))),
   (ls_seq (ls_par (le_op (le_op le_int (le_op le_var le_int ol_ix) ol_add) (le_cb (la_cons (le_op le_var le_int ol_ix) la_nil) cl_lenA) ol_add) (le_call (la_cons le_var la_nil)))
      (ls_seq (ls_for (li_any (le_call (la_cons (le_op le_var le_int ol_sub) la_nil))) lg_name
      (ls_seq (ls_asg (le_call (la_cons le_var (la_cons (le_sl le_var (lo_some (le_op le_var le_int ol_ix)) lo_none) (la_cons (le_sl le_var lo_none (lo_some (le_op le_var le_int ol_ix))) (la_cons le_int la_nil))))) lg_name)
      (ls_seq (ls_if (lt_not (lt_truth (le_call (la_cons le_var (la_cons (le_call (la_cons le_var (la_cons le_int la_nil))) la_nil))))) (ls_ret le_bl) ls_next)
      (ls_seq (ls_asg (le_if (lt_test (le_op le_var le_var ol_gt)) (le_op (le_call (la_cons le_var (la_cons (le_op le_var le_var ol_sub) la_nil))) le_var ol_add) le_int) lg_name)
      (ls_seq (ls_setL (i := 6) le_var (le_op le_int (le_op le_var le_var ol_ix) ol_sub))
      (ls_if (lt_truth (le_call (la_cons le_var (la_cons (le_call (la_cons le_var (la_cons le_int la_nil))) la_nil)))) (ls_ret le_bl) ls_next))))))
      (ls_ret le_bl))), ?_⟩
  intro ds Qc h
  obtain ⟨g, rfl, hS, hq⟩ := h
  have hg := hS.ok
  have h1 := hS.ins
  have h2 := hS.regs
  have h3 := hS.ands
  have sl := sizeLine_eq
  have ef : (1 : Int) + g.ins + ((g.regs.map pD).length : Nat) = (g.first : Int) := by rw [List.length_map]; unfold Gr.first; omega
  have ef1 : (g.first : Int) - 1 = ((g.ins + g.regs.length : Nat) : Int) := by unfold Gr.first; omega
  have hmany : g.many = g.first + g.ands.length := rfl
  have hff : g.first = 1 + g.ins + g.regs.length := rfl
  refine ⟨trivial, _, atI0, trivial, _, atI1, g, rfl, hg, g.ins + g.regs.length, ?_, by omega, ?_⟩
  · show [PyData.int ((1 : Int) + g.ins + ((g.regs.map pD).length : Nat) - 1)] = _
    rw [ef, ef1]
  refine dLoop_of ((allB (g.ins + g.regs.length)).map lotD) (fun i ρ => ∃ o5 o6 o7 : Option Sl, ρ = [some .src, some (.bo g.toD), some (.bo (.list (csD (gCn g 0 g.ands.length)))), some (.sh (.int (g.first : Int))), some (.sh (.int (g.many : Int))), o5, o6, o7]) ⟨none, none, none, by rw [← ef]; rfl⟩ ?_ ?_
  · rintro i x ρ k hx ⟨o5, o6, o7, rfl⟩ next
    obtain ⟨hi, rfl⟩ := get_map hx
    obtain ⟨b, hb⟩ : ∃ b, b = (allB (g.ins + g.regs.length))[i] := ⟨_, rfl⟩
    obtain ⟨b1, b2⟩ := allB_bits _ b (by rw [hb]; exact List.getElem_mem hi)
    rw [← hb]
    have hst : (b.drop g.ins).length = g.regs.length := by rw [List.length_drop]; omega
    have hlot : (b.take g.ins).length = g.ins := by rw [List.length_take]; omega
    have bst : bits (b.drop g.ins) := fun x hx => b2 x (List.mem_of_mem_drop hx)
    have blot : bits (b.take g.ins) := fun x hx => b2 x (List.mem_of_mem_take hx)
    have hvl := Gr.many_nodes (g := g) _ _ hlot hst
    have k1 : keepsB (tvV (g.nodes (b.drop g.ins) (b.take g.ins)) 0) (gCn g 0 g.ands.length) = true := keepsB_iff.mpr (nodes_keep hg hst hlot bst blot (Int.le_refl _))
    have kb : ∀ k, k < g.ands.length → keepsB (tvV (turned (g.nodes (b.drop g.ins) (b.take g.ins)) (g.first + k)) 0) (gCn g 0 g.ands.length) = false := fun k hk => Bool.eq_false_iff.mpr fun z => turned_breaks hg hst hlot bst blot hk (Int.le_refl _) (keepsB_iff.mp z)
    have kb0 : keepsB (tvV (turned (g.nodes (b.drop g.ins) (b.take g.ins)) 0) 0) (gCn g 0 g.ands.length) = false := Bool.eq_false_iff.mpr fun z => turned0_breaks hg bst blot (Int.le_refl _) (keepsB_iff.mp z)
    obtain ⟨vs, hvs⟩ : ∃ vs, vs = g.nodes (b.drop g.ins) (b.take g.ins) := ⟨_, rfl⟩
    rw [← hvs] at hvl k1 kb kb0
    have hwid : ∀ c ∈ gCn g 0 g.ands.length, c.length ≤ 1000 := fun c hc => Nat.le_trans (gCn_wid g _ _ c hc) (by omega)
    have hin : ∀ n : Nat, n = g.many → absIn 0 (0 + (n : Int)) (gCn g 0 g.ands.length) := fun n hn => (gCn_in hg (Int.le_refl _) _ (Nat.le_refl _)).mono (Int.le_refl _) (by omega)
    refine ⟨trivial, _, atI0, trivial, _, atI0, g, b.drop g.ins, b.take g.ins, ?_, hg, hst, hlot, ?_⟩
    · show [g.toD, PyData.tuple (cutD (b.map PyData.int) (some (g.ins : Int)) none), PyData.tuple (cutD (b.map PyData.int) none (some (g.ins : Int))), PyData.int 1] = _
      rw [cutD_dropI, cutD_takeI]
      rfl
    rw [← hvs]
    refine ⟨vs, 0, rfl, by omega, _, 0, vs, rfl, hin _ hvl, hwid, ?_⟩
    rw [k1]
    refine ⟨⟨trivial, trivial⟩, useB_n rfl ?_⟩
    refine useB_d (fun h => ?_) (fun h => ?_)
    · have h : (g.first : Int) < (g.many : Int) := h
      refine ⟨(g.many : Int) - g.first, rfl, ⟨by omega, by omega⟩, fun q q1 q2 => ?_⟩
      obtain ⟨m, rfl⟩ := Int.eq_ofNat_of_zero_le q1
      have es : ((m : Int) + (g.first : Int)).toNat = g.first + m := by omega
      refine ⟨trivial, _, atI_ints (by omega) (by omega), ⟨_, rfl⟩, _, rfl, by omega, by rw [List.length_map]; omega, turned vs (g.first + m), 0, ?_, by rw [turned_len]; omega, _, 0, turned vs (g.first + m), rfl, hin _ (by rw [turned_len]; exact hvl), hwid, ?_⟩
      · exact congrArg (fun z => [PyData.list z, PyData.int 0]) (by rw [es]; exact setI vs _)
      · rw [kb m (by omega)]
        exact ⟨⟨trivial, trivial⟩, useB_n rfl (next _ ⟨_, _, _, rfl⟩)⟩
    · refine ⟨trivial, _, atI_ints (by omega) (by omega), ⟨_, rfl⟩, _, rfl, by omega, by rw [List.length_map]; omega, turned vs 0, 0, ?_, by rw [turned_len]; omega, _, 0, turned vs 0, rfl, hin _ (by rw [turned_len]; exact hvl), hwid, ?_⟩
      · exact congrArg (fun z => [PyData.list z, PyData.int 0]) (setI vs 0)
      · rw [kb0]
        exact ⟨⟨trivial, trivial⟩, useB_n rfl (next _ ⟨_, _, _, rfl⟩)⟩
  · rintro ρ ⟨o5, o6, o7, rfl⟩
    exact hq
abbrev s_law_run_right : Stmt := topS 32
abbrev n_law_run_right : List Str := ["_law_source_here", "_law_graph", "_law_clocks", "_law_state", "_law_true", "_law_clauses", "_law_clock", "_law_lot", "_law_reg", "_law_k"]
theorem sc_law_run_right : FnScope n_law_run_right ["_law_source_here", "_law_graph"] (C8.fnScope s_law_run_right) := C8.fnScope_by (by decide +kernel)
theorem ok_law_run_right {a : Addr} {fd : FuncData} (F : C8.Def K mg "_law_run_right" s_law_run_right a fd) (b : Binds K fd ["_law_source_here", "_law_graph"] []) (T : Txt mg) (c_law_pick : CalG P w K mg base 1 "_law_pick" (spD K [.src, .bo] (Cpick))) (c_unrolled : CalG P w K mg base 4 "unrolled" (spD K [.bo, .bo] (CunrG))) (c_law_unrolled : CalG P w K mg base 4 "_law_unrolled" (spD K [.bo, .bo] (CunrG))) (c_starting : CalG P w K mg base 4 "starting" (spD K [.bo] (CstaG))) (c_law_starting : CalG P w K mg base 2 "_law_starting" (spD K [.bo] (CstaG))) (c_law_nodes : CalG P w K mg base 2 "_law_nodes" (spD K [.bo, .bo, .bo, .bo] (Cnodes1))) (c_law_size : CalG P w K mg base 1 "_law_size" (spD K [.bo] (CsizG))) (c_law_true_of : CalG P w K mg base 1 "_law_true_of" (spD K [.bo, .bo] (Ctrue))) (c_law_step_of : CalG P w K mg base 3 "_law_step_of" (spD K [.bo, .bo, .bo] (CstepL))) (c_law_kept : CalG P w K mg base 1 "_law_kept" (spD K [.bo, .bo] (Ckept))) : CalG P w K mg base (5) "_law_run_right" (spD K [.src, .bo] (Crr)) := by
  refine calG F b sc_law_run_right rfl (fun cdv A outer s H E hA hr => ?_)
  have hu := huOf hr
  have hu64 := hr.units
  refine ⟨_, _, (pss_cons (ps_par3 (i := 2) (j := 3) (l := 4) (by rfl) sc_law_run_right.nd rfl rfl rfl (by decide) (by decide) (by decide) rfl rfl rfl (pa_cons (pe_op (k_add (K := K) rfl) pe_int (pe_cG c_law_pick hA hr (by first | decide | omega) rfl (pa_cons (pv 0) (pa_cons pe_int pa_nil)))) (pa_cons (pe_callTy (k_tupleA (K := K) rfl rfl) (by rfl) T.tuple (by decide +kernel) (pa_cons (pe_lc rfl sc_law_run_right.nd (k_iany (K := K) rfl (pe_ix (k_ix (K := K) rfl) (pv 1) pe_int (fun _ _ => rfl))) (blkOk_by (own := [("_law_reg", 8)]) (N := n_law_run_right) (sc := C8.fnScope s_law_run_right) (by decide +kernel)) (fun _ _ _ _ _ => (pg_name (i := 8) sc_law_run_right.nd rfl (by first | exact Or.inl rfl | exact Or.inr rfl))) (fun _ _ _ _ _ => pts_nil) (fun _ _ _ _ _ => (pe_ix (k_ix (K := K) rfl) (pv 8) pe_int (fun _ _ => rfl)))) pa_nil)) (pa_cons pe_dnewK pa_nil))) (by rfl))
      (pss_cons (ps_asg (pe_cG c_unrolled hA hr (by first | decide | omega) rfl (pa_cons (pv 1) (pa_cons (pv 2) pa_nil))) (pg_name (i := 5) sc_law_run_right.nd rfl (by first | exact Or.inl rfl | exact Or.inr rfl)))
      (pss_cons (ps_if (PW.pt (pw_or (pt_cmpR (k_ne (K := K) rfl hu64) (pe_callB (k_reprS (K := K) rfl hA hu64) (by rfl) T.repr (by decide +kernel) (pa_cons (pv 5) pa_nil)) (pe_callB (k_reprS (K := K) rfl hA hu64) (by rfl) T.repr (by decide +kernel) (pa_cons (pe_cG c_law_unrolled hA hr (by first | decide | omega) rfl (pa_cons (pv 1) (pa_cons (pv 2) pa_nil))) pa_nil)) (nomark _)) (pw_or1 (pt_cmpR (k_ne (K := K) rfl hu64) (pe_callB (k_reprS (K := K) rfl hA hu64) (by rfl) T.repr (by decide +kernel) (pa_cons (pe_cG c_starting hA hr (by first | decide | omega) rfl (pa_cons (pv 1) pa_nil)) pa_nil)) (pe_callB (k_reprS (K := K) rfl hA hu64) (by rfl) T.repr (by decide +kernel) (pa_cons (pe_cG c_law_starting hA hr (by first | decide | omega) rfl (pa_cons (pv 1) pa_nil)) pa_nil)) (nomark _))))) (pss_one (ps_ret pe_bl)) pss_nil)
      (pss_cons (ps_for PassesOwn.never rfl (pi_range1 (by rfl) T.range (pa_cons (pv 2) pa_nil)) (pg_name (i := 6) sc_law_run_right.nd rfl (by first | exact Or.inl rfl | exact Or.inr rfl))
      (pss_cons (ps_asg (pe_callTy (k_tupleA (K := K) rfl rfl) (by rfl) T.tuple (by decide +kernel) (pa_cons (pe_lc rfl sc_law_run_right.nd (pi_range1 (by rfl) T.range (pa_cons (pe_ix (k_ix (K := K) rfl) (pv 1) pe_int (fun _ _ => rfl)) pa_nil)) (blkOk_by (own := [("_law_k", 9)]) (N := n_law_run_right) (sc := C8.fnScope s_law_run_right) (by decide +kernel)) (fun _ _ _ _ _ => (pg_name (i := 9) sc_law_run_right.nd rfl (by first | exact Or.inl rfl | exact Or.inr rfl))) (fun _ _ _ _ _ => pts_nil) (fun _ _ _ _ _ => (pe_cG c_law_pick hA hr (by first | decide | omega) rfl (pa_cons (pv 0) (pa_cons pe_int pa_nil))))) pa_nil)) (pg_name (i := 7) sc_law_run_right.nd rfl (by first | exact Or.inl rfl | exact Or.inr rfl)))
      (pss_cons (ps_expr (pe_dupd (pv 4) (pe_cG c_law_true_of hA hr (by first | decide | omega) rfl (pa_cons (pe_cG c_law_nodes hA hr (by first | decide | omega) rfl (pa_cons (pv 1) (pa_cons (pv 3) (pa_cons (pv 7) (pa_cons pe_int pa_nil))))) (pa_cons (pe_op op_mulA (pv 6) (pe_cG c_law_size hA hr (by first | decide | omega) rfl (pa_cons (pv 1) pa_nil))) pa_nil))) ⟨rfl, rfl, rfl, rfl⟩))
      (pss_one (ps_asg (pe_ix (k_ix (K := K) rfl) (pe_cG c_law_step_of hA hr (by first | decide | omega) rfl (pa_cons (pv 1) (pa_cons (pv 7) (pa_cons (pv 3) pa_nil)))) pe_int (fun _ _ => rfl)) (pg_name (i := 3) sc_law_run_right.nd rfl (by first | exact Or.inl rfl | exact Or.inr rfl)))))))
      (pss_one (ps_ret (pe_and (pe_cG c_law_kept hA hr (by first | decide | omega) rfl (pa_cons (pv 5) (pa_cons (pv 4) pa_nil))) (pe_one (pe_cG c_law_kept hA hr (by first | decide | omega) rfl (pa_cons (pe_cG c_starting hA hr (by first | decide | omega) rfl (pa_cons (pv 1) pa_nil)) (pa_cons (pv 4) pa_nil))))))))))),
   (ls_seq (ls_par3 (le_op le_int (le_call (la_cons le_var (la_cons le_int la_nil))) ol_add) (le_cb (la_cons (le_lc (li_any (le_op le_var le_int ol_ix)) lg_name (lgw_name (by decide)) lt_yes (le_op le_var le_int ol_ix)) la_nil) cl_tupleA) le_dnew)
      (ls_seq (ls_asg (le_call (la_cons le_var (la_cons le_var la_nil))) lg_name)
      (ls_seq (ls_if (lt_or (lt_test (le_op (le_cb (la_cons le_var la_nil) cl_reprS) (le_cb (la_cons (le_call (la_cons le_var (la_cons le_var la_nil))) la_nil) cl_reprS) ol_ne)) (lt_test (le_op (le_cb (la_cons (le_call (la_cons le_var la_nil)) la_nil) cl_reprS) (le_cb (la_cons (le_call (la_cons le_var la_nil)) la_nil) cl_reprS) ol_ne))) (ls_ret le_bl) ls_next)
      (ls_seq (ls_for (li_rng1 (la_cons le_var la_nil)) lg_name
      (ls_seq (ls_asg (le_cb (la_cons (le_lc (li_rng1 (la_cons (le_op le_var le_int ol_ix) la_nil)) lg_name (lgw_name (by decide)) lt_yes (le_call (la_cons le_var (la_cons le_int la_nil)))) la_nil) cl_tupleA) lg_name)
      (ls_seq (ls_dUpd (i := 4) (le_call (la_cons (le_call (la_cons le_var (la_cons le_var (la_cons le_var (la_cons le_int la_nil))))) (la_cons (le_op le_var (le_call (la_cons le_var la_nil)) ol_mul) la_nil))))
      (ls_asg (le_op (le_call (la_cons le_var (la_cons le_var (la_cons le_var la_nil)))) le_int ol_ix) lg_name))))
      (ls_ret (le_andV (le_call (la_cons le_var (la_cons le_var la_nil))) (le_call (la_cons (le_call (la_cons le_var la_nil)) (la_cons le_var la_nil))))))))), ?_⟩
  intro ds Qc h
  obtain ⟨g, rfl, hS, hq⟩ := h
  have hg := hS.ok
  have h1 := hS.ins
  have h2 := hS.regs
  have hm := hS.many
  have sl := sizeLine_eq
  refine ⟨4, rfl, ⟨by omega, by omega⟩, fun q q1 q2 => ?_⟩
  obtain ⟨m, rfl⟩ := Int.eq_ofNat_of_zero_le q1
  have hm4 : 1 + m ≤ 4 := by omega
  have ec : (1 : Int) + (m : Int) = ((1 + m : Nat) : Int) := by omega
  have et : ((1 : Int) + (m : Int)).toNat = 1 + m := by omega
  refine ⟨trivial, _, atI1, dLcGo_map _ d1 (by rw [List.length_map]; omega) (fun x k hx q => ?_) ?_⟩
  · obtain ⟨p, hp, rfl⟩ := map_mem_pD hx
    exact ⟨trivial, _, atI0, q⟩
  rw [map_d1]
  have eu : ∀ d : D, [d, PyData.int ((1 : Int) + (m : Int))] = [d, .int ((1 + m : Nat) : Int)] := fun d => by rw [ec]
  have ne : ∀ x : D, (true != PyData.eqv (.str x.shown) (.str x.shown)) = false := fun x => by simp [eqv_str]
  refine ⟨g, 1 + m, eu _, hg, by omega, hS.reprU hm4, g, 1 + m, eu _, hg, by omega, hS.reprU hm4, rfl, useB_n (ne _) ⟨g, rfl, hg, hS.reprT, g, rfl, hg, hS.reprT, rfl, useB_n (ne _) ⟨⟨by omega, by omega⟩, ?_⟩⟩⟩
  rw [et]
  have step : ∀ (c : List (List Int)) (n : Nat) (W : List Int), W.length = n → absIn 0 (n : Int) c → absIn 0 (0 + (W.length : Int)) c := fun c n W e h => h.mono (Int.le_refl _) (by omega)
  refine dLoop_of (rngD 0 (1 + m)) (fun t ρ => ∃ (lots : List (List Int)) (o6 o7 : Option Sl), LotsT g lots t ∧ ρ = [some .src, some (.bo g.toD), some (.sh (.int ((1 : Int) + (m : Int)))), some (.sh (lotD (g.stF lots))), some (.ow (.dict (entD 0 (wRun g lots t)))), some (.ow (.list (csD (uCn g (1 + m))))), o6, o7, none, none]) ⟨[], none, none, LotsT.nil g, rfl⟩ ?_ ?_
  · rintro t x ρ k hx ⟨lots, o6, o7, hL, rfl⟩ next
    have ex : (1 + m : Nat) = (((1 + m : Nat) : Int)).toNat := by omega
    rw [ex] at hx
    obtain ⟨ht, rfl⟩ := rng0_get hx
    have hwl := wRun_len hL t (Nat.le_refl _)
    have htm : t * g.many ≤ 4 * 27 := Nat.mul_le_mul (by omega) hm
    have hbs : bits (g.stF lots) := Gr.stF_bits hg lots hL.ok.bit
    refine ⟨trivial, _, atI0, ⟨by omega, by omega⟩, ?_⟩
    refine dLcGo_of _ (fun j acc ρ => ∃ bs : List Int, acc = bs.map PyData.int ∧ bs.length = j ∧ bits bs ∧ ρ = [some .src, some (.bo g.toD), some (.sh (.int ((1 : Int) + (m : Int)))), some (.sh (lotD (g.stF lots))), some (.ow (.dict (entD 0 (wRun g lots t)))), some (.ow (.list (csD (uCn g (1 + m))))), some (.sh (.int (t : Int))), o7, none, none]) ⟨[], rfl, rfl, (fun _ h => nomatch h), rfl⟩ ?_ ?_
    · rintro j x acc ρ k hx ⟨bs, rfl, hbl, hbb, rfl⟩ next
      obtain ⟨hj, rfl⟩ := rng0_get hx
      refine useB_y rfl ⟨2, rfl, ⟨by omega, by omega⟩, fun b b1 b2 => ⟨by rw [List.length_map]; omega, next _ _ ⟨bs ++ [b], by rw [List.map_append]; rfl, by rw [List.length_append, hbl]; rfl, bits_app hbb (bits_one (by unfold bit; omega)), rfl⟩⟩⟩
    · rintro acc ρ ⟨lot, rfl, hbl, hbb, rfl⟩
      rw [rngD_length, Int.toNat_natCast] at hbl
      have hvl := Gr.many_nodes (g := g) (g.stF lots) lot hbl (Gr.stF_len lots)
      refine ⟨⟨_, rfl, entD_T _ _⟩, g, g.stF lots, lot, rfl, hg, Gr.stF_len lots, hbl, g, rfl, hg, cmul_s (by omega), g.nodes (g.stF lots) lot, (t : Int) * (g.many : Int), rfl, by omega, _, _, rfl, entD_T _ _, rfl, entD_T _ _, by rw [entD_len, entD_len]; omega, ?_⟩
      refine ⟨g, g.stF lots, lot, rfl, hg, Gr.stF_len lots, hbl, trivial, _, atI1, next _ ⟨lots ++ [lot], some (.sh (.int (t : Int))), some (.sh (lotD lot)), hL.snoc hbl hbb, ?_⟩⟩
      rw [← ent_step hL, stF_snoc]
      rfl
  · rintro ρ ⟨lots, o6, o7, hL, rfl⟩
    rw [rngD_length] at hL
    have hwl := wRun_len hL (1 + m) (Nat.le_refl _)
    rw [rngD_length]
    have k1 : keepsB (tvV (wRun g lots (1 + m)) 0) (uCn g (1 + m)) = true := keepsB_iff.mpr (run_keeps hg hL _ (Nat.le_refl _))
    have k2 : keepsB (tvV (wRun g lots (1 + m)) 0) (sCn g) = true := keepsB_iff.mpr (start_keeps hg hL (by omega))
    have e1 : ((1 + m : Nat) : Int) * (g.many : Int) = ((wRun g lots (1 + m)).length : Int) := by rw [hwl, Int.natCast_mul]
    have e2 : (g.many : Int) ≤ ((wRun g lots (1 + m)).length : Int) := by
      have : 1 * g.many ≤ (1 + m) * g.many := Nat.mul_le_mul_right _ (by omega)
      rw [hwl]; omega
    refine ⟨_, 0, _, rfl, (uCn_in hg _).mono (Int.le_refl _) (by rw [e1]; omega), (fun c hc => Nat.le_trans (uCn_wid g _ c hc) (by omega)), ?_⟩
    rw [k1]
    refine useB_y rfl ⟨g, rfl, hg, _, 0, _, rfl, (sCn_in hg).mono (Int.le_refl _) (by omega), (fun c hc => Nat.le_trans (sCn_wid g c hc) (by omega)), ?_⟩
    rw [k2]
    exact hq
end
end K84

set_option Elab.async false
set_option linter.all false
set_option maxRecDepth 100000
set_option maxHeartbeats 4000000
set_option autoImplicit false
set_option pp.maxSteps 1000
namespace K84
open PySem L2 DL
section
variable {P : Program} {w : World} {K : PySem.W.Frag} {mg : Str → Option Value} {base : Heap}
abbrev s_law : Stmt := topS 33
abbrev n_law : List Str := ["_law_script", "_law_source_here", "_law_graph", "_law_clauses", "_law_due", "_law_again", "_law_lap", "_law_l"]
theorem sc_law : FnScope n_law ["_law_script"] (C8.fnScope s_law) := C8.fnScope_by (by decide +kernel)
theorem ok_law {a : Addr} {fd : FuncData} (F : C8.Fun K "law" "law" s_law a fd) (T : Txt mg) (c_law_source : CalG P w K mg base 1 "_law_source" (spSrc K)) (c_law_rough_graph : CalG P w K mg base 4 "_law_rough_graph" (spD K [.src] (CroughG))) (c_clauses_of : CalG P w K mg base 4 "clauses_of" (spD K [.bo] (CcloG))) (c_law_graph_clauses : CalG P w K mg base 3 "_law_graph_clauses" (spD K [.bo, .bo] (CcloL))) (c_law_pick : CalG P w K mg base 1 "_law_pick" (spD K [.src, .bo] (Cpick))) (c_law_size : CalG P w K mg base 1 "_law_size" (spD K [.bo] (CsizG))) (c_literal_of : CalG P w K mg base 2 "literal_of" (spD K [.bo] (Clto))) (c_law_far : CalG P w K mg base 1 "_law_far" (spD K [.bo, .bo] (Cmov))) (c_law_values_right : CalG P w K mg base 4 "_law_values_right" (spD K [.src, .bo, .bo] (Cvr))) (c_law_run_right : CalG P w K mg base 5 "_law_run_right" (spD K [.src, .bo] (Crr))) : FnG P w K mg base C8.CX0 (6 + 1) a fd ["_law_script"] (spLaw K) := by
  refine fnG_of F sc_law (fun vs H Q E h => ?_) (fun cdv A outer s H vs Q E hA hr h => ?_)
  · obtain ⟨_, _, rfl, _⟩ := h; rfl
  have hu := huOf hr
  have hu64 := hr.units
  refine ⟨_, PSs.nox (pss_cons (ps_asg (pe_cG c_law_source hA hr (by decide) rfl (pa_cons (pv 0) pa_nil)) (pg_name (i := 1) sc_law.nd rfl (by first | exact Or.inl rfl | exact Or.inr rfl))) (pss_cons (ps_asg (pe_cG c_law_rough_graph hA hr (by first | decide | omega) rfl (pa_cons (pv 1) pa_nil)) (pg_name (i := 2) sc_law.nd rfl (by first | exact Or.inl rfl | exact Or.inr rfl)))
      (pss_cons (ps_asg (pe_cG c_clauses_of hA hr (by first | decide | omega) rfl (pa_cons (pv 2) pa_nil)) (pg_name (i := 3) sc_law.nd rfl (by first | exact Or.inl rfl | exact Or.inr rfl)))
      (pss_cons (ps_asg (pe_callB (k_reprS (K := K) rfl hA hu64) (by rfl) T.repr (by decide +kernel) (pa_cons (pe_cG c_law_graph_clauses hA hr (by first | decide | omega) rfl (pa_cons (pv 2) (pa_cons pe_int pa_nil))) pa_nil)) (pg_name (i := 4) sc_law.nd rfl (by first | exact Or.inl rfl | exact Or.inr rfl)))
      (pss_cons (ps_if (PW.pt (pw_or (pt_cmpR (k_ne (K := K) rfl hu64) (pe_callB (k_reprS (K := K) rfl hA hu64) (by rfl) T.repr (by decide +kernel) (pa_cons (pv 3) pa_nil)) (pv 4) (nomark _)) (pw_or1 (pt_cmpR (k_ne (K := K) rfl hu64) (pe_callB (k_reprS (K := K) rfl hA hu64) (by rfl) T.repr (by decide +kernel) (pa_cons (pe_cG c_clauses_of hA hr (by first | decide | omega) rfl (pa_cons (pv 2) pa_nil)) pa_nil)) (pv 4) (nomark _))))) (pss_one (ps_ret pe_bl)) pss_nil)
      (pss_cons (ps_asg (pe_cG c_clauses_of hA hr (by first | decide | omega) rfl (pa_cons (pv 2) pa_nil)) (pg_name (i := 5) sc_law.nd rfl (by first | exact Or.inl rfl | exact Or.inr rfl)))
      (pss_cons (ps_expr (pe_bm PySem.F.plainAttrs_list PySem.F.slot_list_append PySem.F.type_list_append mt_append (pv 5) (pa_cons (pe_tup pa_nil) pa_nil)))
      (pss_cons (ps_if (pt_cmpR (k_ne (K := K) rfl hu64) (pe_callB (k_reprS (K := K) rfl hA hu64) (by rfl) T.repr (by decide +kernel) (pa_cons (pe_cG c_clauses_of hA hr (by first | decide | omega) rfl (pa_cons (pv 2) pa_nil)) pa_nil)) (pv 4) (nomark _)) (pss_one (ps_ret pe_bl)) pss_nil)
      (pss_cons (ps_for PassesOwn.never rfl (pi_range1 (by rfl) T.range (pa_cons pe_int pa_nil)) (pg_name (i := 6) sc_law.nd rfl (by first | exact Or.inl rfl | exact Or.inr rfl))
      (pss_cons (ps_asg (pe_cG c_law_pick hA hr (by first | decide | omega) rfl (pa_cons (pv 1) (pa_cons (pe_op op_mulA pe_int (pe_cG c_law_size hA hr (by first | decide | omega) rfl (pa_cons (pv 2) pa_nil))) pa_nil))) (pg_name (i := 7) sc_law.nd rfl (by first | exact Or.inl rfl | exact Or.inr rfl)))
      (pss_one (ps_if (pt_cmpR (k_ne (K := K) rfl hu64) (pe_callB (k_reprS (K := K) rfl hA hu64) (by rfl) T.repr (by decide +kernel) (pa_cons (pe_cG c_literal_of hA hr (by first | decide | omega) rfl (pa_cons (pv 7) pa_nil)) pa_nil)) (pe_callB (k_reprS (K := K) rfl hA hu64) (by rfl) T.repr (by decide +kernel) (pa_cons (pe_cG c_law_far hA hr (by first | decide | omega) rfl (pa_cons (pv 7) (pa_cons pe_int pa_nil))) pa_nil)) (nomark _)) (pss_one (ps_ret pe_bl)) pss_nil))))
      (pss_cons (ps_if (PW.pt (pw_or (pt_not (pt_truth (pe_cG c_law_values_right hA hr (by first | decide | omega) rfl (pa_cons (pv 1) (pa_cons (pv 2) (pa_cons (pv 3) pa_nil)))) (by intro _; rfl))) (pw_or1 (pt_not (pt_truth (pe_cG c_law_run_right hA hr (by first | decide | omega) rfl (pa_cons (pv 1) (pa_cons (pv 2) pa_nil))) (by intro _; rfl)))))) (pss_one (ps_ret pe_bl)) pss_nil)
      (pss_one (ps_ret (pe_cmpR (k_eq (K := K) rfl hu64) (pe_cG c_clauses_of hA hr (by first | decide | omega) rfl (pa_cons (pe_tup (pa_cons pe_int (pa_cons (pe_tup (pa_cons (pe_tup (pa_cons pe_int (pa_cons pe_int pa_nil))) pa_nil)) (pa_cons (pe_tup (pa_cons (pe_tup (pa_cons pe_int (pa_cons pe_int pa_nil))) pa_nil)) (pa_cons (pe_tup (pa_cons pe_int (pa_cons pe_int pa_nil))) pa_nil))))) pa_nil)) (pe_lst (pa_cons (pe_tup (pa_cons (pe_un un_neg pe_int) pa_nil)) (pa_cons (pe_tup (pa_cons pe_int (pa_cons (pe_un un_neg pe_int) pa_nil))) (pa_cons (pe_tup (pa_cons pe_int (pa_cons (pe_un un_neg pe_int) pa_nil))) (pa_cons (pe_tup (pa_cons (pe_un un_neg pe_int) (pa_cons (pe_un un_neg pe_int) (pa_cons pe_int pa_nil)))) pa_nil))))) (nomark _)))))))))))))), ?_⟩
  refine law_rest h (by decide) (ls_seq (ls_asg (le_call (la_cons le_var la_nil)) lg_name)
      (ls_seq (ls_asg (le_call (la_cons le_var la_nil)) lg_name)
      (ls_seq (ls_asg (le_cb (la_cons (le_call (la_cons le_var (la_cons le_int la_nil))) la_nil) cl_reprS) lg_name)
      (ls_seq (ls_if (lt_or (lt_test (le_op (le_cb (la_cons le_var la_nil) cl_reprS) le_var ol_ne)) (lt_test (le_op (le_cb (la_cons (le_call (la_cons le_var la_nil)) la_nil) cl_reprS) le_var ol_ne))) (ls_ret le_bl) ls_next)
      (ls_seq (ls_asg (le_call (la_cons le_var la_nil)) lg_name)
      (ls_seq (ls_app (le_tup la_nil))
      (ls_seq (ls_if (lt_test (le_op (le_cb (la_cons (le_call (la_cons le_var la_nil)) la_nil) cl_reprS) le_var ol_ne)) (ls_ret le_bl) ls_next)
      (ls_seq (ls_for (li_rng1 (la_cons le_int la_nil)) lg_name
      (ls_seq (ls_asg (le_call (la_cons le_var (la_cons (le_op le_int (le_call (la_cons le_var la_nil)) ol_mul) la_nil))) lg_name)
      (ls_if (lt_test (le_op (le_cb (la_cons (le_call (la_cons le_var la_nil)) la_nil) cl_reprS) (le_cb (la_cons (le_call (la_cons le_var (la_cons le_int la_nil))) la_nil) cl_reprS) ol_ne)) (ls_ret le_bl) ls_next)))
      (ls_seq (ls_if (lt_or (lt_not (lt_truth (le_call (la_cons le_var (la_cons le_var (la_cons le_var la_nil)))))) (lt_not (lt_truth (le_call (la_cons le_var (la_cons le_var la_nil)))))) (ls_ret le_bl) ls_next)
      (ls_ret (le_op (le_call (la_cons (le_tup (la_cons le_int (la_cons (le_tup (la_cons (le_tup (la_cons le_int (la_cons le_int la_nil))) la_nil)) (la_cons (le_tup (la_cons (le_tup (la_cons le_int (la_cons le_int la_nil))) la_nil)) (la_cons (le_tup (la_cons le_int (la_cons le_int la_nil))) la_nil))))) la_nil)) (le_lst (la_cons (le_tup (la_cons (le_un le_int ul_neg) la_nil)) (la_cons (le_tup (la_cons le_int (la_cons (le_un le_int ul_neg) la_nil))) (la_cons (le_tup (la_cons le_int (la_cons (le_un le_int ul_neg) la_nil))) (la_cons (le_tup (la_cons (le_un le_int ul_neg) (la_cons (le_un le_int ul_neg) (la_cons le_int la_nil)))) la_nil))))) ol_eq))))))))))) ?_
  refine ⟨rfl, fun g hS => ?_⟩
  have hg := hS.ok
  have hm := hS.many
  have ne : ∀ x : D, (true != PyData.eqv (.str x.shown) (.str x.shown)) = false := fun x => by simp [eqv_str]
  refine ⟨g, rfl, hg, g, 0, rfl, hg, Int.le_refl _, hS.repr0, hS.repr0, rfl, useB_n (ne _) ⟨g, rfl, hg, hS.repr0, rfl, useB_n (ne _) ?_⟩⟩
  have sl := sizeLine_eq
  have h3 := hS.ands
  have hcl := gCn_len g 0 g.ands.length
  refine ⟨g, rfl, hg, Nat.le_of_ble_eq_true rfl, by rw [csD_len]; omega, g, rfl, hg, hS.repr0, rfl, useB_n (ne _) ⟨⟨by decide, by decide⟩, ?_⟩⟩
  refine dLoop_of (rngD 0 4) (fun i ρ => ∃ (o6 o7 : Option Sl) (cl : List D), ρ = [some .scr, some .src, some (.sh g.toD), some (.ow (.list (csD (gCn g 0 g.ands.length)))), some (.sh (.str (PyData.list (csD (gCn g 0 g.ands.length))).shown)), some (.ow (.list cl)), o6, o7]) ⟨none, none, _, rfl⟩ ?_ ?_
  · rintro i x ρ k hx ⟨o6, o7, cl, rfl⟩ next
    have hmm : 0 < g.many := by unfold Gr.many Gr.first; omega
    refine ⟨g, rfl, hg, .inl ⟨by decide, by decide⟩, 2 * (g.many : Int), rfl, ⟨by omega, by omega⟩, fun l l1 l2 => ?_⟩
    have hd : 0 ≤ l.fdiv 2 ∧ l.fdiv 2 ≤ l := by rw [Int.fdiv_eq_ediv_of_nonneg _ (by decide)]; omega
    have hr : reprOkS (.int (movL l 0)) := repr_i (by unfold movL; split <;> omega)
    exact ⟨l, rfl, hr, l, 0, rfl, hr, rfl, useB_n (ne _) (next _ ⟨_, _, _, rfl⟩)⟩
  · rintro ρ ⟨o6, o7, cl, rfl⟩
    refine ⟨g, rfl, hS, ⟨trivial, trivial⟩, useB_n rfl ⟨g, rfl, hS, ⟨trivial, trivial⟩, useB_n rfl ?_⟩⟩
    refine ⟨Nat.le_of_ble_eq_true rfl, Nat.le_of_ble_eq_true rfl, Nat.le_of_ble_eq_true rfl, Nat.le_of_ble_eq_true rfl, Nat.le_of_ble_eq_true rfl, Nat.le_of_ble_eq_true rfl, gE84, rfl, gE84_ok, ?_⟩
    rw [gE84_cs]
    refine ⟨Nat.le_of_ble_eq_true rfl, Nat.le_of_ble_eq_true rfl, Nat.le_of_ble_eq_true rfl, Nat.le_of_ble_eq_true rfl, Nat.le_of_ble_eq_true rfl, cE84_eq.1, ?_⟩
    show sayYes.rt (.fz (.bool (false != PyData.eqv (.list (csD [[-1], [2, -4], [3, -4], [-2, -3, 4]])) (.list cE84)))) _
    rw [cE84_eq.2]
    rfl
end
open PySem PySem.Spec PyProof.Rows
theorem all_mk {l : PySem.W.OpenLaw} {w : World} {K : PySem.W.Frag} {h : Heap} {mg : Str → Option Value} {fa : Addr} (X : K.In h) (G : h.Ns mainGlobals mg) (hfa : mg "law" = some (.ref fa))
    {f1 : Addr} {od1 an1 : Option Addr} {sl1 : Array (Option Value)} {oc1 kV1 dc1 pm1 cd1 ct1 : Value}
    {f2 : Addr} {od2 an2 : Option Addr} {sl2 : Array (Option Value)} {oc2 kV2 dc2 pm2 cd2 ct2 : Value}
    {f3 : Addr} {od3 an3 : Option Addr} {sl3 : Array (Option Value)} {oc3 kV3 dc3 pm3 cd3 ct3 : Value}
    {f4 : Addr} {od4 an4 : Option Addr} {sl4 : Array (Option Value)} {oc4 kV4 dc4 pm4 cd4 ct4 : Value}
    {f5 : Addr} {od5 an5 : Option Addr} {sl5 : Array (Option Value)} {oc5 kV5 dc5 pm5 cd5 ct5 : Value}
    {f6 : Addr} {od6 an6 : Option Addr} {sl6 : Array (Option Value)} {oc6 kV6 dc6 pm6 cd6 ct6 : Value}
    {f7 : Addr} {od7 an7 : Option Addr} {sl7 : Array (Option Value)} {oc7 kV7 dc7 pm7 cd7 ct7 : Value}
    {f8 : Addr} {od8 an8 : Option Addr} {sl8 : Array (Option Value)} {oc8 kV8 dc8 pm8 cd8 ct8 : Value}
    {f9 : Addr} {od9 an9 : Option Addr} {sl9 : Array (Option Value)} {oc9 kV9 dc9 pm9 cd9 ct9 : Value}
    {f10 : Addr} {od10 an10 : Option Addr} {sl10 : Array (Option Value)} {oc10 kV10 dc10 pm10 cd10 ct10 : Value}
    {f11 : Addr} {od11 an11 : Option Addr} {sl11 : Array (Option Value)} {oc11 kV11 dc11 pm11 cd11 ct11 : Value}
    {f12 : Addr} {od12 an12 : Option Addr} {sl12 : Array (Option Value)} {oc12 kV12 dc12 pm12 cd12 ct12 : Value}
    {f13 : Addr} {od13 an13 : Option Addr} {sl13 : Array (Option Value)} {oc13 kV13 dc13 pm13 cd13 ct13 : Value}
    {f14 : Addr} {od14 an14 : Option Addr} {sl14 : Array (Option Value)} {oc14 kV14 dc14 pm14 cd14 ct14 : Value}
    {f15 : Addr} {od15 an15 : Option Addr} {sl15 : Array (Option Value)} {oc15 kV15 dc15 pm15 cd15 ct15 : Value}
    {f16 : Addr} {od16 an16 : Option Addr} {sl16 : Array (Option Value)} {oc16 kV16 dc16 pm16 cd16 ct16 : Value}
    {f17 : Addr} {od17 an17 : Option Addr} {sl17 : Array (Option Value)} {oc17 kV17 dc17 pm17 cd17 ct17 : Value}
    {f18 : Addr} {od18 an18 : Option Addr} {sl18 : Array (Option Value)} {oc18 kV18 dc18 pm18 cd18 ct18 : Value}
    {f19 : Addr} {od19 an19 : Option Addr} {sl19 : Array (Option Value)} {oc19 kV19 dc19 pm19 cd19 ct19 : Value}
    {f20 : Addr} {od20 an20 : Option Addr} {sl20 : Array (Option Value)} {oc20 kV20 dc20 pm20 cd20 ct20 : Value}
    {f21 : Addr} {od21 an21 : Option Addr} {sl21 : Array (Option Value)} {oc21 kV21 dc21 pm21 cd21 ct21 : Value}
    {f22 : Addr} {od22 an22 : Option Addr} {sl22 : Array (Option Value)} {oc22 kV22 dc22 pm22 cd22 ct22 : Value}
    {f23 : Addr} {od23 an23 : Option Addr} {sl23 : Array (Option Value)} {oc23 kV23 dc23 pm23 cd23 ct23 : Value}
    {f24 : Addr} {od24 an24 : Option Addr} {sl24 : Array (Option Value)} {oc24 kV24 dc24 pm24 cd24 ct24 : Value}
    {f25 : Addr} {od25 an25 : Option Addr} {sl25 : Array (Option Value)} {oc25 kV25 dc25 pm25 cd25 ct25 : Value}
    {f26 : Addr} {od26 an26 : Option Addr} {sl26 : Array (Option Value)} {oc26 kV26 dc26 pm26 cd26 ct26 : Value}
    {f27 : Addr} {od27 an27 : Option Addr} {sl27 : Array (Option Value)} {oc27 kV27 dc27 pm27 cd27 ct27 : Value}
    {f28 : Addr} {od28 an28 : Option Addr} {sl28 : Array (Option Value)} {oc28 kV28 dc28 pm28 cd28 ct28 : Value}
    {f29 : Addr} {od29 an29 : Option Addr} {sl29 : Array (Option Value)} {oc29 kV29 dc29 pm29 cd29 ct29 : Value}
    {f30 : Addr} {od30 an30 : Option Addr} {sl30 : Array (Option Value)} {oc30 kV30 dc30 pm30 cd30 ct30 : Value}
    {f31 : Addr} {od31 an31 : Option Addr} {sl31 : Array (Option Value)} {oc31 kV31 dc31 pm31 cd31 ct31 : Value}
    {f32 : Addr} {od32 an32 : Option Addr} {sl32 : Array (Option Value)} {oc32 kV32 dc32 pm32 cd32 ct32 : Value}
    (a1 : PySem.W.nsIn K mainGlobals "moved_literal" = some (some (.ref f1))) (l1 : K.lookup f1 = some ⟨oc1, od1, .func (PySem.W.fnOf "moved_literal" "moved_literal" (C8.fnArgs s_moved_literal) (C8.fnBody s_moved_literal) (C8.fnScope s_moved_literal) .none kV1 dc1 pm1 an1 cd1 ct1), sl1⟩) (c1 : PySem.W.codeIn K cd1 "moved_literal" = true) (k1 : PySem.W.keepIn K (.ref f1) = true)
    (a2 : PySem.W.nsIn K mainGlobals "literal_of" = some (some (.ref f2))) (l2 : K.lookup f2 = some ⟨oc2, od2, .func (PySem.W.fnOf "literal_of" "literal_of" (C8.fnArgs s_literal_of) (C8.fnBody s_literal_of) (C8.fnScope s_literal_of) .none kV2 dc2 pm2 an2 cd2 ct2), sl2⟩) (c2 : PySem.W.codeIn K cd2 "literal_of" = true) (k2 : PySem.W.keepIn K (.ref f2) = true)
    (a3 : PySem.W.nsIn K mainGlobals "put_clause" = some (some (.ref f3))) (l3 : K.lookup f3 = some ⟨oc3, od3, .func (PySem.W.fnOf "put_clause" "put_clause" (C8.fnArgs s_put_clause) (C8.fnBody s_put_clause) (C8.fnScope s_put_clause) .none kV3 dc3 pm3 an3 cd3 ct3), sl3⟩) (c3 : PySem.W.codeIn K cd3 "put_clause" = true) (k3 : PySem.W.keepIn K (.ref f3) = true)
    (a4 : PySem.W.nsIn K mainGlobals "put_and" = some (some (.ref f4))) (l4 : K.lookup f4 = some ⟨oc4, od4, .func (PySem.W.fnOf "put_and" "put_and" (C8.fnArgs s_put_and) (C8.fnBody s_put_and) (C8.fnScope s_put_and) .none kV4 dc4 pm4 an4 cd4 ct4), sl4⟩) (c4 : PySem.W.codeIn K cd4 "put_and" = true) (k4 : PySem.W.keepIn K (.ref f4) = true)
    (a5 : PySem.W.nsIn K mainGlobals "put_same" = some (some (.ref f5))) (l5 : K.lookup f5 = some ⟨oc5, od5, .func (PySem.W.fnOf "put_same" "put_same" (C8.fnArgs s_put_same) (C8.fnBody s_put_same) (C8.fnScope s_put_same) .none kV5 dc5 pm5 an5 cd5 ct5), sl5⟩) (c5 : PySem.W.codeIn K cd5 "put_same" = true) (k5 : PySem.W.keepIn K (.ref f5) = true)
    (a6 : PySem.W.nsIn K mainGlobals "first_and" = some (some (.ref f6))) (l6 : K.lookup f6 = some ⟨oc6, od6, .func (PySem.W.fnOf "first_and" "first_and" (C8.fnArgs s_first_and) (C8.fnBody s_first_and) (C8.fnScope s_first_and) .none kV6 dc6 pm6 an6 cd6 ct6), sl6⟩) (c6 : PySem.W.codeIn K cd6 "first_and" = true) (k6 : PySem.W.keepIn K (.ref f6) = true)
    (a7 : PySem.W.nsIn K mainGlobals "size_of" = some (some (.ref f7))) (l7 : K.lookup f7 = some ⟨oc7, od7, .func (PySem.W.fnOf "size_of" "size_of" (C8.fnArgs s_size_of) (C8.fnBody s_size_of) (C8.fnScope s_size_of) .none kV7 dc7 pm7 an7 cd7 ct7), sl7⟩) (c7 : PySem.W.codeIn K cd7 "size_of" = true) (k7 : PySem.W.keepIn K (.ref f7) = true)
    (a8 : PySem.W.nsIn K mainGlobals "put_graph" = some (some (.ref f8))) (l8 : K.lookup f8 = some ⟨oc8, od8, .func (PySem.W.fnOf "put_graph" "put_graph" (C8.fnArgs s_put_graph) (C8.fnBody s_put_graph) (C8.fnScope s_put_graph) .none kV8 dc8 pm8 an8 cd8 ct8), sl8⟩) (c8 : PySem.W.codeIn K cd8 "put_graph" = true) (k8 : PySem.W.keepIn K (.ref f8) = true)
    (a9 : PySem.W.nsIn K mainGlobals "clauses_of" = some (some (.ref f9))) (l9 : K.lookup f9 = some ⟨oc9, od9, .func (PySem.W.fnOf "clauses_of" "clauses_of" (C8.fnArgs s_clauses_of) (C8.fnBody s_clauses_of) (C8.fnScope s_clauses_of) .none kV9 dc9 pm9 an9 cd9 ct9), sl9⟩) (c9 : PySem.W.codeIn K cd9 "clauses_of" = true) (k9 : PySem.W.keepIn K (.ref f9) = true)
    (a10 : PySem.W.nsIn K mainGlobals "register_letter" = some (some (.ref f10))) (l10 : K.lookup f10 = some ⟨oc10, od10, .func (PySem.W.fnOf "register_letter" "register_letter" (C8.fnArgs s_register_letter) (C8.fnBody s_register_letter) (C8.fnScope s_register_letter) .none kV10 dc10 pm10 an10 cd10 ct10), sl10⟩) (c10 : PySem.W.codeIn K cd10 "register_letter" = true) (k10 : PySem.W.keepIn K (.ref f10) = true)
    (a11 : PySem.W.nsIn K mainGlobals "unrolled" = some (some (.ref f11))) (l11 : K.lookup f11 = some ⟨oc11, od11, .func (PySem.W.fnOf "unrolled" "unrolled" (C8.fnArgs s_unrolled) (C8.fnBody s_unrolled) (C8.fnScope s_unrolled) .none kV11 dc11 pm11 an11 cd11 ct11), sl11⟩) (c11 : PySem.W.codeIn K cd11 "unrolled" = true) (k11 : PySem.W.keepIn K (.ref f11) = true)
    (a12 : PySem.W.nsIn K mainGlobals "starting" = some (some (.ref f12))) (l12 : K.lookup f12 = some ⟨oc12, od12, .func (PySem.W.fnOf "starting" "starting" (C8.fnArgs s_starting) (C8.fnBody s_starting) (C8.fnScope s_starting) .none kV12 dc12 pm12 an12 cd12 ct12), sl12⟩) (c12 : PySem.W.codeIn K cd12 "starting" = true) (k12 : PySem.W.keepIn K (.ref f12) = true)
    (a13 : PySem.W.nsIn K mainGlobals "_law_pick" = some (some (.ref f13))) (l13 : K.lookup f13 = some ⟨oc13, od13, .func (PySem.W.fnOf "_law_pick" "_law_pick" (C8.fnArgs s_law_pick) (C8.fnBody s_law_pick) (C8.fnScope s_law_pick) .none kV13 dc13 pm13 an13 cd13 ct13), sl13⟩) (c13 : PySem.W.codeIn K cd13 "_law_pick" = true) (k13 : PySem.W.keepIn K (.ref f13) = true)
    (a14 : PySem.W.nsIn K mainGlobals "_law_source" = some (some (.ref f14))) (l14 : K.lookup f14 = some ⟨oc14, od14, .func (PySem.W.fnOf "_law_source" "_law_source" (C8.fnArgs s_law_source) (C8.fnBody s_law_source) (C8.fnScope s_law_source) .none kV14 dc14 pm14 an14 cd14 ct14), sl14⟩) (c14 : PySem.W.codeIn K cd14 "_law_source" = true) (k14 : PySem.W.keepIn K (.ref f14) = true)
    (a15 : PySem.W.nsIn K mainGlobals "_law_literal" = some (some (.ref f15))) (l15 : K.lookup f15 = some ⟨oc15, od15, .func (PySem.W.fnOf "_law_literal" "_law_literal" (C8.fnArgs s_law_literal) (C8.fnBody s_law_literal) (C8.fnScope s_law_literal) .none kV15 dc15 pm15 an15 cd15 ct15), sl15⟩) (c15 : PySem.W.codeIn K cd15 "_law_literal" = true) (k15 : PySem.W.keepIn K (.ref f15) = true)
    (a16 : PySem.W.nsIn K mainGlobals "_law_nodes" = some (some (.ref f16))) (l16 : K.lookup f16 = some ⟨oc16, od16, .func (PySem.W.fnOf "_law_nodes" "_law_nodes" (C8.fnArgs s_law_nodes) (C8.fnBody s_law_nodes) (C8.fnScope s_law_nodes) .none kV16 dc16 pm16 an16 cd16 ct16), sl16⟩) (c16 : PySem.W.codeIn K cd16 "_law_nodes" = true) (k16 : PySem.W.keepIn K (.ref f16) = true)
    (a17 : PySem.W.nsIn K mainGlobals "_law_draw_literal" = some (some (.ref f17))) (l17 : K.lookup f17 = some ⟨oc17, od17, .func (PySem.W.fnOf "_law_draw_literal" "_law_draw_literal" (C8.fnArgs s_law_draw_literal) (C8.fnBody s_law_draw_literal) (C8.fnScope s_law_draw_literal) .none kV17 dc17 pm17 an17 cd17 ct17), sl17⟩) (c17 : PySem.W.codeIn K cd17 "_law_draw_literal" = true) (k17 : PySem.W.keepIn K (.ref f17) = true)
    (a18 : PySem.W.nsIn K mainGlobals "_law_draw_graph" = some (some (.ref f18))) (l18 : K.lookup f18 = some ⟨oc18, od18, .func (PySem.W.fnOf "_law_draw_graph" "_law_draw_graph" (C8.fnArgs s_law_draw_graph) (C8.fnBody s_law_draw_graph) (C8.fnScope s_law_draw_graph) .none kV18 dc18 pm18 an18 cd18 ct18), sl18⟩) (c18 : PySem.W.codeIn K cd18 "_law_draw_graph" = true) (k18 : PySem.W.keepIn K (.ref f18) = true)
    (a19 : PySem.W.nsIn K mainGlobals "_law_far" = some (some (.ref f19))) (l19 : K.lookup f19 = some ⟨oc19, od19, .func (PySem.W.fnOf "_law_far" "_law_far" (C8.fnArgs s_law_far) (C8.fnBody s_law_far) (C8.fnScope s_law_far) .none kV19 dc19 pm19 an19 cd19 ct19), sl19⟩) (c19 : PySem.W.codeIn K cd19 "_law_far" = true) (k19 : PySem.W.keepIn K (.ref f19) = true)
    (a20 : PySem.W.nsIn K mainGlobals "_law_size" = some (some (.ref f20))) (l20 : K.lookup f20 = some ⟨oc20, od20, .func (PySem.W.fnOf "_law_size" "_law_size" (C8.fnArgs s_law_size) (C8.fnBody s_law_size) (C8.fnScope s_law_size) .none kV20 dc20 pm20 an20 cd20 ct20), sl20⟩) (c20 : PySem.W.codeIn K cd20 "_law_size" = true) (k20 : PySem.W.keepIn K (.ref f20) = true)
    (a21 : PySem.W.nsIn K mainGlobals "_law_put" = some (some (.ref f21))) (l21 : K.lookup f21 = some ⟨oc21, od21, .func (PySem.W.fnOf "_law_put" "_law_put" (C8.fnArgs s_law_put) (C8.fnBody s_law_put) (C8.fnScope s_law_put) .none kV21 dc21 pm21 an21 cd21 ct21), sl21⟩) (c21 : PySem.W.codeIn K cd21 "_law_put" = true) (k21 : PySem.W.keepIn K (.ref f21) = true)
    (a22 : PySem.W.nsIn K mainGlobals "_law_graph_clauses" = some (some (.ref f22))) (l22 : K.lookup f22 = some ⟨oc22, od22, .func (PySem.W.fnOf "_law_graph_clauses" "_law_graph_clauses" (C8.fnArgs s_law_graph_clauses) (C8.fnBody s_law_graph_clauses) (C8.fnScope s_law_graph_clauses) .none kV22 dc22 pm22 an22 cd22 ct22), sl22⟩) (c22 : PySem.W.codeIn K cd22 "_law_graph_clauses" = true) (k22 : PySem.W.keepIn K (.ref f22) = true)
    (a23 : PySem.W.nsIn K mainGlobals "_law_unrolled" = some (some (.ref f23))) (l23 : K.lookup f23 = some ⟨oc23, od23, .func (PySem.W.fnOf "_law_unrolled" "_law_unrolled" (C8.fnArgs s_law_unrolled) (C8.fnBody s_law_unrolled) (C8.fnScope s_law_unrolled) .none kV23 dc23 pm23 an23 cd23 ct23), sl23⟩) (c23 : PySem.W.codeIn K cd23 "_law_unrolled" = true) (k23 : PySem.W.keepIn K (.ref f23) = true)
    (a24 : PySem.W.nsIn K mainGlobals "_law_starting" = some (some (.ref f24))) (l24 : K.lookup f24 = some ⟨oc24, od24, .func (PySem.W.fnOf "_law_starting" "_law_starting" (C8.fnArgs s_law_starting) (C8.fnBody s_law_starting) (C8.fnScope s_law_starting) .none kV24 dc24 pm24 an24 cd24 ct24), sl24⟩) (c24 : PySem.W.codeIn K cd24 "_law_starting" = true) (k24 : PySem.W.keepIn K (.ref f24) = true)
    (a25 : PySem.W.nsIn K mainGlobals "_law_step_of" = some (some (.ref f25))) (l25 : K.lookup f25 = some ⟨oc25, od25, .func (PySem.W.fnOf "_law_step_of" "_law_step_of" (C8.fnArgs s_law_step_of) (C8.fnBody s_law_step_of) (C8.fnScope s_law_step_of) .none kV25 dc25 pm25 an25 cd25 ct25), sl25⟩) (c25 : PySem.W.codeIn K cd25 "_law_step_of" = true) (k25 : PySem.W.keepIn K (.ref f25) = true)
    (a26 : PySem.W.nsIn K mainGlobals "_law_true_of" = some (some (.ref f26))) (l26 : K.lookup f26 = some ⟨oc26, od26, .func (PySem.W.fnOf "_law_true_of" "_law_true_of" (C8.fnArgs s_law_true_of) (C8.fnBody s_law_true_of) (C8.fnScope s_law_true_of) .none kV26 dc26 pm26 an26 cd26 ct26), sl26⟩) (c26 : PySem.W.codeIn K cd26 "_law_true_of" = true) (k26 : PySem.W.keepIn K (.ref f26) = true)
    (a27 : PySem.W.nsIn K mainGlobals "_law_kept" = some (some (.ref f27))) (l27 : K.lookup f27 = some ⟨oc27, od27, .func (PySem.W.fnOf "_law_kept" "_law_kept" (C8.fnArgs s_law_kept) (C8.fnBody s_law_kept) (C8.fnScope s_law_kept) .none kV27 dc27 pm27 an27 cd27 ct27), sl27⟩) (c27 : PySem.W.codeIn K cd27 "_law_kept" = true) (k27 : PySem.W.keepIn K (.ref f27) = true)
    (a28 : PySem.W.nsIn K mainGlobals "_law_all_bits" = some (some (.ref f28))) (l28 : K.lookup f28 = some ⟨oc28, od28, .func (PySem.W.fnOf "_law_all_bits" "_law_all_bits" (C8.fnArgs s_law_all_bits) (C8.fnBody s_law_all_bits) (C8.fnScope s_law_all_bits) .none kV28 dc28 pm28 an28 cd28 ct28), sl28⟩) (c28 : PySem.W.codeIn K cd28 "_law_all_bits" = true) (k28 : PySem.W.keepIn K (.ref f28) = true)
    (a29 : PySem.W.nsIn K mainGlobals "_law_rough_graph" = some (some (.ref f29))) (l29 : K.lookup f29 = some ⟨oc29, od29, .func (PySem.W.fnOf "_law_rough_graph" "_law_rough_graph" (C8.fnArgs s_law_rough_graph) (C8.fnBody s_law_rough_graph) (C8.fnScope s_law_rough_graph) .none kV29 dc29 pm29 an29 cd29 ct29), sl29⟩) (c29 : PySem.W.codeIn K cd29 "_law_rough_graph" = true) (k29 : PySem.W.keepIn K (.ref f29) = true)
    (a30 : PySem.W.nsIn K mainGlobals "_law_values_right" = some (some (.ref f30))) (l30 : K.lookup f30 = some ⟨oc30, od30, .func (PySem.W.fnOf "_law_values_right" "_law_values_right" (C8.fnArgs s_law_values_right) (C8.fnBody s_law_values_right) (C8.fnScope s_law_values_right) .none kV30 dc30 pm30 an30 cd30 ct30), sl30⟩) (c30 : PySem.W.codeIn K cd30 "_law_values_right" = true) (k30 : PySem.W.keepIn K (.ref f30) = true)
    (a31 : PySem.W.nsIn K mainGlobals "_law_run_right" = some (some (.ref f31))) (l31 : K.lookup f31 = some ⟨oc31, od31, .func (PySem.W.fnOf "_law_run_right" "_law_run_right" (C8.fnArgs s_law_run_right) (C8.fnBody s_law_run_right) (C8.fnScope s_law_run_right) .none kV31 dc31 pm31 an31 cd31 ct31), sl31⟩) (c31 : PySem.W.codeIn K cd31 "_law_run_right" = true) (k31 : PySem.W.keepIn K (.ref f31) = true)
    (a32 : PySem.W.nsIn K mainGlobals "law" = some (some (.ref f32))) (l32 : K.lookup f32 = some ⟨oc32, od32, .func (PySem.W.fnOf "law" "law" (C8.fnArgs s_law) (C8.fnBody s_law) (C8.fnScope s_law) .none kV32 dc32 pm32 an32 cd32 ct32), sl32⟩) (c32 : PySem.W.codeIn K cd32 "law" = true) (k32 : PySem.W.keepIn K (.ref f32) = true)
    (z1 : PySem.W.nsIn K mainGlobals "abs" = some none)
    (z2 : PySem.W.nsIn K mainGlobals "any" = some none)
    (z3 : PySem.W.nsIn K mainGlobals "dict" = some none)
    (z4 : PySem.W.nsIn K mainGlobals "enumerate" = some none)
    (z5 : PySem.W.nsIn K mainGlobals "int" = some none)
    (z6 : PySem.W.nsIn K mainGlobals "len" = some none)
    (z7 : PySem.W.nsIn K mainGlobals "list" = some none)
    (z8 : PySem.W.nsIn K mainGlobals "max" = some none)
    (z9 : PySem.W.nsIn K mainGlobals "min" = some none)
    (z10 : PySem.W.nsIn K mainGlobals "range" = some none)
    (z11 : PySem.W.nsIn K mainGlobals "repr" = some none)
    (z12 : PySem.W.nsIn K mainGlobals "set" = some none)
    (z13 : PySem.W.nsIn K mainGlobals "sorted" = some none)
    (z14 : PySem.W.nsIn K mainGlobals "tuple" = some none)
    (z15 : PySem.W.nsIn K mainGlobals "zip" = some none)
    : ∃ fd : FuncData, (∀ (s : Shared) (v : Value), BindsTo s fd ⟨[v], []⟩ [("_law_script", v)]) ∧ ∀ base : Heap, K.In base → base.Ns mainGlobals mg → FnG l.prog w K mg base C8.CX0 (6 + 1) fa fd ["_law_script"] (spLaw K) := by
  have e := hfa.symm.trans (PySem.W.mg_of X G a32)
  cases e
  have T : Txt mg := ⟨PySem.W.mg_none_of X G z1, PySem.W.mg_none_of X G z2, PySem.W.mg_none_of X G z3, PySem.W.mg_none_of X G z4, PySem.W.mg_none_of X G z5, PySem.W.mg_none_of X G z6, PySem.W.mg_none_of X G z7, PySem.W.mg_none_of X G z8, PySem.W.mg_none_of X G z9, PySem.W.mg_none_of X G z10, PySem.W.mg_none_of X G z11, PySem.W.mg_none_of X G z12, PySem.W.mg_none_of X G z13, PySem.W.mg_none_of X G z14, PySem.W.mg_none_of X G z15⟩
  have F1 : C8.Def K mg "moved_literal" s_moved_literal f1 _ := ⟨⟨_, _, _, _, _, _, _, _, _, _, rfl, l1, c1⟩, PySem.W.mg_of X G a1, k1⟩
  have b1 := F1.fn.binds (ps := ["literal", "shift"]) rfl fun _ _ _ _ _ _ us hl => match us, hl with | [_, _], _ => rfl
  have F2 : C8.Def K mg "literal_of" s_literal_of f2 _ := ⟨⟨_, _, _, _, _, _, _, _, _, _, rfl, l2, c2⟩, PySem.W.mg_of X G a2, k2⟩
  have b2 := F2.fn.binds (ps := ["literal"]) rfl fun _ _ _ _ _ _ us hl => match us, hl with | [_], _ => rfl
  have F3 : C8.Def K mg "put_clause" s_put_clause f3 _ := ⟨⟨_, _, _, _, _, _, _, _, _, _, rfl, l3, c3⟩, PySem.W.mg_of X G a3, k3⟩
  have b3 := F3.fn.binds (ps := ["clauses", "literals"]) rfl fun _ _ _ _ _ _ us hl => match us, hl with | [_, _], _ => rfl
  have F4 : C8.Def K mg "put_and" s_put_and f4 _ := ⟨⟨_, _, _, _, _, _, _, _, _, _, rfl, l4, c4⟩, PySem.W.mg_of X G a4, k4⟩
  have b4 := F4.fn.binds (ps := ["clauses", "letter", "one", "other"]) rfl fun _ _ _ _ _ _ us hl => match us, hl with | [_, _, _, _], _ => rfl
  have F5 : C8.Def K mg "put_same" s_put_same f5 _ := ⟨⟨_, _, _, _, _, _, _, _, _, _, rfl, l5, c5⟩, PySem.W.mg_of X G a5, k5⟩
  have b5 := F5.fn.binds (ps := ["clauses", "one", "other"]) rfl fun _ _ _ _ _ _ us hl => match us, hl with | [_, _, _], _ => rfl
  have F6 : C8.Def K mg "first_and" s_first_and f6 _ := ⟨⟨_, _, _, _, _, _, _, _, _, _, rfl, l6, c6⟩, PySem.W.mg_of X G a6, k6⟩
  have b6 := F6.fn.binds (ps := ["graph"]) rfl fun _ _ _ _ _ _ us hl => match us, hl with | [_], _ => rfl
  have F7 : C8.Def K mg "size_of" s_size_of f7 _ := ⟨⟨_, _, _, _, _, _, _, _, _, _, rfl, l7, c7⟩, PySem.W.mg_of X G a7, k7⟩
  have b7 := F7.fn.binds (ps := ["graph"]) rfl fun _ _ _ _ _ _ us hl => match us, hl with | [_], _ => rfl
  have F8 : C8.Def K mg "put_graph" s_put_graph f8 _ := ⟨⟨_, _, _, _, _, _, _, _, _, _, rfl, l8, c8⟩, PySem.W.mg_of X G a8, k8⟩
  have b8 := F8.fn.binds (ps := ["clauses", "graph", "shift"]) rfl fun _ _ _ _ _ _ us hl => match us, hl with | [_, _, _], _ => rfl
  have F9 : C8.Def K mg "clauses_of" s_clauses_of f9 _ := ⟨⟨_, _, _, _, _, _, _, _, _, _, rfl, l9, c9⟩, PySem.W.mg_of X G a9, k9⟩
  have b9 := F9.fn.binds (ps := ["graph"]) rfl fun _ _ _ _ _ _ us hl => match us, hl with | [_], _ => rfl
  have F10 : C8.Def K mg "register_letter" s_register_letter f10 _ := ⟨⟨_, _, _, _, _, _, _, _, _, _, rfl, l10, c10⟩, PySem.W.mg_of X G a10, k10⟩
  have b10 := F10.fn.binds (ps := ["graph", "index", "clock"]) rfl fun _ _ _ _ _ _ us hl => match us, hl with | [_, _, _], _ => rfl
  have F11 : C8.Def K mg "unrolled" s_unrolled f11 _ := ⟨⟨_, _, _, _, _, _, _, _, _, _, rfl, l11, c11⟩, PySem.W.mg_of X G a11, k11⟩
  have b11 := F11.fn.binds (ps := ["graph", "clocks"]) rfl fun _ _ _ _ _ _ us hl => match us, hl with | [_, _], _ => rfl
  have F12 : C8.Def K mg "starting" s_starting f12 _ := ⟨⟨_, _, _, _, _, _, _, _, _, _, rfl, l12, c12⟩, PySem.W.mg_of X G a12, k12⟩
  have b12 := F12.fn.binds (ps := ["graph"]) rfl fun _ _ _ _ _ _ us hl => match us, hl with | [_], _ => rfl
  have F13 : C8.Def K mg "_law_pick" s_law_pick f13 _ := ⟨⟨_, _, _, _, _, _, _, _, _, _, rfl, l13, c13⟩, PySem.W.mg_of X G a13, k13⟩
  have b13 := F13.fn.binds (ps := ["_law_source_here", "_law_many"]) rfl fun _ _ _ _ _ _ us hl => match us, hl with | [_, _], _ => rfl
  have F14 : C8.Def K mg "_law_source" s_law_source f14 _ := ⟨⟨_, _, _, _, _, _, _, _, _, _, rfl, l14, c14⟩, PySem.W.mg_of X G a14, k14⟩
  have b14 := F14.fn.binds (ps := ["_law_script"]) rfl fun _ _ _ _ _ _ us hl => match us, hl with | [_], _ => rfl
  have F15 : C8.Def K mg "_law_literal" s_law_literal f15 _ := ⟨⟨_, _, _, _, _, _, _, _, _, _, rfl, l15, c15⟩, PySem.W.mg_of X G a15, k15⟩
  have b15 := F15.fn.binds (ps := ["_law_values", "_law_l", "_law_full"]) rfl fun _ _ _ _ _ _ us hl => match us, hl with | [_, _, _], _ => rfl
  have F16 : C8.Def K mg "_law_nodes" s_law_nodes f16 _ := ⟨⟨_, _, _, _, _, _, _, _, _, _, rfl, l16, c16⟩, PySem.W.mg_of X G a16, k16⟩
  have b16 := F16.fn.binds (ps := ["_law_graph", "_law_state", "_law_lot", "_law_full"]) rfl fun _ _ _ _ _ _ us hl => match us, hl with | [_, _, _, _], _ => rfl
  have F17 : C8.Def K mg "_law_draw_literal" s_law_draw_literal f17 _ := ⟨⟨_, _, _, _, _, _, _, _, _, _, rfl, l17, c17⟩, PySem.W.mg_of X G a17, k17⟩
  have b17 := F17.fn.binds (ps := ["_law_source_here", "_law_many"]) rfl fun _ _ _ _ _ _ us hl => match us, hl with | [_, _], _ => rfl
  have F18 : C8.Def K mg "_law_draw_graph" s_law_draw_graph f18 _ := ⟨⟨_, _, _, _, _, _, _, _, _, _, rfl, l18, c18⟩, PySem.W.mg_of X G a18, k18⟩
  have b18 := F18.fn.binds (ps := ["_law_source_here", "_law_many_ins", "_law_many_regs", "_law_most"]) rfl fun _ _ _ _ _ _ us hl => match us, hl with | [_, _, _, _], _ => rfl
  have F19 : C8.Def K mg "_law_far" s_law_far f19 _ := ⟨⟨_, _, _, _, _, _, _, _, _, _, rfl, l19, c19⟩, PySem.W.mg_of X G a19, k19⟩
  have b19 := F19.fn.binds (ps := ["_law_literal_here", "_law_shift"]) rfl fun _ _ _ _ _ _ us hl => match us, hl with | [_, _], _ => rfl
  have F20 : C8.Def K mg "_law_size" s_law_size f20 _ := ⟨⟨_, _, _, _, _, _, _, _, _, _, rfl, l20, c20⟩, PySem.W.mg_of X G a20, k20⟩
  have b20 := F20.fn.binds (ps := ["_law_graph"]) rfl fun _ _ _ _ _ _ us hl => match us, hl with | [_], _ => rfl
  have F21 : C8.Def K mg "_law_put" s_law_put f21 _ := ⟨⟨_, _, _, _, _, _, _, _, _, _, rfl, l21, c21⟩, PySem.W.mg_of X G a21, k21⟩
  have b21 := F21.fn.binds (ps := ["_law_clauses", "_law_literals"]) rfl fun _ _ _ _ _ _ us hl => match us, hl with | [_, _], _ => rfl
  have F22 : C8.Def K mg "_law_graph_clauses" s_law_graph_clauses f22 _ := ⟨⟨_, _, _, _, _, _, _, _, _, _, rfl, l22, c22⟩, PySem.W.mg_of X G a22, k22⟩
  have b22 := F22.fn.binds (ps := ["_law_graph", "_law_shift"]) rfl fun _ _ _ _ _ _ us hl => match us, hl with | [_, _], _ => rfl
  have F23 : C8.Def K mg "_law_unrolled" s_law_unrolled f23 _ := ⟨⟨_, _, _, _, _, _, _, _, _, _, rfl, l23, c23⟩, PySem.W.mg_of X G a23, k23⟩
  have b23 := F23.fn.binds (ps := ["_law_graph", "_law_clocks"]) rfl fun _ _ _ _ _ _ us hl => match us, hl with | [_, _], _ => rfl
  have F24 : C8.Def K mg "_law_starting" s_law_starting f24 _ := ⟨⟨_, _, _, _, _, _, _, _, _, _, rfl, l24, c24⟩, PySem.W.mg_of X G a24, k24⟩
  have b24 := F24.fn.binds (ps := ["_law_graph"]) rfl fun _ _ _ _ _ _ us hl => match us, hl with | [_], _ => rfl
  have F25 : C8.Def K mg "_law_step_of" s_law_step_of f25 _ := ⟨⟨_, _, _, _, _, _, _, _, _, _, rfl, l25, c25⟩, PySem.W.mg_of X G a25, k25⟩
  have b25 := F25.fn.binds (ps := ["_law_graph", "_law_lot", "_law_state"]) rfl fun _ _ _ _ _ _ us hl => match us, hl with | [_, _, _], _ => rfl
  have F26 : C8.Def K mg "_law_true_of" s_law_true_of f26 _ := ⟨⟨_, _, _, _, _, _, _, _, _, _, rfl, l26, c26⟩, PySem.W.mg_of X G a26, k26⟩
  have b26 := F26.fn.binds (ps := ["_law_values", "_law_shift"]) rfl fun _ _ _ _ _ _ us hl => match us, hl with | [_, _], _ => rfl
  have F27 : C8.Def K mg "_law_kept" s_law_kept f27 _ := ⟨⟨_, _, _, _, _, _, _, _, _, _, rfl, l27, c27⟩, PySem.W.mg_of X G a27, k27⟩
  have b27 := F27.fn.binds (ps := ["_law_clauses", "_law_true"]) rfl fun _ _ _ _ _ _ us hl => match us, hl with | [_, _], _ => rfl
  have F28 : C8.Def K mg "_law_all_bits" s_law_all_bits f28 _ := ⟨⟨_, _, _, _, _, _, _, _, _, _, rfl, l28, c28⟩, PySem.W.mg_of X G a28, k28⟩
  have b28 := F28.fn.binds (ps := ["_law_many"]) rfl fun _ _ _ _ _ _ us hl => match us, hl with | [_], _ => rfl
  have F29 : C8.Def K mg "_law_rough_graph" s_law_rough_graph f29 _ := ⟨⟨_, _, _, _, _, _, _, _, _, _, rfl, l29, c29⟩, PySem.W.mg_of X G a29, k29⟩
  have b29 := F29.fn.binds (ps := ["_law_source_here"]) rfl fun _ _ _ _ _ _ us hl => match us, hl with | [_], _ => rfl
  have F30 : C8.Def K mg "_law_values_right" s_law_values_right f30 _ := ⟨⟨_, _, _, _, _, _, _, _, _, _, rfl, l30, c30⟩, PySem.W.mg_of X G a30, k30⟩
  have b30 := F30.fn.binds (ps := ["_law_source_here", "_law_graph", "_law_clauses"]) rfl fun _ _ _ _ _ _ us hl => match us, hl with | [_, _, _], _ => rfl
  have F31 : C8.Def K mg "_law_run_right" s_law_run_right f31 _ := ⟨⟨_, _, _, _, _, _, _, _, _, _, rfl, l31, c31⟩, PySem.W.mg_of X G a31, k31⟩
  have b31 := F31.fn.binds (ps := ["_law_source_here", "_law_graph"]) rfl fun _ _ _ _ _ _ us hl => match us, hl with | [_, _], _ => rfl
  have FL : C8.Fun K "law" "law" s_law fa _ := ⟨_, _, _, _, _, _, _, _, _, _, rfl, l32, c32⟩
  refine ⟨PySem.W.fnOf "law" "law" (C8.fnArgs s_law) (C8.fnBody s_law) (C8.fnScope s_law) .none kV32 dc32 pm32 an32 cd32 ct32, fun s v => .of_eq rfl, fun base _ _ => ?_⟩
  have c_moved_literal := ok_moved_literal (P := l.prog) (w := w) (base := base) F1 b1 T 
  have c_literal_of := ok_literal_of (P := l.prog) (w := w) (base := base) F2 b2 T c_moved_literal
  have c_put_clause := ok_put_clause (P := l.prog) (w := w) (base := base) F3 b3 T 
  have c_put_and := ok_put_and (P := l.prog) (w := w) (base := base) F4 b4 T c_put_clause
  have c_put_same := ok_put_same (P := l.prog) (w := w) (base := base) F5 b5 T c_put_clause
  have c_first_and := ok_first_and (P := l.prog) (w := w) (base := base) F6 b6 T 
  have c_size_of := ok_size_of (P := l.prog) (w := w) (base := base) F7 b7 T c_first_and
  have c_put_graph := ok_put_graph (P := l.prog) (w := w) (base := base) F8 b8 T c_first_and c_put_and c_moved_literal
  have c_clauses_of := ok_clauses_of (P := l.prog) (w := w) (base := base) F9 b9 T c_put_graph
  have c_register_letter := ok_register_letter (P := l.prog) (w := w) (base := base) F10 b10 T c_size_of
  have c_unrolled := ok_unrolled (P := l.prog) (w := w) (base := base) F11 b11 T c_size_of c_put_graph c_register_letter c_moved_literal c_put_same
  have c_starting := ok_starting (P := l.prog) (w := w) (base := base) F12 b12 T c_register_letter
  have c_law_pick := ok_law_pick (P := l.prog) (w := w) (base := base) F13 b13 T 
  have c_law_source := ok_law_source (P := l.prog) (w := w) (base := base) F14 b14 T 
  have c_law_literal := ok_law_literal (P := l.prog) (w := w) (base := base) F15 b15 T 
  have c_law_nodes := ok_law_nodes (P := l.prog) (w := w) (base := base) F16 b16 T c_law_literal
  have c_law_draw_literal := ok_law_draw_literal (P := l.prog) (w := w) (base := base) F17 b17 T c_law_pick
  have c_law_draw_graph := ok_law_draw_graph (P := l.prog) (w := w) (base := base) F18 b18 T c_law_pick c_law_draw_literal
  have c_law_far := ok_law_far (P := l.prog) (w := w) (base := base) F19 b19 T 
  have c_law_size := ok_law_size (P := l.prog) (w := w) (base := base) F20 b20 T 
  have c_law_put := ok_law_put (P := l.prog) (w := w) (base := base) F21 b21 T 
  have c_law_graph_clauses := ok_law_graph_clauses (P := l.prog) (w := w) (base := base) F22 b22 T c_law_far c_law_put
  have c_law_unrolled := ok_law_unrolled (P := l.prog) (w := w) (base := base) F23 b23 T c_law_size c_law_graph_clauses c_law_far c_law_put
  have c_law_starting := ok_law_starting (P := l.prog) (w := w) (base := base) F24 b24 T 
  have c_law_step_of := ok_law_step_of (P := l.prog) (w := w) (base := base) F25 b25 T c_law_nodes c_law_literal
  have c_law_true_of := ok_law_true_of (P := l.prog) (w := w) (base := base) F26 b26 T 
  have c_law_kept := ok_law_kept (P := l.prog) (w := w) (base := base) F27 b27 T 
  have c_law_all_bits := ok_law_all_bits (P := l.prog) (w := w) (base := base) F28 b28 T 
  have c_law_rough_graph := ok_law_rough_graph (P := l.prog) (w := w) (base := base) F29 b29 T c_law_pick c_law_draw_graph c_law_size
  have c_law_values_right := ok_law_values_right (P := l.prog) (w := w) (base := base) F30 b30 T c_law_pick c_law_size c_law_all_bits c_law_nodes c_law_true_of c_law_kept
  have c_law_run_right := ok_law_run_right (P := l.prog) (w := w) (base := base) F31 b31 T c_law_pick c_unrolled c_law_unrolled c_starting c_law_starting c_law_nodes c_law_size c_law_true_of c_law_step_of c_law_kept
  exact ok_law FL T c_law_source c_law_rough_graph c_clauses_of c_law_graph_clauses c_law_pick c_law_size c_literal_of c_law_far c_law_values_right c_law_run_right
theorem walk {l : PySem.W.OpenLaw} {q : Program} {loose : List Str} {XP : (Str → Option Value) → Heap → Prop} {YP : World → Heap → Prop} {d : DefRec} {K : Params → PySem.W.Frag} (hn : l.most = some 63) (hdf : d.params.defaults = [])
    (hY : ∀ (w : World) (h : Heap), YP w h → (K w.params).In h)
    (F : ∀ (w : World) (mg : Str → Option Value) (fa : Addr) (h : Heap), (K w.params).In h → h.Ns mainGlobals mg → mg d.name = some (.ref fa) →
      ∃ fd : FuncData, (∀ (s : Shared) (u : Value), BindsTo s fd ⟨[u], []⟩ [("_law_script", u)]) ∧ ∀ base : Heap, (K w.params).In base → base.Ns mainGlobals mg → FnG l.prog w (K w.params) mg base C8.CX0 (6 + 1) fa fd ["_law_script"] (spLaw (K w.params))) :
    PySem.W.WalkO q loose XP YP l.row.toRowW d [] (fun f vs => PySem.call f vs) :=
  law_end (x := "_law_script") (sp := fun w => spLaw (K w.params)) hn hdf ⟨rfl, by decide, by decide⟩ hY F fun w H a ns hl hS _ => ⟨a, ns, rfl, hS, hl, fun _ => rfl⟩
end K84
open PySem PySem.W PyProof.Rows
set_option maxRecDepth 100000 in
set_option maxHeartbeats 0 in
theorem PySem.Challenge.cw_bitloom_k84_whole_clauses_of_graphs_holds : PySem.Challenge.rw_bitloom_k84_whole_clauses_of_graphs.Holds := by
  w_on; o_law; k_head; (case hw => w_witness2)
  k_fill
  refine K84.walk (l := PySem.Challenge.rw_bitloom_k84_whole_clauses_of_graphs) rfl rfl (fun w h Y => PySem.W.kIn_of Y) ?F
  case F =>
    intro w mg fa h KX G hmg
    refine' K84.all_mk KX G hmg ?a1 ?l1 ?c1 ?k1 ?a2 ?l2 ?c2 ?k2 ?a3 ?l3 ?c3 ?k3 ?a4 ?l4 ?c4 ?k4 ?a5 ?l5 ?c5 ?k5 ?a6 ?l6 ?c6 ?k6 ?a7 ?l7 ?c7 ?k7 ?a8 ?l8 ?c8 ?k8 ?a9 ?l9 ?c9 ?k9 ?a10 ?l10 ?c10 ?k10 ?a11 ?l11 ?c11 ?k11 ?a12 ?l12 ?c12 ?k12 ?a13 ?l13 ?c13 ?k13 ?a14 ?l14 ?c14 ?k14 ?a15 ?l15 ?c15 ?k15 ?a16 ?l16 ?c16 ?k16 ?a17 ?l17 ?c17 ?k17 ?a18 ?l18 ?c18 ?k18 ?a19 ?l19 ?c19 ?k19 ?a20 ?l20 ?c20 ?k20 ?a21 ?l21 ?c21 ?k21 ?a22 ?l22 ?c22 ?k22 ?a23 ?l23 ?c23 ?k23 ?a24 ?l24 ?c24 ?k24 ?a25 ?l25 ?c25 ?k25 ?a26 ?l26 ?c26 ?k26 ?a27 ?l27 ?c27 ?k27 ?a28 ?l28 ?c28 ?k28 ?a29 ?l29 ?c29 ?k29 ?a30 ?l30 ?c30 ?k30 ?a31 ?l31 ?c31 ?k31 ?a32 ?l32 ?c32 ?k32 ?z1 ?z2 ?z3 ?z4 ?z5 ?z6 ?z7 ?z8 ?z9 ?z10 ?z11 ?z12 ?z13 ?z14 ?z15
    (case a1 => k_is)
    (case l1 => k_is)
    (case c1 => k_is)
    (case k1 => k_is)
    (case a2 => k_is)
    (case l2 => k_is)
    (case c2 => k_is)
    (case k2 => k_is)
    (case a3 => k_is)
    (case l3 => k_is)
    (case c3 => k_is)
    (case k3 => k_is)
    (case a4 => k_is)
    (case l4 => k_is)
    (case c4 => k_is)
    (case k4 => k_is)
    (case a5 => k_is)
    (case l5 => k_is)
    (case c5 => k_is)
    (case k5 => k_is)
    (case a6 => k_is)
    (case l6 => k_is)
    (case c6 => k_is)
    (case k6 => k_is)
    (case a7 => k_is)
    (case l7 => k_is)
    (case c7 => k_is)
    (case k7 => k_is)
    (case a8 => k_is)
    (case l8 => k_is)
    (case c8 => k_is)
    (case k8 => k_is)
    (case a9 => k_is)
    (case l9 => k_is)
    (case c9 => k_is)
    (case k9 => k_is)
    (case a10 => k_is)
    (case l10 => k_is)
    (case c10 => k_is)
    (case k10 => k_is)
    (case a11 => k_is)
    (case l11 => k_is)
    (case c11 => k_is)
    (case k11 => k_is)
    (case a12 => k_is)
    (case l12 => k_is)
    (case c12 => k_is)
    (case k12 => k_is)
    (case a13 => k_is)
    (case l13 => k_is)
    (case c13 => k_is)
    (case k13 => k_is)
    (case a14 => k_is)
    (case l14 => k_is)
    (case c14 => k_is)
    (case k14 => k_is)
    (case a15 => k_is)
    (case l15 => k_is)
    (case c15 => k_is)
    (case k15 => k_is)
    (case a16 => k_is)
    (case l16 => k_is)
    (case c16 => k_is)
    (case k16 => k_is)
    (case a17 => k_is)
    (case l17 => k_is)
    (case c17 => k_is)
    (case k17 => k_is)
    (case a18 => k_is)
    (case l18 => k_is)
    (case c18 => k_is)
    (case k18 => k_is)
    (case a19 => k_is)
    (case l19 => k_is)
    (case c19 => k_is)
    (case k19 => k_is)
    (case a20 => k_is)
    (case l20 => k_is)
    (case c20 => k_is)
    (case k20 => k_is)
    (case a21 => k_is)
    (case l21 => k_is)
    (case c21 => k_is)
    (case k21 => k_is)
    (case a22 => k_is)
    (case l22 => k_is)
    (case c22 => k_is)
    (case k22 => k_is)
    (case a23 => k_is)
    (case l23 => k_is)
    (case c23 => k_is)
    (case k23 => k_is)
    (case a24 => k_is)
    (case l24 => k_is)
    (case c24 => k_is)
    (case k24 => k_is)
    (case a25 => k_is)
    (case l25 => k_is)
    (case c25 => k_is)
    (case k25 => k_is)
    (case a26 => k_is)
    (case l26 => k_is)
    (case c26 => k_is)
    (case k26 => k_is)
    (case a27 => k_is)
    (case l27 => k_is)
    (case c27 => k_is)
    (case k27 => k_is)
    (case a28 => k_is)
    (case l28 => k_is)
    (case c28 => k_is)
    (case k28 => k_is)
    (case a29 => k_is)
    (case l29 => k_is)
    (case c29 => k_is)
    (case k29 => k_is)
    (case a30 => k_is)
    (case l30 => k_is)
    (case c30 => k_is)
    (case k30 => k_is)
    (case a31 => k_is)
    (case l31 => k_is)
    (case c31 => k_is)
    (case k31 => k_is)
    (case a32 => k_is)
    (case l32 => k_is)
    (case c32 => k_is)
    (case k32 => k_is)
    (case z1 => k_is)
    (case z2 => k_is)
    (case z3 => k_is)
    (case z4 => k_is)
    (case z5 => k_is)
    (case z6 => k_is)
    (case z7 => k_is)
    (case z8 => k_is)
    (case z9 => k_is)
    (case z10 => k_is)
    (case z11 => k_is)
    (case z12 => k_is)
    (case z13 => k_is)
    (case z14 => k_is)
    (case z15 => k_is)
#print axioms PySem.Challenge.cw_bitloom_k84_whole_clauses_of_graphs_holds

