import PyProof.Rows.All
import Wide.All
import OpenK.AllK
import Wide.FinOn
import HandS.ForMost
import HandS.Codes
import HandS.TupAny
import HandS.Conv
import HandS.Deep
import HandS.Walk
import HandS.Zip
import HandS.SortInts
import HandS.Style
import KE.GoesMore
import KE.GoesEnum
import KE.GoesZip
import KE.GoesEnumKw
import KE.BitLaws
import HandS.Star
import HandS.TupLen
import HandS.TryOnly
import KE.KDictSum
import HandS.IsInst
import HandS.More
import KE.KExcSuper
import HandS.ExcInit
import HandS.Nested
import HandS.ExcOwn
import HandS.ExcField
import HandS.WordsExc
import HandS.WideBits
import HandS.Text
import HandS.TupMul
import PyProof.ReprBulk
import PySem.Challenge.RW_bitloom_k22_whole_runs
set_option Elab.async false
set_option linter.all false
set_option maxRecDepth 100000
set_option maxHeartbeats 4000000
namespace DL
open PySem L2

abbrev D := PyData
abbrev AP := Addr → Prop

open Classical in
noncomputable def Fz (H : Hp) (M : AP) : Hp := fun a => if M a then none else H a
theorem fz_of {H : Hp} {M : AP} {a : Addr} {o : HO} (h : H a = some o) (n : ¬ M a) : Fz H M a = some o := by
  unfold Fz; rw [if_neg n]; exact h
theorem of_fz {H : Hp} {M : AP} {a : Addr} {o : HO} (h : Fz H M a = some o) : H a = some o ∧ ¬ M a := by
  unfold Fz at h
  split at h
  · cases h
  · rename_i n; exact ⟨h, n⟩
theorem fz_sub {H : Hp} {M : AP} : Same (Fz H M) H := fun _ _ h => (of_fz h).1
theorem fz_mono {H H' : Hp} {M M' : AP} (h : ∀ a o, H a = some o → ¬ M a → H' a = some o ∧ ¬ M' a) : Same (Fz H M) (Fz H' M') := fun a o e => by
  obtain ⟨e1, n⟩ := of_fz e
  obtain ⟨e2, n2⟩ := h a o e1 n
  exact fz_of e2 n2

def keyD : Key → D
  | .inl i => .int i
  | .inr x => .str x

/-- what a dict with tuples as keys begins with, as data -/
abbrev tmark : D × D := (.none, .none)
/-! ### values as data in a heap that stands -/
mutual
inductive Rp (K : PySem.W.Frag) (F : Hp) : V → D → Prop
  | non : Rp K F .non .none
  | bl (b : Bool) : Rp K F (.bl b) (.bool b)
  | int (i : Int) : Rp K F (.int i) (.int i)
  | str (x : Str) : Rp K F (.str x) (.str x)
  | lst {a : Addr} {xs : List V} {ds : List D} : F a = some (.lst xs) → RpA K F xs ds → Rp K F (.ref a) (.list ds)
  | tup {a : Addr} {xs : List V} {ds : List D} : F a = some (.tup xs) → RpA K F xs ds → Rp K F (.ref a) (.tuple ds)
  | dic {a : Addr} {kvs : List (Key × V)} {es : List (D × D)} : F a = some (.dK kvs) → RpK K F kvs es → Rp K F (.ref a) (.dict es)
  | dct {a : Addr} {kvs : List (List Key × V)} {es : List (D × D)} : F a = some (.dT kvs) → RpT K F kvs es → Rp K F (.ref a) (.dict (tmark :: es))
inductive RpA (K : PySem.W.Frag) (F : Hp) : List V → List D → Prop
  | nil : RpA K F [] []
  | cons {v : V} {d : D} {vs : List V} {ds : List D} : Rp K F v d → RpA K F vs ds → RpA K F (v :: vs) (d :: ds)
inductive RpK (K : PySem.W.Frag) (F : Hp) : List (Key × V) → List (D × D) → Prop
  | nil : RpK K F [] []
  | cons {k : Key} {v : V} {d : D} {vs : List (Key × V)} {ds : List (D × D)} : Rp K F v d → RpK K F vs ds → RpK K F ((k, v) :: vs) ((keyD k, d) :: ds)
inductive RpT (K : PySem.W.Frag) (F : Hp) : List (List Key × V) → List (D × D) → Prop
  | nil : RpT K F [] []
  | cons {k : List Key} {v : V} {d : D} {vs : List (List Key × V)} {ds : List (D × D)} : Rp K F v d → RpT K F vs ds → RpT K F ((k, v) :: vs) ((.tuple (k.map keyD), d) :: ds)
end
theorem sqT_mono {K : PySem.W.Frag} {F F' : Hp} {a : Addr} {xs : List V} (e : Same F F') (h : SqT K F a xs) : SqT K F' a xs := by
  rcases h with (h | ⟨o, h⟩) | h
  · exact .inl (.inl (e _ _ h))
  · exact .inl (.inr ⟨o, e _ _ h⟩)
  · exact .inr h
section
variable {K : PySem.W.Frag} {F F' : Hp}
mutual
theorem Rp.mono (e : Same F F') : ∀ {v : V} {d : D}, Rp K F v d → Rp K F' v d
  | _, _, .non => .non
  | _, _, .bl b => .bl b
  | _, _, .int b => .int b
  | _, _, .str b => .str b
  | _, _, .lst h r => .lst (e _ _ h) (RpA.mono e r)
  | _, _, .tup h r => .tup (e _ _ h) (RpA.mono e r)
  | _, _, .dic h r => .dic (e _ _ h) (RpK.mono e r)
  | _, _, .dct h r => .dct (e _ _ h) (RpT.mono e r)
theorem RpA.mono (e : Same F F') : ∀ {v : List V} {d : List D}, RpA K F v d → RpA K F' v d
  | _, _, .nil => .nil
  | _, _, .cons h r => .cons (Rp.mono e h) (RpA.mono e r)
theorem RpK.mono (e : Same F F') : ∀ {v : List (Key × V)} {d : List (D × D)}, RpK K F v d → RpK K F' v d
  | _, _, .nil => .nil
  | _, _, .cons h r => .cons (Rp.mono e h) (RpK.mono e r)
theorem RpT.mono (e : Same F F') : ∀ {v : List (List Key × V)} {d : List (D × D)}, RpT K F v d → RpT K F' v d
  | _, _, .nil => .nil
  | _, _, .cons h r => .cons (Rp.mono e h) (RpT.mono e r)
end
theorem RpA.length {vs : List V} {ds : List D} (h : RpA K F vs ds) : vs.length = ds.length := by
  induction ds generalizing vs with
  | nil => cases h; rfl
  | cons d ds ih => cases h with | cons h r => simp [ih r]
theorem RpA.get {vs : List V} {ds : List D} (h : RpA K F vs ds) : ∀ {i : Nat} {d : D}, ds[i]? = some d → ∃ v, vs[i]? = some v ∧ Rp K F v d := by
  induction ds generalizing vs with
  | nil => intro i d e; simp at e
  | cons x ds ih =>
    cases h with
    | cons h r =>
      intro i d e
      cases i with
      | zero => simp at e; subst e; exact ⟨_, rfl, h⟩
      | succ i =>
        obtain ⟨v, e1, e2⟩ := ih r (i := i) (d := d) (by simpa using e)
        exact ⟨v, by simpa using e1, e2⟩
theorem RpA.getV {vs : List V} {ds : List D} (h : RpA K F vs ds) : ∀ {i : Nat} {v : V}, vs[i]? = some v → ∃ d, ds[i]? = some d ∧ Rp K F v d := by
  induction ds generalizing vs with
  | nil => intro i d e; cases h; simp at e
  | cons x ds ih =>
    cases h with
    | cons h r =>
      intro i d e
      cases i with
      | zero => simp at e; subst e; exact ⟨_, rfl, h⟩
      | succ i =>
        obtain ⟨v, e1, e2⟩ := ih r (i := i) (v := d) (by simpa using e)
        exact ⟨v, by simpa using e1, e2⟩
theorem RpA.append {vs ws : List V} {ds es : List D} (h : RpA K F vs ds) (g : RpA K F ws es) : RpA K F (vs ++ ws) (ds ++ es) := by
  induction ds generalizing vs with
  | nil => cases h; exact g
  | cons x ds ih => cases h with | cons h r => exact .cons h (ih r)
theorem RpA.drop {vs : List V} {ds : List D} (h : RpA K F vs ds) : ∀ n, RpA K F (vs.drop n) (ds.drop n) := by
  induction ds generalizing vs with
  | nil => cases h; intro n; simp; exact .nil
  | cons x ds ih =>
    cases h with
    | cons h r =>
      intro n
      cases n with
      | zero => exact .cons h r
      | succ n => simpa using ih r n
theorem RpA.take {vs : List V} {ds : List D} (h : RpA K F vs ds) : ∀ n, RpA K F (vs.take n) (ds.take n) := by
  induction ds generalizing vs with
  | nil => cases h; intro n; simp; exact .nil
  | cons x ds ih =>
    cases h with
    | cons h r =>
      intro n
      cases n with
      | zero => exact .nil
      | succ n => exact .cons h (ih r n)
theorem RpA.set {vs : List V} {ds : List D} (h : RpA K F vs ds) {v : V} {d : D} (hv : Rp K F v d) : ∀ n, RpA K F (vs.set n v) (ds.set n d) := by
  induction ds generalizing vs with
  | nil => cases h; intro n; exact .nil
  | cons x ds ih =>
    cases h with
    | cons h r =>
      intro n
      cases n with
      | zero => exact .cons hv r
      | succ n => exact .cons h (ih r n)
theorem RpA.reverse {vs : List V} {ds : List D} (h : RpA K F vs ds) : RpA K F vs.reverse ds.reverse := by
  induction ds generalizing vs with
  | nil => cases h; exact .nil
  | cons x ds ih =>
    cases h with
    | cons h r =>
      rw [List.reverse_cons, List.reverse_cons]
      exact (ih r).append (.cons h .nil)
theorem RpA.ints {vs : List V} {ns : List Int} (h : RpA K F vs (ns.map PyData.int)) : vs = ns.map V.int := by
  induction ns generalizing vs with
  | nil => cases h; rfl
  | cons n ns ih => cases h with | cons h r => cases h; rw [ih r]; rfl
theorem RpA.of_ints (ns : List Int) : RpA K F (ns.map V.int) (ns.map PyData.int) := by
  induction ns with
  | nil => exact .nil
  | cons n ns ih => exact .cons (.int n) ih
theorem RpA.bools {vs : List V} {ns : List Bool} (h : RpA K F vs (ns.map PyData.bool)) : vs = ns.map V.bl := by
  induction ns generalizing vs with
  | nil => cases h; rfl
  | cons n ns ih => cases h with | cons h r => cases h; rw [ih r]; rfl
theorem RpA.strs {vs : List V} {ns : List Str} (h : RpA K F vs (ns.map PyData.str)) : vs = ns.map V.str := by
  induction ns generalizing vs with
  | nil => cases h; rfl
  | cons n ns ih => cases h with | cons h r => cases h; rw [ih r]; rfl
theorem RpA.of_strs (ns : List Str) : RpA K F (ns.map V.str) (ns.map PyData.str) := by
  induction ns with
  | nil => exact .nil
  | cons n ns ih => exact .cons (.str n) ih
end

/-- the root stands in G, its items in F -/
inductive Rt (K : PySem.W.Frag) (F G : Hp) : Addr → D → Prop
  | lst {a : Addr} {xs : List V} {ds : List D} : G a = some (.lst xs) → RpA K F xs ds → Rt K F G a (.list ds)
  | dic {a : Addr} {kvs : List (Key × V)} {es : List (D × D)} : G a = some (.dK kvs) → RpK K F kvs es → Rt K F G a (.dict es)
  | dct {a : Addr} {kvs : List (List Key × V)} {es : List (D × D)} : G a = some (.dT kvs) → RpT K F kvs es → Rt K F G a (.dict (tmark :: es))
section
variable {K : PySem.W.Frag} {F F' G G' : Hp}
theorem Rt.mono {a : Addr} {d : D} (e : Same F F') (e' : ∀ o, G a = some o → G' a = some o) (h : Rt K F G a d) : Rt K F' G' a d := by
  cases h with
  | lst h r => exact .lst (e' _ h) (r.mono e)
  | dic h r => exact .dic (e' _ h) (r.mono e)
  | dct h r => exact .dct (e' _ h) (r.mono e)
theorem Rt.there {a : Addr} {d : D} (h : Rt K F G a d) : ∃ o, G a = some o := by
  cases h with
  | lst h r => exact ⟨_, h⟩
  | dic h r => exact ⟨_, h⟩
  | dct h r => exact ⟨_, h⟩
theorem Rt.rp {a : Addr} {d : D} (e : Same F F') (e' : ∀ o, G a = some o → F' a = some o) (h : Rt K F G a d) : Rp K F' (.ref a) d := by
  cases h with
  | lst h r => exact .lst (e' _ h) (r.mono e)
  | dic h r => exact .dic (e' _ h) (r.mono e)
  | dct h r => exact .dct (e' _ h) (r.mono e)
end
/-- what may be read now -/
def RN (K : PySem.W.Frag) (F H : Hp) (v : V) (d : D) : Prop := Rp K F v d ∨ ∃ a, v = .ref a ∧ Rt K F H a d
section
variable {K : PySem.W.Frag} {F H : Hp} {v : V}
theorem RN.int {i : Int} (h : RN K F H v (.int i)) : v = .int i := by
  rcases h with h | ⟨a, _, h⟩ <;> cases h; rfl
theorem RN.bool {i : Bool} (h : RN K F H v (.bool i)) : v = .bl i := by
  rcases h with h | ⟨a, _, h⟩ <;> cases h; rfl
theorem RN.str {i : Str} (h : RN K F H v (.str i)) : v = .str i := by
  rcases h with h | ⟨a, _, h⟩ <;> cases h; rfl
theorem RN.non (h : RN K F H v .none) : v = .non := by
  rcases h with h | ⟨a, _, h⟩ <;> cases h; rfl
theorem RN.list {ds : List D} (e : Same F H) (h : RN K F H v (.list ds)) : ∃ a xs, v = .ref a ∧ H a = some (.lst xs) ∧ RpA K F xs ds := by
  rcases h with h | ⟨a, rfl, h⟩
  · cases h with | lst h r => exact ⟨_, _, rfl, e _ _ h, r⟩
  · cases h with | lst h r => exact ⟨_, _, rfl, h, r⟩
theorem RN.tuple {ds : List D} (e : Same F H) (h : RN K F H v (.tuple ds)) : ∃ a xs, v = .ref a ∧ SqT K H a xs ∧ RpA K F xs ds ∧ F a = some (.tup xs) := by
  rcases h with h | ⟨a, rfl, h⟩
  · cases h with | tup h r => exact ⟨_, _, rfl, .inl (.inl (e _ _ h)), r, h⟩
  · cases h
/-- a dict with tuples as keys -/
def isT : List (D × D) → Bool
  | (.none, .none) :: _ => true
  | _ => false
theorem RN.dict {ds : List (D × D)} (e : Same F H) (h : RN K F H v (.dict ds)) (n : isT ds = false) : ∃ a kvs, v = .ref a ∧ H a = some (.dK kvs) ∧ RpK K F kvs ds := by
  rcases h with h | ⟨a, rfl, h⟩
  · cases h with
    | dic h r => exact ⟨_, _, rfl, e _ _ h, r⟩
    | dct h r => cases n
  · cases h with
    | dic h r => exact ⟨_, _, rfl, h, r⟩
    | dct h r => cases n
theorem RpK.noT {kvs : List (Key × V)} {ds es : List (D × D)} (h : RpK K F kvs es) (e : es = tmark :: ds) : False := by
  cases h with
  | nil => cases e
  | @cons k v d vs ds h r =>
    have e1 : keyD k = PyData.none := by injection e with e1 _; injection e1
    cases k <;> cases e1
theorem RN.dictT {ds : List (D × D)} (e : Same F H) (h : RN K F H v (.dict (tmark :: ds))) : ∃ a kvs, v = .ref a ∧ H a = some (.dT kvs) ∧ RpT K F kvs ds := by
  rcases h with h | ⟨a, rfl, h⟩
  · cases h with
    | dic h r => exact (r.noT rfl).elim
    | dct h r => exact ⟨_, _, rfl, e _ _ h, r⟩
  · cases h with
    | dic h r => exact (r.noT rfl).elim
    | dct h r => exact ⟨_, _, rfl, h, r⟩
end
end DL

set_option Elab.async false
set_option linter.all false
set_option maxRecDepth 100000
set_option maxHeartbeats 4000000
namespace DL
open PySem L2

/-! ### the source of draws: a dict at p with its list at c -/
def srcKvs (c : Addr) (l m t : Int) (more : List (Key × V)) : List (Key × V) := (Sum.inr "cells", V.ref c) :: (Sum.inr "left", V.int l) :: (Sum.inr "mixed", V.int m) :: (Sum.inr "turn", V.int t) :: more
def SrcOk (H : Hp) (p c : Addr) : Prop := ∃ (ns : List Int) (l m t : Int) (more : List (Key × V)), H p = some (.dK (srcKvs c l m t more)) ∧
  H c = some (.lst (ns.map V.int)) ∧ (∀ n ∈ ns, 0 ≤ n) ∧ 0 ≤ l ∧ 0 ≤ m ∧ m < 2147483647 ∧ (more = [] ∨ ∃ r : Int, more = [((Sum.inr "room" : Key), V.int r)])

/-! ### a frame's state, as data -/
/-- what is passed by reference and changed: a list, a list of one's own lists, a dict of one's own lists -/
inductive MD where
  | fl (ds : List D) | ll (es : List (List D)) | dl (es : List (Key × List D))
inductive Sl where
  | sh (d : D) | bo (d : D) | ow (d : D) | src | scr | mu (m : MD)
abbrev Rho := List (Option Sl)
inductive Rv where
  | fz (d : D) | nw (d : D) | vr (i : Nat) | src | scr | mr (i : Nat) | mi (i k : Nat)
structure Fr where
  K : PySem.W.Frag
  H0 : Hp
  M0 : AP
  mt : AP
structure Gs where
  M : AP
  src : Option (Addr × Addr)
  T : List Addr
  fp : List Addr
def Wr (f : Fr) (a : Addr) : Prop := f.mt a ∨ f.H0 a = none
def NoS (src : Option (Addr × Addr)) (a : Addr) : Prop := ∀ p c, src = some (p, c) → a ≠ p ∧ a ≠ c
def NoSrc (g : Gs) (a : Addr) : Prop := NoS g.src a ∧ a ∉ g.fp
def RmA (K : PySem.W.Frag) (F H : Hp) (as : List Addr) (es : List (List D)) : Prop := as.length = es.length ∧ ∀ (k : Nat) (a : Addr) (ds : List D), as[k]? = some a → es[k]? = some ds → ∃ vs, H a = some (.lst vs) ∧ RpA K F vs ds
def Rm (K : PySem.W.Frag) (F H : Hp) (p : Addr) (as : List Addr) : MD → Prop
  | .fl ds => as = [] ∧ ∃ vs, H p = some (.lst vs) ∧ RpA K F vs ds
  | .ll es => H p = some (.lst (as.map V.ref)) ∧ RmA K F H as es
  | .dl es => H p = some (.dK ((es.map (·.1)).zip (as.map V.ref))) ∧ RmA K F H as (es.map (·.2))
theorem RmA.mono {K : PySem.W.Frag} {F F' H H' : Hp} {as : List Addr} {es : List (List D)} (e : Same F F') (e' : ∀ a ∈ as, ∀ o, H a = some o → H' a = some o) (h : RmA K F H as es) : RmA K F' H' as es :=
  ⟨h.1, fun k a ds h1 h2 => by
    obtain ⟨vs, h3, h4⟩ := h.2 k a ds h1 h2
    exact ⟨vs, e' a (List.mem_of_getElem? h1) _ h3, h4.mono e⟩⟩
theorem Rm.mono {K : PySem.W.Frag} {F F' H H' : Hp} {p : Addr} {as : List Addr} {m : MD} (e : Same F F') (e' : ∀ a ∈ p :: as, ∀ o, H a = some o → H' a = some o) (h : Rm K F H p as m) : Rm K F' H' p as m := by
  have e1 := e' p List.mem_cons_self
  have e2 : ∀ a ∈ as, ∀ o, H a = some o → H' a = some o := fun a h => e' a (List.mem_cons_of_mem _ h)
  cases m with
  | fl ds =>
    obtain ⟨h1, vs, h2, h3⟩ := h
    exact ⟨h1, vs, e1 _ h2, h3.mono e⟩
  | ll es => exact ⟨e1 _ h.1, h.2.mono e e2⟩
  | dl es => exact ⟨e1 _ h.1, h.2.mono e e2⟩
theorem Rm.there {K : PySem.W.Frag} {F H : Hp} {p : Addr} {as : List Addr} {m : MD} (h : Rm K F H p as m) : ∀ a ∈ p :: as, ∃ o, H a = some o := by
  have inn : ∀ {es : List (List D)}, RmA K F H as es → ∀ a ∈ as, ∃ o, H a = some o := fun h a ha => by
    obtain ⟨k, hk, e⟩ := List.getElem_of_mem ha
    have := h.2 k a _ (by rw [List.getElem?_eq_getElem hk, e]) (List.getElem?_eq_getElem (h.1 ▸ hk))
    obtain ⟨vs, h3, _⟩ := this
    exact ⟨_, h3⟩
  intro a ha
  rcases List.mem_cons.mp ha with rfl | ha
  · cases m with
    | fl ds => exact ⟨_, h.2.choose_spec.1⟩
    | ll es => exact ⟨_, h.1⟩
    | dl es => exact ⟨_, h.1⟩
  · cases m with
    | fl ds => rw [h.1] at ha; cases ha
    | ll es => exact inn h.2 a ha
    | dl es => exact inn h.2 a ha
def BoV (f : Fr) (F : Hp) (v : V) (d : D) : Prop := Rp f.K F v d ∨ ∃ a, v = .ref a ∧ Rt f.K F (Fz f.H0 f.mt) a d
/-- the script: read alone -/
def Scr (f : Fr) (v : V) : Prop := ∃ (a : Addr) (ns : List Int), v = .ref a ∧ SqL f.K (Fz f.H0 f.mt) a (ns.map V.int) ∧ ns.length ≤ 63
def SlR (f : Fr) (g : Gs) (H : Hp) (v : V) : Sl → Prop
  | .sh d => Rp f.K (Fz H g.M) v d
  | .bo d => BoV f (Fz H g.M) v d
  | .ow d => ∃ a, v = .ref a ∧ g.M a ∧ f.H0 a = none ∧ NoSrc g a ∧ Rt f.K (Fz H g.M) H a d
  | .src => ∃ p c, g.src = some (p, c) ∧ v = .ref p
  | .scr => Scr f v
  | .mu m => ∃ p as, g.fp = p :: as ∧ v = .ref p ∧ Rm f.K (Fz H g.M) H p as m
/-- what may be changed: a list or a dict -/
def MuO : Option HO → Prop
  | some (.lst _) => True
  | some (.dK _) => True
  | some (.dT _) => True
  | _ => False
theorem Rt.mu {K : PySem.W.Frag} {F G : Hp} {a : Addr} {d : D} (h : Rt K F G a d) : MuO (G a) := by
  cases h with
  | lst h _ => rw [h]; trivial
  | dic h _ => rw [h]; trivial
  | dct h _ => rw [h]; trivial
theorem SrcOk.mu {H : Hp} {p c : Addr} (h : SrcOk H p c) : MuO (H p) ∧ MuO (H c) := by
  obtain ⟨ns, l, m, t, more, h1, h2, _⟩ := h
  exact ⟨by rw [h1]; trivial, by rw [h2]; trivial⟩
structure Rel (f : Fr) (g : Gs) (σ : L2.St) (H : Hp) (ρ : Rho) : Prop where
  keep : ∀ a o, f.H0 a = some o → ¬ f.mt a → H a = some o
  dom : ∀ a, H a = none → f.H0 a = none
  m0 : ∀ a, f.M0 a → g.M a
  m00 : ∀ a, f.M0 a → f.H0 a ≠ none
  mU : ∀ a, g.M a → MuO (H a)
  src : ∀ p c, g.src = some (p, c) → p ≠ c ∧ g.M p ∧ g.M c ∧ Wr f p ∧ Wr f c ∧ SrcOk H p c
  len : ρ.length = σ.length
  slot : ∀ (i : Nat) (s : Sl), ρ[i]? = some (some s) → ∃ v, σ[i]? = some (some v) ∧ SlR f g H v s
  uq : ∀ (i j : Nat) (l : Addr) (d e : D), ρ[i]? = some (some (.ow d)) → ρ[j]? = some (some (.ow e)) → σ[i]? = some (some (.ref l)) → σ[j]? = some (some (.ref l)) → i = j
  tmp : ∀ a ∈ g.T, g.M a ∧ NoSrc g a ∧ ∀ (i : Nat) (e : D), ρ[i]? = some (some (.ow e)) → σ[i]? ≠ some (some (.ref a))
  fpM : ∀ a ∈ g.fp, g.M a ∧ Wr f a ∧ NoS g.src a
  fpn : g.fp.Nodup
  mq : ∀ (i j : Nat) (d e : MD), ρ[i]? = some (some (.mu d)) → ρ[j]? = some (some (.mu e)) → i = j
def isRoot : Sl → Prop
  | .sh _ => True
  | .bo _ => True
  | .ow _ => True
  | .src => False
  | .scr => False
  | .mu _ => False
def VR (f : Fr) (g : Gs) (σ : L2.St) (H : Hp) (ρ : Rho) (v : V) : Rv → Prop
  | .fz d => Rp f.K (Fz H g.M) v d
  | .nw d => ∃ a, v = .ref a ∧ g.M a ∧ f.H0 a = none ∧ NoSrc g a ∧ Rt f.K (Fz H g.M) H a d ∧ a ∉ g.T ∧ ∀ (i : Nat) (e : D), ρ[i]? = some (some (.ow e)) → σ[i]? ≠ some (some (.ref a))
  | .vr i => ∃ s, ρ[i]? = some (some s) ∧ isRoot s ∧ σ[i]? = some (some v)
  | .src => ∃ p c, g.src = some (p, c) ∧ v = .ref p
  | .scr => Scr f v
  | .mr i => ∃ m, ρ[i]? = some (some (.mu m)) ∧ σ[i]? = some (some v)
  | .mi i k => ∃ m p as a, ρ[i]? = some (some (.mu m)) ∧ g.fp = p :: as ∧ as[k]? = some a ∧ v = .ref a
/-- what a step leaves: frozen things stay, the source stays -/
structure Gro (g : Gs) (H : Hp) (g' : Gs) (H' : Hp) : Prop where
  fz : Same (Fz H g.M) (Fz H' g'.M)
  src : ∀ pc, g.src = some pc → g'.src = some pc
  tm : g'.T = g.T
  th : ∀ a ∈ g.T, H' a = H a
  fp : g'.fp = g.fp
theorem Gro.refl {g : Gs} {H : Hp} : Gro g H g H := ⟨Same.refl _, fun _ h => h, rfl, fun _ _ => rfl, rfl⟩
theorem Gro.trans {g g1 g2 : Gs} {H H1 H2 : Hp} (a : Gro g H g1 H1) (b : Gro g1 H1 g2 H2) : Gro g H g2 H2 := ⟨a.fz.trans b.fz, fun pc h => b.src pc (a.src pc h), b.tm.trans a.tm, fun x h => (b.th x (a.tm ▸ h)).trans (a.th x h), b.fp.trans a.fp⟩

section
variable {f : Fr} {g : Gs} {σ : L2.St} {H H' : Hp} {ρ : Rho} {v : V} {d : D} {p : Addr} {o : HO}
theorem Rel.mH (R : Rel f g σ H ρ) (a : Addr) (e : H a = none) : ¬ g.M a := fun m => by
  have := R.mU a m
  rw [e] at this
  exact this
/-- .. is kept by a step that keeps all but the source -/
theorem Rel.mu_step (R : Rel f g σ H ρ) (hk : ∀ a o, H a = some o → (∀ p c, g.src = some (p, c) → a ≠ p ∧ a ≠ c) → H' a = some o) (hsrc : ∀ p c, g.src = some (p, c) → SrcOk H' p c) : ∀ a, g.M a → MuO (H' a) := by
  intro a m
  by_cases q : ∃ p c, g.src = some (p, c) ∧ (a = p ∨ a = c)
  · obtain ⟨p, c, e, q⟩ := q
    rcases q with rfl | rfl
    · exact (hsrc _ _ e).mu.1
    · exact (hsrc _ _ e).mu.2
  · have h := R.mU a m
    cases e : H a with
    | none => rw [e] at h; exact h.elim
    | some o =>
      rw [hk a o e fun p c hp => ⟨fun z => q ⟨p, c, hp, .inl z⟩, fun z => q ⟨p, c, hp, .inr z⟩⟩, ← e]
      exact h
theorem SlR.boV (R : Rel f g σ H ρ) (h : BoV f (Fz H g.M) v d) : RN f.K (Fz H g.M) H v d := by
  rcases h with h | ⟨a, e, h⟩
  · exact .inl h
  · exact .inr ⟨a, e, h.mono (Same.refl _) fun o e => R.keep a o (of_fz e).1 (of_fz e).2⟩
theorem SlR.rn (R : Rel f g σ H ρ) {s : Sl} (h : SlR f g H v s) : (∀ d, s = .sh d ∨ s = .bo d ∨ s = .ow d → RN f.K (Fz H g.M) H v d) := by
  rintro d (rfl | rfl | rfl)
  · exact .inl h
  · exact SlR.boV R h
  · obtain ⟨a, e, _, _, _, r⟩ := h
    exact .inr ⟨a, e, r⟩
theorem BoV.mono {F F' : Hp} (e : Same F F') (h : BoV f F v d) : BoV f F' v d := by
  rcases h with h | ⟨a, e1, h⟩
  · exact .inl (h.mono e)
  · exact .inr ⟨a, e1, h.mono e fun _ h => h⟩

/-- a heap that keeps all but the source's cells, the mutable things the same -/
theorem Rel.step {g' : Gs} (R : Rel f g σ H ρ) (hM : ∀ a, g.M a ↔ g'.M a) (hs : g'.src = g.src) (hT : g'.T = g.T)
    (hk : ∀ a o, H a = some o → (∀ p c, g.src = some (p, c) → a ≠ p ∧ a ≠ c) → H' a = some o) (hd : ∀ a, H' a = none → H a = none)
    (hsrc : ∀ p c, g.src = some (p, c) → SrcOk H' p c) (hf : g'.fp = g.fp := by rfl) : Rel f g' σ H' ρ ∧ Gro g H g' H' := by
  have hG : Gro g H g' H' := by
    refine ⟨fz_mono fun a o e n => ⟨hk a o e fun p c hp => ⟨fun q => n (q ▸ (R.src p c hp).2.1), fun q => n (q ▸ (R.src p c hp).2.2.1)⟩, fun z => n ((hM a).2 z)⟩, fun pc h => hs.trans h, hT, fun a h => ?_, hf⟩
    have hn := R.tmp a h
    cases e : H a with
    | none => exact absurd hn.1 (R.mH a e)
    | some o => exact hk a o e fun p c hp => hn.2.1.1 p c hp
  refine ⟨⟨fun a o e n => hk a o (R.keep a o e n) fun p c hp => ⟨?_, ?_⟩, fun a e => R.dom a (hd a e), fun a m => (hM a).1 (R.m0 a m), R.m00, fun a m => R.mu_step hk hsrc a ((hM a).2 m), fun p c hp => ?_, R.len, fun i s e => ?_, R.uq, fun a h => ?_, fun a h => ?_, by rw [hf]; exact R.fpn, R.mq⟩, hG⟩
  · rintro rfl
    rcases (R.src a c hp).2.2.2.1 with z | z
    · exact n z
    · rw [e] at z; cases z
  · rintro rfl
    rcases (R.src p a hp).2.2.2.2.1 with z | z
    · exact n z
    · rw [e] at z; cases z
  · rw [hs] at hp
    obtain ⟨h1, h2, h3, h4, h5, h6⟩ := R.src p c hp
    exact ⟨h1, (hM _).1 h2, (hM _).1 h3, h4, h5, hsrc p c hp⟩
  · obtain ⟨v, e1, h⟩ := R.slot i s e
    refine ⟨v, e1, ?_⟩
    cases s with
    | sh d => exact Rp.mono hG.fz h
    | bo d => exact BoV.mono hG.fz h
    | ow d =>
      obtain ⟨a, e2, m, h0, ns, r⟩ := h
      exact ⟨a, e2, (hM a).1 m, h0, ⟨fun p c hp => ns.1 p c (hs ▸ hp), by rw [hf]; exact ns.2⟩, r.mono hG.fz fun o e => hk a o e fun p c hp => ns.1 p c hp⟩
    | src =>
      obtain ⟨p, c, e2, e3⟩ := h
      exact ⟨p, c, hs.trans e2, e3⟩
    | scr => exact h
    | mu m =>
      obtain ⟨p, as, e2, e3, h⟩ := h
      exact ⟨p, as, hf.trans e2, e3, h.mono hG.fz fun a ha o e => hk a o e ((R.fpM a (e2 ▸ ha)).2.2)⟩
  · rw [hT] at h
    obtain ⟨h1, h2, h3⟩ := R.tmp a h
    exact ⟨(hM a).1 h1, ⟨fun p c hp => h2.1 p c (hs ▸ hp), by rw [hf]; exact h2.2⟩, h3⟩
  · rw [hf] at h
    obtain ⟨h1, h2, h3⟩ := R.fpM a h
    exact ⟨(hM a).1 h1, h2, fun p c hp => h3 p c (hs ▸ hp)⟩
theorem VR.step {g' : Gs} {r : Rv} (hM : ∀ a, g.M a ↔ g'.M a) (hs : g'.src = g.src) (hT : g'.T = g.T)
    (hk : ∀ a o, H a = some o → (∀ p c, g.src = some (p, c) → a ≠ p ∧ a ≠ c) → H' a = some o) (G : Gro g H g' H') (h : VR f g σ H ρ v r) : VR f g' σ H' ρ v r := by
  cases r with
  | fz d => exact Rp.mono G.fz h
  | nw d =>
    obtain ⟨a, e2, m, h0, ns, r, t, u⟩ := h
    exact ⟨a, e2, (hM a).1 m, h0, ⟨fun p c hp => ns.1 p c (hs ▸ hp), by rw [G.fp]; exact ns.2⟩, r.mono G.fz fun o e => hk a o e fun p c hp => ns.1 p c hp, by rw [hT]; exact t, u⟩
  | vr i => exact h
  | src =>
    obtain ⟨p, c, e2, e3⟩ := h
    exact ⟨p, c, hs.trans e2, e3⟩
  | scr => exact h
  | mr i => exact h
  | mi i k =>
    obtain ⟨m, p, as, a, h1, h2, h3, h4⟩ := h
    exact ⟨m, p, as, a, h1, G.fp.trans h2, h3, h4⟩
theorem srcOk_upd {p c a : Addr} {o : HO} (h : SrcOk H p c) (h1 : p ≠ a) (h2 : c ≠ a) : SrcOk (upd H a o) p c := by
  obtain ⟨ns, l, m, t, more, e1, e2, r⟩ := h
  exact ⟨ns, l, m, t, more, by rw [upd_ne h1]; exact e1, by rw [upd_ne h2]; exact e2, r⟩
/-- a new frozen thing -/
theorem Rel.new (R : Rel f g σ H ρ) (hp : H p = none) : Rel f g σ (upd H p o) ρ ∧ Gro g H g (upd H p o) ∧ Fz (upd H p o) g.M p = some o := by
  have hk : ∀ a u, H a = some u → upd H p o a = some u := fun a u e => by rw [upd_ne (ne_of_none e hp)]; exact e
  obtain ⟨a, b⟩ := R.step (g' := g) (H' := upd H p o) (fun _ => Iff.rfl) rfl rfl (fun a o e _ => hk a o e) (fun a e => by
    by_cases q : a = p
    · rw [q]; exact hp
    · rw [upd_ne q] at e; exact e) (fun q c e => by
    obtain ⟨_, h2, h3, _, _, h6⟩ := R.src q c e
    exact srcOk_upd h6 (fun z => R.mH _ hp (z ▸ h2)) fun z => R.mH _ hp (z ▸ h3))
  exact ⟨a, b, fz_of upd_same (R.mH p hp)⟩
def Gs.add (g : Gs) (p : Addr) : Gs := ⟨fun a => g.M a ∨ a = p, g.src, g.T, g.fp⟩
def Gs.del (g : Gs) (p : Addr) : Gs := ⟨fun a => g.M a ∧ a ≠ p, g.src, g.T, g.fp⟩
/-- a new thing of one's own -/
theorem Rel.own (R : Rel f g σ H ρ) (hp : H p = none) (hr : Rt f.K (Fz H g.M) (upd H p o) p d) : Rel f (g.add p) σ (upd H p o) ρ ∧ Gro g H (g.add p) (upd H p o) ∧ VR f (g.add p) σ (upd H p o) ρ (.ref p) (.nw d) := by
  have hk : ∀ a u, H a = some u → upd H p o a = some u := fun a u e => by rw [upd_ne (ne_of_none e hp)]; exact e
  have hG : Same (Fz H g.M) (Fz (upd H p o) (g.add p).M) := fz_mono fun a u e n => ⟨hk a u e, fun z => z.elim n fun q => by rw [q, hp] at e; cases e⟩
  have hns : NoSrc g p := ⟨fun q c e => ⟨fun z => R.mH p hp (by rw [z]; exact (R.src q c e).2.1), fun z => R.mH p hp (by rw [z]; exact (R.src q c e).2.2.1)⟩, fun z => R.mH p hp (R.fpM p z).1⟩
  have hd : ∀ a, upd H p o a = none → H a = none := fun a e => by
    by_cases q : a = p
    · rw [q]; exact hp
    · rw [upd_ne q] at e; exact e
  refine ⟨⟨fun a u e n => hk a u (R.keep a u e n), fun a e => R.dom a (hd a e), fun a m => .inl (R.m0 a m), R.m00, fun a m => ?_, fun q c e => ?_, R.len, fun i s e => ?_, R.uq, fun a h => ⟨.inl (R.tmp a h).1, (R.tmp a h).2⟩, fun a h => ⟨.inl (R.fpM a h).1, (R.fpM a h).2⟩, R.fpn, R.mq⟩, ⟨hG, fun _ h => h, rfl, fun a h => upd_ne fun q => R.mH p hp (q ▸ (R.tmp a h).1), rfl⟩, p, rfl, .inr rfl, R.dom p hp, hns, hr.mono hG fun _ h => h, fun h => R.mH p hp (R.tmp p h).1, fun i e h1 h2 => ?_⟩
  · rcases m with m | m
    · rw [upd_ne (fun q => R.mH p hp (by rw [← q]; exact m))]; exact R.mU a m
    · rw [m]; exact hr.mu
  · obtain ⟨h1, h2, h3, h4, h5, h6⟩ := R.src q c e
    exact ⟨h1, .inl h2, .inl h3, h4, h5, srcOk_upd h6 (fun z => R.mH _ hp (z ▸ h2)) fun z => R.mH _ hp (z ▸ h3)⟩
  · obtain ⟨v, e1, h⟩ := R.slot i s e
    refine ⟨v, e1, ?_⟩
    cases s with
    | sh d => exact Rp.mono hG h
    | bo d => exact BoV.mono hG h
    | ow d =>
      obtain ⟨a, e2, m, h0, ns, r⟩ := h
      exact ⟨a, e2, .inl m, h0, ns, r.mono hG fun o e => hk a o e⟩
    | src => exact h
    | scr => exact h
    | mu m =>
      obtain ⟨q, as, e2, e3, h⟩ := h
      exact ⟨q, as, e2, e3, h.mono hG fun a _ o e => hk a o e⟩
  · obtain ⟨v, e1, a, e2, m, h0, ns, r⟩ := R.slot i _ h1
    rw [e1] at h2
    cases h2
    cases e2
    obtain ⟨o', e3⟩ := r.there
    rw [hp] at e3; cases e3
/-- what was one's own is frozen -/
theorem Rel.freeze {a : Addr} (R : Rel f g σ H ρ) (h0 : f.H0 a = none) (ns : NoSrc g a) (ht : a ∉ g.T) (u : ∀ (i : Nat) (e : D), ρ[i]? = some (some (.ow e)) → σ[i]? ≠ some (some (.ref a))) :
    Rel f (g.del a) σ H ρ ∧ Gro g H (g.del a) H := by
  have hG : Same (Fz H g.M) (Fz H (g.del a).M) := fz_mono fun b o e n => ⟨e, fun z => n z.1⟩
  refine ⟨⟨R.keep, R.dom, fun b m => ⟨R.m0 b m, fun q => R.m00 b m (q ▸ h0)⟩, R.m00, fun b m => R.mU b m.1, fun p c e => ?_, R.len, fun i s e => ?_, R.uq, fun b h => ⟨⟨(R.tmp b h).1, fun q => ht (q ▸ h)⟩, (R.tmp b h).2⟩, fun b h => ⟨⟨(R.fpM b h).1, fun q => ns.2 (q ▸ h)⟩, (R.fpM b h).2⟩, R.fpn, R.mq⟩, ⟨hG, fun _ h => h, rfl, fun _ _ => rfl, rfl⟩⟩
  · obtain ⟨h1, h2, h3, h4, h5, h6⟩ := R.src p c e
    exact ⟨h1, ⟨h2, (ns.1 p c e).1.symm⟩, ⟨h3, (ns.1 p c e).2.symm⟩, h4, h5, h6⟩
  · obtain ⟨v, e1, h⟩ := R.slot i s e
    refine ⟨v, e1, ?_⟩
    cases s with
    | sh d => exact Rp.mono hG h
    | bo d => exact BoV.mono hG h
    | ow d =>
      obtain ⟨b, e2, m, h0, ns, r⟩ := h
      refine ⟨b, e2, ⟨m, fun q => u i d e ?_⟩, h0, ns, r.mono hG fun o e => e⟩
      rw [e1, e2, q]
    | src => exact h
    | scr => exact h
    | mu m =>
      obtain ⟨q, as, e2, e3, h⟩ := h
      exact ⟨q, as, e2, e3, h.mono hG fun a _ o e => e⟩
end
end DL

set_option Elab.async false
set_option linter.all false
set_option maxRecDepth 100000
set_option maxHeartbeats 4000000
namespace DL
open PySem L2

/-! ### operands -/
def slD : Option (Option Sl) → Option D
  | some (some (.sh d)) => some d
  | some (some (.bo d)) => some d
  | some (some (.ow d)) => some d
  | _ => none
def mrD : Option (Option Sl) → Option D
  | some (some (.mu (.fl ds))) => some (.list ds)
  | _ => none
def miD (k : Nat) : Option (Option Sl) → Option D
  | some (some (.mu (.ll es))) => es[k]?.map .list
  | some (some (.mu (.dl es))) => es[k]?.map fun e => .list e.2
  | _ => none
def res (ρ : Rho) : Rv → Option D
  | .fz d => some d
  | .nw d => some d
  | .vr i => slD ρ[i]?
  | .src => none
  | .scr => none
  | .mr i => mrD ρ[i]?
  | .mi i k => miD k ρ[i]?
def Opd (f : Fr) (g : Gs) (σ : L2.St) (H : Hp) (v : V) : Rv → Prop
  | .fz d => Rp f.K (Fz H g.M) v d
  | .nw d => Rp f.K (Fz H g.M) v d
  | .vr i => σ[i]? = some (some v)
  | .src => ∃ p c, g.src = some (p, c) ∧ v = .ref p
  | .scr => Scr f v
  | .mr i => σ[i]? = some (some v)
  | .mi _ k => ∃ p as a, g.fp = p :: as ∧ as[k]? = some a ∧ v = .ref a
section
variable {f : Fr} {g g' : Gs} {σ : L2.St} {H H' : Hp} {ρ ρ' : Rho} {v u : V} {d x y : D} {p : Addr} {o : HO} {r : Rv}
theorem Opd.mono (G : Gro g H g' H') (h : Opd f g σ H v r) : Opd f g' σ H' v r := by
  cases r with
  | fz d => exact Rp.mono G.fz h
  | nw d => exact Rp.mono G.fz h
  | vr i => exact h
  | src => obtain ⟨p, c, e1, e2⟩ := h; exact ⟨p, c, G.src _ e1, e2⟩
  | scr => exact h
  | mr i => exact h
  | mi i k =>
    obtain ⟨p, as, a, h2, h3, h4⟩ := h
    exact ⟨p, as, a, G.fp.trans h2, h3, h4⟩
theorem mq_set {i : Nat} {o : Option Sl} (h : ∀ (i j : Nat) (d e : MD), ρ[i]? = some (some (.mu d)) → ρ[j]? = some (some (.mu e)) → i = j) (hn : ∀ m, o ≠ some (.mu m)) :
    ∀ (k j : Nat) (d e : MD), (ρ.set i o)[k]? = some (some (.mu d)) → (ρ.set i o)[j]? = some (some (.mu e)) → k = j := by
  have key : ∀ (k : Nat) (d : MD), (ρ.set i o)[k]? = some (some (.mu d)) → ρ[k]? = some (some (.mu d)) := fun k d q => by
    by_cases e : i = k
    · subst e
      by_cases hl : i < ρ.length
      · rw [List.getElem?_set_self hl] at q
        exact absurd (Option.some.inj q) (hn d)
      · rw [List.getElem?_eq_none (by simpa using hl)] at q; cases q
    · rw [List.getElem?_set_ne e] at q; exact q
  exact fun k j d e h1 h2 => h k j d e (key k d h1) (key j e h2)
/-- an inner list, where it stands -/
theorem Rel.inner (R : Rel f g σ H ρ) {i k : Nat} {d : D} {m : MD} {q : Addr} {as : List Addr} {a : Addr} (hs : ρ[i]? = some (some (.mu m))) (hf : g.fp = q :: as) (ha : as[k]? = some a) (hd : miD k (some (some (.mu m))) = some d) :
    ∃ ds vs, d = .list ds ∧ H a = some (.lst vs) ∧ RpA f.K (Fz H g.M) vs ds := by
  obtain ⟨w, _, q', as', e2, _, h⟩ := R.slot i _ hs
  rw [hf] at e2; cases e2
  cases m with
  | fl ds => cases hd
  | ll es =>
    simp only [miD] at hd
    obtain ⟨ds, e1, rfl⟩ := Option.map_eq_some_iff.mp hd
    obtain ⟨vs, h1, h2⟩ := h.2.2 k a ds ha e1
    exact ⟨ds, vs, rfl, h1, h2⟩
  | dl es =>
    simp only [miD] at hd
    obtain ⟨x, e1, rfl⟩ := Option.map_eq_some_iff.mp hd
    obtain ⟨vs, h1, h2⟩ := h.2.2 k a x.2 ha (by rw [List.getElem?_map, e1]; rfl)
    exact ⟨x.2, vs, rfl, h1, h2⟩
theorem Rel.flat (R : Rel f g σ H ρ) {i : Nat} {ds : List D} (hs : ρ[i]? = some (some (.mu (.fl ds)))) : ∃ p vs, g.fp = [p] ∧ σ[i]? = some (some (.ref p)) ∧ H p = some (.lst vs) ∧ RpA f.K (Fz H g.M) vs ds := by
  obtain ⟨w, e1, p, as, e2, rfl, rfl, vs, h1, h2⟩ := R.slot i _ hs
  exact ⟨p, vs, e2, e1, h1, h2⟩
theorem Opd.rn (R : Rel f g σ H ρ) (h : Opd f g σ H v r) (e : res ρ r = some d) : RN f.K (Fz H g.M) H v d := by
  cases r with
  | fz x => cases e; exact .inl h
  | nw x => cases e; exact .inl h
  | vr i =>
    have e : slD ρ[i]? = some d := e
    unfold slD at e
    split at e
    · rename_i x e1
      cases e
      obtain ⟨w, e2, q⟩ := R.slot i _ e1
      have h' : σ[i]? = some (some v) := h
      rw [h'] at e2; cases e2
      exact SlR.rn R q d (.inl rfl)
    · rename_i x e1
      cases e
      obtain ⟨w, e2, q⟩ := R.slot i _ e1
      have h' : σ[i]? = some (some v) := h
      rw [h'] at e2; cases e2
      exact SlR.rn R q d (.inr (.inl rfl))
    · rename_i x e1
      cases e
      obtain ⟨w, e2, q⟩ := R.slot i _ e1
      have h' : σ[i]? = some (some v) := h
      rw [h'] at e2; cases e2
      exact SlR.rn R q d (.inr (.inr rfl))
    · cases e
  | src => cases e
  | scr => cases e
  | mr i =>
    have e : mrD ρ[i]? = some d := e
    unfold mrD at e
    split at e
    · rename_i ds e1
      cases e
      obtain ⟨q, vs, _, e2, h1, h2⟩ := R.flat e1
      have h' : σ[i]? = some (some v) := h
      rw [h'] at e2; cases e2
      exact .inr ⟨q, rfl, .lst h1 h2⟩
    · cases e
  | mi i k =>
    have e : miD k ρ[i]? = some d := e
    obtain ⟨q, as, a, h2, h3, rfl⟩ := h
    cases hs : ρ[i]? with
    | none => rw [hs] at e; cases e
    | some o => cases o with
      | none => rw [hs] at e; cases e
      | some s => cases s with
        | mu m =>
          rw [hs] at e
          obtain ⟨ds, vs, rfl, h4, h5⟩ := R.inner hs h2 h3 e
          exact .inr ⟨a, rfl, .lst h4 h5⟩
        | _ => rw [hs] at e; cases e
/-- the result of an expression as an operand: what is new is frozen -/
theorem VR.opd (R : Rel f g σ H ρ) (h : VR f g σ H ρ v r) : ∃ g', Rel f g' σ H ρ ∧ Gro g H g' H ∧ Opd f g' σ H v r := by
  cases r with
  | fz d => exact ⟨g, R, Gro.refl, h⟩
  | nw d =>
    obtain ⟨a, rfl, m, h0, ns, r, t, u⟩ := h
    obtain ⟨R', G⟩ := R.freeze h0 ns t u
    exact ⟨g.del a, R', G, r.rp G.fz fun o e => fz_of e fun z => z.2 rfl⟩
  | vr i =>
    obtain ⟨s, _, _, e⟩ := h
    exact ⟨g, R, Gro.refl, e⟩
  | src => exact ⟨g, R, Gro.refl, h⟩
  | scr => exact ⟨g, R, Gro.refl, h⟩
  | mr i =>
    obtain ⟨_, _, e⟩ := h
    exact ⟨g, R, Gro.refl, e⟩
  | mi i k =>
    obtain ⟨_, p, as, a, _, e⟩ := h
    exact ⟨g, R, Gro.refl, p, as, a, e⟩
/-- an operand that is stored elsewhere: frozen for good -/
def flatD : D → Bool
  | .list _ => false
  | .dict _ => false
  | _ => true
theorem BoV.flat {f : Fr} {F : Hp} {v : V} {d : D} (h : BoV f F v d) (hd : flatD d = true) : Rp f.K F v d := by
  rcases h with h | ⟨a, _, h⟩
  · exact h
  · cases h <;> cases hd
def frzV (ρ : Rho) (i : Nat) : Option (Option Sl) → Option (D × Rho)
  | some (some (.sh d)) => some (d, ρ)
  | some (some (.ow d)) => some (d, ρ.set i (some (.sh d)))
  | some (some (.bo d)) => if flatD d = true then some (d, ρ) else none
  | _ => none
def frz (ρ : Rho) : Rv → Option (D × Rho)
  | .fz d => some (d, ρ)
  | .nw d => some (d, ρ)
  | .vr i => frzV ρ i ρ[i]?
  | .src => none
  | .scr => none
  | .mr _ => none
  | .mi _ _ => none
theorem getset {α : Type} {l : List α} {i j : Nat} {a x : α} (h : (l.set i a)[j]? = some x) : (i = j ∧ x = a) ∨ (i ≠ j ∧ l[j]? = some x) := by
  by_cases e : i = j
  · subst e
    by_cases hl : i < l.length
    · rw [List.getElem?_set_self hl] at h; cases h; exact .inl ⟨rfl, rfl⟩
    · rw [List.getElem?_eq_none (by simpa using hl)] at h; cases h
  · rw [List.getElem?_set_ne e] at h; exact .inr ⟨e, h⟩
/-- an own slot is frozen -/
theorem Rel.frzSlot {i : Nat} {a : Addr} (R : Rel f g σ H ρ) (hs : ρ[i]? = some (some (.ow d))) (hv : σ[i]? = some (some (.ref a))) :
    Rel f (g.del a) σ H (ρ.set i (some (.sh d))) ∧ Gro g H (g.del a) H ∧ Rp f.K (Fz H (g.del a).M) (.ref a) d := by
  obtain ⟨w, e1, b, e2, m, h0, ns, r⟩ := R.slot i _ hs
  rw [hv] at e1; cases e1; cases e2
  have hi : i < ρ.length := (List.getElem?_eq_some_iff.mp hs).1
  have R1 : Rel f g σ H (ρ.set i none) := ⟨R.keep, R.dom, R.m0, R.m00, R.mU, R.src, by rw [List.length_set]; exact R.len, fun j s e => by
      rcases getset e with ⟨_, q⟩ | ⟨_, q⟩
      · cases q
      · exact R.slot j s q, fun j k l d e h1 h2 h3 h4 => by
      rcases getset h1 with ⟨_, q⟩ | ⟨_, q⟩
      · cases q
      rcases getset h2 with ⟨_, q2⟩ | ⟨_, q2⟩
      · cases q2
      exact R.uq j k l d e q q2 h3 h4, fun b h => ⟨(R.tmp b h).1, (R.tmp b h).2.1, fun j e h1 => by
      rcases getset h1 with ⟨_, q⟩ | ⟨_, q⟩
      · cases q
      exact (R.tmp b h).2.2 j e q⟩, R.fpM, R.fpn, mq_set R.mq (fun _ z => nomatch z)⟩
  obtain ⟨R', G⟩ := R1.freeze (a := a) h0 ns (fun h => (R.tmp a h).2.2 i d hs hv) (fun j e h1 h2 => by
    rcases getset h1 with ⟨_, q⟩ | ⟨ne, q⟩
    · cases q
    exact ne (R.uq i j a d e hs q hv h2))
  have hr : Rp f.K (Fz H (g.del a).M) (.ref a) d := r.rp G.fz fun o e => fz_of e fun z => z.2 rfl
  refine ⟨⟨R'.keep, R'.dom, R'.m0, R'.m00, R'.mU, R'.src, by rw [List.length_set]; exact R.len, fun j s e => ?_, fun j k l d e h1 h2 h3 h4 => ?_, fun b h => ⟨(R'.tmp b h).1, (R'.tmp b h).2.1, fun j e h1 => ?_⟩, R'.fpM, R'.fpn, mq_set R.mq (fun _ z => nomatch z)⟩, G, hr⟩
  · rcases getset e with ⟨rfl, q⟩ | ⟨ne, q⟩
    · cases q; exact ⟨_, hv, hr⟩
    · exact R'.slot j s (by rw [List.getElem?_set_ne ne]; exact q)
  · rcases getset h1 with ⟨_, q⟩ | ⟨ne1, q⟩
    · cases q
    rcases getset h2 with ⟨_, q2⟩ | ⟨ne2, q2⟩
    · cases q2
    exact R.uq j k l d e q q2 h3 h4
  · rcases getset h1 with ⟨_, q⟩ | ⟨_, q⟩
    · cases q
    exact (R.tmp b h).2.2 j e q
theorem Opd.frzS (R : Rel f g σ H ρ) (h : Opd f g σ H v r) (e : frz ρ r = some (d, ρ')) : ∃ g', Rel f g' σ H ρ' ∧ Gro g H g' H ∧ g'.src = g.src ∧ Rp f.K (Fz H g'.M) v d := by
  cases r with
  | fz x => cases e; exact ⟨g, R, Gro.refl, rfl, h⟩
  | nw x => cases e; exact ⟨g, R, Gro.refl, rfl, h⟩
  | vr i =>
    have e : frzV ρ i ρ[i]? = some (d, ρ') := e
    unfold frzV at e
    have h' : σ[i]? = some (some v) := h
    split at e
    · rename_i x e1
      cases e
      obtain ⟨w, e2, q⟩ := R.slot i _ e1
      rw [h'] at e2; cases e2
      exact ⟨g, R, Gro.refl, rfl, q⟩
    · rename_i x e1
      cases e
      obtain ⟨w, e2, b, e3, _⟩ := R.slot i _ e1
      rw [h'] at e2; cases e2; cases e3
      obtain ⟨a, b, c⟩ := R.frzSlot e1 h'
      exact ⟨_, a, b, rfl, c⟩
    · rename_i x e1
      split at e
      · rename_i hf
        cases e
        obtain ⟨w, e2, q⟩ := R.slot i _ e1
        rw [h'] at e2; cases e2
        exact ⟨g, R, Gro.refl, rfl, q.flat hf⟩
      · cases e
    · cases e
  | src => cases e
  | scr => cases e
  | mr _ => cases e
  | mi _ _ => cases e
theorem Opd.frz (R : Rel f g σ H ρ) (h : Opd f g σ H v r) (e : frz ρ r = some (d, ρ')) : ∃ g', Rel f g' σ H ρ' ∧ Gro g H g' H ∧ Rp f.K (Fz H g'.M) v d :=
  let ⟨g', a, b, _, c⟩ := Opd.frzS R h e
  ⟨g', a, b, c⟩
end

/-! ### expressions -/
abbrev DE := Rho → (Rv → Rho → Prop) → Prop
def LE (K : PySem.W.Frag) (t : TE) (d : DE) : Prop := ∀ (f : Fr) (g : Gs) (σ : L2.St) (H : Hp) (ρ : Rho) (Q : Rv → Rho → Prop) (R : V → Hp → Prop), f.K = K → Rel f g σ H ρ → d ρ Q →
  (∀ (v : V) (H' : Hp) (g' : Gs) (ρ' : Rho) (r : Rv), Rel f g' σ H' ρ' → Gro g H g' H' → VR f g' σ H' ρ' v r → Q r ρ' → R v H') → t σ H R
/-- as an operand -/
theorem LE.opd {K : PySem.W.Frag} {t : TE} {d : DE} (h : LE K t d) {f : Fr} {g : Gs} {σ : L2.St} {H : Hp} {ρ : Rho} {Q : Rv → Rho → Prop} {R : V → Hp → Prop} (hK : f.K = K) (hR : Rel f g σ H ρ) (hd : d ρ Q)
    (k : ∀ (v : V) (H' : Hp) (g' : Gs) (ρ' : Rho) (r : Rv), Rel f g' σ H' ρ' → Gro g H g' H' → Opd f g' σ H' v r → Q r ρ' → R v H') : t σ H R :=
  h f g σ H ρ Q R hK hR hd fun v H' g' ρ' r R' G' V' q => by
    obtain ⟨g2, R2, G2, O⟩ := V'.opd R'
    exact k v H' g2 ρ' r R2 (G'.trans G2) O q
def wD (o : Option D) (k : D → Prop) : Prop := match o with
  | some x => k x
  | none => False
theorem wD_some {o : Option D} {k : D → Prop} (h : wD o k) : ∃ x, o = some x ∧ k x := by
  cases o with
  | some x => exact ⟨x, rfl, h⟩
  | none => exact h.elim
def wF (o : Option (D × Rho)) (k : D → Rho → Prop) : Prop := match o with
  | some x => k x.1 x.2
  | none => False
theorem wF_some {o : Option (D × Rho)} {k : D → Rho → Prop} (h : wF o k) : ∃ x ρ, o = some (x, ρ) ∧ k x ρ := by
  cases o with
  | some x => exact ⟨x.1, x.2, rfl, h⟩
  | none => exact h.elim
def dVar (i : Nat) : DE := fun ρ Q => match ρ[i]? with
  | some (some (.sh d)) => Q (.fz d) ρ
  | some (some (.bo _)) => Q (.vr i) ρ
  | some (some (.ow _)) => Q (.vr i) ρ
  | some (some .src) => Q .src ρ
  | some (some .scr) => Q .scr ρ
  | some (some (.mu _)) => Q (.mr i) ρ
  | _ => False
theorem le_var {K : PySem.W.Frag} {i : Nat} : LE K (tVar i) (dVar i) := by
  intro f g σ H ρ Q R hK hR hd k
  unfold dVar at hd
  split at hd
  · rename_i d e
    obtain ⟨v, e1, q⟩ := hR.slot i _ e
    exact ⟨v, e1, k v H g ρ (.fz d) hR Gro.refl q hd⟩
  · rename_i d e
    obtain ⟨v, e1, q⟩ := hR.slot i _ e
    exact ⟨v, e1, k v H g ρ (.vr i) hR Gro.refl ⟨_, e, trivial, e1⟩ hd⟩
  · rename_i d e
    obtain ⟨v, e1, q⟩ := hR.slot i _ e
    exact ⟨v, e1, k v H g ρ (.vr i) hR Gro.refl ⟨_, e, trivial, e1⟩ hd⟩
  · rename_i e
    obtain ⟨v, e1, q⟩ := hR.slot i _ e
    exact ⟨v, e1, k v H g ρ .src hR Gro.refl q hd⟩
  · rename_i e
    obtain ⟨v, e1, q⟩ := hR.slot i _ e
    exact ⟨v, e1, k v H g ρ .scr hR Gro.refl q hd⟩
  · rename_i m e
    obtain ⟨v, e1, q⟩ := hR.slot i _ e
    exact ⟨v, e1, k v H g ρ (.mr i) hR Gro.refl ⟨m, e, e1⟩ hd⟩
  · exact hd.elim
def dC (d : D) : DE := fun ρ Q => Q (.fz d) ρ
theorem le_c {K : PySem.W.Frag} {v : V} {d : D} (h : ∀ F, Rp K F v d) : LE K (tC v) (dC d) := fun f g σ H ρ Q R hK hR hd k =>
  k v H g ρ _ hR Gro.refl (by rw [← hK] at h; exact h _) hd
theorem le_int {K : PySem.W.Frag} {i : Int} : LE K (tC (.int i)) (dC (.int i)) := le_c fun _ => .int i
theorem le_bl {K : PySem.W.Frag} {i : Bool} : LE K (tC (.bl i)) (dC (.bool i)) := le_c fun _ => .bl i
theorem le_str {K : PySem.W.Frag} {i : Str} : LE K (tC (.str i)) (dC (.str i)) := le_c fun _ => .str i
theorem le_non {K : PySem.W.Frag} : LE K (tC .non) (dC .none) := le_c fun _ => .non

/-- what an operation on read values asks and gives -/
abbrev F2 := D → D → (Rv → Prop) → Prop
def OpL (K : PySem.W.Frag) (r : R2) (F : F2) : Prop := ∀ (f : Fr) (g : Gs) (σ : L2.St) (H : Hp) (ρ : Rho) (v u : V) (x y : D) (Q : Rv → Prop) (R : V → Hp → Prop), f.K = K → Rel f g σ H ρ → RN K (Fz H g.M) H v x → RN K (Fz H g.M) H u y → F x y Q →
  (∀ (z : V) (H' : Hp) (g' : Gs) (r : Rv), Rel f g' σ H' ρ → Gro g H g' H' → VR f g' σ H' ρ z r → Q r → R z H') → r v u H R
def dOp (F : F2) (da db : DE) : DE := fun ρ Q => da ρ fun r1 ρ1 => db ρ1 fun r2 ρ2 => wD (res ρ2 r1) fun x => wD (res ρ2 r2) fun y => F x y fun r => Q r ρ2
theorem le_op {K : PySem.W.Frag} {ta tb : TE} {da db : DE} {r : R2} {F : F2} (ha : LE K ta da) (hb : LE K tb db) (ho : OpL K r F) : LE K (tOp r ta tb) (dOp F da db) := by
  intro f g σ H ρ Q R hK hR hd k
  refine ha.opd hK hR hd fun v H1 g1 ρ1 r1 R1 G1 O1 q1 => ?_
  refine hb.opd hK R1 q1 fun u H2 g2 ρ2 r2 R2 G2 O2 q2 => ?_
  obtain ⟨x, e1, q2⟩ := wD_some q2
  obtain ⟨y, e2, q2⟩ := wD_some q2
  subst hK
  exact ho f g2 σ H2 ρ2 v u x y _ R rfl R2 ((O1.mono G2).rn R2 e1) (O2.rn R2 e2) q2 fun z H3 g3 r R3 G3 V3 q3 => k z H3 g3 ρ2 r R3 ((G1.trans G2).trans G3) V3 q3
/-- an operation that gives a value and leaves the heap -/
def OpP (K : PySem.W.Frag) (r : R2) (F : F2) : Prop := ∀ (F0 H : Hp) (v u : V) (x y : D) (Q : Rv → Prop) (R : V → Hp → Prop), Same F0 H → RN K F0 H v x → RN K F0 H u y → F x y Q → (∀ z d, Rp K F0 z d → Q (.fz d) → R z H) → r v u H R
theorem OpP.l {K : PySem.W.Frag} {r : R2} {F : F2} (h : OpP K r F) : OpL K r F := fun f g σ H ρ v u x y Q R hK hR h1 h2 hF k =>
  h _ H v u x y Q R fz_sub h1 h2 hF fun z d hz q => k z H g (.fz d) hR Gro.refl (by subst hK; exact hz) q
theorem OpL.or1 {K : PySem.W.Frag} {r r' : R2} {F F' : F2} (h : OpL K r F) (h' : OpL K r' F') : OpL K (fun x y H Q => r x y H Q ∨ r' x y H Q) (fun x y Q => F x y Q ∨ F' x y Q) :=
  fun f g σ H ρ v u x y Q R hK hR h1 h2 hF k => hF.elim (fun z => .inl (h f g σ H ρ v u x y Q R hK hR h1 h2 z k)) fun z => .inr (h' f g σ H ρ v u x y Q R hK hR h1 h2 z k)
/-- .. by cases of what is read -/
theorem OpL.or {K : PySem.W.Frag} {r r' : R2} {F : F2} (h : ∀ f g σ H ρ v u x y Q R, f.K = K → Rel f g σ H ρ → RN K (Fz H g.M) H v x → RN K (Fz H g.M) H u y → F x y Q →
  (∀ (z : V) (H' : Hp) (g' : Gs) (r : Rv), Rel f g' σ H' ρ → Gro g H g' H' → VR f g' σ H' ρ z r → Q r → R z H') → r v u H R ∨ r' v u H R) : OpL K (fun x y H Q => r x y H Q ∨ r' x y H Q) F := h

/-! ### tests -/
abbrev DT := Rho → (Bool → Rho → Prop) → Prop
def LT (K : PySem.W.Frag) (t : TT) (d : DT) : Prop := ∀ (f : Fr) (g : Gs) (σ : L2.St) (H : Hp) (ρ : Rho) (Q : Bool → Rho → Prop) (R : Bool → Hp → Prop), f.K = K → Rel f g σ H ρ → d ρ Q →
  (∀ (b : Bool) (H' : Hp) (g' : Gs) (ρ' : Rho), Rel f g' σ H' ρ' → Gro g H g' H' → Q b ρ' → R b H') → t σ H R
def wB (o : Option D) (k : Bool → Prop) : Prop := match o with
  | some (.bool b) => k b
  | _ => False
theorem wB_some {o : Option D} {k : Bool → Prop} (h : wB o k) : ∃ b, o = some (.bool b) ∧ k b := by
  unfold wB at h
  split at h
  · exact ⟨_, rfl, h⟩
  · exact h.elim
def dTest (d : DE) : DT := fun ρ Q => d ρ fun r ρ1 => wB (res ρ1 r) fun b => Q b ρ1
section
variable {K : PySem.W.Frag} {ta tb : TE} {da db : DE} {t u : TT} {d e : DT}
theorem lt_B (h : LE K ta da) : LT K (tB ta) (dTest da) := by
  intro f g σ H ρ Q R hK hR hd k
  refine h.opd hK hR hd fun v H1 g1 ρ1 r1 R1 G1 O1 q1 => ?_
  obtain ⟨b, e1, q1⟩ := wB_some q1
  exact ⟨b, (O1.rn R1 e1).bool, k b H1 g1 ρ1 R1 G1 q1⟩
theorem lt_test (h : LE K ta da) : LT K (tTest ta) (dTest da) := lt_B h
/-- two ways, kept shut -/
@[irreducible] def useB (b : Bool) (A B : Prop) : Prop := if b = true then A else B
theorem useB_t {A B : Prop} (h : useB true A B) : A := by unfold useB at h; exact h
theorem useB_f {A B : Prop} (h : useB false A B) : B := by unfold useB at h; exact h
theorem useB_y {b : Bool} {A B : Prop} (h : b = true) (a : A) : useB b A B := by unfold useB; rw [if_pos h]; exact a
theorem useB_n {b : Bool} {A B : Prop} (h : b = false) (a : B) : useB b A B := by unfold useB; rw [h, if_neg Bool.false_ne_true]; exact a
theorem useB_b {b : Bool} {A B : Prop} (h1 : b = true → A) (h2 : b = false → B) : useB b A B := by
  cases b with
  | true => exact useB_y rfl (h1 rfl)
  | false => exact useB_n rfl (h2 rfl)
def dAnd (d e : DT) : DT := fun ρ Q => d ρ fun b ρ1 => useB b (e ρ1 Q) (Q false ρ1)
def dOr (d e : DT) : DT := fun ρ Q => d ρ fun b ρ1 => useB b (Q true ρ1) (e ρ1 Q)
def dNot (d : DT) : DT := fun ρ Q => d ρ fun b ρ1 => Q (!b) ρ1
theorem lt_and (h : LT K t d) (h' : LT K u e) : LT K (tAnd t u) (dAnd d e) := by
  intro f g σ H ρ Q R hK hR hd k
  refine h f g σ H ρ _ _ hK hR hd fun b H1 g1 ρ1 R1 G1 q1 => ?_
  cases b with
  | true => replace q1 := useB_t q1; exact h' f g1 σ H1 ρ1 Q R hK R1 q1 fun c H2 g2 ρ2 R2 G2 q2 => k c H2 g2 ρ2 R2 (G1.trans G2) q2
  | false => replace q1 := useB_f q1; exact k false H1 g1 ρ1 R1 G1 q1
theorem lt_or (h : LT K t d) (h' : LT K u e) : LT K (tOr t u) (dOr d e) := by
  intro f g σ H ρ Q R hK hR hd k
  refine h f g σ H ρ _ _ hK hR hd fun b H1 g1 ρ1 R1 G1 q1 => ?_
  cases b with
  | false => replace q1 := useB_f q1; exact h' f g1 σ H1 ρ1 Q R hK R1 q1 fun c H2 g2 ρ2 R2 G2 q2 => k c H2 g2 ρ2 R2 (G1.trans G2) q2
  | true => replace q1 := useB_t q1; exact k true H1 g1 ρ1 R1 G1 q1
theorem lt_not (h : LT K t d) : LT K (tNot t) (dNot d) := by
  intro f g σ H ρ Q R hK hR hd k
  exact h f g σ H ρ _ _ hK hR hd fun b H1 g1 ρ1 R1 G1 q1 => k (!b) H1 g1 ρ1 R1 G1 q1
/-- .. as values -/
def dAndV (da db : DE) : DE := fun ρ Q => da ρ fun r ρ1 => wB (res ρ1 r) fun b => useB b (db ρ1 Q) (Q (.fz (.bool false)) ρ1)
def dOrV (da db : DE) : DE := fun ρ Q => da ρ fun r ρ1 => wB (res ρ1 r) fun b => useB b (Q (.fz (.bool true)) ρ1) (db ρ1 Q)
def dNotV (da : DE) : DE := fun ρ Q => da ρ fun r ρ1 => wB (res ρ1 r) fun b => Q (.fz (.bool (!b))) ρ1
theorem le_andV (h : LE K ta da) (h' : LE K tb db) : LE K (tAndV ta tb) (dAndV da db) := by
  intro f g σ H ρ Q R hK hR hd k
  refine h.opd hK hR hd fun v H1 g1 ρ1 r1 R1 G1 O1 q1 => ?_
  obtain ⟨b, e1, q1⟩ := wB_some q1
  refine ⟨b, (O1.rn R1 e1).bool, ?_⟩
  cases b with
  | true => replace q1 := useB_t q1; exact h' f g1 σ H1 ρ1 Q R hK R1 q1 fun v H2 g2 ρ2 r2 R2 G2 V2 q2 => k v H2 g2 ρ2 r2 R2 (G1.trans G2) V2 q2
  | false => replace q1 := useB_f q1; exact k _ H1 g1 ρ1 (.fz (.bool false)) R1 G1 (Rp.bl false) q1
theorem le_orV (h : LE K ta da) (h' : LE K tb db) : LE K (tOrV ta tb) (dOrV da db) := by
  intro f g σ H ρ Q R hK hR hd k
  refine h.opd hK hR hd fun v H1 g1 ρ1 r1 R1 G1 O1 q1 => ?_
  obtain ⟨b, e1, q1⟩ := wB_some q1
  refine ⟨b, (O1.rn R1 e1).bool, ?_⟩
  cases b with
  | false => replace q1 := useB_f q1; exact h' f g1 σ H1 ρ1 Q R hK R1 q1 fun v H2 g2 ρ2 r2 R2 G2 V2 q2 => k v H2 g2 ρ2 r2 R2 (G1.trans G2) V2 q2
  | true => replace q1 := useB_t q1; exact k _ H1 g1 ρ1 (.fz (.bool true)) R1 G1 (Rp.bl true) q1
theorem le_notV (h : LE K ta da) : LE K (tNotV ta) (dNotV da) := by
  intro f g σ H ρ Q R hK hR hd k
  refine h.opd hK hR hd fun v H1 g1 ρ1 r1 R1 G1 O1 q1 => ?_
  obtain ⟨b, e1, q1⟩ := wB_some q1
  exact ⟨b, (O1.rn R1 e1).bool, k _ H1 g1 ρ1 (.fz (.bool (!b))) R1 G1 (Rp.bl _) q1⟩
def dIf (d : DT) (da db : DE) : DE := fun ρ Q => d ρ fun b ρ1 => useB b (da ρ1 Q) (db ρ1 Q)
theorem le_if (h : LT K t d) (h1 : LE K ta da) (h2 : LE K tb db) : LE K (tIf t ta tb) (dIf d da db) := by
  intro f g σ H ρ Q R hK hR hd k
  refine h f g σ H ρ _ _ hK hR hd fun b H1 g1 ρ1 R1 G1 q1 => ?_
  cases b with
  | true => replace q1 := useB_t q1; exact h1 f g1 σ H1 ρ1 Q R hK R1 q1 fun v H2 g2 ρ2 r2 R2 G2 V2 q2 => k v H2 g2 ρ2 r2 R2 (G1.trans G2) V2 q2
  | false => replace q1 := useB_f q1; exact h2 f g1 σ H1 ρ1 Q R hK R1 q1 fun v H2 g2 ρ2 r2 R2 G2 V2 q2 => k v H2 g2 ρ2 r2 R2 (G1.trans G2) V2 q2
/-- is None -/
def isNone : D → Bool
  | .none => true
  | _ => false
def dIsN (neg : Bool) (da : DE) : DE := fun ρ Q => da ρ fun r ρ1 => wD (res ρ1 r) fun x => Q (.fz (.bool (neg != isNone x))) ρ1
theorem rn_isN {F H : Hp} {v : V} {x : D} (h : RN K F H v x) : decide (v = .non) = isNone x := by
  rcases h with h | ⟨a, rfl, h⟩
  · cases h <;> rfl
  · cases h <;> rfl
theorem le_isN (h : LE K ta da) : LE K (tIsN ta) (dIsN false da) := by
  intro f g σ H ρ Q R hK hR hd k
  refine h.opd hK hR hd fun v H1 g1 ρ1 r1 R1 G1 O1 q1 => ?_
  obtain ⟨x, e1, q1⟩ := wD_some q1
  exact k _ H1 g1 ρ1 (.fz (.bool (isNone x))) R1 G1 (by rw [rn_isN (O1.rn R1 e1)]; exact Rp.bl _) (by simpa using q1)
theorem le_notN (h : LE K ta da) : LE K (tNotN ta) (dIsN true da) := by
  intro f g σ H ρ Q R hK hR hd k
  refine h.opd hK hR hd fun v H1 g1 ρ1 r1 R1 G1 O1 q1 => ?_
  obtain ⟨x, e1, q1⟩ := wD_some q1
  exact k _ H1 g1 ρ1 (.fz (.bool (!isNone x))) R1 G1 (by rw [rn_isN (O1.rn R1 e1)]; exact Rp.bl _) (by simpa using q1)
end

/-! ### argument lists -/
abbrev DA := Rho → (List Rv → Rho → Prop) → Prop
inductive OpdA (f : Fr) (g : Gs) (σ : L2.St) (H : Hp) : List V → List Rv → Prop
  | nil : OpdA f g σ H [] []
  | cons {v : V} {r : Rv} {vs : List V} {rs : List Rv} : Opd f g σ H v r → OpdA f g σ H vs rs → OpdA f g σ H (v :: vs) (r :: rs)
theorem OpdA.mono {f : Fr} {g g' : Gs} {σ : L2.St} {H H' : Hp} (G : Gro g H g' H') {vs : List V} {rs : List Rv} (h : OpdA f g σ H vs rs) : OpdA f g' σ H' vs rs := by
  induction h with
  | nil => exact .nil
  | cons h _ ih => exact .cons (h.mono G) ih
def LA (K : PySem.W.Frag) (t : TA) (d : DA) : Prop := ∀ (f : Fr) (g : Gs) (σ : L2.St) (H : Hp) (ρ : Rho) (Q : List Rv → Rho → Prop) (R : List V → Hp → Prop), f.K = K → Rel f g σ H ρ → d ρ Q →
  (∀ (vs : List V) (H' : Hp) (g' : Gs) (ρ' : Rho) (rs : List Rv), Rel f g' σ H' ρ' → Gro g H g' H' → OpdA f g' σ H' vs rs → Q rs ρ' → R vs H') → t σ H R
def dNil : DA := fun ρ Q => Q [] ρ
def dCons (da : DE) (dr : DA) : DA := fun ρ Q => da ρ fun r ρ1 => dr ρ1 fun rs ρ2 => Q (r :: rs) ρ2
section
variable {K : PySem.W.Frag} {ta : TE} {da : DE} {tr : TA} {dr : DA}
theorem la_nil : LA K tNil dNil := fun f g σ H ρ Q R hK hR hd k => k [] H g ρ [] hR Gro.refl .nil hd
theorem la_cons (h : LE K ta da) (h' : LA K tr dr) : LA K (tCons ta tr) (dCons da dr) := by
  intro f g σ H ρ Q R hK hR hd k
  refine h.opd hK hR hd fun v H1 g1 ρ1 r1 R1 G1 O1 q1 => ?_
  exact h' f g1 σ H1 ρ1 _ _ hK R1 q1 fun vs H2 g2 ρ2 rs R2 G2 O2 q2 => k _ H2 g2 ρ2 _ R2 (G1.trans G2) (.cons (O1.mono G2) O2) q2
/-- all frozen for good -/
def frzA (ρ : Rho) : List Rv → Option (List D × Rho)
  | [] => some ([], ρ)
  | r :: rs => match frz ρ r with
    | some (d, ρ1) => match frzA ρ1 rs with
      | some (ds, ρ2) => some (d :: ds, ρ2)
      | none => none
    | none => none
theorem OpdA.frz {f : Fr} {σ : L2.St} {H : Hp} : ∀ {rs : List Rv} {vs : List V} {g : Gs} {ρ ρ' : Rho} {ds : List D}, Rel f g σ H ρ → OpdA f g σ H vs rs → frzA ρ rs = some (ds, ρ') → ∃ g', Rel f g' σ H ρ' ∧ Gro g H g' H ∧ RpA f.K (Fz H g'.M) vs ds := by
  intro rs
  induction rs with
  | nil =>
    intro vs g ρ ρ' ds R h e
    cases h
    unfold frzA at e
    cases e
    exact ⟨g, R, Gro.refl, .nil⟩
  | cons r rs ih =>
    intro vs g ρ ρ' ds R h e
    cases h with
    | cons h hr =>
      unfold frzA at e
      split at e
      · rename_i d ρ1 e1
        split at e
        · rename_i ds ρ2 e2
          cases e
          obtain ⟨g1, R1, G1, q1⟩ := h.frz R e1
          obtain ⟨g2, R2, G2, q2⟩ := ih R1 (hr.mono G1) e2
          exact ⟨g2, R2, G1.trans G2, .cons (q1.mono G2.fz) q2⟩
        · cases e
      · cases e
def wFA (o : Option (List D × Rho)) (k : List D → Rho → Prop) : Prop := match o with
  | some x => k x.1 x.2
  | none => False
theorem wFA_some {o : Option (List D × Rho)} {k : List D → Rho → Prop} (h : wFA o k) : ∃ x ρ, o = some (x, ρ) ∧ k x ρ := by
  cases o with
  | some x => exact ⟨x.1, x.2, rfl, h⟩
  | none => exact h.elim
def dTup (da : DA) : DE := fun ρ Q => da ρ fun rs ρ1 => wFA (frzA ρ1 rs) fun ds ρ2 => ds.length ≤ sizeLine ∧ Q (.fz (.tuple ds)) ρ2
def dLst (da : DA) : DE := fun ρ Q => da ρ fun rs ρ1 => wFA (frzA ρ1 rs) fun ds ρ2 => ds.length ≤ sizeLine ∧ Q (.nw (.list ds)) ρ2
theorem le_tup (h : LA K tr dr) : LE K (tTup tr) (dTup dr) := by
  intro f g σ H ρ Q R hK hR hd k
  refine h f g σ H ρ _ _ hK hR hd fun vs H1 g1 ρ1 rs R1 G1 O1 q1 => ?_
  obtain ⟨ds, ρ2, e1, hl, q1⟩ := wFA_some q1
  obtain ⟨g2, R2, G2, q2⟩ := O1.frz R1 e1
  refine ⟨by rw [q2.length]; exact hl, fun p hp => ?_⟩
  obtain ⟨R3, G3, e3⟩ := R2.new (o := .tup vs) hp
  exact k _ _ g2 ρ2 (.fz (.tuple ds)) R3 ((G1.trans G2).trans G3) (Rp.tup e3 (q2.mono G3.fz)) q1
theorem le_lst (h : LA K tr dr) : LE K (tLst tr) (dLst dr) := by
  intro f g σ H ρ Q R hK hR hd k
  refine h f g σ H ρ _ _ hK hR hd fun vs H1 g1 ρ1 rs R1 G1 O1 q1 => ?_
  obtain ⟨ds, ρ2, e1, hl, q1⟩ := wFA_some q1
  obtain ⟨g2, R2, G2, q2⟩ := O1.frz R1 e1
  refine ⟨by rw [q2.length]; exact hl, fun p hp => ?_⟩
  obtain ⟨R3, G3, V3⟩ := R2.own (o := .lst vs) (d := .list ds) hp (.lst upd_same q2)
  exact k _ _ _ ρ2 _ R3 ((G1.trans G2).trans G3) V3 q1
end

/-! ### calls on values -/
abbrev FA := List D → (Rv → Prop) → Prop
inductive RNA (K : PySem.W.Frag) (F H : Hp) : List V → List D → Prop
  | nil : RNA K F H [] []
  | cons {v : V} {d : D} {vs : List V} {ds : List D} : RN K F H v d → RNA K F H vs ds → RNA K F H (v :: vs) (d :: ds)
def resA (ρ : Rho) : List Rv → Option (List D)
  | [] => some []
  | r :: rs => match res ρ r with
    | some d => match resA ρ rs with
      | some ds => some (d :: ds)
      | none => none
    | none => none
theorem OpdA.rn {f : Fr} {g : Gs} {σ : L2.St} {H : Hp} {ρ : Rho} (R : Rel f g σ H ρ) {vs : List V} {rs : List Rv} (h : OpdA f g σ H vs rs) : ∀ {ds : List D}, resA ρ rs = some ds → RNA f.K (Fz H g.M) H vs ds := by
  induction h with
  | nil => intro ds e; cases e; exact .nil
  | cons h _ ih =>
    intro ds e
    unfold resA at e
    split at e
    · rename_i d e1
      split at e
      · rename_i ds e2
        cases e
        exact .cons (h.rn R e1) (ih e2)
      · cases e
    · cases e
def wA (o : Option (List D)) (k : List D → Prop) : Prop := match o with
  | some x => k x
  | none => False
theorem wA_some {o : Option (List D)} {k : List D → Prop} (h : wA o k) : ∃ x, o = some x ∧ k x := by
  cases o with
  | some x => exact ⟨x, rfl, h⟩
  | none => exact h.elim
def CaL (K : PySem.W.Frag) (r : List V → Hp → VK → Prop) (F : FA) : Prop := ∀ (f : Fr) (g : Gs) (σ : L2.St) (H : Hp) (ρ : Rho) (vs : List V) (ds : List D) (Q : Rv → Prop) (R : V → Hp → Prop), f.K = K → Rel f g σ H ρ → RNA K (Fz H g.M) H vs ds → F ds Q →
  (∀ (z : V) (H' : Hp) (g' : Gs) (r : Rv), Rel f g' σ H' ρ → Gro g H g' H' → VR f g' σ H' ρ z r → Q r → R z H') → r vs H R
def dCB (F : FA) (da : DA) : DE := fun ρ Q => da ρ fun rs ρ1 => wA (resA ρ1 rs) fun ds => F ds fun r => Q r ρ1
theorem le_cb {K : PySem.W.Frag} {r : List V → Hp → VK → Prop} {F : FA} {tr : TA} {dr : DA} (h : LA K tr dr) (hc : CaL K r F) : LE K (tCB r tr) (dCB F dr) := by
  intro f g σ H ρ Q R hK hR hd k
  refine h f g σ H ρ _ _ hK hR hd fun vs H1 g1 ρ1 rs R1 G1 O1 q1 => ?_
  obtain ⟨ds, e1, q1⟩ := wA_some q1
  subst hK
  exact hc f g1 σ H1 ρ1 vs ds _ R rfl R1 (O1.rn R1 e1) q1 fun z H2 g2 r R2 G2 V2 q2 => k z H2 g2 ρ1 r R2 (G1.trans G2) V2 q2
end DL

set_option Elab.async false
set_option linter.all false
set_option maxRecDepth 100000
set_option maxHeartbeats 4000000
namespace DL
open PySem L2

/-! ### slots stored -/
section
variable {f : Fr} {g g' : Gs} {σ : L2.St} {H H' : Hp} {ρ ρ' : Rho} {v u : V} {d x y : D} {p : Addr} {o : HO} {r : Rv} {i : Nat} {s : Sl}
theorem Rel.set (R : Rel f g σ H ρ) (h : SlR f g H v s) (hu : ∀ d, s = .ow d → ∀ a, v = .ref a → a ∉ g.T ∧ ∀ (j : Nat) (e : D), j ≠ i → ρ[j]? = some (some (.ow e)) → σ[j]? ≠ some (some (.ref a))) (hmu : ∀ m, some s ≠ some (Sl.mu m) := by intro _ z; cases z) :
    Rel f g (σ.set i (some v)) H (ρ.set i (some s)) := by
  refine ⟨R.keep, R.dom, R.m0, R.m00, R.mU, R.src, by rw [List.length_set, List.length_set]; exact R.len, fun j t e => ?_, fun j k l d e h1 h2 h3 h4 => ?_, fun b hb => ⟨(R.tmp b hb).1, (R.tmp b hb).2.1, fun j e h1 h2 => ?_⟩, R.fpM, R.fpn, mq_set R.mq hmu⟩
  · rcases getset e with ⟨rfl, q⟩ | ⟨ne, q⟩
    · cases q
      have hi : i < σ.length := by
        have := (List.getElem?_eq_some_iff.mp e).1
        rw [List.length_set] at this
        rw [← R.len]; exact this
      exact ⟨v, List.getElem?_set_self hi, h⟩
    · obtain ⟨w, e1, q1⟩ := R.slot j t q
      exact ⟨w, by rw [List.getElem?_set_ne ne]; exact e1, q1⟩
  · rcases getset h1 with ⟨rfl, q⟩ | ⟨ne1, q⟩
    · rcases getset h2 with ⟨rfl, q2⟩ | ⟨ne2, q2⟩
      · rfl
      · rcases getset h3 with ⟨_, z⟩ | ⟨z, _⟩
        · cases z
          rw [List.getElem?_set_ne ne2] at h4
          cases q
          exact absurd h4 ((hu _ rfl l rfl).2 k e (Ne.symm ne2) q2)
        · exact absurd rfl z
    · rcases getset h2 with ⟨rfl, q2⟩ | ⟨ne2, q2⟩
      · rcases getset h4 with ⟨_, z⟩ | ⟨z, _⟩
        · cases z
          rw [List.getElem?_set_ne ne1] at h3
          cases q2
          exact absurd h3 ((hu _ rfl l rfl).2 j d (Ne.symm ne1) q)
        · exact absurd rfl z
      · rw [List.getElem?_set_ne ne1] at h3
        rw [List.getElem?_set_ne ne2] at h4
        exact R.uq j k l d e q q2 h3 h4
  · rcases getset h1 with ⟨rfl, q⟩ | ⟨ne, q⟩
    · rcases getset h2 with ⟨_, z⟩ | ⟨z, _⟩
      · cases z; cases q
        exact (hu _ rfl b rfl).1 hb
      · exact z rfl
    · rw [List.getElem?_set_ne ne] at h2
      exact (R.tmp b hb).2.2 j e q h2
def asgV (ρ : Rho) (i j : Nat) : Option (Option Sl) → Option Rho
  | some (some (.sh d)) => some (ρ.set i (some (.sh d)))
  | some (some (.bo d)) => some (ρ.set i (some (.bo d)))
  | some (some (.ow d)) => some ((ρ.set j (some (.sh d))).set i (some (.sh d)))
  | _ => none
def asg (ρ : Rho) (i : Nat) : Rv → Option Rho
  | .fz d => some (ρ.set i (some (.sh d)))
  | .nw d => some (ρ.set i (some (.ow d)))
  | .vr j => asgV ρ i j ρ[j]?
  | .src => some (ρ.set i (some .src))
  | .scr => some (ρ.set i (some .scr))
  | .mr _ => none
  | .mi _ _ => none
def wR (o : Option Rho) (k : Rho → Prop) : Prop := match o with
  | some x => k x
  | none => False
theorem wR_some {o : Option Rho} {k : Rho → Prop} (h : wR o k) : ∃ x, o = some x ∧ k x := by
  cases o with
  | some x => exact ⟨x, rfl, h⟩
  | none => exact h.elim
theorem VR.asg (R : Rel f g σ H ρ) (h : VR f g σ H ρ v r) (e : asg ρ i r = some ρ') : ∃ g', Rel f g' (σ.set i (some v)) H ρ' ∧ Gro g H g' H := by
  cases r with
  | fz d => cases e; exact ⟨g, R.set (s := .sh d) h (fun d z => nomatch z), Gro.refl⟩
  | nw d =>
    cases e
    obtain ⟨a, rfl, m, h0, ns, r, t, u⟩ := h
    exact ⟨g, R.set (s := .ow d) ⟨a, rfl, m, h0, ns, r⟩ (fun d' z b hb => by cases hb; exact ⟨t, fun j e _ h1 => u j e h1⟩), Gro.refl⟩
  | src => cases e; exact ⟨g, R.set (s := .src) h (fun d z => nomatch z), Gro.refl⟩
  | scr => cases e; exact ⟨g, R.set (s := .scr) h (fun d z => nomatch z), Gro.refl⟩
  | mr _ => cases e
  | mi _ _ => cases e
  | vr j =>
    have e : asgV ρ i j ρ[j]? = some ρ' := e
    obtain ⟨s, e0, _, e1⟩ := h
    rw [e0] at e
    unfold asgV at e
    split at e
    · rename_i d e2
      cases e; cases e2
      obtain ⟨w, e3, q⟩ := R.slot j _ e0
      rw [e1] at e3; cases e3
      exact ⟨g, R.set (s := .sh d) q (fun d z => nomatch z), Gro.refl⟩
    · rename_i d e2
      cases e; cases e2
      obtain ⟨w, e3, q⟩ := R.slot j _ e0
      rw [e1] at e3; cases e3
      exact ⟨g, R.set (s := .bo d) q (fun d z => nomatch z), Gro.refl⟩
    · rename_i d e2
      cases e; cases e2
      obtain ⟨w, e3, a, e4, _⟩ := R.slot j _ e0
      rw [e1] at e3; cases e3; cases e4
      obtain ⟨R1, G1, q1⟩ := R.frzSlot e0 e1
      exact ⟨_, R1.set (s := .sh d) q1 (fun d z => nomatch z), G1⟩
    · cases e
end

/-! ### statements -/
structure DEnds where
  nx : Rho → Prop
  rt : Rv → Rho → Prop
  bk : Rho → Prop := fun _ => False
  ct : Rho → Prop := fun _ => False
abbrev DS := DEnds → Rho → Prop
structure LkE (f : Fr) (g : Gs) (H : Hp) (DD : DEnds) (E : Ends) : Prop where
  nx : ∀ (g' : Gs) (σ' : L2.St) (H' : Hp) (ρ' : Rho), Rel f g' σ' H' ρ' → Gro g H g' H' → DD.nx ρ' → E.nx σ' H'
  rt : ∀ (g' : Gs) (σ' : L2.St) (H' : Hp) (ρ' : Rho) (v : V) (r : Rv), Rel f g' σ' H' ρ' → Gro g H g' H' → VR f g' σ' H' ρ' v r → DD.rt r ρ' → E.rt v H'
  bk : ∀ (g' : Gs) (σ' : L2.St) (H' : Hp) (ρ' : Rho), Rel f g' σ' H' ρ' → Gro g H g' H' → DD.bk ρ' → E.bk σ' H'
  ct : ∀ (g' : Gs) (σ' : L2.St) (H' : Hp) (ρ' : Rho), Rel f g' σ' H' ρ' → Gro g H g' H' → DD.ct ρ' → E.ct σ' H'
theorem LkE.mono {f : Fr} {g g1 : Gs} {H H1 : Hp} {DD : DEnds} {E : Ends} (G : Gro g H g1 H1) (l : LkE f g H DD E) : LkE f g1 H1 DD E :=
  ⟨fun g' σ' H' ρ' R G' => l.nx g' σ' H' ρ' R (G.trans G'), fun g' σ' H' ρ' v r R G' => l.rt g' σ' H' ρ' v r R (G.trans G'), fun g' σ' H' ρ' R G' => l.bk g' σ' H' ρ' R (G.trans G'), fun g' σ' H' ρ' R G' => l.ct g' σ' H' ρ' R (G.trans G')⟩
def LS (K : PySem.W.Frag) (t : TS) (d : DS) : Prop := ∀ (f : Fr) (g : Gs) (σ : L2.St) (H : Hp) (ρ : Rho) (DD : DEnds) (E : Ends), f.K = K → Rel f g σ H ρ → d DD ρ → LkE f g H DD E → t E σ H
abbrev DG := Rv → Rho → (Rho → Prop) → Prop
def LG (K : PySem.W.Frag) (t : TG) (d : DG) : Prop := ∀ (f : Fr) (g : Gs) (σ : L2.St) (H : Hp) (ρ : Rho) (v : V) (r : Rv) (Q : Rho → Prop) (R : L2.St → Hp → Prop), f.K = K → Rel f g σ H ρ → VR f g σ H ρ v r → d r ρ Q →
  (∀ (g' : Gs) (σ' : L2.St) (H' : Hp) (ρ' : Rho), Rel f g' σ' H' ρ' → Gro g H g' H' → Q ρ' → R σ' H') → t v σ H R
section
variable {K : PySem.W.Frag} {ta tb te : TE} {da db de : DE} {t u : TS} {d e : DS} {tt : TT} {dt : DT} {tg : TG} {dg : DG} {i j : Nat}
def dNext : DS := fun DD ρ => DD.nx ρ
def dSeq (d e : DS) : DS := fun DD ρ => d { DD with nx := e DD } ρ
def dBreak : DS := fun DD ρ => DD.bk ρ
def dCont : DS := fun DD ρ => DD.ct ρ
theorem ls_next : LS K tNext dNext := fun f g σ H ρ DD E hK R hd l => l.nx g σ H ρ R Gro.refl hd
theorem ls_break : LS K tBreak dBreak := fun f g σ H ρ DD E hK R hd l => l.bk g σ H ρ R Gro.refl hd
theorem ls_cont : LS K tCont dCont := fun f g σ H ρ DD E hK R hd l => l.ct g σ H ρ R Gro.refl hd
theorem ls_seq (h : LS K t d) (h' : LS K u e) : LS K (tSeq t u) (dSeq d e) := fun f g σ H ρ DD E hK R hd l =>
  h f g σ H ρ _ _ hK R hd ⟨fun g' σ' H' ρ' R' G' q => h' f g' σ' H' ρ' DD E hK R' q (l.mono G'), l.rt, l.bk, l.ct⟩
def dIfS (c : DT) (d e : DS) : DS := fun DD ρ => c ρ fun b ρ1 => useB b (d DD ρ1) (e DD ρ1)
theorem ls_if (hc : LT K tt dt) (h : LS K t d) (h' : LS K u e) : LS K (tIfS tt t u) (dIfS dt d e) := by
  intro f g σ H ρ DD E hK R hd l
  refine hc f g σ H ρ _ _ hK R hd fun b H1 g1 ρ1 R1 G1 q1 => ?_
  cases b with
  | true => replace q1 := useB_t q1; exact h f g1 σ H1 ρ1 DD E hK R1 q1 (l.mono G1)
  | false => replace q1 := useB_f q1; exact h' f g1 σ H1 ρ1 DD E hK R1 q1 (l.mono G1)
def dRet (da : DE) : DS := fun DD ρ => da ρ DD.rt
theorem ls_ret (h : LE K ta da) : LS K (tRet ta) (dRet da) := fun f g σ H ρ DD E hK R hd l =>
  h f g σ H ρ _ _ hK R hd fun v H1 g1 ρ1 r R1 G1 V1 q1 => l.rt g1 σ H1 ρ1 v r R1 G1 V1 q1
def dRetN : DS := fun DD ρ => DD.rt (.fz .none) ρ
theorem ls_retN : LS K tRetN dRetN := fun f g σ H ρ DD E hK R hd l => l.rt g σ H ρ .non (.fz .none) R Gro.refl .non hd
def dDrop (da : DE) : DS := fun DD ρ => da ρ fun _ ρ1 => DD.nx ρ1
theorem ls_drop (h : LE K ta da) : LS K (tDrop ta) (dDrop da) := fun f g σ H ρ DD E hK R hd l =>
  h f g σ H ρ _ _ hK R hd fun v H1 g1 ρ1 r R1 G1 V1 q1 => l.nx g1 σ H1 ρ1 R1 G1 q1
def dNever : DS := fun _ _ => False
theorem ls_never : LS K tNever dNever := fun f g σ H ρ DD E hK R hd l => hd
def dAsg (da : DE) (dg : DG) : DS := fun DD ρ => da ρ fun r ρ1 => dg r ρ1 DD.nx
theorem ls_asg (h : LE K ta da) (hg : LG K tg dg) : LS K (tAsg ta tg) (dAsg da dg) := fun f g σ H ρ DD E hK R hd l =>
  h f g σ H ρ _ _ hK R hd fun v H1 g1 ρ1 r R1 G1 V1 q1 => hg f g1 σ H1 ρ1 v r _ _ hK R1 V1 q1 fun g2 σ2 H2 ρ2 R2 G2 q2 => l.nx g2 σ2 H2 ρ2 R2 (G1.trans G2) q2
def dgN (i : Nat) : DG := fun r ρ Q => wR (asg ρ i r) Q
theorem lg_name : LG K (gName i) (dgN i) := by
  intro f g σ H ρ v r Q R hK hR V q k
  obtain ⟨ρ', e, q⟩ := wR_some q
  obtain ⟨g', R', G'⟩ := V.asg hR e
  exact k g' _ H ρ' R' G' q
/-- a tuple unpacked -/
abbrev DGs := List D → Rho → (Rho → Prop) → Prop
def LGs (K : PySem.W.Frag) (t : TGs) (d : DGs) : Prop := ∀ (f : Fr) (g : Gs) (σ : L2.St) (H : Hp) (ρ : Rho) (vs : List V) (ds : List D) (Q : Rho → Prop) (R : L2.St → Hp → Prop), f.K = K → Rel f g σ H ρ → RpA K (Fz H g.M) vs ds → d ds ρ Q →
  (∀ (g' : Gs) (σ' : L2.St) (H' : Hp) (ρ' : Rho), Rel f g' σ' H' ρ' → Gro g H g' H' → Q ρ' → R σ' H') → t vs σ H R
def dgNil : DGs := fun ds ρ Q => ds = [] ∧ Q ρ
def dgCons (dg : DG) (dgs : DGs) : DGs := fun ds ρ Q => match ds with
  | d :: r => dg (.fz d) ρ fun ρ1 => dgs r ρ1 Q
  | [] => False
theorem lgs_nil : LGs K gNil dgNil := by
  intro f g σ H ρ vs ds Q R hK hR h q k
  obtain ⟨rfl, q⟩ := q
  cases h
  exact ⟨rfl, k g σ H ρ hR Gro.refl q⟩
theorem lgs_cons {ts : TGs} {dgs : DGs} (h : LG K tg dg) (h' : LGs K ts dgs) : LGs K (gCons tg ts) (dgCons dg dgs) := by
  intro f g σ H ρ vs ds Q R hK hR hr q k
  cases hr with
  | nil => exact q.elim
  | cons hv hr =>
    refine ⟨_, _, rfl, ?_⟩
    refine h f g σ H ρ _ (.fz _) _ _ hK hR (by subst hK; exact hv) q fun g1 σ1 H1 ρ1 R1 G1 q1 => ?_
    exact h' f g1 σ1 H1 ρ1 _ _ Q R hK R1 (hr.mono G1.fz) q1 fun g2 σ2 H2 ρ2 R2 G2 q2 => k g2 σ2 H2 ρ2 R2 (G1.trans G2) q2
def wT (o : Option D) (k : List D → Prop) : Prop := match o with
  | some (.tuple ds) => k ds
  | _ => False
theorem wT_some {o : Option D} {k : List D → Prop} (h : wT o k) : ∃ b, o = some (.tuple b) ∧ k b := by
  unfold wT at h
  split at h
  · exact ⟨_, rfl, h⟩
  · exact h.elim
def dgT (n : Nat) (dgs : DGs) : DG := fun r ρ Q => wT (res ρ r) fun ds => ds.length = n ∧ dgs ds ρ Q
theorem lg_tup {n : Nat} {ts : TGs} {dgs : DGs} (h : LGs K ts dgs) : LG K (gTup K n ts) (dgT n dgs) := by
  intro f g σ H ρ v r Q R hK hR V q k
  obtain ⟨ds, e, hl, q⟩ := wT_some q
  obtain ⟨g1, R1, G1, O1⟩ := V.opd hR
  subst hK
  obtain ⟨a, xs, rfl, hs, hr, _⟩ := (O1.rn R1 e).tuple fz_sub
  refine ⟨a, xs, rfl, hs, by rw [hr.length]; exact hl, ?_⟩
  exact h f g1 σ H ρ xs ds Q R rfl R1 hr q fun g2 σ2 H2 ρ2 R2 G2 q2 => k g2 σ2 H2 ρ2 R2 (G1.trans G2) q2
/-- a, b = e1, e2 -/
def Gs.push (g : Gs) (a : Addr) : Gs := ⟨g.M, g.src, a :: g.T, g.fp⟩
def plainR : Rv → Prop
  | .fz _ => True
  | .nw _ => True
  | .src => True
  | .scr => True
  | .vr _ => False
  | .mr _ => False
  | .mi _ _ => False
/-- a value kept while another expression runs -/
theorem VR.held {f : Fr} {g : Gs} {σ : L2.St} {H : Hp} {ρ : Rho} {v : V} {r : Rv} (R : Rel f g σ H ρ) (h : VR f g σ H ρ v r) (hpl : plainR r) : ∃ g1, Rel f g1 σ H ρ ∧ (∀ g2 H2 ρ2, Rel f g2 σ H2 ρ2 → Gro g1 H g2 H2 → (∀ i, r = .vr i → ∃ s, ρ2[i]? = some (some s) ∧ isRoot s) →
    ∃ g3, Rel f g3 σ H2 ρ2 ∧ Gro g H g3 H2 ∧ VR f g3 σ H2 ρ2 v r ∧ (∀ w q, VR f g2 σ H2 ρ2 w q → VR f g3 σ H2 ρ2 w q ∧ (∀ d e, q = .nw d → r = .nw e → v ≠ w))) := by
  cases r with
  | fz d => exact ⟨g, R, fun g2 H2 ρ2 R2 G2 _ => ⟨g2, R2, G2, Rp.mono G2.fz h, fun w q hq => ⟨hq, fun d e _ z => nomatch z⟩⟩⟩
  | scr => exact ⟨g, R, fun g2 H2 ρ2 R2 G2 _ => ⟨g2, R2, G2, h, fun w q hq => ⟨hq, fun d e _ z => nomatch z⟩⟩⟩
  | vr i =>
    refine ⟨g, R, fun g2 H2 ρ2 R2 G2 hi => ⟨g2, R2, G2, ?_, fun w q hq => ⟨hq, fun d e _ z => nomatch z⟩⟩⟩
    obtain ⟨s, h1, h2⟩ := hi i rfl
    obtain ⟨_, _, _, e⟩ := h
    exact ⟨s, h1, h2, e⟩
  | src =>
    refine ⟨g, R, fun g2 H2 ρ2 R2 G2 _ => ⟨g2, R2, G2, ?_, fun w q hq => ⟨hq, fun d e _ z => nomatch z⟩⟩⟩
    obtain ⟨p, c, e1, e2⟩ := h
    exact ⟨p, c, G2.src _ e1, e2⟩
  | mr _ => exact hpl.elim
  | mi _ _ => exact hpl.elim
  | nw d =>
    obtain ⟨a, rfl, m, h0, ns, r, t, u⟩ := h
    refine ⟨g.push a, ⟨R.keep, R.dom, R.m0, R.m00, R.mU, R.src, R.len, R.slot, R.uq, fun b hb => ?_, R.fpM, R.fpn, R.mq⟩, fun g2 H2 ρ2 R2 G2 _ => ?_⟩
    · rcases List.mem_cons.mp hb with rfl | hb
      · exact ⟨m, ns, u⟩
      · exact R.tmp b hb
    · have ha : a ∈ g2.T := by rw [G2.tm]; exact List.mem_cons_self
      obtain ⟨m2, ns2, u2⟩ := R2.tmp a ha
      refine ⟨⟨g2.M, g2.src, g.T, g2.fp⟩, ⟨R2.keep, R2.dom, R2.m0, R2.m00, R2.mU, R2.src, R2.len, R2.slot, R2.uq, fun b hb => R2.tmp b (by rw [G2.tm]; exact List.mem_cons_of_mem _ hb), R2.fpM, R2.fpn, R2.mq⟩,
        ⟨G2.fz, G2.src, rfl, fun b hb => G2.th b (List.mem_cons_of_mem _ hb), G2.fp⟩, ⟨a, rfl, m2, h0, ns2, r.mono G2.fz fun o e => (G2.th a List.mem_cons_self).trans e, t, u2⟩, fun w q hq => ?_⟩
      cases q with
      | fz d => exact ⟨hq, fun d e z => nomatch z⟩
      | vr i => exact ⟨hq, fun d e z => nomatch z⟩
      | src => exact ⟨hq, fun d e z => nomatch z⟩
      | scr => exact ⟨hq, fun d e z => nomatch z⟩
      | mr _ => exact ⟨hq, fun d e z => nomatch z⟩
      | mi _ _ => exact ⟨hq, fun d e z => nomatch z⟩
      | nw d' =>
        obtain ⟨b, rfl, m', h0', ns', r', t', u'⟩ := hq
        refine ⟨⟨b, rfl, m', h0', ns', r', fun z => t' (by rw [G2.tm]; exact List.mem_cons_of_mem _ z), u'⟩, fun _ _ _ _ z => ?_⟩
        cases z
        exact t' ha
/-- storing in one slot leaves another value's reading -/
theorem VR.setO {f : Fr} {g : Gs} {σ : L2.St} {H : Hp} {ρ : Rho} {w : V} {q : Rv} {i : Nat} {v : V} {s : Sl} (R : Rel f g σ H ρ) (h : VR f g σ H ρ w q) (hv : ∀ j, q = .vr j → j ≠ i) (hn : ∀ d e, q = .nw d → s = .ow e → v ≠ w) (hpl : plainR q) : VR f g (σ.set i (some v)) H (ρ.set i (some s)) w q := by
  cases q with
  | fz d => exact h
  | src => exact h
  | scr => exact h
  | mr _ => exact hpl.elim
  | mi _ _ => exact hpl.elim
  | vr j =>
    obtain ⟨t, h1, h2, h3⟩ := h
    have hj := hv j rfl
    exact ⟨t, by rw [List.getElem?_set_ne (Ne.symm hj)]; exact h1, h2, by rw [List.getElem?_set_ne (Ne.symm hj)]; exact h3⟩
  | nw d =>
    obtain ⟨a, rfl, m, h0, ns, r, t, u⟩ := h
    refine ⟨a, rfl, m, h0, ns, r, t, fun j e h1 h2 => ?_⟩
    rcases getset h1 with ⟨rfl, z⟩ | ⟨ne, z⟩
    · cases z
      rcases getset h2 with ⟨_, z2⟩ | ⟨z2, _⟩
      · cases z2; exact hn _ _ rfl rfl rfl
      · exact z2 rfl
    · rw [List.getElem?_set_ne ne] at h2
      exact u j e z h2
def setR (ρ : Rho) (i : Nat) : Rv → Rho
  | .fz d => ρ.set i (some (.sh d))
  | .nw d => ρ.set i (some (.ow d))
  | .src => ρ.set i (some .src)
  | .scr => ρ.set i (some .scr)
  | .vr _ => ρ
  | .mr _ => ρ
  | .mi _ _ => ρ
/-- both sides plain: what is frozen, new, or the source -/
def plainV (ρ : Rho) : Rv → Option (Rv × Rho)
  | .vr j => match frz ρ (.vr j) with
    | some (d, ρ1) => some (.fz d, ρ1)
    | none => none
  | .mr _ => none
  | .mi _ _ => none
  | r => some (r, ρ)
def wP (o : Option (Rv × Rho)) (k : Rv → Rho → Prop) : Prop := match o with
  | some x => k x.1 x.2
  | none => False
theorem wP_some {o : Option (Rv × Rho)} {k : Rv → Rho → Prop} (h : wP o k) : ∃ x ρ, o = some (x, ρ) ∧ k x ρ := by
  cases o with
  | some x => exact ⟨x.1, x.2, rfl, h⟩
  | none => exact h.elim
theorem VR.plain {f : Fr} {g : Gs} {σ : L2.St} {H : Hp} {ρ ρ1 : Rho} {v : V} {r q : Rv} (R : Rel f g σ H ρ) (h : VR f g σ H ρ v r) (e : plainV ρ r = some (q, ρ1)) : ∃ g1, Rel f g1 σ H ρ1 ∧ Gro g H g1 H ∧ VR f g1 σ H ρ1 v q ∧ plainR q := by
  unfold plainV at e
  split at e
  · rename_i j
    split at e
    · rename_i d ρ2 e2
      cases e
      obtain ⟨s, h1, h2, h3⟩ := h
      obtain ⟨g1, R1, G1, q1⟩ := Opd.frz (r := .vr j) R h3 e2
      exact ⟨g1, R1, G1, q1, trivial⟩
    · cases e
  · cases e
  · cases e
  · rename_i hr hr1 hr2
    cases e
    refine ⟨g, R, Gro.refl, h, ?_⟩
    cases r with
    | vr i => exact (hr i rfl).elim
    | mr i => exact (hr1 i rfl).elim
    | mi i k => exact (hr2 i k rfl).elim
    | fz d => exact True.intro
    | nw d => exact True.intro
    | src => exact True.intro
    | scr => exact True.intro
theorem VR.put {f : Fr} {g : Gs} {σ : L2.St} {H : Hp} {ρ : Rho} {v : V} {r : Rv} (R : Rel f g σ H ρ) (h : VR f g σ H ρ v r) (hp : plainR r) (i : Nat) : Rel f g (σ.set i (some v)) H (setR ρ i r) := by
  cases r with
  | fz d => exact R.set (s := .sh d) h (fun d z => nomatch z)
  | nw d =>
    obtain ⟨a, rfl, m, h0, ns, r, t, u⟩ := h
    exact R.set (s := .ow d) ⟨a, rfl, m, h0, ns, r⟩ (fun d' z b hb => by cases hb; exact ⟨t, fun j e _ h1 => u j e h1⟩)
  | src => exact R.set (s := .src) h (fun d z => nomatch z)
  | scr => exact R.set (s := .scr) h (fun d z => nomatch z)
  | vr j => exact hp.elim
  | mr _ => exact hp.elim
  | mi _ _ => exact hp.elim
theorem VR.putO {f : Fr} {g : Gs} {σ : L2.St} {H : Hp} {ρ : Rho} {v w : V} {r q : Rv} (R : Rel f g σ H ρ) (hq : VR f g σ H ρ w q) (hp : plainR r) (hpq : plainR q) (hn : ∀ d e, q = .nw d → r = .nw e → v ≠ w) (i : Nat) : VR f g (σ.set i (some v)) H (setR ρ i r) w q := by
  have hv : ∀ j, q = .vr j → j ≠ i := fun j z => by rw [z] at hpq; exact hpq.elim
  cases r with
  | fz d => exact hq.setO R hv (fun d e _ z => nomatch z) hpq
  | nw d => exact hq.setO R hv (fun d' e z _ => hn d' d z rfl) hpq
  | src => exact hq.setO R hv (fun d e _ z => nomatch z) hpq
  | scr => exact hq.setO R hv (fun d e _ z => nomatch z) hpq
  | vr j => exact hp.elim
  | mr _ => exact hp.elim
  | mi _ _ => exact hp.elim
def dPar (i j : Nat) (da db : DE) : DS := fun DD ρ => da ρ fun r ρ1 => wP (plainV ρ1 r) fun r1 ρ2 => db ρ2 fun q ρ3 => wP (plainV ρ3 q) fun q1 ρ4 => DD.nx (setR (setR ρ4 i r1) j q1)
theorem ls_par (h : LE K ta da) (h' : LE K tb db) : LS K (tPar i j (tCons ta (tCons tb tNil))) (dPar i j da db) := by
  intro f g σ H ρ DD E hK R hd l
  refine h f g σ H ρ _ _ hK R hd fun v H1 g1 ρ1 r R1 G1 V1 q1 => ?_
  obtain ⟨r1, ρ2, e1, q1⟩ := wP_some q1
  obtain ⟨g2, R2, G2, V2, p2⟩ := V1.plain R1 e1
  obtain ⟨g3, R3, hh⟩ := V2.held R2 p2
  refine h' f g3 σ H1 ρ2 _ _ hK R3 q1 fun w H4 g4 ρ4 q R4 G4 V4 q4 => ?_
  obtain ⟨qq, ρ5, e5, q5⟩ := wP_some q4
  obtain ⟨g5, R5, G5, V5, p5⟩ := V4.plain R4 e5
  obtain ⟨g6, R6, G6, V6, hh6⟩ := hh g5 H4 ρ5 R5 (G4.trans G5) (fun i z => by rw [z] at p2; exact p2.elim)
  obtain ⟨W6, n6⟩ := hh6 w qq V5
  refine ⟨v, w, rfl, ?_⟩
  have R7 := V6.put R6 p2 i
  have W7 := W6.putO R6 p2 p5 (fun d e z1 z2 => n6 d e z1 z2) i
  exact l.nx g6 _ H4 _ (W7.put R7 p5 j) ((G1.trans G2).trans G6) q5
end
end DL

set_option Elab.async false
set_option linter.all false
set_option maxRecDepth 100000
set_option maxHeartbeats 4000000
namespace DL
open PySem L2

/-! ### what is walked -/
/-- a list, a tuple or a text, whichever it is -/
def iAny (K : PySem.W.Frag) (te : TE) : TI := fun σ H R => te σ H fun x H1 => (∃ a, x = .ref a ∧ (∃ xs, SqL K H1 a xs) ∧ R (Itl K a) H1) ∨ (∃ a, x = .ref a ∧ (∃ xs, SqT K H1 a xs) ∧ R (Itt K a) H1) ∨ (∃ z, x = .str z ∧ R (Its z) H1)
theorem pi_any {X : Cx} {tg l : Expr} {tl : TE} (hl : PE X l tl) : PI X tg l (iAny X.K tl) := by
  refine ⟨fun pins s σ H R I h => ?_⟩
  have hl' : ∀ (Z : V → Hp → Prop), (∀ v H', Z v H' → ∀ s' u, Inv X pins σ H' s' → RelV v u → wpAny (model X.prog X.w) X.A (pyIter u) (PIE X pins σ tg R) X.xe s') → tl σ H Z →
      wpAny (model X.prog X.w) X.A (eval l X.env) (fun v s1 => wpAny (model X.prog X.w) X.A (pyIter v) (PIE X pins σ tg R) X.xe s1) X.xe s := fun Z hz ht =>
    thn (hl.run pins s σ H Z I ht) fun u s1 ⟨x, H1, I1, r1, q1⟩ => hz x H1 q1 s1 u I1 r1
  refine hl' _ (fun v H1 q s1 u I1 r => ?_) h
  rcases q with ⟨a, rfl, ⟨xs, hq⟩, q⟩ | ⟨a, rfl, ⟨xs, hq⟩, q⟩ | ⟨z, rfl, q⟩
  · cases r
    obtain ⟨its, rv, p, hz⟩ := I1.list hq
    refine wpAny_pyIter_list p.isList ?_
    refine ⟨s1.heap.objs.size, [s1.heap.objs.size], _, _, H1, rfl, I1.kept (t' := s1.toks) fun b o e => Heap.get?_push_of_some _ e, turn_list a _, ⟨_, Heap.get?_push_size _ rfl, rfl, rfl⟩, fun b hb => ?_, q⟩
    have e : b = s1.heap.objs.size := by simpa using hb
    subst e
    exact I1.fpOk (Nat.le_refl _) (I1.hok.fresh (Nat.le_refl _))
  · cases r
    obtain ⟨its, rv, p, hz⟩ := I1.tuple hq
    refine wpAny_pyIter_tuple (show s1.heap.IsTuple a its.toArray from p) ?_
    refine ⟨s1.heap.objs.size, [s1.heap.objs.size], _, _, H1, rfl, I1.kept (t' := s1.toks) fun b o e => Heap.get?_push_of_some _ e, turn_tuple a _, ⟨_, Heap.get?_push_size _ rfl, rfl, rfl⟩, fun b hb => ?_, q⟩
    have e : b = s1.heap.objs.size := by simpa using hb
    subst e
    exact I1.fpOk (Nat.le_refl _) (I1.hok.fresh (Nat.le_refl _))
  · obtain ⟨t, rfl⟩ := r
    cases ha : z.cps.all (· < 128)
    · exact wpAny_pyIter_wide ha (pi_one (tk := s1.toks) I1 _ (turn_str _ z t "str_iterator" (.inr rfl)) ⟨_, Heap.get?_push_size _ rfl, rfl, rfl⟩ q)
    · exact wpAny_pyIter_ascii ha (pi_one (tk := s1.toks) I1 _ (turn_str _ z t "str_ascii_iterator" (.inl rfl)) ⟨_, Heap.get?_push_size _ rfl, rfl, rfl⟩ q)

structure ItOk (f : Fr) (g0 : Gs) (H0 : Hp) (G : Hp → Prop) (Y : Nat → Hp → V → Hp → Prop) (ds : List D) : Prop where
  st : ∀ g2 σ2 H2 ρ2, Rel f g2 σ2 H2 ρ2 → Same (Fz H0 g0.M) (Fz H2 g2.M) → G H2
  yl : ∀ g2 σ2 H2 ρ2, Rel f g2 σ2 H2 ρ2 → Same (Fz H0 g0.M) (Fz H2 g2.M) → ∀ i x H3 d, ds[i]? = some d → Y i H2 x H3 → ∃ g3, Rel f g3 σ2 H3 ρ2 ∧ Gro g2 H2 g3 H3 ∧ Rp f.K (Fz H3 g3.M) x d
abbrev DI := Rho → (List D → Rho → Prop) → Prop
def LI (K : PySem.W.Frag) (wi : TI) (d : DI) : Prop := ∀ (f : Fr) (g : Gs) (σ : L2.St) (H : Hp) (ρ : Rho) (Q : List D → Rho → Prop) (R : It → Hp → Prop), f.K = K → Rel f g σ H ρ → d ρ Q →
  (∀ (J : It) (H' : Hp) (g' : Gs) (ρ' : Rho) (G : Hp → Prop) (Y : Nat → Hp → V → Hp → Prop) (ds : List D), Rel f g' σ H' ρ' → Gro g H g' H' → Walk J ds.length G Y → ItOk f g' H' G Y ds → Q ds ρ' → R J H') → wi σ H R
/-- what a loop holds: frozen, or the borrowed thing -/
def itV (ρ : Rho) (i : Nat) : Option (Option Sl) → Option (D × Rho)
  | some (some (.bo d)) => some (d, ρ)
  | s => frzV ρ i s
def itD (ρ : Rho) : Rv → Option (D × Rho)
  | .vr i => itV ρ i ρ[i]?
  | r => frz ρ r
/-- the items of a sequence -/
def seqOf : D → Option (List D)
  | .list ds => some ds
  | .tuple ds => some ds
  | .str z => some (z.cps.toList.map fun c => .str ⟨#[c]⟩)
  | _ => none
def dAny (de : DE) : DI := fun ρ Q => de ρ fun r ρ1 => wF (itD ρ1 r) fun d ρ2 => wA (seqOf d) fun ds => Q ds ρ2
section
variable {K : PySem.W.Frag} {te : TE} {de : DE} {f : Fr} {g g' : Gs} {σ : L2.St} {H H' : Hp} {ρ ρ' : Rho} {v : V} {r : Rv} {d : D}
theorem itD_ok (R : Rel f g σ H ρ) (h : Opd f g σ H v r) (e : itD ρ r = some (d, ρ')) : ∃ g', Rel f g' σ H ρ' ∧ Gro g H g' H ∧ BoV f (Fz H g'.M) v d := by
  cases r with
  | vr i =>
    have e : itV ρ i ρ[i]? = some (d, ρ') := e
    have h' : σ[i]? = some (some v) := h
    unfold itV at e
    split at e
    · rename_i x e1
      cases e
      obtain ⟨w, e2, q⟩ := R.slot i _ e1
      rw [h'] at e2; cases e2
      exact ⟨g, R, Gro.refl, q⟩
    · obtain ⟨g1, R1, G1, q⟩ := Opd.frz (r := .vr i) R h e
      exact ⟨g1, R1, G1, .inl q⟩
  | fz x =>
    obtain ⟨g1, R1, G1, q⟩ := Opd.frz R h e
    exact ⟨g1, R1, G1, .inl q⟩
  | nw x =>
    obtain ⟨g1, R1, G1, q⟩ := Opd.frz R h e
    exact ⟨g1, R1, G1, .inl q⟩
  | src =>
    obtain ⟨g1, R1, G1, q⟩ := Opd.frz R h e
    exact ⟨g1, R1, G1, .inl q⟩
  | scr =>
    obtain ⟨g1, R1, G1, q⟩ := Opd.frz R h e
    exact ⟨g1, R1, G1, .inl q⟩
  | mr _ =>
    obtain ⟨g1, R1, G1, q⟩ := Opd.frz R h e
    exact ⟨g1, R1, G1, .inl q⟩
  | mi _ _ =>
    obtain ⟨g1, R1, G1, q⟩ := Opd.frz R h e
    exact ⟨g1, R1, G1, .inl q⟩
/-- a list that stands: frozen or borrowed -/
theorem BoV.list {F : Hp} {ds : List D} (h : BoV f F v (.list ds)) : ∃ a xs, v = .ref a ∧ RpA f.K F xs ds ∧ ∀ g2 σ2 H2 ρ2, Rel f g2 σ2 H2 ρ2 → Same F (Fz H2 g2.M) → SqL f.K H2 a xs := by
  rcases h with h | ⟨a, rfl, h⟩
  · cases h with | lst h r => exact ⟨_, _, rfl, r, fun g2 σ2 H2 ρ2 R2 e => .inl (.inl (fz_sub _ _ (e _ _ h)))⟩
  · cases h with | lst h r => exact ⟨_, _, rfl, r, fun g2 σ2 H2 ρ2 R2 e => .inl (.inl (R2.keep _ _ (of_fz h).1 (of_fz h).2))⟩
theorem BoV.tuple {F : Hp} {ds : List D} (h : BoV f F v (.tuple ds)) : ∃ a xs, v = .ref a ∧ RpA f.K F xs ds ∧ ∀ g2 σ2 H2 ρ2, Rel f g2 σ2 H2 ρ2 → Same F (Fz H2 g2.M) → SqT f.K H2 a xs := by
  rcases h with h | ⟨a, rfl, h⟩
  · cases h with | tup h r => exact ⟨_, _, rfl, r, fun g2 σ2 H2 ρ2 R2 e => .inl (.inl (fz_sub _ _ (e _ _ h)))⟩
  · cases h
theorem BoV.str {F : Hp} {z : Str} (h : BoV f F v (.str z)) : v = .str z := by
  rcases h with h | ⟨a, rfl, h⟩ <;> cases h; rfl
theorem itOk_at {xs : List V} {ds : List D} {G : Hp → Prop} {F : Hp} (hr : RpA f.K (Fz H g.M) xs ds) (hG : ∀ g2 σ2 H2 ρ2, Rel f g2 σ2 H2 ρ2 → Same (Fz H g.M) (Fz H2 g2.M) → G H2) : ItOk f g H G (YAt xs) ds := by
  refine ⟨hG, fun g2 σ2 H2 ρ2 R2 e i x H3 d hd y => ?_⟩
  obtain ⟨rfl, hx⟩ := y
  obtain ⟨w, e1, q⟩ := hr.get hd
  rw [hx] at e1; cases e1
  exact ⟨g2, R2, Gro.refl, q.mono e⟩
theorem li_any (h : LE K te de) : LI K (iAny K te) (dAny de) := by
  intro f g σ H ρ Q R hK hR hd k
  refine h.opd hK hR hd fun v H1 g1 ρ1 r1 R1 G1 O1 q1 => ?_
  obtain ⟨d, ρ2, e2, q2⟩ := wF_some q1
  obtain ⟨ds, e3, q3⟩ := wA_some q2
  obtain ⟨g2, R2, G2, B⟩ := itD_ok R1 O1 e2
  subst hK
  cases d with
  | list ds' =>
    cases e3
    obtain ⟨a, xs, rfl, hr, hs⟩ := B.list
    have hs1 := hs g2 σ H1 ρ2 R2 (Same.refl _)
    refine .inl ⟨a, rfl, ⟨xs, hs1⟩, k _ H1 g2 ρ2 _ _ ds R2 (G1.trans G2) (by rw [← hr.length]; exact walk_list (xs := xs)) (itOk_at (F := H) hr hs) q3⟩
  | tuple ds' =>
    cases e3
    obtain ⟨a, xs, rfl, hr, hs⟩ := B.tuple
    have hs1 := hs g2 σ H1 ρ2 R2 (Same.refl _)
    refine .inr (.inl ⟨a, rfl, ⟨xs, hs1⟩, k _ H1 g2 ρ2 _ _ ds R2 (G1.trans G2) (by rw [← hr.length]; exact walk_tup (xs := xs)) (itOk_at (F := H) hr hs) q3⟩)
  | str z =>
    cases e3
    obtain rfl := B.str
    refine .inr (.inr ⟨z, rfl, k _ H1 g2 ρ2 _ _ _ R2 (G1.trans G2) (by simpa using walk_str (z := z)) ⟨fun _ _ _ _ _ _ => trivial, fun g2 σ2 H2 ρ2 R2 e i x H3 d hd y => ?_⟩ q3⟩)
    obtain ⟨rfl, c, h1, rfl⟩ := y
    rw [List.getElem?_map] at hd
    have h2 : z.cps.toList[i]? = some c := by simpa using h1
    rw [h2] at hd
    cases hd
    exact ⟨g2, R2, Gro.refl, .str _⟩
  | none => cases e3
  | bool _ => cases e3
  | int _ => cases e3
  | dict _ => cases e3
def wI1 (o : Option (List D)) (k : Int → Prop) : Prop := match o with
  | some [.int i] => k i
  | _ => False
theorem wI1_some {o : Option (List D)} {k : Int → Prop} (h : wI1 o k) : ∃ b, o = some [.int b] ∧ k b := by
  unfold wI1 at h
  split at h
  · exact ⟨_, rfl, h⟩
  · exact h.elim
def wI2 (o : Option (List D)) (k : Int → Int → Prop) : Prop := match o with
  | some [.int i, .int j] => k i j
  | _ => False
theorem wI2_some {o : Option (List D)} {k : Int → Int → Prop} (h : wI2 o k) : ∃ b c, o = some [.int b, .int c] ∧ k b c := by
  unfold wI2 at h
  split at h
  · exact ⟨_, _, rfl, h⟩
  · exact h.elim
def rngD (lo : Int) (n : Nat) : List D := (List.range n).map fun i => .int (lo + (i : Nat))
theorem rngD_length (lo : Int) (n : Nat) : (rngD lo n).length = n := by simp [rngD]
theorem itOk_rng {lo : Int} {n : Nat} : ItOk f g H (fun _ => True) (YFn fun i => .int (lo + i)) (rngD lo n) := by
  refine ⟨fun _ _ _ _ _ _ => trivial, fun g2 σ2 H2 ρ2 R2 e i x H3 d hd y => ?_⟩
  obtain ⟨rfl, rfl⟩ := y
  unfold rngD at hd
  rw [List.getElem?_map] at hd
  by_cases hi : i < n
  · rw [List.getElem?_range hi] at hd
    cases hd
    exact ⟨g2, R2, Gro.refl, .int _⟩
  · rw [List.getElem?_eq_none (by simpa using hi)] at hd; cases hd
variable {ta : TA} {da : DA}
def dRng1 (da : DA) : DI := fun ρ Q => da ρ fun rs ρ1 => wI1 (resA ρ1 rs) fun j => (-(2 ^ 62) ≤ j ∧ j < 2 ^ 62) ∧ Q (rngD 0 j.toNat) ρ1
def dRng2 (da : DA) : DI := fun ρ Q => da ρ fun rs ρ1 => wI2 (resA ρ1 rs) fun i j => (-(2 ^ 62) ≤ i ∧ i < 2 ^ 62 ∧ -(2 ^ 62) ≤ j ∧ j < 2 ^ 62) ∧ Q (rngD i (j - i).toNat) ρ1
theorem RNA.int1 {F H : Hp} {vs : List V} {i : Int} (h : RNA K F H vs [.int i]) : vs = [.int i] := by
  cases h with | cons h r => cases r; rw [h.int]
theorem RNA.int2 {F H : Hp} {vs : List V} {i j : Int} (h : RNA K F H vs [.int i, .int j]) : vs = [.int i, .int j] := by
  cases h with | cons h r => cases r with | cons h' r => cases r; rw [h.int, h'.int]
theorem li_rng1 (h : LA K ta da) : LI K (iRng1 ta) (dRng1 da) := by
  intro f g σ H ρ Q R hK hR hd k
  refine h f g σ H ρ _ _ hK hR hd fun vs H1 g1 ρ1 rs R1 G1 O1 q1 => ?_
  obtain ⟨j, e, hj, q⟩ := wI1_some q1
  obtain rfl := (O1.rn R1 e).int1
  exact ⟨j, rfl, hj.1, hj.2, k _ H1 g1 ρ1 _ _ _ R1 G1 (by rw [rngD_length]; exact walk_range) itOk_rng q⟩
theorem li_rng2 (h : LA K ta da) : LI K (iRng2 ta) (dRng2 da) := by
  intro f g σ H ρ Q R hK hR hd k
  refine h f g σ H ρ _ _ hK hR hd fun vs H1 g1 ρ1 rs R1 G1 O1 q1 => ?_
  obtain ⟨i, j, e, hj, q⟩ := wI2_some q1
  obtain rfl := (O1.rn R1 e).int2
  exact ⟨i, j, rfl, hj, k _ H1 g1 ρ1 _ _ _ R1 G1 (by rw [rngD_length]; exact walk_range) itOk_rng q⟩
end

/-! ### for, while -/
section
variable {K : PySem.W.Frag} {wi : TI} {tg : TG} {tb : TS} {dI : DI} {dg : DG} {db : DS} {tt : TT} {dt : DT}
def dLoop (dg : DG) (db : DS) (DD : DEnds) : List D → Rho → Prop
  | [], ρ => DD.nx ρ
  | x :: xs, ρ => dg (.fz x) ρ fun ρ1 => db { nx := dLoop dg db DD xs, ct := dLoop dg db DD xs, bk := DD.nx, rt := DD.rt } ρ1
def dFor (dI : DI) (dg : DG) (db : DS) : DS := fun DD ρ => dI ρ fun ds ρ1 => dLoop dg db DD ds ρ1
theorem ls_for (hi : LI K wi dI) (hg : LG K tg dg) (hb : LS K tb db) : LS K (tFor wi tg tb) (dFor dI dg db) := by
  intro f g σ H ρ DD E hK R hd l
  refine hi f g σ H ρ _ _ hK R hd fun J H1 g1 ρ1 G Y ds R1 G1 w io q => ?_
  refine for_it w (fun i σ' H' => ∃ g' ρ', Rel f g' σ' H' ρ' ∧ Gro g1 H1 g' H' ∧ dLoop dg db DD (ds.drop i) ρ') ⟨g1, ρ1, R1, Gro.refl, by simpa using q⟩ (fun i σ' H' _ ⟨g', ρ', R', G', _⟩ => io.st g' σ' H' ρ' R' G'.fz) ?_ ?_
  · rintro i x σ' H' H'' hlt ⟨g', ρ', R', G', q'⟩ y
    obtain ⟨g2, R2, G2, hx⟩ := io.yl g' σ' H' ρ' R' G'.fz i x H'' ds[i] (by simp [hlt]) y
    rw [List.drop_eq_getElem_cons hlt] at q'
    refine hg f g2 σ' H'' ρ' x (.fz _) _ _ hK R2 hx q' fun g3 σ3 H3 ρ3 R3 G3 q3 => ?_
    have GG := (G'.trans G2).trans G3
    refine hb f g3 σ3 H3 ρ3 _ _ hK R3 q3 ⟨fun g4 σ4 H4 ρ4 R4 G4 q4 => ⟨g4, ρ4, R4, GG.trans G4, q4⟩, fun g4 σ4 H4 ρ4 v r R4 G4 V4 q4 => l.rt g4 σ4 H4 ρ4 v r R4 ((G1.trans GG).trans G4) V4 q4,
      fun g4 σ4 H4 ρ4 R4 G4 q4 => l.nx g4 σ4 H4 ρ4 R4 ((G1.trans GG).trans G4) q4, fun g4 σ4 H4 ρ4 R4 G4 q4 => ⟨g4, ρ4, R4, GG.trans G4, q4⟩⟩
  · rintro σ' H' ⟨g', ρ', R', G', q'⟩
    rw [List.drop_length] at q'
    exact l.nx g' σ' H' ρ' R' (G1.trans G') q'
def dWhile (dt : DT) (db : DS) : DS := fun DD ρ => ∃ P : Nat → Rho → Prop, (∃ m, P m ρ) ∧ ∀ m ρ, P m ρ → dt ρ fun b ρ1 => useB b (db { nx := fun ρ' => ∃ m', m' < m ∧ P m' ρ', ct := fun ρ' => ∃ m', m' < m ∧ P m' ρ', bk := DD.nx, rt := DD.rt } ρ1) (DD.nx ρ1)
theorem ls_while (hc : LT K tt dt) (hb : LS K tb db) : LS K (tWhile tt tb) (dWhile dt db) := by
  intro f g σ H ρ DD E hK R hd l
  obtain ⟨P, ⟨m0, p0⟩, hs⟩ := hd
  refine ⟨fun m σ' H' => ∃ g' ρ', Rel f g' σ' H' ρ' ∧ Gro g H g' H' ∧ P m ρ', ⟨m0, g, ρ, R, Gro.refl, p0⟩, ?_⟩
  rintro m σ' H' ⟨g', ρ', R', G', p'⟩
  refine hc f g' σ' H' ρ' _ _ hK R' (hs m ρ' p') fun b H1 g1 ρ1 R1 G1 q1 => ?_
  cases b with
  | true =>
    replace q1 := useB_t q1
    rw [if_pos rfl]
    refine ⟨fun σ3 H3 => ∃ m', m' < m ∧ ∃ g3 ρ3, Rel f g3 σ3 H3 ρ3 ∧ Gro g H g3 H3 ∧ P m' ρ3, fun _ _ q => q, ?_⟩
    have GG := G'.trans G1
    exact hb f g1 σ' H1 ρ1 _ _ hK R1 q1 ⟨fun g4 σ4 H4 ρ4 R4 G4 ⟨m', hm, p⟩ => ⟨m', hm, g4, ρ4, R4, GG.trans G4, p⟩, fun g4 σ4 H4 ρ4 v r R4 G4 V4 q4 => l.rt g4 σ4 H4 ρ4 v r R4 (GG.trans G4) V4 q4,
      fun g4 σ4 H4 ρ4 R4 G4 q4 => l.nx g4 σ4 H4 ρ4 R4 (GG.trans G4) q4, fun g4 σ4 H4 ρ4 R4 G4 ⟨m', hm, p⟩ => ⟨m', hm, g4, ρ4, R4, GG.trans G4, p⟩⟩
  | false =>
    replace q1 := useB_f q1
    rw [if_neg Bool.false_ne_true]
    exact l.nx g1 σ' H1 ρ1 R1 (G'.trans G1) q1
end
end DL

set_option Elab.async false
set_option linter.all false
set_option maxRecDepth 100000
set_option maxHeartbeats 4000000
namespace DL
open PySem L2

/-! ### a comprehension -/
section
variable {f : Fr} {g g' : Gs} {σ σ' : L2.St} {H H' : Hp} {ρ ρ' : Rho} {v : V} {r : Rv} {d : D} {D0 : Addr}
def Gs.pop (g : Gs) (T : List Addr) : Gs := ⟨g.M, g.src, T, g.fp⟩
theorem Rel.pop {T : List Addr} (R : Rel f g σ H ρ) (h : ∀ a ∈ T, a ∈ g.T) : Rel f (g.pop T) σ H ρ :=
  ⟨R.keep, R.dom, R.m0, R.m00, R.mU, R.src, R.len, R.slot, R.uq, fun a ha => R.tmp a (h a ha), R.fpM, R.fpn, R.mq⟩
/-- a thing kept aside changes -/
theorem Rel.mutTmp {o : HO} (R : Rel f g σ H ρ) (h : D0 ∈ g.T) (h0 : f.H0 D0 = none) (ho : MuO (some o) := by trivial) : Rel f g σ (upd H D0 o) ρ ∧ Same (Fz H g.M) (Fz (upd H D0 o) g.M) := by
  obtain ⟨m, ns, u⟩ := R.tmp D0 h
  have hk : ∀ a o', H a = some o' → a ≠ D0 → upd H D0 o a = some o' := fun a o' e n => by rw [upd_ne n]; exact e
  have hG : Same (Fz H g.M) (Fz (upd H D0 o) g.M) := fz_mono fun a o' e n => ⟨hk a o' e fun q => n (q ▸ m), n⟩
  have hd : ∀ a, upd H D0 o a = none → H a = none := fun a e => by
    by_cases q : a = D0
    · rw [q, upd_same] at e; cases e
    · rw [upd_ne q] at e; exact e
  refine ⟨⟨fun a o' e n => hk a o' (R.keep a o' e n) (fun q => by rw [q, h0] at e; cases e), fun a e => R.dom a (hd a e), R.m0, R.m00, fun a m => by
    by_cases q : a = D0
    · rw [q, upd_same]; exact ho
    · rw [upd_ne q]; exact R.mU a m, fun p c e => ?_, R.len, fun i s e => ?_, R.uq, R.tmp, R.fpM, R.fpn, R.mq⟩, hG⟩
  · obtain ⟨h1, h2, h3, h4, h5, h6⟩ := R.src p c e
    exact ⟨h1, h2, h3, h4, h5, srcOk_upd h6 (Ne.symm (ns.1 p c e).1) (Ne.symm (ns.1 p c e).2)⟩
  · obtain ⟨w, e1, q⟩ := R.slot i s e
    refine ⟨w, e1, ?_⟩
    cases s with
    | sh d => exact Rp.mono hG q
    | bo d => exact BoV.mono hG q
    | ow d =>
      obtain ⟨a, e2, m', h0', ns', r⟩ := q
      refine ⟨a, e2, m', h0', ns', r.mono hG fun o' e' => hk a o' e' fun q => u i d e ?_⟩
      rw [e1, e2, q]
    | src => exact q
    | scr => exact q
    | mu m =>
      obtain ⟨a, as, e2, e3, r⟩ := q
      exact ⟨a, as, e2, e3, r.mono hG fun b hb o' e' => hk b o' e' fun z => ns.2 (by rw [e2, ← z]; exact hb)⟩
/-- the block's own slots forgotten, but for what is frozen -/
def bckS : Option (Option Sl) → Option Sl
  | some (some (.sh d)) => some (.sh d)
  | _ => none
def wipeR (ρ : Rho) : List Nat → Rho
  | [] => ρ
  | v :: vs => (wipeR ρ vs).set v none
def bckR (ρ0 ρ : Rho) : List Nat → Rho
  | [] => ρ
  | v :: vs => (bckR ρ0 ρ vs).set v (bckS ρ0[v]?)
theorem wipeR_length {ρ : Rho} {vs : List Nat} : (wipeR ρ vs).length = ρ.length := by
  induction vs with
  | nil => rfl
  | cons v vs ih => unfold wipeR; rw [List.length_set, ih]
theorem bckR_length {ρ0 ρ : Rho} {vs : List Nat} : (bckR ρ0 ρ vs).length = ρ.length := by
  induction vs with
  | nil => rfl
  | cons v vs ih => unfold bckR; rw [List.length_set, ih]
theorem wipeR_get {ρ : Rho} {vs : List Nat} {i : Nat} {s : Sl} (h : (wipeR ρ vs)[i]? = some (some s)) : ρ[i]? = some (some s) ∧ i ∉ vs := by
  induction vs with
  | nil => exact ⟨h, by simp⟩
  | cons v vs ih =>
    unfold wipeR at h
    rcases getset h with ⟨_, q⟩ | ⟨ne, q⟩
    · cases q
    · obtain ⟨a, b⟩ := ih q
      exact ⟨a, by simp only [List.mem_cons, not_or]; exact ⟨fun e => ne e.symm, b⟩⟩
theorem bckR_get {ρ0 ρ : Rho} {vs : List Nat} {i : Nat} {s : Sl} (h : (bckR ρ0 ρ vs)[i]? = some (some s)) : (ρ[i]? = some (some s) ∧ i ∉ vs) ∨ (i ∈ vs ∧ ρ0[i]? = some (some s) ∧ ∃ d, s = .sh d) := by
  induction vs with
  | nil => exact .inl ⟨h, by simp⟩
  | cons v vs ih =>
    unfold bckR at h
    rcases getset h with ⟨rfl, q⟩ | ⟨ne, q⟩
    · refine .inr ⟨List.mem_cons_self, ?_⟩
      have q : some s = bckS ρ0[v]? := q
      unfold bckS at q
      split at q
      · rename_i d e
        cases q
        exact ⟨e, d, rfl⟩
      · cases q
    · rcases ih q with ⟨a, b⟩ | ⟨a, b⟩
      · exact .inl ⟨a, by simp only [List.mem_cons, not_or]; exact ⟨fun e => ne e.symm, b⟩⟩
      · exact .inr ⟨List.mem_cons_of_mem _ a, b⟩
theorem wipe_ne {σ : L2.St} {vs : List Nat} {i : Nat} (h : i ∉ vs) : (wipe σ vs)[i]? = σ[i]? := by
  induction vs with
  | nil => rfl
  | cons v vs ih =>
    simp only [List.mem_cons, not_or] at h
    unfold wipe
    rw [List.getElem?_set_ne (fun e => h.1 e.symm)]
    exact ih h.2
theorem Rel.wiped (R : Rel f g σ H ρ) (vs : List Nat) : Rel f g (wipe σ vs) H (wipeR ρ vs) := by
  refine ⟨R.keep, R.dom, R.m0, R.m00, R.mU, R.src, by rw [wipeR_length, wipe_length]; exact R.len, fun i s e => ?_, fun i j l d e h1 h2 h3 h4 => ?_, fun a ha => ⟨(R.tmp a ha).1, (R.tmp a ha).2.1, fun i e h1 h2 => ?_⟩, R.fpM, R.fpn, fun i j d e h1 h2 => R.mq i j d e (wipeR_get h1).1 (wipeR_get h2).1⟩
  · obtain ⟨h1, h2⟩ := wipeR_get e
    obtain ⟨w, e1, q⟩ := R.slot i s h1
    exact ⟨w, by rw [wipe_ne h2]; exact e1, q⟩
  · obtain ⟨a1, b1⟩ := wipeR_get h1
    obtain ⟨a2, b2⟩ := wipeR_get h2
    rw [wipe_ne b1] at h3
    rw [wipe_ne b2] at h4
    exact R.uq i j l d e a1 a2 h3 h4
  · obtain ⟨a1, b1⟩ := wipeR_get h1
    rw [wipe_ne b1] at h2
    exact (R.tmp a ha).2.2 i e a1 h2
/-- back in the frame -/
theorem Rel.backed {ρ0 : Rho} {vs : List Nat} {g0 : Gs} {H1 : Hp} (R0 : Rel f g0 σ H1 ρ0) (R : Rel f g σ' H ρ) (G : Same (Fz H1 g0.M) (Fz H g.M)) (hw : wipe σ' vs = wipe σ vs) : Rel f g σ H (bckR ρ0 ρ vs) := by
  have hs : ∀ i, i ∉ vs → σ'[i]? = σ[i]? := fun i hi => by rw [← wipe_ne hi, hw, wipe_ne hi]
  have hl : σ'.length = σ.length := by rw [← wipe_length σ' vs, hw, wipe_length]
  refine ⟨R.keep, R.dom, R.m0, R.m00, R.mU, R.src, by rw [bckR_length, ← hl]; exact R.len, fun i s e => ?_, fun i j l d e h1 h2 h3 h4 => ?_, fun a ha => ⟨(R.tmp a ha).1, (R.tmp a ha).2.1, fun i e h1 h2 => ?_⟩, R.fpM, R.fpn, fun i j d e h1 h2 => ?_⟩
  · rcases bckR_get e with ⟨h1, h2⟩ | ⟨h1, h2, d, rfl⟩
    · obtain ⟨w, e1, q⟩ := R.slot i s h1
      exact ⟨w, by rw [← hs i h2]; exact e1, q⟩
    · obtain ⟨w, e1, q⟩ := R0.slot i _ h2
      exact ⟨w, e1, Rp.mono G q⟩
  · rcases bckR_get h1 with ⟨a1, b1⟩ | ⟨_, _, d, z⟩
    · rcases bckR_get h2 with ⟨a2, b2⟩ | ⟨_, _, d, z⟩
      · rw [← hs i b1] at h3
        rw [← hs j b2] at h4
        exact R.uq i j l _ e a1 a2 h3 h4
      · cases z
    · cases z
  · rcases bckR_get h1 with ⟨a1, b1⟩ | ⟨_, _, d, z⟩
    · rw [← hs i b1] at h2
      exact (R.tmp a ha).2.2 i e a1 h2
    · cases z
  · rcases bckR_get h1 with ⟨a1, b1⟩ | ⟨_, _, d, z⟩
    · rcases bckR_get h2 with ⟨a2, b2⟩ | ⟨_, _, d, z⟩
      · exact R.mq i j _ e a1 a2
      · cases z
    · cases z
end
def dYes : DT := fun ρ Q => Q true ρ
theorem lt_yes {K : PySem.W.Frag} : LT K tYes dYes := fun f g σ H ρ Q R hK hR hd k => k true H g ρ hR Gro.refl hd
def dLcGo (dg : DG) (dt : DT) (de : DE) (vs : List Nat) (Q : Rv → Rho → Prop) : List D → List D → Rho → Prop
  | [], acc, ρ => Q (.nw (.list acc)) ρ
  | x :: xs, acc, ρ => dg (.fz x) (wipeR ρ vs) fun ρ1 => dt ρ1 fun b ρ2 => useB b (de ρ2 fun r ρ3 => wF (frz ρ3 r) fun d ρ4 => acc.length < sizeLine ∧ dLcGo dg dt de vs Q xs (acc ++ [d]) (bckR ρ ρ4 vs)) (dLcGo dg dt de vs Q xs acc (bckR ρ ρ2 vs))
def dLc (dI : DI) (dg : DG) (dt : DT) (de : DE) (vs : List Nat) : DE := fun ρ Q => dI ρ fun ds ρ1 => dLcGo dg dt de vs Q ds [] ρ1
/-- a target that stores in the block's own slots alone -/
def LGw (t : TG) (vs : List Nat) : Prop := ∀ (v : V) (σ : L2.St) (H : Hp) (Q : L2.St → Hp → Prop), t v σ H (fun σ2 H2 => wipe σ2 vs = wipe σ vs → Q σ2 H2) → t v σ H fun σ2 H2 => wipe σ2 vs = wipe σ vs ∧ Q σ2 H2
theorem wipe_in {vs : List Nat} {j : Nat} (hj : j ∈ vs) (τ : L2.St) : (wipe τ vs)[j]? = if j < τ.length then some none else none := by
  induction vs with
  | nil => cases hj
  | cons v vs ih =>
    unfold wipe
    by_cases e : v = j
    · subst e
      by_cases hl : v < τ.length
      · rw [if_pos hl, List.getElem?_set_self (by rw [wipe_length]; exact hl)]
      · rw [if_neg hl, List.getElem?_eq_none (by rw [List.length_set, wipe_length]; omega)]
    · rw [List.getElem?_set_ne e]
      exact ih ((List.mem_cons.mp hj).elim (fun z => absurd z.symm e) id)
theorem wipe_wipe {σ : L2.St} {vs : List Nat} : wipe (wipe σ vs) vs = wipe σ vs := by
  apply List.ext_getElem?
  intro j
  by_cases hj : j ∈ vs
  · rw [wipe_in hj, wipe_in hj, wipe_length]
  · rw [wipe_ne hj]
theorem wipe_set {σ : L2.St} {vs : List Nat} {i : Nat} {x : Option V} (h : i ∈ vs) : wipe (σ.set i x) vs = wipe σ vs := by
  apply List.ext_getElem?
  intro j
  by_cases hj : j ∈ vs
  · rw [wipe_in hj, wipe_in hj, List.length_set]
  · rw [wipe_ne hj, wipe_ne hj, List.getElem?_set_ne]
    intro e
    exact hj (e ▸ h)
theorem lgw_name {i : Nat} {vs : List Nat} (h : i ∈ vs) : LGw (gName i) vs := fun v σ H Q q => ⟨wipe_set h, q (wipe_set h)⟩
def LGsw (t : TGs) (vs : List Nat) : Prop := ∀ (v : List V) (σ : L2.St) (H : Hp) (Q : L2.St → Hp → Prop), t v σ H (fun σ2 H2 => wipe σ2 vs = wipe σ vs → Q σ2 H2) → t v σ H fun σ2 H2 => wipe σ2 vs = wipe σ vs ∧ Q σ2 H2
theorem lgsw_nil {vs : List Nat} : LGsw gNil vs := fun v σ H Q q => ⟨q.1, rfl, q.2 rfl⟩
/-- monotone in what is wanted -/
def MoG (t : TG) : Prop := ∀ v σ H (Q Q' : L2.St → Hp → Prop), (∀ σ' H', Q σ' H' → Q' σ' H') → t v σ H Q → t v σ H Q'
def MoGs (t : TGs) : Prop := ∀ v σ H (Q Q' : L2.St → Hp → Prop), (∀ σ' H', Q σ' H' → Q' σ' H') → t v σ H Q → t v σ H Q'
theorem mog_name {i : Nat} : MoG (gName i) := fun v σ H Q Q' h q => h _ _ q
theorem mogs_nil : MoGs gNil := fun v σ H Q Q' h q => ⟨q.1, h _ _ q.2⟩
theorem mogs_cons {t : TG} {ts : TGs} (h : MoG t) (h' : MoGs ts) : MoGs (gCons t ts) := fun v σ H Q Q' k q => by
  obtain ⟨x, r, e, q⟩ := q
  exact ⟨x, r, e, h _ _ _ _ _ (fun σ' H' q' => h' _ _ _ _ _ k q') q⟩
theorem mog_tup {K : PySem.W.Frag} {n : Nat} {ts : TGs} (h : MoGs ts) : MoG (gTup K n ts) := fun v σ H Q Q' k q => by
  obtain ⟨a, xs, e, h1, h2, q⟩ := q
  exact ⟨a, xs, e, h1, h2, h _ _ _ _ _ k q⟩
theorem lgsw_cons {t : TG} {ts : TGs} {vs : List Nat} (m : MoG t) (ms : MoGs ts) (h : LGw t vs) (h' : LGsw ts vs) : LGsw (gCons t ts) vs := fun v σ H Q q => by
  obtain ⟨x, r, e, q⟩ := q
  refine ⟨x, r, e, m _ _ _ _ _ (fun σ' H' q' => ?_) (h _ _ _ _ (m _ _ _ _ _ (fun σ' H' z _ => z) q))⟩
  exact ms _ _ _ _ _ (fun σ2 H2 z => ⟨z.1.trans q'.1, z.2⟩) (h' _ _ _ _ (ms _ _ _ _ _ (fun σ2 H2 z e2 => z (e2.trans q'.1)) q'.2))
theorem lgw_tup {K : PySem.W.Frag} {n : Nat} {ts : TGs} {vs : List Nat} (h : LGsw ts vs) : LGw (gTup K n ts) vs := fun v σ H Q q => by
  obtain ⟨a, xs, e, h1, h2, q⟩ := q
  exact ⟨a, xs, e, h1, h2, h _ _ _ _ q⟩
section
variable {K : PySem.W.Frag} {wi : TI} {tg : TG} {te : TE} {tt : TT} {dI : DI} {dg : DG} {de : DE} {dt : DT} {vs : List Nat}
theorem le_lc (hi : LI K wi dI) (hg : LG K tg dg) (hw : LGw tg vs) (ht : LT K tt dt) (he : LE K te de) : LE K (tLc wi tg tt te vs) (dLc dI dg dt de vs) := by
  intro f g σ H ρ Q R hK hR hd k
  refine hi f g σ H ρ _ _ hK hR hd fun J H1 g1 ρ1 G Y ds R1 G1 w io q => ?_
  intro D0 hD
  have h0 : f.H0 D0 = none := R1.dom D0 hD
  obtain ⟨R2, G2, V2⟩ := R1.own (o := .lst []) (d := .list []) hD (.lst upd_same .nil)
  obtain ⟨a, ea, m2, _, ns2, _, t2, u2⟩ := V2
  cases ea
  refine lc_it w (fun i H' => ∃ g' ρ' xs acc, Rel f (g'.push D0) σ H' ρ' ∧ Gro g1 H1 g' H' ∧ H' D0 = some (.lst xs) ∧ RpA f.K (Fz H' g'.M) xs acc ∧ dLcGo dg dt de vs Q (ds.drop i) acc ρ')
    ⟨g1.add D0, ρ1, [], [], ⟨R2.keep, R2.dom, R2.m0, R2.m00, R2.mU, R2.src, R2.len, R2.slot, R2.uq, fun b hb => ?_, R2.fpM, R2.fpn, R2.mq⟩, G2, upd_same, .nil, by simpa using q⟩ (fun i H' _ ⟨g', ρ', xs, acc, R', G', _⟩ => io.st _ σ H' ρ' R' G'.fz) ?_ ?_
  · rcases List.mem_cons.mp hb with rfl | hb
    · exact ⟨m2, ns2, u2⟩
    · exact R2.tmp b hb
  · rintro i x H' H'' hlt ⟨g', ρ', xs, acc, R', G', hx, hr, q'⟩ y
    obtain ⟨g3, R3, G3, hxx⟩ := io.yl _ σ H' ρ' R' G'.fz i x H'' ds[i] (by simp [hlt]) y
    rw [List.drop_eq_getElem_cons hlt] at q'
    have T3 : g3.T = D0 :: g'.T := G3.tm
    have hw' := hw x (wipe σ vs) H''
    rw [wipe_wipe] at hw'
    refine hw' _ ?_
    -- what a turn's end is
    have fin : ∀ (g5 : Gs) (H5 : Hp) (ρ5 : Rho) (σ5 : L2.St), Rel f g5 σ5 H5 ρ5 → Gro g3 H'' g5 H5 → wipe σ5 vs = wipe σ vs →
        Rel f ((g5.pop g'.T).push D0) σ H5 (bckR ρ' ρ5 vs) ∧ Gro g1 H1 (g5.pop g'.T) H5 ∧ H5 D0 = some (.lst xs) ∧ RpA f.K (Fz H5 g5.M) xs acc := by
      intro g5 H5 ρ5 σ5 R5 G5 hwp
      have G35 : Gro (g'.push D0) H' g5 H5 := G3.trans G5
      have hT : g5.T = D0 :: g'.T := G35.tm
      have RB := Rel.backed (vs := vs) R' R5 G35.fz hwp
      refine ⟨RB.pop (T := D0 :: g'.T) (fun a ha => by rw [hT]; exact ha), ⟨G'.fz.trans G35.fz, fun pc h => G35.src pc (G'.src pc h), G'.tm, fun a ha => ?_, G35.fp.trans G'.fp⟩, (G35.th D0 List.mem_cons_self).trans hx, hr.mono G35.fz⟩
      exact (G35.th a (List.mem_cons_of_mem _ (by rw [G'.tm]; exact ha))).trans (G'.th a ha)
    refine hg f g3 (wipe σ vs) H'' (wipeR ρ' vs) x (.fz _) _ _ hK (R3.wiped vs) hxx q' fun g4 σ4 H4 ρ4 R4 G4 q4 => ?_
    intro hws
    refine ht f g4 σ4 H4 ρ4 _ _ hK R4 q4 fun b H5 g5 ρ5 R5 G5 q5 => ?_
    cases b with
    | false =>
      replace q5 := useB_f q5
      obtain ⟨A, B, C, E⟩ := fin g5 H5 ρ5 σ4 R5 (G4.trans G5) hws
      exact ⟨g5.pop g'.T, _, xs, acc, A, B, C, E, q5⟩
    | true =>
      replace q5 := useB_t q5
      rw [if_pos rfl]
      refine he.opd hK R5 q5 fun y H6 g6 ρ6 r R6 G6 O6 q6 => ?_
      obtain ⟨d, ρ7, e7, hl7, q7⟩ := wF_some q6
      obtain ⟨g7, R7, G7, hy⟩ := O6.frz R6 e7
      obtain ⟨A, B, C, E⟩ := fin g7 H6 ρ7 σ4 R7 (((G4.trans G5).trans G6).trans G7) hws
      refine ⟨xs, C, by rw [E.length]; exact hl7, ?_⟩
      obtain ⟨A2, S2⟩ := A.mutTmp (o := .lst (xs ++ [y])) List.mem_cons_self h0
      refine ⟨g7.pop g'.T, _, xs ++ [y], acc ++ [d], A2, ⟨B.fz.trans S2, B.src, B.tm, fun a ha => ?_, B.fp⟩, upd_same, (E.append (.cons hy .nil)).mono S2, q7⟩
      rw [upd_ne]
      · exact B.th a ha
      · rintro rfl
        exact R1.mH a hD (R1.tmp a ha).1
  · rintro H' ⟨g', ρ', xs, acc, R', G', hx, hr, q'⟩
    rw [List.drop_length] at q'
    obtain ⟨m', ns', u'⟩ := R'.tmp D0 List.mem_cons_self
    refine k _ H' g' ρ' (.nw (.list acc)) (R'.pop (T := g'.T) fun a ha => List.mem_cons_of_mem _ ha) (G1.trans G') ⟨D0, rfl, m', h0, ns', .lst hx hr, ?_, u'⟩ q'
    intro ha
    rw [G'.tm] at ha
    exact R1.mH D0 hD (R1.tmp D0 ha).1
end
end DL

set_option Elab.async false
set_option linter.all false
set_option maxRecDepth 100000
set_option maxHeartbeats 4000000
namespace DL
open PySem L2

/-! ### contracts -/
inductive Kd where
  | sh | bo | src | scr | mu
inductive Re where
  | fz (d : D) | nw (d : D)
/-- what a def asks of its arguments and gives -/
abbrev Con := List D → (Re → Prop) → Prop
abbrev ConM := List D → MD → (Re → MD → Prop) → Prop
def srcSet (src : Option (Addr × Addr)) (fp : List Addr) : AP := fun b => (∃ p c, src = some (p, c) ∧ (b = p ∨ b = c)) ∨ b ∈ fp
theorem NoS.set {src : Option (Addr × Addr)} {fp : List Addr} {a : Addr} (h : NoS src a) (h' : a ∉ fp) : ¬ srcSet src fp a := by
  rintro (⟨p, c, e, z⟩ | z)
  · rcases z with z | z
    · exact (h p c e).1 z
    · exact (h p c e).2 z
  · exact h' z
def ArgOk (K : PySem.W.Frag) (F H : Hp) (src : Option (Addr × Addr)) (fp : List Addr) : Kd → V → D → Prop
  | .sh, v, d => Rp K F v d
  | .bo, v, d => Rp K F v d ∨ ∃ a, v = .ref a ∧ Rt K F H a d ∧ NoS src a ∧ a ∉ fp
  | .src, v, d => d = .none ∧ ∃ p c, src = some (p, c) ∧ v = .ref p
  | .scr, v, d => d = .none ∧ ∃ (a : Addr) (ns : List Int), v = .ref a ∧ SqL K (Fz H (srcSet src fp)) a (ns.map V.int) ∧ ns.length ≤ 63
  | .mu, v, d => d = .none ∧ ∃ p as, fp = p :: as ∧ v = .ref p
inductive ArgsOk (K : PySem.W.Frag) (F H : Hp) (src : Option (Addr × Addr)) (fp : List Addr) : List Kd → List V → List D → Prop
  | nil : ArgsOk K F H src fp [] [] []
  | cons {k : Kd} {v : V} {d : D} {ks : List Kd} {vs : List V} {ds : List D} : ArgOk K F H src fp k v d → ArgsOk K F H src fp ks vs ds → ArgsOk K F H src fp (k :: ks) (v :: vs) (d :: ds)
def RetOk (K : PySem.W.Frag) (M0 : AP) (H H' : Hp) (v : V) : Re → Prop
  | .fz d => Rp K (Fz H' M0) v d
  | .nw d => ∃ a, v = .ref a ∧ H a = none ∧ Rt K (Fz H' (fun b => M0 b ∨ b = a)) H' a d
def retAP (M0 : AP) (v : V) : Re → AP
  | .fz _ => M0
  | .nw _ => fun b => M0 b ∨ v = .ref b
structure PostC (K : PySem.W.Frag) (M0 : AP) (src : Option (Addr × Addr)) (fp : List Addr) (m : MD) (H H' : Hp) (v : V) (r : Re) : Prop where
  keep : ∀ a o, H a = some o → NoS src a → a ∉ fp → H' a = some o
  dom : ∀ a, H' a = none → H a = none
  sok : ∀ p c, src = some (p, c) → SrcOk H' p c
  ret : RetOk K M0 H H' v r
  rm : ∀ p as, fp = p :: as → Rm K (Fz H' (retAP M0 v r)) H' p as m
structure PreC (K : PySem.W.Frag) (M0 : AP) (src : Option (Addr × Addr)) (fp : List Addr) (m : MD) (H : Hp) (ks : List Kd) (vs : List V) (ds : List D) : Prop where
  mu : ∀ a, M0 a → MuO (H a)
  sok : ∀ p c, src = some (p, c) → p ≠ c ∧ M0 p ∧ M0 c ∧ SrcOk H p c
  args : ArgsOk K (Fz H M0) H src fp ks vs ds
  fpM : ∀ a ∈ fp, M0 a ∧ NoS src a
  fpn : fp.Nodup
  rm : ∀ p as, fp = p :: as → Rm K (Fz H M0) H p as m
theorem PreC.dom {K : PySem.W.Frag} {M0 : AP} {src : Option (Addr × Addr)} {fp : List Addr} {m : MD} {H : Hp} {ks : List Kd} {vs : List V} {ds : List D} (P : PreC K M0 src fp m H ks vs ds) (a : Addr) (e : H a = none) : ¬ M0 a := fun m => by
  have := P.mu a m
  rw [e] at this
  exact this
def spD (K : PySem.W.Frag) (ks : List Kd) (C : Con) : Sp := fun vs H Q _ => ∃ (M0 : AP) (src : Option (Addr × Addr)) (ds : List D), PreC K M0 src [] (.fl []) H ks vs ds ∧ ∃ Qc : Re → Prop, C ds Qc ∧ ∀ r, Qc r → ∀ v H', PostC K M0 src [] (.fl []) H H' v r → Q v H'
def spM (K : PySem.W.Frag) (ks : List Kd) (C : ConM) : Sp := fun vs H Q _ => ∃ (M0 : AP) (src : Option (Addr × Addr)) (fp : List Addr) (m : MD) (ds : List D), PreC K M0 src fp m H ks vs ds ∧ ∃ Qc : Re → MD → Prop, C ds m Qc ∧ ∀ r m', Qc r m' → ∀ v H', PostC K M0 src fp m' H H' v r → Q v H'
theorem ArgsOk.length {K : PySem.W.Frag} {F H : Hp} {src : Option (Addr × Addr)} {fp : List Addr} {ks : List Kd} {vs : List V} {ds : List D} (h : ArgsOk K F H src fp ks vs ds) : ks.length = vs.length ∧ vs.length = ds.length := by
  induction h with
  | nil => exact ⟨rfl, rfl⟩
  | cons _ _ ih => simp [ih.1, ih.2]
theorem ArgOk.mono {K : PySem.W.Frag} {F F' H : Hp} {src : Option (Addr × Addr)} {fp : List Addr} (e : Same F F') {k : Kd} {v : V} {d : D} (h : ArgOk K F H src fp k v d) : ArgOk K F' H src fp k v d := by
  cases k with
  | sh => exact Rp.mono e h
  | bo =>
    rcases h with h | ⟨a, e1, h, n⟩
    · exact .inl (h.mono e)
    · exact .inr ⟨a, e1, h.mono e fun _ h => h, n⟩
  | src => exact h
  | scr => exact h
  | mu => exact h
theorem ArgsOk.mono {K : PySem.W.Frag} {F F' H : Hp} {src : Option (Addr × Addr)} {fp : List Addr} (e : Same F F') {ks : List Kd} {vs : List V} {ds : List D} (h : ArgsOk K F H src fp ks vs ds) : ArgsOk K F' H src fp ks vs ds := by
  induction h with
  | nil => exact .nil
  | cons h _ ih => exact .cons (h.mono e) ih

/-! ### a call -/
def arg1 (ρ : Rho) : Kd → Rv → Option (D × Rho)
  | .sh, r => frz ρ r
  | .bo, .mr _ => none
  | .bo, .mi _ _ => none
  | .bo, r => match res ρ r with
    | some d => some (d, ρ)
    | none => none
  | .src, .src => some (.none, ρ)
  | .scr, .scr => some (.none, ρ)
  | .mu, .mr i => match ρ[i]? with
    | some (some (.mu _)) => some (.none, ρ)
    | _ => none
  | _, _ => none
def argA (ρ : Rho) : List Kd → List Rv → Option (List D × Rho)
  | [], [] => some ([], ρ)
  | k :: ks, r :: rs => match arg1 ρ k r with
    | some (d, ρ1) => match argA ρ1 ks rs with
      | some (ds, ρ2) => some (d :: ds, ρ2)
      | none => none
    | none => none
  | _, _ => none
def ofRe : Re → Rv
  | .fz d => .fz d
  | .nw d => .nw d
section
variable {f : Fr} {g g' : Gs} {σ : L2.St} {H H' : Hp} {ρ ρ' : Rho} {v : V} {r : Rv} {d : D} {p : Addr}
theorem Scr.sq (R : Rel f g σ H ρ) (h : Scr f v) : ∃ (a : Addr) (ns : List Int), v = .ref a ∧ SqL f.K H a (ns.map V.int) ∧ ns.length ≤ 63 := by
  obtain ⟨a, ns, e, h, hl⟩ := h
  refine ⟨a, ns, e, ?_, hl⟩
  rcases h with (h | ⟨o, h⟩) | h
  · exact .inl (.inl (R.keep a _ (of_fz h).1 (of_fz h).2))
  · exact .inl (.inr ⟨o, R.keep a _ (of_fz h).1 (of_fz h).2⟩)
  · exact .inr h
theorem NoSrc.mt {a : Addr} {o : HO} (R : Rel f g σ H ρ) (h : Fz f.H0 f.mt a = some o) : NoSrc g a := by
  obtain ⟨q1, q2⟩ := of_fz h
  refine ⟨fun p c e => ?_, fun z => ?_⟩
  · obtain ⟨_, _, _, h4, h5, _⟩ := R.src p c e
    refine ⟨?_, ?_⟩
    · rintro rfl
      rcases h4 with z | z
      · exact q2 z
      · rw [q1] at z; cases z
    · rintro rfl
      rcases h5 with z | z
      · exact q2 z
      · rw [q1] at z; cases z
  · rcases (R.fpM a z).2.1 with z | z
    · exact q2 z
    · rw [q1] at z; cases z
theorem Opd.arg (R : Rel f g σ H ρ) {fp : List Addr} (hfp : fp = [] ∨ fp = g.fp) {k : Kd} (hkm : k = .mu → fp = g.fp) (h : Opd f g σ H v r) (e : arg1 ρ k r = some (d, ρ')) : ∃ g', Rel f g' σ H ρ' ∧ Gro g H g' H ∧ g'.src = g.src ∧ ArgOk f.K (Fz H g'.M) H g'.src fp k v d := by
  have nf : ∀ {a : Addr}, NoSrc g a → a ∉ fp := fun n => by
    rcases hfp with rfl | rfl
    · exact List.not_mem_nil
    · exact n.2
  cases k with
  | sh =>
    obtain ⟨g1, R1, G1, s1, q⟩ := h.frzS R e
    exact ⟨g1, R1, G1, s1, q⟩
  | bo =>
    cases r with
    | mr _ => cases e
    | mi _ _ => cases e
    | src => cases e
    | scr => cases e
    | fz y => cases e; exact ⟨g, R, Gro.refl, rfl, .inl h⟩
    | nw y => cases e; exact ⟨g, R, Gro.refl, rfl, .inl h⟩
    | vr i =>
      have e : (match slD ρ[i]? with | some d => some (d, ρ) | none => none) = some (d, ρ') := e
      split at e
      · rename_i x e1
        cases e
        refine ⟨g, R, Gro.refl, rfl, ?_⟩
        have h' : σ[i]? = some (some v) := h
        unfold slD at e1
        split at e1
        · rename_i x e2
          cases e1
          obtain ⟨w, e3, q⟩ := R.slot i _ e2
          rw [h'] at e3; cases e3
          exact .inl q
        · rename_i x e2
          cases e1
          obtain ⟨w, e3, q⟩ := R.slot i _ e2
          rw [h'] at e3; cases e3
          rcases q with q | ⟨a, rfl, q⟩
          · exact .inl q
          · obtain ⟨o, q2⟩ := q.there
            exact .inr ⟨a, rfl, q.mono (Same.refl _) fun o e => R.keep a o (of_fz e).1 (of_fz e).2, (NoSrc.mt R q2).1, nf (NoSrc.mt R q2)⟩
        · rename_i x e2
          cases e1
          obtain ⟨w, e3, a, rfl, _, _, ns, q⟩ := R.slot i _ e2
          rw [h'] at e3; cases e3
          exact .inr ⟨a, rfl, q, ns.1, nf ns⟩
        · cases e1
      · cases e
  | src =>
    cases r with
    | src => cases e; exact ⟨g, R, Gro.refl, rfl, rfl, h⟩
    | _ => cases e
  | scr =>
    cases r with
    | scr =>
      cases e
      refine ⟨g, R, Gro.refl, rfl, rfl, ?_⟩
      obtain ⟨a, ns, e1, h1, hl⟩ := id h
      refine ⟨a, ns, e1, ?_, hl⟩
      have key : ∀ o, Fz f.H0 f.mt a = some o → Fz H (srcSet g.src fp) a = some o := fun o ho => fz_of (R.keep a o (of_fz ho).1 (of_fz ho).2) ((NoSrc.mt R ho).1.set (nf (NoSrc.mt R ho)))
      rcases h1 with (h1 | ⟨o, h1⟩) | h1
      · exact .inl (.inl (key _ h1))
      · exact .inl (.inr ⟨o, key _ h1⟩)
      · exact .inr h1
    | _ => cases e
  | mu =>
    cases r with
    | mr i =>
      have e : (match ρ[i]? with | some (some (.mu _)) => some (PyData.none, ρ) | _ => none) = some (d, ρ') := e
      split at e
      · rename_i m e1
        cases e
        obtain ⟨w, e2, p, as, e3, rfl, _⟩ := R.slot i _ e1
        have h' : σ[i]? = some (some v) := h
        rw [h'] at e2; cases e2
        exact ⟨g, R, Gro.refl, rfl, rfl, p, as, (hkm rfl).trans e3, rfl⟩
      · cases e
    | _ => cases e
theorem OpdA.arg {f : Fr} {σ : L2.St} {H : Hp} : ∀ {ks : List Kd} {rs : List Rv} {vs : List V} {g : Gs} {ρ ρ' : Rho} {ds : List D} {fp : List Addr}, (fp = [] ∨ fp = g.fp) → (Kd.mu ∈ ks → fp = g.fp) → Rel f g σ H ρ → OpdA f g σ H vs rs → argA ρ ks rs = some (ds, ρ') → ∃ g', Rel f g' σ H ρ' ∧ Gro g H g' H ∧ g'.src = g.src ∧ ArgsOk f.K (Fz H g'.M) H g.src fp ks vs ds := by
  intro ks
  induction ks with
  | nil =>
    intro rs vs g ρ ρ' ds fp hf1 hf2 R h e
    cases h with
    | nil => unfold argA at e; cases e; exact ⟨g, R, Gro.refl, rfl, .nil⟩
    | cons _ _ => unfold argA at e; cases e
  | cons k ks ih =>
    intro rs vs g ρ ρ' ds fp hf1 hf2 R h e
    cases h with
    | nil => unfold argA at e; cases e
    | cons h hr =>
      unfold argA at e
      split at e
      · rename_i d ρ1 e1
        split at e
        · rename_i ds ρ2 e2
          cases e
          obtain ⟨g1, R1, G1, s1, q1⟩ := h.arg R hf1 (fun z => hf2 (z ▸ List.mem_cons_self)) e1
          obtain ⟨g2, R2, G2, s2, q2⟩ := ih (by rw [G1.fp]; exact hf1) (fun z => by rw [G1.fp]; exact hf2 (List.mem_cons_of_mem _ z)) R1 (hr.mono G1) e2
          rw [s1] at q1 q2
          exact ⟨g2, R2, G1.trans G2, s2.trans s1, .cons (q1.mono G2.fz) q2⟩
        · cases e
      · cases e
/-- behind a call, with a new thing -/
theorem Rel.ownC (R : Rel f g σ H ρ) (hp : H p = none) (hk : ∀ a o, H a = some o → (∀ p c, g.src = some (p, c) → a ≠ p ∧ a ≠ c) → H' a = some o) (hd : ∀ a, H' a = none → H a = none) (hsrc : ∀ p c, g.src = some (p, c) → SrcOk H' p c)
    (hr : Rt f.K (Fz H' (g.add p).M) H' p d) : Rel f (g.add p) σ H' ρ ∧ Gro g H (g.add p) H' ∧ VR f (g.add p) σ H' ρ (.ref p) (.nw d) := by
  have nsM : ∀ a, ¬ g.M a → ∀ p c, g.src = some (p, c) → a ≠ p ∧ a ≠ c := fun a n p c e => ⟨fun q => n (q ▸ (R.src p c e).2.1), fun q => n (q ▸ (R.src p c e).2.2.1)⟩
  have hG : Same (Fz H g.M) (Fz H' (g.add p).M) := fz_mono fun a u e n => ⟨hk a u e (nsM a n), fun z => z.elim n fun q => by rw [q, hp] at e; cases e⟩
  have hns : NoSrc g p := ⟨nsM p (R.mH p hp), fun z => R.mH p hp (R.fpM p z).1⟩
  have hT : ∀ a ∈ g.T, H' a = H a := fun a h => by
    have hn := R.tmp a h
    cases e : H a with
    | none => exact absurd hn.1 (R.mH a e)
    | some o => exact hk a o e fun p c hp => hn.2.1.1 p c hp
  refine ⟨⟨fun a u e n => hk a u (R.keep a u e n) fun q c hq => ?_, fun a e => R.dom a (hd a e), fun a m => .inl (R.m0 a m), R.m00, fun a m => ?_, fun q c e => ?_, R.len, fun i s e => ?_, R.uq, fun a h => ⟨.inl (R.tmp a h).1, (R.tmp a h).2⟩, fun a h => ⟨.inl (R.fpM a h).1, (R.fpM a h).2⟩, R.fpn, R.mq⟩, ⟨hG, fun _ h => h, rfl, hT, rfl⟩, p, rfl, .inr rfl, R.dom p hp, hns, hr, fun h => R.mH p hp (R.tmp p h).1, fun i e h1 h2 => ?_⟩
  · obtain ⟨_, _, _, h4, h5, _⟩ := R.src q c hq
    refine ⟨?_, ?_⟩
    · rintro rfl
      rcases h4 with z | z
      · exact n z
      · rw [e] at z; cases z
    · rintro rfl
      rcases h5 with z | z
      · exact n z
      · rw [e] at z; cases z
  · rcases m with m | m
    · exact R.mu_step hk hsrc a m
    · rw [m]; exact hr.mu
  · obtain ⟨h1, h2, h3, h4, h5, h6⟩ := R.src q c e
    exact ⟨h1, .inl h2, .inl h3, h4, h5, hsrc q c e⟩
  · obtain ⟨v, e1, h⟩ := R.slot i s e
    refine ⟨v, e1, ?_⟩
    cases s with
    | sh d => exact Rp.mono hG h
    | bo d => exact BoV.mono hG h
    | ow d =>
      obtain ⟨a, e2, m, h0, ns, r⟩ := h
      exact ⟨a, e2, .inl m, h0, ns, r.mono hG fun o e => hk a o e ns.1⟩
    | src => exact h
    | scr => exact h
    | mu m =>
      obtain ⟨q, as, e2, e3, r⟩ := h
      exact ⟨q, as, e2, e3, r.mono hG fun b hb o' e' => hk b o' e' (R.fpM b (e2 ▸ hb)).2.2⟩
  · obtain ⟨v, e1, a, e2, m, h0, ns, r⟩ := R.slot i _ h1
    rw [e1] at h2
    cases h2
    cases e2
    obtain ⟨o', e3⟩ := r.there
    rw [hp] at e3; cases e3
/-- behind the call that makes the source -/
theorem Rel.mkSrc {c : Addr} (R : Rel f g σ H ρ) (hn : g.src = none) (hp : H p = none) (hc : H c = none) (hpc : p ≠ c) (hk : ∀ a o, H a = some o → H' a = some o) (hd : ∀ a, H' a = none → H a = none) (hs : SrcOk H' p c) :
    Rel f ⟨fun a => g.M a ∨ a = p ∨ a = c, some (p, c), g.T, g.fp⟩ σ H' ρ ∧ Gro g H ⟨fun a => g.M a ∨ a = p ∨ a = c, some (p, c), g.T, g.fp⟩ H' := by
  have hG : Same (Fz H g.M) (Fz H' (fun a => g.M a ∨ a = p ∨ a = c)) := fz_mono fun a u e n => ⟨hk a u e, fun z => z.elim n fun q => q.elim (fun q => by rw [q, hp] at e; cases e) fun q => by rw [q, hc] at e; cases e⟩
  have hT : ∀ a ∈ g.T, H' a = H a := fun a h => by
    have hn := R.tmp a h
    cases e : H a with
    | none => exact absurd hn.1 (R.mH a e)
    | some o => exact hk a o e
  obtain ⟨ns, l, m, t, more, s1, s2, s3⟩ := id hs
  refine ⟨⟨fun a u e n => hk a u (R.keep a u e n), fun a e => R.dom a (hd a e), fun a m => .inl (R.m0 a m), R.m00, fun a m => ?_, fun q d e => ?_, R.len, fun i s e => ?_, R.uq, fun a h => ⟨.inl (R.tmp a h).1, ⟨fun q d e => ?_, (R.tmp a h).2.1.2⟩, (R.tmp a h).2.2⟩, fun a h => ⟨.inl (R.fpM a h).1, (R.fpM a h).2.1, fun q d e => ?_⟩, R.fpn, R.mq⟩, ⟨hG, (fun pc h => by rw [hn] at h; cases h), rfl, hT, rfl⟩⟩
  · rcases m with m | m | m
    · have h := R.mU a m
      cases e : H a with
      | none => rw [e] at h; exact h.elim
      | some o => rw [hk a o e, ← e]; exact h
    · rw [m]; exact hs.mu.1
    · rw [m]; exact hs.mu.2
  · cases e
    exact ⟨hpc, .inr (.inl rfl), .inr (.inr rfl), .inr (R.dom p hp), .inr (R.dom c hc), hs⟩
  · obtain ⟨v, e1, h⟩ := R.slot i s e
    refine ⟨v, e1, ?_⟩
    cases s with
    | sh d => exact Rp.mono hG h
    | bo d => exact BoV.mono hG h
    | ow d =>
      obtain ⟨a, e2, m, h0, ns, r⟩ := h
      refine ⟨a, e2, .inl m, h0, ⟨fun q d e => ?_, ns.2⟩, r.mono hG fun o e => hk a o e⟩
      cases e
      obtain ⟨o', e3⟩ := r.there
      refine ⟨?_, ?_⟩
      · rintro rfl; rw [hp] at e3; cases e3
      · rintro rfl; rw [hc] at e3; cases e3
    | src =>
      obtain ⟨q, d, e, _⟩ := h
      rw [hn] at e; cases e
    | scr => exact h
    | mu m =>
      obtain ⟨q, as, e2, e3, r⟩ := h
      exact ⟨q, as, e2, e3, r.mono hG fun b hb o' e' => hk b o' e'⟩
  · cases e
    have := (R.tmp a h).1
    refine ⟨?_, ?_⟩
    · rintro rfl; exact R.mH _ hp this
    · rintro rfl; exact R.mH _ hc this
  · cases e
    have := (R.fpM a h).1
    refine ⟨?_, ?_⟩
    · rintro rfl; exact R.mH _ hp this
    · rintro rfl; exact R.mH _ hc this
theorem Rm.mu {K : PySem.W.Frag} {F H : Hp} {p : Addr} {as : List Addr} {m : MD} (h : Rm K F H p as m) : ∀ a ∈ p :: as, MuO (H a) := by
  have inn : ∀ {es : List (List D)}, RmA K F H as es → ∀ a ∈ as, MuO (H a) := fun h a ha => by
    obtain ⟨k, hk, e⟩ := List.getElem_of_mem ha
    obtain ⟨vs, h3, _⟩ := h.2 k a _ (by rw [List.getElem?_eq_getElem hk, e]) (List.getElem?_eq_getElem (h.1 ▸ hk))
    rw [h3]; trivial
  intro a ha
  rcases List.mem_cons.mp ha with rfl | ha
  · cases m with
    | fl ds => rw [h.2.choose_spec.1]; trivial
    | ll es => rw [h.1]; trivial
    | dl es => rw [h.1]; trivial
  · cases m with
    | fl ds => rw [h.1] at ha; cases ha
    | ll es => exact inn h.2 a ha
    | dl es => exact inn h.2 a ha
/-- a step that changes what is passed by reference, perhaps with a new thing -/
theorem Rel.stepG {M' : AP} {i : Nat} {m m' : MD} (R : Rel f g σ H ρ) (hM1 : ∀ a, g.M a → M' a) (hM2 : ∀ a, M' a → g.M a ∨ (H a = none ∧ MuO (H' a))) (hs0 : ρ[i]? = some (some (.mu m)))
    (hk : ∀ a o, H a = some o → NoS g.src a → a ∉ g.fp → H' a = some o) (hd : ∀ a, H' a = none → H a = none) (hsrc : ∀ p c, g.src = some (p, c) → SrcOk H' p c) (hrm : ∀ p as, g.fp = p :: as → Rm f.K (Fz H' M') H' p as m') :
    Rel f ⟨M', g.src, g.T, g.fp⟩ σ H' (ρ.set i (some (.mu m'))) ∧ Gro g H ⟨M', g.src, g.T, g.fp⟩ H' := by
  have nsM : ∀ a, ¬ g.M a → NoS g.src a ∧ a ∉ g.fp := fun a n => ⟨fun p c e => ⟨fun q => n (q ▸ (R.src p c e).2.1), fun q => n (q ▸ (R.src p c e).2.2.1)⟩, fun z => n (R.fpM a z).1⟩
  have hG : Same (Fz H g.M) (Fz H' M') := fz_mono fun a u e n => ⟨hk a u e (nsM a n).1 (nsM a n).2, fun z => (hM2 a z).elim n fun q => by rw [q.1] at e; cases e⟩
  have hT : ∀ a ∈ g.T, H' a = H a := fun a h => by
    have hn := R.tmp a h
    cases e : H a with
    | none => exact absurd hn.1 (R.mH a e)
    | some o => exact hk a o e hn.2.1.1 hn.2.1.2
  obtain ⟨w0, e0, p0, as0, f0, _, _⟩ := R.slot i _ hs0
  have hr0 := hrm p0 as0 f0
  have hi : i < ρ.length := (List.getElem?_eq_some_iff.mp hs0).1
  have ow : ∀ (j : Nat) (e : D), (ρ.set i (some (.mu m')))[j]? = some (some (.ow e)) → ρ[j]? = some (some (.ow e)) := fun j e h => by
    rcases getset h with ⟨_, z⟩ | ⟨_, z⟩
    · cases z
    · exact z
  refine ⟨⟨fun a u e n => hk a u (R.keep a u e n) (fun q c hq => ?_) (fun z => ?_), fun a e => R.dom a (hd a e), fun a m => hM1 a (R.m0 a m), R.m00, fun a z => ?_, fun q c e => ?_, by rw [List.length_set]; exact R.len, fun j s e => ?_, fun j k l d e h1 h2 => R.uq j k l d e (ow j d h1) (ow k e h2), fun a h => ⟨hM1 a (R.tmp a h).1, (R.tmp a h).2.1, fun j e h1 => (R.tmp a h).2.2 j e (ow j e h1)⟩, fun a h => ⟨hM1 a (R.fpM a h).1, (R.fpM a h).2⟩, R.fpn, fun j k d e h1 h2 => ?_⟩, ⟨hG, fun _ h => h, rfl, hT, rfl⟩⟩
  · obtain ⟨_, _, _, h4, h5, _⟩ := R.src q c hq
    refine ⟨?_, ?_⟩
    · rintro rfl
      rcases h4 with z | z
      · exact n z
      · rw [e] at z; cases z
    · rintro rfl
      rcases h5 with z | z
      · exact n z
      · rw [e] at z; cases z
  · rcases (R.fpM a z).2.1 with z | z
    · exact n z
    · rw [e] at z; cases z
  · rcases hM2 a z with z | z
    · by_cases q1 : a ∈ g.fp
      · exact hr0.mu a (f0 ▸ q1)
      · by_cases q : ∃ p c, g.src = some (p, c) ∧ (a = p ∨ a = c)
        · obtain ⟨p, c, e, q⟩ := q
          rcases q with rfl | rfl
          · exact (hsrc _ _ e).mu.1
          · exact (hsrc _ _ e).mu.2
        · have h := R.mU a z
          cases e : H a with
          | none => rw [e] at h; exact h.elim
          | some o =>
            rw [hk a o e (fun p c hp => ⟨fun z => q ⟨p, c, hp, .inl z⟩, fun z => q ⟨p, c, hp, .inr z⟩⟩) q1, ← e]
            exact h
    · exact z.2
  · obtain ⟨h1, h2, h3, h4, h5, h6⟩ := R.src q c e
    exact ⟨h1, hM1 _ h2, hM1 _ h3, h4, h5, hsrc q c e⟩
  · rcases getset e with ⟨rfl, z⟩ | ⟨ne, z⟩
    · cases z
      obtain ⟨w, e1, p, as, f1, e2, _⟩ := R.slot i _ hs0
      exact ⟨w, e1, p, as, f1, e2, hrm p as f1⟩
    · obtain ⟨v, e1, h⟩ := R.slot j s z
      refine ⟨v, e1, ?_⟩
      cases s with
      | sh d => exact Rp.mono hG h
      | bo d => exact BoV.mono hG h
      | ow d =>
        obtain ⟨a, e2, m, h0, ns, r⟩ := h
        exact ⟨a, e2, hM1 a m, h0, ns, r.mono hG fun o e => hk a o e ns.1 ns.2⟩
      | src => exact h
      | scr => exact h
      | mu m2 => exact absurd (R.mq i j _ _ hs0 z) ne
  · have mu : ∀ (j : Nat) (e : MD), (ρ.set i (some (.mu m')))[j]? = some (some (.mu e)) → j = i := fun j e h => by
      rcases getset h with ⟨z, _⟩ | ⟨ne, z⟩
      · exact z.symm
      · exact absurd (R.mq i j _ _ hs0 z) ne
    rw [mu j d h1, mu k e h2]
/-- a call's end, for the caller -/
theorem PostC.fin {re : Re} {v : V} {m : MD} (R : Rel f g σ H ρ) (P : PostC f.K g.M g.src [] m H H' v re) : ∃ g', Rel f g' σ H' ρ ∧ Gro g H g' H' ∧ VR f g' σ H' ρ v (ofRe re) := by
  have keep : ∀ a o, H a = some o → NoS g.src a → H' a = some o := fun a o e n => P.keep a o e n List.not_mem_nil
  cases re with
  | fz d =>
    obtain ⟨R1, G1⟩ := R.step (g' := g) (fun _ => Iff.rfl) rfl rfl keep P.dom P.sok
    exact ⟨g, R1, G1, P.ret⟩
  | nw d =>
    obtain ⟨a, rfl, hp, hr⟩ := P.ret
    obtain ⟨R1, G1, V1⟩ := R.ownC hp keep P.dom P.sok hr
    exact ⟨_, R1, G1, V1⟩
theorem PostC.finM {re : Re} {v : V} {i : Nat} {m m' : MD} (R : Rel f g σ H ρ) (hs0 : ρ[i]? = some (some (.mu m))) (P : PostC f.K g.M g.src g.fp m' H H' v re) : ∃ g', Rel f g' σ H' (ρ.set i (some (.mu m'))) ∧ Gro g H g' H' ∧ VR f g' σ H' (ρ.set i (some (.mu m'))) v (ofRe re) := by
  cases re with
  | fz d =>
    obtain ⟨R1, G1⟩ := R.stepG (M' := g.M) (fun _ h => h) (fun _ h => .inl h) hs0 P.keep P.dom P.sok P.rm
    exact ⟨_, R1, G1, P.ret⟩
  | nw d =>
    obtain ⟨a, rfl, hp, hr⟩ := P.ret
    have hn : ¬ g.M a := R.mH a hp
    have sub : ∀ q as, g.fp = q :: as → Rm f.K (Fz H' (fun b => g.M b ∨ b = a)) H' q as m' := fun q as e =>
      Rm.mono (fz_mono fun b o e n => ⟨e, fun z => n (z.imp id fun z => by rw [z])⟩) (fun _ _ _ h => h) (P.rm q as e)
    obtain ⟨R1, G1⟩ := R.stepG (M' := fun b => g.M b ∨ b = a) (fun _ h => .inl h) (fun b h => h.imp id fun (z : b = a) => by rw [z]; exact ⟨hp, hr.mu⟩) hs0 P.keep P.dom P.sok sub
    refine ⟨_, R1, G1, a, rfl, .inr rfl, R.dom a hp, ⟨fun p c e => ⟨fun z => hn (z ▸ (R.src p c e).2.1), fun z => hn (z ▸ (R.src p c e).2.2.1)⟩, fun z => hn (R.fpM a z).1⟩, hr, fun h => hn (R.tmp a h).1, fun j e h1 h2 => ?_⟩
    rcases getset h1 with ⟨_, z⟩ | ⟨_, z⟩
    · cases z
    obtain ⟨w, e1, b, e2, _, _, _, r⟩ := R.slot j _ z
    rw [e1] at h2
    cases h2
    cases e2
    obtain ⟨o', e3⟩ := r.there
    rw [hp] at e3; cases e3
end
def dCall (ks : List Kd) (C : Con) (da : DA) : DE := fun ρ Q => da ρ fun rs ρ1 => wFA (argA ρ1 ks rs) fun ds ρ2 => C ds fun re => Q (ofRe re) ρ2
def noMu (ks : List Kd) : Bool := ks.all fun k => match k with | .mu => false | _ => true
theorem le_call {K : PySem.W.Frag} {ks : List Kd} {C : Con} {E : XK} {tr : TA} {dr : DA} (h : LA K tr dr) (hk : noMu ks = true := by rfl) : LE K (tCall (spD K ks C) [] E tr) (dCall ks C dr) := by
  intro f g σ H ρ Q R hK hR hd k
  refine h f g σ H ρ _ _ hK hR hd fun vs H1 g1 ρ1 rs R1 G1 O1 q1 => ?_
  obtain ⟨ds, ρ2, e1, q1⟩ := wFA_some q1
  obtain ⟨g2, R2, G2, s2, A⟩ := O1.arg (fp := []) (.inl rfl) (fun z => by
    have := List.all_eq_true.mp hk _ z
    cases this) R1 e1
  subst hK
  rw [List.append_nil]
  refine ⟨g2.M, g2.src, ds, ⟨fun a m => R2.mU a m, fun p c e => ?_, by rw [s2]; exact A, (fun _ h => nomatch h), List.nodup_nil, (fun _ _ h => nomatch h)⟩, ?_⟩
  · obtain ⟨h1, h2, h3, _, _, h6⟩ := R2.src p c e
    exact ⟨h1, h2, h3, h6⟩
  · refine ⟨_, q1, fun re q v H' P => ?_⟩
    obtain ⟨g3, R3, G3, V3⟩ := P.fin R2
    exact k v H' g3 ρ2 _ R3 ((G1.trans G2).trans G3) V3 q
/-- .. that changes what is passed by reference -/
def muIx : List Rv → Option Nat
  | [] => none
  | .mr i :: _ => some i
  | _ :: rs => muIx rs
def dCallM (ks : List Kd) (C : ConM) (da : DA) : DE := fun ρ Q => da ρ fun rs ρ1 => wFA (argA ρ1 ks rs) fun ds ρ2 => ∃ i m, muIx rs = some i ∧ ρ2[i]? = some (some (.mu m)) ∧ C ds m fun re m' => Q (ofRe re) (ρ2.set i (some (.mu m')))
theorem le_callM {K : PySem.W.Frag} {ks : List Kd} {C : ConM} {E : XK} {tr : TA} {dr : DA} (h : LA K tr dr) : LE K (tCall (spM K ks C) [] E tr) (dCallM ks C dr) := by
  intro f g σ H ρ Q R hK hR hd k
  refine h f g σ H ρ _ _ hK hR hd fun vs H1 g1 ρ1 rs R1 G1 O1 q1 => ?_
  obtain ⟨ds, ρ2, e1, q1⟩ := wFA_some q1
  obtain ⟨i, m, _, hm, q1⟩ := q1
  obtain ⟨g2, R2, G2, s2, A⟩ := O1.arg (fp := g1.fp) (.inr rfl) (fun _ => rfl) R1 e1
  subst hK
  rw [List.append_nil]
  refine ⟨g2.M, g2.src, g2.fp, m, ds, ⟨fun a m => R2.mU a m, fun p c e => ?_, by rw [s2, G2.fp]; exact A, fun a h => ⟨(R2.fpM a h).1, (R2.fpM a h).2.2⟩, R2.fpn, fun p as e => ?_⟩, ?_⟩
  · obtain ⟨h1, h2, h3, _, _, h6⟩ := R2.src p c e
    exact ⟨h1, h2, h3, h6⟩
  · obtain ⟨w, _, q, as', e2, _, h⟩ := R2.slot i _ hm
    rw [e] at e2; cases e2
    exact h
  · refine ⟨_, q1, fun re m' q v H' P => ?_⟩
    obtain ⟨g3, R3, G3, V3⟩ := P.finM R2 hm
    exact k v H' g3 _ _ R3 ((G1.trans G2).trans G3) V3 q

/-! ### a def -/
def slot0 (m : MD) : Kd → D → Option Sl
  | .sh, d => some (.sh d)
  | .bo, d => some (.bo d)
  | .src, _ => some .src
  | .scr, _ => some .scr
  | .mu, _ => some (.mu m)
def slots0 (m : MD) : List Kd → List D → Rho
  | k :: ks, d :: ds => slot0 m k d :: slots0 m ks ds
  | _, _ => []
def startM (n : Nat) (m : MD) (ks : List Kd) (ds : List D) : Rho := slots0 m ks ds ++ List.replicate (n - ds.length) none
def startR (n : Nat) (ks : List Kd) (ds : List D) : Rho := startM n (.fl []) ks ds
def retS (Qc : Re → Prop) : Option (Option Sl) → Prop
  | some (some (.sh d)) => Qc (.fz d)
  | some (some (.ow d)) => Qc (.nw d)
  | some (some (.bo d)) => flatD d = true ∧ Qc (.fz d)
  | _ => False
def retC (Qc : Re → Prop) : Rv → Rho → Prop
  | .fz d, _ => Qc (.fz d)
  | .nw d, _ => Qc (.nw d)
  | .vr i, ρ => retS Qc ρ[i]?
  | _, _ => False
/-- .. with what is passed by reference -/
def retM (im : Nat) (Qc : Re → MD → Prop) : Rv → Rho → Prop := fun r ρ => ∃ m, ρ[im]? = some (some (.mu m)) ∧ retC (fun re => Qc re m) r ρ
section
variable {K : PySem.W.Frag} {F H : Hp} {M0 : AP} {src : Option (Addr × Addr)} {fp : List Addr} {m : MD} {ks : List Kd} {vs : List V} {ds : List D}
theorem slots0_get (h : ArgsOk K F H src fp ks vs ds) : ∀ {i : Nat} {s : Sl}, (slots0 m ks ds)[i]? = some (some s) → ∃ k v d, vs[i]? = some v ∧ ks[i]? = some k ∧ ArgOk K F H src fp k v d ∧ slot0 m k d = some s := by
  induction h with
  | nil => intro i s e; simp [slots0] at e
  | cons h _ ih =>
    intro i s e
    cases i with
    | zero => simp [slots0] at e; exact ⟨_, _, _, rfl, rfl, h, e⟩
    | succ i =>
      obtain ⟨k, v, d, e1, e0, e2, e3⟩ := ih (i := i) (s := s) (by simpa [slots0] using e)
      exact ⟨k, v, d, by simpa using e1, by simpa using e0, e2, e3⟩
theorem slots0_length (h : ArgsOk K F H src fp ks vs ds) : (slots0 m ks ds).length = ds.length := by
  induction h with
  | nil => rfl
  | cons _ _ ih => simp [slots0, ih]
/-- at most one is passed by reference -/
def oneMu : List Kd → Bool
  | [] => true
  | .mu :: ks => noMu ks
  | .sh :: ks => oneMu ks
  | .bo :: ks => oneMu ks
  | .src :: ks => oneMu ks
  | .scr :: ks => oneMu ks
theorem noMu_nm {ks : List Kd} (h : noMu ks = true) (l : Nat) : ks[l]? ≠ some .mu := fun e => by
  have := List.all_eq_true.mp h _ (List.mem_of_getElem? e)
  cases this
theorem oneMu_eq : ∀ {ks : List Kd}, oneMu ks = true → ∀ {i j : Nat}, ks[i]? = some .mu → ks[j]? = some .mu → i = j := by
  intro ks
  induction ks with
  | nil => intro _ i j h; simp at h
  | cons k ks ih =>
    intro h i j hi hj
    have step : oneMu ks = true → k ≠ .mu → i = j := fun h hk => by
      cases i with
      | zero => simp at hi; exact absurd hi hk
      | succ i => cases j with
        | zero => simp at hj; exact absurd hj hk
        | succ j => exact congrArg (· + 1) (ih h (i := i) (j := j) (by simpa using hi) (by simpa using hj))
    cases k with
    | mu =>
      have h : noMu ks = true := h
      cases i with
      | zero => cases j with
        | zero => rfl
        | succ j => exact absurd (by simpa using hj) (noMu_nm h j)
      | succ i => exact absurd (by simpa using hi) (noMu_nm h i)
    | sh => exact step h (fun z => nomatch z)
    | bo => exact step h (fun z => nomatch z)
    | src => exact step h (fun z => nomatch z)
    | scr => exact step h (fun z => nomatch z)
theorem rel_start {N : List Str} (P : PreC K M0 src fp m H ks vs ds) (h1m : oneMu ks = true) :
    Rel ⟨K, H, M0, srcSet src fp⟩ ⟨M0, src, [], fp⟩ (L2.start N vs) H (startM N.length m ks ds) := by
  have hl := P.args.length
  have hl2 := slots0_length (m := m) P.args
  have hslot : ∀ (i : Nat) (s : Sl), (startM N.length m ks ds)[i]? = some (some s) → ∃ k v d, (L2.start N vs)[i]? = some (some v) ∧ ks[i]? = some k ∧ ArgOk K (Fz H M0) H src fp k v d ∧ slot0 m k d = some s := fun i s e => by
    unfold startM at e
    by_cases hi : i < (slots0 m ks ds).length
    · rw [List.getElem?_append_left hi] at e
      obtain ⟨k, v, d, e1, e0, e2, e3⟩ := slots0_get P.args e
      refine ⟨k, v, d, ?_, e0, e2, e3⟩
      unfold L2.start
      rw [List.getElem?_append_left (by rw [List.length_map]; omega), List.getElem?_map, e1]
      rfl
    · rw [List.getElem?_append_right (by omega)] at e
      rw [List.getElem?_replicate] at e
      split at e <;> cases e
  have isMu : ∀ (i : Nat) (d : MD), (startM N.length m ks ds)[i]? = some (some (.mu d)) → ks[i]? = some .mu := fun i d h => by
    obtain ⟨k, v, d, _, e0, _, e3⟩ := hslot i _ h
    cases k <;> first | exact e0 | cases e3
  refine ⟨fun a o e _ => e, fun a e => e, fun a m => m, fun a m e => P.dom a e m, fun a m => P.mu a m, fun p c e => ?_, ?_, fun i s e => ?_, fun i j l d e h1 _ _ _ => ?_, (fun a h => nomatch h), fun a h => ⟨(P.fpM a h).1, .inl (.inr h), (P.fpM a h).2⟩, P.fpn, fun i j d e h1 h2 => oneMu_eq h1m (isMu i d h1) (isMu j e h2)⟩
  · obtain ⟨h1, h2, h3, h4⟩ := P.sok p c e
    exact ⟨h1, h2, h3, .inl (.inl ⟨p, c, e, .inl rfl⟩), .inl (.inl ⟨p, c, e, .inr rfl⟩), h4⟩
  · unfold startM L2.start
    rw [List.length_append, List.length_append, List.length_replicate, List.length_replicate, List.length_map]
    omega
  · obtain ⟨k, v, d, e1, _, e2, e3⟩ := hslot i s e
    refine ⟨v, e1, ?_⟩
    cases k with
    | sh => cases e3; exact e2
    | bo =>
      cases e3
      rcases e2 with h | ⟨a, rfl, h, n⟩
      · exact .inl h
      · exact .inr ⟨a, rfl, h.mono (Same.refl _) fun o e => fz_of e (n.1.set n.2)⟩
    | src => cases e3; exact e2.2
    | scr => cases e3; exact e2.2
    | mu =>
      cases e3
      obtain ⟨_, p, as, e4, e5⟩ := e2
      exact ⟨p, as, e4, e5, P.rm p as e4⟩
  · obtain ⟨k, v, d, _, _, _, e3⟩ := hslot i _ h1
    cases k <;> cases e3
/-- the end of a def -/
theorem ret_end {g' : Gs} {σ' : L2.St} {H' : Hp} {ρ' : Rho} {v : V} {r : Rv} {Qc : Re → Prop} {Q : V → Hp → Prop}
    (R : Rel ⟨K, H, M0, srcSet src fp⟩ g' σ' H' ρ') (hs : ∀ pc, src = some pc → g'.src = some pc) (V : VR ⟨K, H, M0, srcSet src fp⟩ g' σ' H' ρ' v r) (q : retC Qc r ρ')
    (hrm : ∀ p as, fp = p :: as → Rm K (Fz H' g'.M) H' p as m) (hQ : ∀ re, Qc re → ∀ v H', PostC K M0 src fp m H H' v re → Q v H') : Q v H' := by
  have keep : ∀ a o, H a = some o → NoS src a → a ∉ fp → H' a = some o := fun a o e n n' => R.keep a o e (n.set n')
  have sok : ∀ p c, src = some (p, c) → SrcOk H' p c := fun p c e => (R.src p c (hs _ e)).2.2.2.2.2
  have sub : Same (Fz H' g'.M) (Fz H' M0) := fz_mono fun a o e n => ⟨e, fun m => n (R.m0 a m)⟩
  have subA : ∀ a, g'.M a → Same (Fz H' g'.M) (Fz H' (fun b => M0 b ∨ b = a)) := fun a m => fz_mono fun b o e n => ⟨e, fun z => z.elim (fun z => n (R.m0 b z)) fun z => n (z ▸ m)⟩
  have own : ∀ a d, H a = none → g'.M a → Rt K (Fz H' g'.M) H' a d → RetOk K M0 H H' (.ref a) (.nw d) := fun a d h0 m r => ⟨a, rfl, h0, r.mono (subA a m) fun _ h => h⟩
  have rmF : ∀ w d, ∀ p as, fp = p :: as → Rm K (Fz H' (retAP M0 w (.fz d))) H' p as m := fun w d p as e => Rm.mono sub (fun _ _ _ h => h) (hrm p as e)
  have rmN : ∀ a d, g'.M a → ∀ p as, fp = p :: as → Rm K (Fz H' (retAP M0 (.ref a) (.nw d))) H' p as m := fun a d ma p as e =>
    Rm.mono ((subA a ma).trans (fz_mono fun b o e n => ⟨e, fun z => n (z.imp id fun z => (L2.V.ref.inj z).symm)⟩)) (fun _ _ _ h => h) (hrm p as e)
  cases r with
  | fz d => exact hQ _ q v H' ⟨keep, R.dom, sok, Rp.mono sub V, rmF v d⟩
  | nw d =>
    obtain ⟨a, rfl, m, h0, _, r, _⟩ := V
    exact hQ _ q _ H' ⟨keep, R.dom, sok, own a d h0 m r, rmN a d m⟩
  | vr i =>
    obtain ⟨s, e0, _, e1⟩ := V
    have q : retS Qc ρ'[i]? := q
    obtain ⟨w, e2, h⟩ := R.slot i s e0
    rw [e1] at e2; cases e2
    rw [e0] at q
    cases s with
    | sh d => exact hQ _ q v H' ⟨keep, R.dom, sok, Rp.mono sub h, rmF v d⟩
    | ow d =>
      obtain ⟨a, rfl, m, h0, _, r⟩ := h
      exact hQ _ q _ H' ⟨keep, R.dom, sok, own a d h0 m r, rmN a d m⟩
    | bo d => exact hQ _ q.2 v H' ⟨keep, R.dom, sok, Rp.mono sub (BoV.flat h q.1), rmF v d⟩
    | src => exact q.elim
    | scr => exact q.elim
    | mu _ => exact q.elim
  | src => exact q.elim
  | scr => exact q.elim
  | mr _ => exact q.elim
  | mi _ _ => exact q.elim
end
theorem oneMu_of {ks : List Kd} (h : noMu ks = true) : oneMu ks = true := by
  induction ks with
  | nil => rfl
  | cons k ks ih =>
    have h2 : noMu ks = true := (Bool.and_eq_true_iff.mp h).2
    cases k with
    | mu => exact absurd rfl (noMu_nm h 0)
    | sh => exact ih h2
    | bo => exact ih h2
    | src => exact ih h2
    | scr => exact ih h2
/-- a def by its data reading -/
theorem def_end {K : PySem.W.Frag} {ks : List Kd} {C : Con} {N : List Str} {t : TS} {d : DS} {vs : List V} {H : Hp} {Q : VK} {E : XK} (h : spD K ks C vs H Q E) (hk : noMu ks = true) (hl : LS K t d)
    (hd : ∀ ds Qc, C ds Qc → d { nx := fun _ => Qc (.fz .none), rt := retC Qc } (startR N.length ks ds)) : t { nx := fun _ H' => Q .non H', rt := Q } (L2.start N vs) H := by
  obtain ⟨M0, src, ds, P, Qc, hC, hQ⟩ := h
  refine hl ⟨K, H, M0, srcSet src []⟩ ⟨M0, src, [], []⟩ (L2.start N vs) H _ _ _ rfl (rel_start P (oneMu_of hk)) (hd ds _ hC) ⟨fun g' σ' H' ρ' R' G' q => ?_, fun g' σ' H' ρ' v r R' G' V' q => ret_end R' G'.src V' q (fun _ _ h => nomatch h) hQ, fun _ _ _ _ _ _ q => q.elim, fun _ _ _ _ _ _ q => q.elim⟩
  exact ret_end (r := .fz .none) R' G'.src Rp.non (Qc := Qc) q (fun _ _ h => nomatch h) hQ
theorem def_endM {K : PySem.W.Frag} {ks : List Kd} {C : ConM} {N : List Str} {t : TS} {d : DS} {vs : List V} {H : Hp} {Q : VK} {E : XK} (im : Nat) (h : spM K ks C vs H Q E) (hk : oneMu ks = true) (hl : LS K t d)
    (hd : ∀ ds m Qc, C ds m Qc → d { nx := fun ρ => ∃ m', ρ[im]? = some (some (.mu m')) ∧ Qc (.fz .none) m', rt := retM im Qc } (startM N.length m ks ds)) : t { nx := fun _ H' => Q .non H', rt := Q } (L2.start N vs) H := by
  obtain ⟨M0, src, fp, m, ds, P, Qc, hC, hQ⟩ := h
  have rd : ∀ (g' : Gs) (σ' : L2.St) (H' : Hp) (ρ' : Rho) (m' : MD), Rel ⟨K, H, M0, srcSet src fp⟩ g' σ' H' ρ' → g'.fp = fp → ρ'[im]? = some (some (.mu m')) → ∀ p as, fp = p :: as → Rm K (Fz H' g'.M) H' p as m' := fun g' σ' H' ρ' m' R e h p as e2 => by
    obtain ⟨w, _, q, as', e3, _, h⟩ := R.slot im _ h
    rw [e, e2] at e3; cases e3
    exact h
  refine hl ⟨K, H, M0, srcSet src fp⟩ ⟨M0, src, [], fp⟩ (L2.start N vs) H _ _ _ rfl (rel_start P hk) (hd ds m _ hC) ⟨fun g' σ' H' ρ' R' G' q => ?_, fun g' σ' H' ρ' v r R' G' V' q => ?_, fun _ _ _ _ _ _ q => q.elim, fun _ _ _ _ _ _ q => q.elim⟩
  · obtain ⟨m', h1, q⟩ := q
    exact ret_end (r := .fz .none) R' G'.src Rp.non (Qc := fun re => Qc re m') q (rd g' σ' H' ρ' m' R' G'.fp h1) (fun re hq => hQ re m' hq)
  · obtain ⟨m', h1, q⟩ := q
    exact ret_end R' G'.src V' (Qc := fun re => Qc re m') q (rd g' σ' H' ρ' m' R' G'.fp h1) (fun re hq => hQ re m' hq)
end DL

set_option Elab.async false
set_option linter.all false
set_option maxRecDepth 100000
set_option maxHeartbeats 4000000
namespace DL
open PySem L2 PySem.Spec PyProof.Rows

/-! ### defs that run where no repr is under way -/
structure FnG (P : Program) (w : World) (K : PySem.W.Frag) (mg : Str → Option Value) (base : Heap) (CX : CXT) (k : Nat) (f : Addr) (fd : FuncData) (ps : List Str) (sp : Sp) : Prop where
  len : ∀ vs H Q E, sp vs H Q E → vs.length = ps.length
  go : ∀ (A : Around), A.guards = some [] → Room k A → ∀ (outer : List Env) (s : Shared) (H : Hp), Env0 P w K mg base A outer s H → ∀ (args : Args) (us : List Value) (vs : List V) (Q : VK) (E : XK),
    BindsTo s fd args (ps.zip us) → Vals vs us → sp vs H Q E → codeAny (model P w) A (.call (.ref f) args) (CR CX outer P w H s Q E) s
section
variable {P : Program} {w : World} {K : PySem.W.Frag} {mg : Str → Option Value} {base : Heap} {CX : CXT}
/-- by its body -/
theorem fnG_of {k : Nat} {f : Addr} {x qual : Str} {st : Stmt} {fd : FuncData} {N ps : List Str} {sp : Sp} (F : C8.Fun K x qual st f fd) (S : FnScope N ps (C8.fnScope st)) (len : ∀ vs H Q E, sp vs H Q E → vs.length = ps.length)
    (hb : ∀ (cdv : Value) (A : Around) (outer : List Env) (s : Shared) (H : Hp) (vs : List V) (Q : VK) (E : XK), (A.deeper (envOfC qual (C8.fnScope st) s.heap.objs.size f cdv)).guards = some [] →
      Room k (A.deeper (envOfC qual (C8.fnScope st) s.heap.objs.size f cdv)) → sp vs H Q E →
      ∃ t, PSs (cxOf CX P w K mg base N qual (C8.fnScope st) f cdv A outer s H E) (C8.fnBody st) t ∧ t { nx := fun _ H' => Q .non H', rt := Q } (L2.start N vs) H) : FnG P w K mg base CX (k + 1) f fd ps sp := by
  obtain ⟨oc, od, dV, kV, doc, pm, an, cdv, ct, osl, rfl, lk, hcd⟩ := F.ex
  refine ⟨len, fun A hg hr outer s H e0 args us vs Q E hbd r hsp => ?_⟩
  have KX : K.In s.heap := e0.mod.kin.keeps fun b o e => (e0.bs b o e).1
  have hk : ∀ y ∈ ps.zip us, (C8.fnScope st).names.lookup y.1 = some .local ∨ ((C8.fnScope st).names.lookup y.1 = some .cell ∧ ((cellsFrom (s.heap.objs.size + 1) (C8.fnScope st).names []).lookup y.1).isSome = true) := by
    rintro ⟨n, v⟩ hy
    rcases S.par n (List.of_mem_zip hy).1 with q | q
    · left; exact q
    · right; exact ⟨q, PySem.W.cellsFrom_some _ _ _ (.inl q)⟩
  refine codeAny_call_function hr.depth (KX _ _ lk) rfl S.co S.gen rfl (PySem.W.codeRec_of KX hcd) (hbd _ _ _ _ (wpAny_newFunctionEnv_cells S.kind hk ?_))
  intro env he s1 x'
  subst he
  obtain ⟨t, ht, hq⟩ := hb cdv A outer s H vs Q E hg (hr.deeper _) hsp
  refine ⟨(e0.mod.nolimit.keeps fun b o e => (e0.bs b o e).1).keeps x'.toInCall.keep, codeAny_func ?_⟩
  have I := inv_start S hr.hd e0 (len _ _ _ _ hsp) r x' (CX := CX) (E := E) (qual := qual) (cd := cdv) (f := f)
  refine wpAny_mono (ht.run [] s1 (L2.start N vs) H _ I hq) (fun fl s' hs => ?_) (fun e s' hs => hs)
  cases fl with
  | ret u => obtain ⟨v, σ', H', J, rv, q⟩ := hs; exact ⟨v, H', J.os, J.bare, J.base, J.hok, rv, q⟩
  | next => obtain ⟨σ', H', J, q⟩ := hs; exact ⟨V.non, H', J.os, J.bare, J.base, J.hok, rfl, q⟩
  | brk => obtain ⟨_, _, _, q⟩ := hs; exact q.elim
  | cont => obtain ⟨_, _, _, q⟩ := hs; exact q.elim
/-- a def that may be called by its name -/
structure CalG (P : Program) (w : World) (K : PySem.W.Frag) (mg : Str → Option Value) (base : Heap) (k : Nat) (x : Str) (sp : Sp) : Prop where
  ex : ∃ (f : Addr) (fd : FuncData) (ps : List Str), FnG P w K mg base C8.CX0 k f fd ps sp ∧ mg x = some (.ref f) ∧ PySem.W.keepIn K (.ref f) = true ∧ Binds K fd ps []
theorem CalG.mono {j k : Nat} {x : Str} {sp : Sp} (c : CalG P w K mg base j x sp) (h : j ≤ k) : CalG P w K mg base k x sp := by
  obtain ⟨f, fd, ps, F, a, b, d⟩ := c.ex
  exact ⟨f, fd, ps, ⟨F.len, fun A hg hr => F.go A hg (hr.mono h)⟩, a, b, d⟩
/-- a def by the link of its body -/
theorem calG {x : Str} {st : Stmt} {f : Addr} {fd : FuncData} {N ps : List Str} {k : Nat} {ks : List Kd} {C : Con} (F : C8.Def K mg x st f fd) (b : Binds K fd ps []) (S : FnScope N ps (C8.fnScope st)) (hl : ks.length = ps.length)
    (hb : ∀ (cdv : Value) (A : Around) (outer : List Env) (s : Shared) (H : Hp) (E : XK), (A.deeper (envOfC x (C8.fnScope st) s.heap.objs.size f cdv)).guards = some [] → Room k (A.deeper (envOfC x (C8.fnScope st) s.heap.objs.size f cdv)) →
      ∃ t d, PSs (cxOf C8.CX0 P w K mg base N x (C8.fnScope st) f cdv A outer s H E).nox (C8.fnBody st) t ∧ LS K t d ∧ ∀ ds Qc, C ds Qc → d { nx := fun _ => Qc (.fz .none), rt := retC Qc } (startR N.length ks ds)) (hk : noMu ks = true := by rfl) :
    CalG P w K mg base (k + 1) x (spD K ks C) := by
  refine ⟨f, fd, ps, fnG_of F.fn S (fun vs H Q E h => ?_) (fun cdv A outer s H vs Q E hg hr h => ?_), F.mgf, F.kp, b⟩
  · obtain ⟨M0, src, ds, P, _⟩ := h
    rw [← hl, P.args.length.1]
  · obtain ⟨t, d, h1, h2, h3⟩ := hb cdv A outer s H E hg hr
    exact ⟨t, h1.nox, def_end h hk h2 h3⟩
/-- .. that changes what is passed by reference -/
theorem calGM (im : Nat) {x : Str} {st : Stmt} {f : Addr} {fd : FuncData} {N ps : List Str} {k : Nat} {ks : List Kd} {C : ConM} (F : C8.Def K mg x st f fd) (b : Binds K fd ps []) (S : FnScope N ps (C8.fnScope st)) (hl : ks.length = ps.length)
    (hb : ∀ (cdv : Value) (A : Around) (outer : List Env) (s : Shared) (H : Hp) (E : XK), (A.deeper (envOfC x (C8.fnScope st) s.heap.objs.size f cdv)).guards = some [] → Room k (A.deeper (envOfC x (C8.fnScope st) s.heap.objs.size f cdv)) →
      ∃ t d, PSs (cxOf C8.CX0 P w K mg base N x (C8.fnScope st) f cdv A outer s H E).nox (C8.fnBody st) t ∧ LS K t d ∧ ∀ ds m Qc, C ds m Qc → d { nx := fun ρ => ∃ m', ρ[im]? = some (some (.mu m')) ∧ Qc (.fz .none) m', rt := retM im Qc } (startM N.length m ks ds)) (hk : oneMu ks = true := by rfl) :
    CalG P w K mg base (k + 1) x (spM K ks C) := by
  refine ⟨f, fd, ps, fnG_of F.fn S (fun vs H Q E h => ?_) (fun cdv A outer s H vs Q E hg hr h => ?_), F.mgf, F.kp, b⟩
  · obtain ⟨M0, src, fp, m, ds, P, _⟩ := h
    rw [← hl, P.args.length.1]
  · obtain ⟨t, d, h1, h2, h3⟩ := hb cdv A outer s H E hg hr
    exact ⟨t, h1.nox, def_endM im h hk h2 h3⟩
end
section
variable {X : Cx} {k j : Nat} {x : Str} {sp : Sp} {p pos : Pos} {e : Expr} {es : List Expr} {t : TA}
theorem pe_cG (c : CalG X.prog X.w X.K X.mg X.base k x sp) (hA : X.A.guards = some []) (hr : Room j X.A) (hk : k ≤ j) (hg : Gl X x) (ha : PA X (e :: es) t)
    (hdb : (x == ("__debug__" : Str)) = false := by decide) (he : starEach (e :: es) X.env = (false, eval e X.env) :: starEach es X.env := by rfl) (hpl : (backTo pos (starEach es X.env)).any (·.1) = false := by rfl) :
    PE X (.Call (.Name x p) (e :: es) [] pos) (tCall sp [] C8.E0 t) := by
  obtain ⟨f, fd, ps, F, hm, kp, b⟩ := c.ex
  constructor
  intro pins s σ H Q I h
  refine wpAny_Call_Name_kw (ld_glob I hg hm (PySem.W.callWith_K (h₀ := X.base) I.ok.mod.kin kp (thn (ha.run pos pins s σ H _ I h) ?_) he hpl) hdb)
  rintro us s1 ⟨vs, H1, I1, r, q⟩
  refine ⟨I1.kIn, ?_⟩
  rw [List.append_nil] at q
  have hl : (us ++ []).length = ps.length := by rw [List.append_nil, ← r.length]; exact F.len _ _ _ _ q
  have hb := b s1 us I1.kIn hl
  rw [List.append_nil] at hb
  refine wpAny_call (codeAny_mono (F.go X.A hA (hr.mono hk) X.stack s1 H1 I1.env0 ⟨us, []⟩ us vs Q C8.E0 hb r q) ?_)
  intro rr s' hq
  cases rr with
  | error e => exact hq.elim
  | ok fl =>
    cases fl with
    | ret u => exact I1.after hq
    | next => exact False.elim hq
    | brk => exact False.elim hq
    | cont => exact False.elim hq
end
/-! ### repr of data -/
section
variable {X : Cx} {pins : List (Addr × Obj)} {σ : L2.St} {H : Hp} {s : Shared}
/-- no dict in it -/
def noDict : D → Bool := fun d => !d.hasDict
mutual
theorem Rp.dp {K : PySem.W.Frag} {F : Hp} : ∀ {v : V} {d : D}, Rp K F v d → d.hasDict = false → Dp K F v d
  | _, _, .non, _ => .non
  | _, _, .bl b, _ => .bl b
  | _, _, .int b, _ => .int b
  | _, _, .str b, _ => .str b
  | _, _, .lst h r, e => .lst (.inl (.inl h)) (RpA.dp r (by simpa [PyData.hasDict] using e))
  | _, _, .tup h r, e => .tup (.inl (.inl h)) (RpA.dp r (by simpa [PyData.hasDict] using e))
  | _, _, .dic h r, e => by simp [PyData.hasDict] at e
  | _, _, .dct h r, e => by simp [PyData.hasDict] at e
theorem RpA.dp {K : PySem.W.Frag} {F : Hp} : ∀ {v : List V} {d : List D}, RpA K F v d → PyData.hasDictAll d = false → DpAll K F v d
  | _, _, .nil, _ => .nil
  | _, _, .cons h r, e => by
    simp only [PyData.hasDictAll, Bool.or_eq_false_iff] at e
    exact .cons (Rp.dp h e.1) (RpA.dp r e.2)
end
theorem RN.dp {K : PySem.W.Frag} {F H : Hp} {v : V} {d : D} (e : Same F H) (h : RN K F H v d) (hd : d.hasDict = false) : Dp K H v d := by
  rcases h with h | ⟨a, rfl, h⟩
  · exact (h.mono e).dp hd
  · cases h with
    | lst h r => exact .lst (.inl (.inl h)) ((r.mono e).dp (by simpa [PyData.hasDict] using hd))
    | dic h r => simp [PyData.hasDict] at hd
    | dct h r => simp [PyData.hasDict] at hd
def rRepr (K : PySem.W.Frag) : List V → Hp → VK → Prop := fun xs H Q => ∃ v d, xs = [v] ∧ Dp K H v d ∧ d.showable = true ∧ d.hasDict = false ∧ d.depth ≤ 60 ∧ d.shown.length ≤ sizeLine ∧ Q (.str d.shown) H
theorem call_repr (hA : X.A.guards = some []) (hu : X.A.units + 64 < cLine) : CallR X (.builtin "repr") (rRepr X.K) := by
  intro pins s σ H xs us Q I r h
  obtain ⟨v, d, rfl, hd, hs, hnd, hdp, hz, q⟩ := h
  cases r with
  | cons r rr =>
    cases rr
    obtain ⟨as, rd⟩ := Dp.reads I d v _ hd r
    have key : ∀ (u : Tok) (tk : Nat) (h' : Heap), (∀ b o, s.heap.get? b = some o → h'.get? b = some o) → EP X pins σ Q (.str d.shown u) { s with heap := h', toks := tk } := fun u tk h' hk => ⟨.str d.shown, H, I.kept hk, ⟨_, rfl⟩, q⟩
    have nd : d.hasDict = true → sysModules ∉ as := fun z => by rw [hnd] at z; cases z
    cases rd with
    | none => exact PySem.P.repr_of_none ⟨.str _, H, I.tok _, ⟨_, rfl⟩, q⟩
    | bool b => exact PySem.P.repr_of_bool ⟨.str _, H, I.tok _, ⟨_, rfl⟩, by cases b <;> exact q⟩
    | int i t => exact PySem.P.repr_of_int (by simpa [PyData.showable] using hs) ⟨.str _, H, I.tok _, ⟨_, rfl⟩, q⟩
    | str x t => exact PySem.P.repr_of_str ⟨.str _, H, I.tok _, ⟨_, rfl⟩, q⟩ hz
    | list h1 h2 h3 h4 => exact repr_of_reads' (.list h1 h2 h3 h4) hs nd hA (by omega) (fun _ _ h => h) (fun h' u tk hk => key u tk h' hk) hz
    | tuple h1 h2 h3 h4 => exact repr_of_reads' (.tuple h1 h2 h3 h4) hs nd hA (by omega) (fun _ _ h => h) (fun h' u tk hk => key u tk h' hk) hz
    | dict h1 h2 h3 h4 h5 => simp [PyData.hasDict] at hnd
end
end DL

set_option Elab.async false
set_option linter.all false
set_option maxRecDepth 100000
set_option maxHeartbeats 4000000
set_option autoImplicit false
namespace DL
open PySem L2 PySem.Spec PyProof.Rows

/-! ### the end of a law -/
/-- from a tracked heap that knows the script alone (or nothing) -/
theorem law_run {P : Program} {w : World} {K : PySem.W.Frag} {mg mb : Str → Option Value} {k : Nat} {fa a : Addr} {fd : FuncData} {x : Str} {sp : Sp} {s : Shared} {H : Hp} {obj : Obj} {u : HO}
    (KX : K.In s.heap) (hns : s.heap.Ns mainGlobals mg) (hb : s.heap.Ns builtinsNs mb) (hbb : ∀ x : Str, x ≠ "__name__" → mb x = bootBuiltins x) (hlim : s.heap.NoLimit) (hg : s.gens = #[])
    (hobj : s.heap.get? a = some obj) (hnd : ∀ es ep, obj.data ≠ .dict es ep) (hH : ∀ b, H b = none ∨ (b = a ∧ H b = some (.frz obj u) ∧ K.lookup a = none)) (hok : HOk P w H s.heap)
    (F : ∀ base : Heap, K.In base → base.Ns mainGlobals mg → FnG P w K mg base C8.CX0 k fa fd [x] sp) (hr : Room k callerA) (hbind : ∀ (s : Shared) (u : Value), BindsTo s fd ⟨[u], []⟩ [(x, u)])
    (hsp : sp [.ref a] H (fun v _ => v = .bl true) fun _ _ _ => False) :
    codeAny (model P w) callerA (.call (.ref fa) ⟨[.ref a], []⟩) (fun r s' => r = .ok (.ret (.bool true)) ∧ OldK s.heap s'.heap ∧ s'.os = s.os ∧ AllBare s'.gens) s := by
  -- what is not tracked stands in the base
  have stay : ∀ b o, s.heap.get? b = some o → (∀ es ep, o.data ≠ .dict es ep) ∨ K.lookup b = some o ∨ (∃ es ep, o.data = .dict es ep) → ((∃ es ep, o.data = .dict es ep) ∨ K.lookup b = some o) → (hidT s.heap H).get? b = some o := by
    intro b o e _ h
    refine hidT_get e ?_
    rcases hH b with z | ⟨rfl, _, z⟩
    · exact z
    · rw [hobj] at e
      cases e
      rcases h with ⟨es, ep, h⟩ | h
      · exact absurd h (hnd es ep)
      · rw [z] at h; cases h
  have keepNs : ∀ {b : Addr} {m : Str → Option Value}, s.heap.Ns b m → (hidT s.heap H).Ns b m := by
    rintro b m ⟨o, es, ep, e, d, r⟩
    exact ⟨o, es, ep, stay b o e (.inr (.inr ⟨es, ep, d⟩)) (.inl ⟨es, ep, d⟩), d, r⟩
  have hK : K.In (hidT s.heap H) := fun b o e => stay b o (KX b o e) (.inr (.inl e)) (.inr e)
  have hM : Mod K mg (hidT s.heap H) := by
    obtain ⟨mc, c1, c2⟩ := hlim
    exact ⟨hK, keepNs hns, ⟨mb, keepNs hb, hbb⟩, ⟨mc, keepNs c1, c2⟩⟩
  have env : Env0 P w K mg (hidT s.heap H) callerA [] s H := by
    refine ⟨rfl, hM, fun b o e => of_hidT e, ?_, trivial, ?_, hok, .of_eq hg⟩
    · rw [hidT_size]; exact Nat.le_refl _
    · intro b hb'; cases hb'
  have main := (F _ hK (keepNs hns)).go callerA rfl hr [] s H env ⟨[.ref a], []⟩ [.ref a] [.ref a] (fun v _ => v = .bl true) (fun _ _ _ => False) (hbind s (.ref a)) (.cons rfl .nil) hsp
  refine codeAny_mono main ?_
  rintro r s' h
  cases r with
  | error e => exact h.elim
  | ok fl =>
    cases fl with
    | next => exact h.elim
    | brk => exact h.elim
    | cont => exact h.elim
    | ret z =>
      obtain ⟨v, H', os, bare, un, hok', rv, q⟩ := h
      have q : v = .bl true := q
      rw [q] at rv
      obtain rfl : z = .bool true := rv
      refine ⟨rfl, OldK.of_keep ?_, os, bare⟩
      intro b o e
      rcases hH b with n | ⟨rfl, n, _⟩
      · exact un.keep b o e n (fun z => nomatch z) (fun z => nomatch z)
      · have e1 := (hok' b _ (un.frzs b obj u n)).1
        rw [hobj] at e
        cases e
        exact e1
/-- the whole end: F is asked for the promise of law, over every base -/
theorem law_end {l : PySem.W.OpenLaw} {k : Nat} {q : Program} {loose : List Str} {XP : (Str → Option Value) → Heap → Prop} {YP : World → Heap → Prop} {d : DefRec} {K : Params → PySem.W.Frag} {sp : World → Sp} {x : Str}
    (hn : l.most = some 63) (hdf : d.params.defaults = []) (hr : Room k callerA) (hY : ∀ (w : World) (h : Heap), YP w h → (K w.params).In h)
    (F : ∀ (w : World) (mg : Str → Option Value) (fa : Addr) (h : Heap), (K w.params).In h → h.Ns mainGlobals mg → mg d.name = some (.ref fa) →
      ∃ fd : FuncData, (∀ (s : Shared) (u : Value), BindsTo s fd ⟨[u], []⟩ [(x, u)]) ∧ ∀ base : Heap, (K w.params).In base → base.Ns mainGlobals mg → FnG l.prog w (K w.params) mg base C8.CX0 k fa fd [x] (sp w))
    (hsp : ∀ (w : World) (H : Hp) (a : Addr) (ns : List Int), ns.length ≤ 63 → SqL (K w.params) H a (ns.map V.int) → (∀ b o, H b = some o → ∃ ob u, o = .frz ob u) → sp w [.ref a] H (fun v _ => v = .bl true) fun _ _ _ => False) :
    PySem.W.WalkO q loose XP YP l.row.toRowW d [] (fun f vs => PySem.call f vs) := by
  refine Att.attach_call hn hdf ?_
  intro w s0 s1 mg mb fa o pm cd doc a vs ns G Y ho hd hcd hmg hobj hints hlen hg
  have KX := hY w _ Y
  obtain ⟨fd, hb, hF⟩ := F w mg fa _ KX G.T.g hmg
  have rv := vals_ints hints
  have len := hints.length
  have big : ns.length ≤ sizeLine := Nat.le_trans hlen (by decide)
  cases hk : K w.params |>.lookup a with
  | some ob =>
    have e := KX a ob hk
    rw [hobj] at e
    cases e
    refine law_run (H := fun _ => none) (u := .lst []) KX G.T.g G.T.b G.T.builtins G.T.nolimit hg hobj (fun es ep z => nomatch z) (fun _ => .inl rfl) (fun b u z => nomatch z) hF hr hb (hsp w _ a ns hlen (.inr ⟨_, vs.toArray, 0, hk, rfl, rfl, rfl, ?_, by simpa using rv⟩) fun b o z => nomatch z)
    rw [List.size_toArray, len]; exact big
  | none =>
    refine law_run (H := fun b => if b = a then some (.frz { cls := .type "list", data := .seq vs.toArray } (.lst (ns.map V.int))) else none) (u := .lst (ns.map V.int)) KX G.T.g G.T.b G.T.builtins G.T.nolimit hg hobj (fun es ep z => nomatch z) ?_ ?_ hF hr hb (hsp w _ a ns hlen (.inl (.inr ⟨_, if_pos rfl⟩)) ?_)
    · intro b
      by_cases h : b = a
      · exact .inr ⟨h, if_pos h, hk⟩
      · exact .inl (if_neg h)
    · intro b u z
      by_cases h : b = a
      · subst h
        have z := (if_pos rfl).symm.trans z
        cases z
        refine ⟨hobj, ?_, vs, 0, rv, hobj⟩
        rw [List.length_map]; exact big
      · have z := (if_neg h).symm.trans z
        cases z
    · intro b u z
      by_cases h : b = a
      · have z := (if_pos h).symm.trans z
        cases z; exact ⟨_, _, rfl⟩
      · have z := (if_neg h).symm.trans z
        cases z
end DL

set_option Elab.async false
set_option linter.all false
set_option maxRecDepth 100000
set_option maxHeartbeats 4000000
set_option autoImplicit false
namespace DL
open PySem L2

/-! ### new things of an operation -/
section
variable {f : Fr} {g : Gs} {σ : L2.St} {H : Hp} {ρ : Rho} {Q : Rv → Prop} {R : V → Hp → Prop}
/-- an operation's end: a scalar | a new tuple | a new list | a new dict -/
abbrev OEnd (f : Fr) (g : Gs) (σ : L2.St) (H : Hp) (ρ : Rho) (Q : Rv → Prop) (R : V → Hp → Prop) : Prop := ∀ (z : V) (H' : Hp) (g' : Gs) (r : Rv), Rel f g' σ H' ρ → Gro g H g' H' → VR f g' σ H' ρ z r → Q r → R z H'
theorem OEnd.fz (k : OEnd f g σ H ρ Q R) (hR : Rel f g σ H ρ) {v : V} {d : D} (h : Rp f.K (Fz H g.M) v d) (q : Q (.fz d)) : R v H := k v H g (.fz d) hR Gro.refl h q
theorem OEnd.tup (k : OEnd f g σ H ρ Q R) (hR : Rel f g σ H ρ) {xs : List V} {ds : List D} (h : RpA f.K (Fz H g.M) xs ds) (q : Q (.fz (.tuple ds))) : ∀ p, H p = none → R (.ref p) (upd H p (.tup xs)) := fun p hp => by
  obtain ⟨R3, G3, e3⟩ := hR.new (o := .tup xs) hp
  exact k _ _ g (.fz (.tuple ds)) R3 G3 (Rp.tup e3 (h.mono G3.fz)) q
theorem OEnd.lst (k : OEnd f g σ H ρ Q R) (hR : Rel f g σ H ρ) {xs : List V} {ds : List D} (h : RpA f.K (Fz H g.M) xs ds) (q : Q (.nw (.list ds))) : ∀ p, H p = none → R (.ref p) (upd H p (.lst xs)) := fun p hp => by
  obtain ⟨R3, G3, V3⟩ := hR.own (o := .lst xs) (d := .list ds) hp (.lst upd_same h)
  exact k _ _ _ (.nw (.list ds)) R3 G3 V3 q
end

/-! ### binary operators -/
def rStrAdd : R2 := fun x y H Q => ∃ i j, x = .str i ∧ y = .str j ∧ i.length + j.length ≤ sizeLine ∧ Q (.str (i ++ j)) H
def rAddA (K : PySem.W.Frag) : R2 := fun x y H Q => rI0 (fun i j => V.int (i + j)) x y H Q ∨ (rCat x y H Q ∨ (rCatA K x y H Q ∨ rStrAdd x y H Q))
theorem op_addA {X : Cx} : OpR X (binaryOp .Add) (rAddA X.K) := op_add.or (op_cat.or (op_catA.or op_add_str))
def fAdd : F2 := fun x y Q => match x, y with
  | .int i, .int j => Q (.fz (.int (i + j)))
  | .list xs, .list ys => xs.length + ys.length ≤ sizeLine ∧ Q (.nw (.list (xs ++ ys)))
  | .tuple xs, .tuple ys => xs.length + ys.length ≤ sizeLine ∧ Q (.fz (.tuple (xs ++ ys)))
  | .str i, .str j => i.length + j.length ≤ sizeLine ∧ Q (.fz (.str (i ++ j)))
  | _, _ => False
theorem ol_add {K : PySem.W.Frag} : OpL K (rAddA K) fAdd := by
  intro f g σ H ρ v u x y Q R hK hR h1 h2 hF k
  subst hK
  unfold fAdd at hF
  split at hF
  · obtain rfl := h1.int
    obtain rfl := h2.int
    exact .inl ⟨_, _, rfl, rfl, OEnd.fz k hR (.int _) hF⟩
  · obtain ⟨a, xs, rfl, e1, r1⟩ := h1.list fz_sub
    obtain ⟨b, ys, rfl, e2, r2⟩ := h2.list fz_sub
    exact .inr (.inl ⟨a, b, xs, ys, rfl, rfl, e1, e2, by rw [r1.length, r2.length]; exact hF.1, OEnd.lst k hR (r1.append r2) hF.2⟩)
  · obtain ⟨a, xs, rfl, e1, r1, z1⟩ := h1.tuple fz_sub
    obtain ⟨b, ys, rfl, e2, r2, z2⟩ := h2.tuple fz_sub
    refine .inr (.inr (.inl ⟨a, b, xs, ys, rfl, rfl, e1, e2, by rw [r1.length, r2.length]; exact hF.1, fun e => ?_, fun _ e => ?_, fun _ _ => OEnd.tup k hR (r1.append r2) hF.2⟩))
    · subst e
      cases r1
      exact OEnd.fz k hR (.tup z2 r2) hF.2
    · subst e
      cases r2
      exact OEnd.fz k hR (.tup z1 r1) (by simpa using hF.2)
  · obtain rfl := h1.str
    obtain rfl := h2.str
    exact .inr (.inr (.inr ⟨_, _, rfl, rfl, hF.1, OEnd.fz k hR (.str _) hF.2⟩))
  · exact hF.elim
/-- two ints -/
def fII (C : Int → Int → Prop) (G : Int → Int → D) : F2 := fun x y Q => match x, y with
  | .int i, .int j => C i j ∧ Q (.fz (G i j))
  | _, _ => False
def fII0 (G : Int → Int → D) : F2 := fun x y Q => match x, y with
  | .int i, .int j => Q (.fz (G i j))
  | _, _ => False
theorem ol_II {K : PySem.W.Frag} {C : Int → Int → Prop} {gv : Int → Int → V} {G : Int → Int → D} (h : ∀ i j F, Rp K F (gv i j) (G i j)) : OpL K (rI C gv) (fII C G) := by
  intro f g σ H ρ v u x y Q R hK hR h1 h2 hF k
  subst hK
  unfold fII at hF
  split at hF
  · obtain rfl := h1.int
    obtain rfl := h2.int
    exact ⟨_, _, rfl, rfl, hF.1, OEnd.fz k hR (h _ _ _) hF.2⟩
  · exact hF.elim
theorem ol_II0 {K : PySem.W.Frag} {gv : Int → Int → V} {G : Int → Int → D} (h : ∀ i j F, Rp K F (gv i j) (G i j)) : OpL K (rI0 gv) (fII0 G) := by
  intro f g σ H ρ v u x y Q R hK hR h1 h2 hF k
  subst hK
  unfold fII0 at hF
  split at hF
  · obtain rfl := h1.int
    obtain rfl := h2.int
    exact ⟨_, _, rfl, rfl, OEnd.fz k hR (h _ _ _) hF⟩
  · exact hF.elim
abbrev fSub : F2 := fII0 fun i j => .int (i - j)
theorem ol_sub {K : PySem.W.Frag} : OpL K (rI0 fun i j => .int (i - j)) fSub := ol_II0 fun _ _ _ => .int _
/-- // by anything of less than 9000 bits -/
def CDivL (_ j : Int) : Prop := j ≠ 0 ∧ j.natAbs.log2 < 9000
theorem op_fdivL {X : Cx} : OpR X (binaryOp .FloorDiv) (rI CDivL fun i j => .int (i.fdiv j)) := opI fun _ _ _ _ _ _ _ hc q => PyProof.Rows.floordiv_int hc.1 q (.inl (PyProof.noPylong_of_log2 hc.2))
abbrev fFdv : F2 := fII CDivL fun i j => .int (i.fdiv j)
theorem ol_fdv {K : PySem.W.Frag} : OpL K (rI CDivL fun i j => .int (i.fdiv j)) fFdv := ol_II fun _ _ _ => .int _
abbrev fMod : F2 := fII (fun _ j => j ≠ 0) fun i j => .int (i.fmod j)
theorem ol_mod {K : PySem.W.Frag} : OpL K (rI (fun _ j => j ≠ 0) fun i j => .int (i.fmod j)) fMod := ol_II fun _ _ _ => .int _
abbrev fPow : F2 := fII CPow fun i j => .int (i ^ j.toNat)
theorem ol_pow {K : PySem.W.Frag} : OpL K (rI CPow fun i j => .int (i ^ j.toNat)) fPow := ol_II fun _ _ _ => .int _
abbrev fShl : F2 := fII CPow fun i j => .int (i * 2 ^ j.toNat)
theorem ol_shl {K : PySem.W.Frag} : OpL K (rI CPow fun i j => .int (i * 2 ^ j.toNat)) fShl := ol_II fun _ _ _ => .int _
abbrev fShr : F2 := fII (fun _ j => 0 ≤ j) fun i j => .int (i / 2 ^ j.toNat)
theorem ol_shr {K : PySem.W.Frag} : OpL K (rI (fun _ j => 0 ≤ j) fun i j => .int (i / 2 ^ j.toNat)) fShr := ol_II fun _ _ _ => .int _
abbrev fAnd : F2 := fII0 fun i j => .int (Builtin.bitAnd i j)
theorem ol_and {K : PySem.W.Frag} : OpL K (rI0 fun i j => .int (Builtin.bitAnd i j)) fAnd := ol_II0 fun _ _ _ => .int _
abbrev fOr : F2 := fII0 fun i j => .int (Builtin.bitOr i j)
theorem ol_or {K : PySem.W.Frag} : OpL K (rI0 fun i j => .int (Builtin.bitOr i j)) fOr := ol_II0 fun _ _ _ => .int _
abbrev fXor : F2 := fII0 fun i j => .int (Builtin.bitXor i j)
theorem ol_xor {K : PySem.W.Frag} : OpL K (rI0 fun i j => .int (Builtin.bitXor i j)) fXor := ol_II0 fun _ _ _ => .int _
/-- times: ints, a list again and again -/
def rMulA : R2 := fun x y H Q => rI CMul (fun i j => V.int (i * j)) x y H Q ∨ rRep x y H Q
theorem op_mulA {X : Cx} : OpR X (binaryOp .Mult) rMulA := op_mul.or op_rep
def fMul : F2 := fun x y Q => match x, y with
  | .int i, .int j => CMul i j ∧ Q (.fz (.int (i * j)))
  | .list xs, .int k => (-(2 ^ 63) ≤ k ∧ k < 2 ^ 63 ∧ xs.length * k.toNat ≤ sizeLine) ∧ Q (.nw (.list (List.replicate k.toNat xs).flatten))
  | _, _ => False
theorem RpA.rep {K : PySem.W.Frag} {F : Hp} {vs : List V} {ds : List D} (h : RpA K F vs ds) : ∀ n, RpA K F (List.replicate n vs).flatten (List.replicate n ds).flatten
  | 0 => .nil
  | n + 1 => by
    rw [List.replicate_succ, List.replicate_succ, List.flatten_cons, List.flatten_cons]
    exact h.append (h.rep n)
theorem ol_mul {K : PySem.W.Frag} : OpL K rMulA fMul := by
  intro f g σ H ρ v u x y Q R hK hR h1 h2 hF k
  subst hK
  unfold fMul at hF
  split at hF
  · obtain rfl := h1.int
    obtain rfl := h2.int
    exact .inl ⟨_, _, rfl, rfl, hF.1, OEnd.fz k hR (.int _) hF.2⟩
  · obtain ⟨a, xs, rfl, e1, r1⟩ := h1.list fz_sub
    obtain rfl := h2.int
    obtain ⟨⟨b1, b2, b3⟩, q⟩ := hF
    exact .inr ⟨a, _, xs, rfl, rfl, e1, b1, b2, by rw [r1.length]; exact b3, OEnd.lst k hR (r1.rep _) q⟩
  · exact hF.elim

/-! ### comparisons -/
def rLtA : R2 := fun x y H Q => rI0 (fun i j => V.bl (decide (i < j))) x y H Q ∨ (∃ i j, x = .str i ∧ y = .str j ∧ Q (.bl (decide (i.cps.toList < j.cps.toList))) H)
theorem op_ltA {X : Cx} : OpR X (compareOp .Lt) rLtA := op_lt.or op_lt_str
abbrev fLt : F2 := fII0 fun i j => .bool (decide (i < j))
theorem ol_lt {K : PySem.W.Frag} : OpL K (rI0 fun i j => .bl (decide (i < j))) fLt := ol_II0 fun _ _ _ => .bl _
abbrev fLe : F2 := fII0 fun i j => .bool (decide (i ≤ j))
theorem ol_le {K : PySem.W.Frag} : OpL K (rI0 fun i j => .bl (decide (i ≤ j))) fLe := ol_II0 fun _ _ _ => .bl _
abbrev fGt : F2 := fII0 fun i j => .bool (decide (j < i))
theorem ol_gt {K : PySem.W.Frag} : OpL K (rI0 fun i j => .bl (decide (j < i))) fGt := ol_II0 fun _ _ _ => .bl _
abbrev fGe : F2 := fII0 fun i j => .bool (decide (j ≤ i))
theorem ol_ge {K : PySem.W.Frag} : OpL K (rI0 fun i j => .bl (decide (j ≤ i))) fGe := ol_II0 fun _ _ _ => .bl _
/-- equality of data without dicts -/
def eqOk (d : D) : Bool := !d.hasDict && SeqAt.shaped d
/-- two single values that may be compared at once -/
def scalD : D → D → Bool
  | .none, .none => true
  | .none, .int _ => true
  | .int _, .none => true
  | .none, .bool _ => true
  | .bool _, .none => true
  | .none, .str _ => true
  | .str _, .none => true
  | .int _, .int _ => true
  | .bool _, .bool _ => true
  | .str _, .str _ => true
  | .int _, .str _ => true
  | .str _, .int _ => true
  | .bool _, .str _ => true
  | .str _, .bool _ => true
  | _, _ => false
def eqOk2 (x y : D) : Bool := scalD x y || (eqOk x && eqOk y)
def fEq (neg : Bool) : F2 := fun x y Q => eqOk2 x y = true ∧ Q (.fz (.bool (neg != PyData.eqv x y)))
theorem eqOk_and {d : D} (h : eqOk d = true) : d.hasDict = false ∧ SeqAt.shaped d = true := by simpa [eqOk] using h
theorem scal_of {K : PySem.W.Frag} {F H : Hp} {v u : V} {x y : D} (h1 : RN K F H v x) (h2 : RN K F H u y) (h : scalD x y = true) : scal v u = true ∧ decide (v = u) = PyData.eqv x y := by
  cases x <;> cases y <;> first
    | exact absurd h Bool.false_ne_true
    | (first | obtain rfl := h1.non | obtain rfl := h1.bool | obtain rfl := h1.int | obtain rfl := h1.str
       first | obtain rfl := h2.non | obtain rfl := h2.bool | obtain rfl := h2.int | obtain rfl := h2.str
       refine ⟨rfl, ?_⟩
       simp only [PyData.eqv]
       first | (rw [Bool.eq_iff_iff]; simp; done) | simp)
theorem ol_eq {K : PySem.W.Frag} : OpL K (fun x y H Q => rEq x y H Q ∨ rEqD K x y H Q) (fEq false) := by
  intro f g σ H ρ v u x y Q R hK hR h1 h2 hF k
  subst hK
  obtain ⟨hs, q⟩ := hF
  unfold eqOk2 at hs
  rcases Bool.or_eq_true_iff.mp hs with hs | hs
  · obtain ⟨a, b⟩ := scal_of h1 h2 hs
    exact .inl ⟨a, by rw [b]; exact OEnd.fz k hR (.bl _) (by simpa using q)⟩
  · rw [Bool.and_eq_true] at hs
    obtain ⟨a1, a2⟩ := eqOk_and hs.1
    obtain ⟨b1, b2⟩ := eqOk_and hs.2
    exact .inr ⟨x, y, h1.dp fz_sub a1, h2.dp fz_sub b1, a2, b2, OEnd.fz k hR (.bl _) (by simpa using q)⟩
theorem ol_ne {K : PySem.W.Frag} : OpL K (fun x y H Q => rNe x y H Q ∨ rNeD K x y H Q) (fEq true) := by
  intro f g σ H ρ v u x y Q R hK hR h1 h2 hF k
  subst hK
  obtain ⟨hs, q⟩ := hF
  unfold eqOk2 at hs
  rcases Bool.or_eq_true_iff.mp hs with hs | hs
  · obtain ⟨a, b⟩ := scal_of h1 h2 hs
    exact .inl ⟨a, by rw [b]; exact OEnd.fz k hR (.bl _) (by simpa using q)⟩
  · rw [Bool.and_eq_true] at hs
    obtain ⟨a1, a2⟩ := eqOk_and hs.1
    obtain ⟨b1, b2⟩ := eqOk_and hs.2
    exact .inr ⟨x, y, h1.dp fz_sub a1, h2.dp fz_sub b1, a2, b2, OEnd.fz k hR (.bl _) (by simpa using q)⟩
/-- values that hold no address -/
def flatP : D → Bool
  | .none => true
  | .bool _ => true
  | .int _ => true
  | .str _ => true
  | _ => false
theorem flat_of {K : PySem.W.Frag} {F : Hp} {v : V} {d : D} (h : Rp K F v d) (hd : flatP d = true) : flatV v = true := by
  cases h <;> first | rfl | cases hd
theorem eqV_of {K : PySem.W.Frag} {F : Hp} {v u : V} {d e : D} (h : Rp K F v d) (h' : Rp K F u e) (hd : flatP d = true) (he : flatP e = true) : eqV v u = PyData.eqv d e := by
  cases h <;> cases hd <;> cases h' <;> cases he <;> simp [eqV, PyData.eqv]
theorem flatA_of {K : PySem.W.Frag} {F : Hp} {vs : List V} {ds : List D} (h : RpA K F vs ds) (hd : ds.all flatP = true) : vs.all flatV = true := by
  induction ds generalizing vs with
  | nil => cases h; rfl
  | cons d ds ih =>
    cases h with
    | cons h r =>
      rw [List.all_cons, Bool.and_eq_true] at hd ⊢
      exact ⟨flat_of h hd.1, ih r hd.2⟩
theorem inV_of {K : PySem.W.Frag} {F : Hp} {u : V} {e : D} {vs : List V} {ds : List D} (h : RpA K F vs ds) (hd : ds.all flatP = true) (hu : Rp K F u e) (he : flatP e = true) : inV u vs = ds.any fun z => PyData.eqv z e := by
  induction ds generalizing vs with
  | nil => cases h; rfl
  | cons d ds ih =>
    cases h with
    | cons h r =>
      rw [List.all_cons, Bool.and_eq_true] at hd
      show (eqV _ _ || inV u _) = _
      rw [List.any_cons, eqV_of h hu hd.1 he, ih r hd.2]
theorem RN.flat {K : PySem.W.Frag} {F H : Hp} {v : V} {d : D} (h : RN K F H v d) (hd : flatP d = true) : Rp K F v d := by
  rcases h with h | ⟨a, _, h⟩
  · exact h
  · cases h <;> cases hd
/-- an item in a flat sequence -/
def fIn (neg : Bool) : F2 := fun x y Q => match seqFlat y with
  | some ds => (flatP x = true ∧ ds.all flatP = true) ∧ Q (.fz (.bool (neg != ds.any fun z => PyData.eqv z x)))
  | none => False
where seqFlat : D → Option (List D)
  | .list ds => some ds
  | .tuple ds => some ds
  | _ => none
theorem ol_inG {K : PySem.W.Frag} {neg : Bool} : OpL K (rIn K neg) (fIn neg) := by
  intro f g σ H ρ v u x y Q R hK hR h1 h2 hF k
  subst hK
  have fin : ∀ (vs : List V) (ds : List D), RpA f.K (Fz H g.M) vs ds → (flatP x = true ∧ ds.all flatP = true) ∧ Q (.fz (.bool (neg != ds.any fun z => PyData.eqv z x))) → flatV v = true ∧ vs.all flatV = true ∧ R (.bl (if neg then !inV v vs else inV v vs)) H := by
    intro vs ds r hF
    refine ⟨flat_of (h1.flat hF.1.1) hF.1.1, flatA_of r hF.1.2, ?_⟩
    rw [inV_of r hF.1.2 (h1.flat hF.1.1) hF.1.1]
    cases neg
    · exact OEnd.fz k hR (.bl _) (by simpa using hF.2)
    · exact OEnd.fz k hR (.bl _) (by simpa using hF.2)
  cases y with
  | list ds =>
    obtain ⟨a, xs, rfl, e1, r1⟩ := h2.list fz_sub
    exact ⟨a, xs, rfl, .inl (.inl (.inl e1)), fin xs ds r1 hF⟩
  | tuple ds =>
    obtain ⟨a, xs, rfl, e1, r1, _⟩ := h2.tuple fz_sub
    exact ⟨a, xs, rfl, .inr e1, fin xs ds r1 hF⟩
  | none => exact hF.elim
  | bool _ => exact hF.elim
  | int _ => exact hF.elim
  | str _ => exact hF.elim
  | dict _ => exact hF.elim
theorem ol_in {K : PySem.W.Frag} : OpL K (rIn K false) (fIn false) := ol_inG
theorem ol_nin {K : PySem.W.Frag} : OpL K (rIn K true) (fIn true) := ol_inG

/-! ### one operand -/
abbrev F1 := D → (Rv → Prop) → Prop
def UnL (K : PySem.W.Frag) (r : V → Hp → VK → Prop) (F : F1) : Prop := ∀ (f : Fr) (g : Gs) (σ : L2.St) (H : Hp) (ρ : Rho) (v : V) (x : D) (Q : Rv → Prop) (R : V → Hp → Prop), f.K = K → Rel f g σ H ρ → RN K (Fz H g.M) H v x → F x Q → OEnd f g σ H ρ Q R → r v H R
def dUn (F : F1) (da : DE) : DE := fun ρ Q => da ρ fun r1 ρ1 => wD (res ρ1 r1) fun x => F x fun r => Q r ρ1
theorem le_un {K : PySem.W.Frag} {ta : TE} {da : DE} {r : V → Hp → VK → Prop} {F : F1} (ha : LE K ta da) (ho : UnL K r F) : LE K (tUn r ta) (dUn F da) := by
  intro f g σ H ρ Q R hK hR hd k
  refine ha.opd hK hR hd fun v H1 g1 ρ1 r1 R1 G1 O1 q1 => ?_
  obtain ⟨x, e1, q2⟩ := wD_some q1
  subst hK
  exact ho f g1 σ H1 ρ1 v x _ R rfl R1 (O1.rn R1 e1) q2 fun z H3 g3 r R3 G3 V3 q3 => k z H3 g3 ρ1 r R3 (G1.trans G3) V3 q3
def fNeg : F1 := fun x Q => match x with
  | .int i => Q (.fz (.int (-i)))
  | _ => False
theorem ul_neg {K : PySem.W.Frag} : UnL K (rU fun i => .int (-i)) fNeg := by
  intro f g σ H ρ v x Q R hK hR h1 hF k
  subst hK
  cases x with
  | int i => obtain rfl := h1.int; exact ⟨_, rfl, OEnd.fz k hR (.int _) hF⟩
  | _ => exact hF.elim

/-! ### subscripts -/
def seqAt (x : D) (i : Int) : Option D := match x with
  | .list ds => atI ds i
  | .tuple ds => atI ds i
  | .str z => (atI z.cps.toList i).map fun c => .str ⟨#[c]⟩
  | _ => none
def strOk0 : D → Prop
  | .str z => z.length ≤ sizeLine
  | _ => True
def fIx : F2 := fun x y Q => match y with
  | .int i => strOk0 x ∧ ∃ d, seqAt x i = some d ∧ Q (.fz d)
  | _ => False
theorem RpA.atI {K : PySem.W.Frag} {F : Hp} {vs : List V} {ds : List D} (h : RpA K F vs ds) {i : Int} {d : D} (e : L2.atI ds i = some d) : ∃ v, L2.atI vs i = some v ∧ Rp K F v d := by
  unfold L2.atI at e ⊢
  rw [h.length]
  cases hj : ixN ds.length i with
  | none => rw [hj] at e; cases e
  | some j =>
    rw [hj] at e
    exact h.get e
theorem ol_ix {K : PySem.W.Frag} : OpL K (rIx K) fIx := by
  intro f g σ H ρ v u x y Q R hK hR h1 h2 hF k
  subst hK
  cases y with
  | int i =>
    obtain rfl := h2.int
    obtain ⟨hs, hF⟩ := hF
    obtain ⟨d, e, q⟩ := hF
    cases x with
    | list ds =>
      obtain ⟨a, xs, rfl, e1, r1⟩ := h1.list fz_sub
      obtain ⟨w, e2, r2⟩ := r1.atI e
      exact .inl ⟨a, xs, i, w, rfl, rfl, .inl (.inl e1), e2, OEnd.fz k hR r2 q⟩
    | tuple ds =>
      obtain ⟨a, xs, rfl, e1, r1, _⟩ := h1.tuple fz_sub
      obtain ⟨w, e2, r2⟩ := r1.atI e
      exact .inr (.inl ⟨a, xs, i, w, rfl, rfl, e1, e2, OEnd.fz k hR r2 q⟩)
    | str z =>
      obtain rfl := h1.str
      have e : (L2.atI z.cps.toList i).map (fun c => PyData.str ⟨#[c]⟩) = some d := e
      cases hc : L2.atI z.cps.toList i with
      | none => rw [hc] at e; cases e
      | some c =>
        rw [hc] at e
        cases e
        exact .inr (.inr ⟨z, i, c, rfl, rfl, hs, hc, OEnd.fz k hR (.str _) q⟩)
    | none => cases e
    | bool _ => cases e
    | int _ => cases e
    | dict _ => cases e
  | _ => exact hF.elim
/-- slices -/
def cutD (xs : List D) (lo hi : Option Int) : List D := (xs.drop (HT.sIx xs.length 0 lo)).take (HT.sIx xs.length xs.length hi - HT.sIx xs.length 0 lo)
theorem RpA.cut {K : PySem.W.Frag} {F : Hp} {vs : List V} {ds : List D} (h : RpA K F vs ds) (lo hi : Option Int) : RpA K F (cutV vs lo hi) (cutD ds lo hi) := by
  unfold cutV cutD
  rw [h.length]
  exact (h.drop _).take _
def rSlAny (K : PySem.W.Frag) : V → Option Int → Option Int → Hp → VK → Prop := fun x lo hi H Q => rSlL K x lo hi H Q ∨ (rSlA K x lo hi H Q ∨ rSlS x lo hi H Q)
theorem sl_any {X : Cx} : L2.SlR X (rSlAny X.K) := sl_list.or (sl_tupA.or sl_str)
abbrev DO := Rho → (Option Int → Rho → Prop) → Prop
def LO (K : PySem.W.Frag) (t : TO) (d : DO) : Prop := ∀ (f : Fr) (g : Gs) (σ : L2.St) (H : Hp) (ρ : Rho) (Q : Option Int → Rho → Prop) (R : Option Int → Hp → Prop), f.K = K → Rel f g σ H ρ → d ρ Q →
  (∀ (o : Option Int) (H' : Hp) (g' : Gs) (ρ' : Rho), Rel f g' σ H' ρ' → Gro g H g' H' → Q o ρ' → R o H') → t σ H R
def dNoP : DO := fun ρ Q => Q none ρ
def wI (o : Option D) (k : Int → Prop) : Prop := match o with
  | some (.int i) => k i
  | _ => False
theorem wI_some {o : Option D} {k : Int → Prop} (h : wI o k) : ∃ b, o = some (.int b) ∧ k b := by
  unfold wI at h
  split at h
  · exact ⟨_, rfl, h⟩
  · exact h.elim
def dPart (da : DE) : DO := fun ρ Q => da ρ fun r ρ1 => wI (res ρ1 r) fun i => Q (some i) ρ1
theorem lo_none {K : PySem.W.Frag} : LO K tNoPart dNoP := fun f g σ H ρ Q R hK hR hd k => k none H g ρ hR Gro.refl hd
theorem lo_some {K : PySem.W.Frag} {ta : TE} {da : DE} (h : LE K ta da) : LO K (tPart ta) (dPart da) := by
  intro f g σ H ρ Q R hK hR hd k
  refine h.opd hK hR hd fun v H1 g1 ρ1 r1 R1 G1 O1 q1 => ?_
  obtain ⟨i, e, q⟩ := wI_some q1
  exact ⟨i, (O1.rn R1 e).int, k _ H1 g1 ρ1 R1 G1 q⟩
def fSl (x : D) (lo hi : Option Int) (Q : Rv → Prop) : Prop := match x with
  | .list ds => Q (.nw (.list (cutD ds lo hi)))
  | .tuple ds => Q (.fz (.tuple (cutD ds lo hi)))
  | .str z => z.length ≤ sizeLine ∧ Q (.fz (.str (cutS z lo hi)))
  | _ => False
def dSl (da : DE) (dl dh : DO) : DE := fun ρ Q => da ρ fun r ρ1 => dl ρ1 fun lo ρ2 => dh ρ2 fun hi ρ3 => wD (res ρ3 r) fun x => fSl x lo hi fun q => Q q ρ3
theorem cutD_whole {xs : List D} {lo hi : Option Int} (h : HT.sIx xs.length 0 lo = 0 ∧ HT.sIx xs.length xs.length hi = xs.length) : cutD xs lo hi = xs := by
  unfold cutD
  rw [h.1, h.2]
  simp
theorem le_sl {K : PySem.W.Frag} {ta : TE} {da : DE} {tl th : TO} {dl dh : DO} (h : LE K ta da) (hl : LO K tl dl) (hh : LO K th dh) : LE K (tSl (rSlAny K) ta tl th) (dSl da dl dh) := by
  intro f g σ H ρ Q R hK hR hd k
  refine h.opd hK hR hd fun v H1 g1 ρ1 r1 R1 G1 O1 q1 => ?_
  refine hl f g1 σ H1 ρ1 _ _ hK R1 q1 fun lo H2 g2 ρ2 R2 G2 q2 => ?_
  refine hh f g2 σ H2 ρ2 _ _ hK R2 q2 fun hi H3 g3 ρ3 R3 G3 q3 => ?_
  obtain ⟨x, e, q⟩ := wD_some q3
  subst hK
  have hx := ((O1.mono G2).mono G3).rn R3 e
  have k' : OEnd f g3 σ H3 ρ3 (fun q => Q q ρ3) R := fun z H' g' r R' G' V' q' => k z H' g' ρ3 r R' (((G1.trans G2).trans G3).trans G') V' q'
  cases x with
  | list ds =>
    obtain ⟨a, xs, rfl, e1, r1⟩ := hx.list fz_sub
    exact .inl ⟨a, xs, rfl, .inl (.inl e1), OEnd.lst k' R3 (r1.cut lo hi) q⟩
  | tuple ds =>
    obtain ⟨a, xs, rfl, e1, r1, z1⟩ := hx.tuple fz_sub
    refine .inr (.inl ⟨a, xs, rfl, e1, fun hw => ?_, fun _ => OEnd.tup k' R3 (r1.cut lo hi) q⟩)
    rw [r1.length] at hw
    have q : Q (.fz (.tuple (cutD ds lo hi))) ρ3 := q
    rw [cutD_whole hw] at q
    exact OEnd.fz k' R3 (.tup z1 r1) q
  | str z =>
    obtain rfl := hx.str
    exact .inr (.inr ⟨z, rfl, q.1, OEnd.fz k' R3 (.str _) q.2⟩)
  | none => exact q.elim
  | bool _ => exact q.elim
  | int _ => exact q.elim
  | dict _ => exact q.elim
end DL

set_option Elab.async false
set_option linter.all false
set_option maxRecDepth 100000
set_option maxHeartbeats 4000000
set_option autoImplicit false
namespace DL
open PySem L2

theorem CallR.or {X : Cx} {f : Value} {r r' : List V → Hp → VK → Prop} (h : CallR X f r) (h' : CallR X f r') : CallR X f (fun xs H Q => r xs H Q ∨ r' xs H Q) := by
  intro pins s σ H xs us Q I r q
  rcases q with q | q
  · exact h pins s σ H xs us Q I r q
  · exact h' pins s σ H xs us Q I r q
theorem RNA.one {K : PySem.W.Frag} {F H : Hp} {vs : List V} {d : D} (h : RNA K F H vs [d]) : ∃ v, vs = [v] ∧ RN K F H v d := by
  cases h with | cons h r => cases r; exact ⟨_, rfl, h⟩
theorem RNA.two {K : PySem.W.Frag} {F H : Hp} {vs : List V} {d e : D} (h : RNA K F H vs [d, e]) : ∃ v u, vs = [v, u] ∧ RN K F H v d ∧ RN K F H u e := by
  cases h with | cons h r => cases r with | cons h' r => cases r; exact ⟨_, _, rfl, h, h'⟩
/-- one argument -/
def fA1 (F : F1) : FA := fun ds Q => match ds with
  | [d] => F d Q
  | _ => False
def fA2 (F : F2) : FA := fun ds Q => match ds with
  | [d, e] => F d e Q
  | _ => False
theorem fA1_some {F : F1} {ds : List D} {Q : Rv → Prop} (h : fA1 F ds Q) : ∃ d, ds = [d] ∧ F d Q := by
  unfold fA1 at h
  split at h
  · exact ⟨_, rfl, h⟩
  · exact h.elim
theorem fA2_some {F : F2} {ds : List D} {Q : Rv → Prop} (h : fA2 F ds Q) : ∃ d e, ds = [d, e] ∧ F d e Q := by
  unfold fA2 at h
  split at h
  · exact ⟨_, _, rfl, h⟩
  · exact h.elim
section
variable {K : PySem.W.Frag}
/-! ### len -/
def rLenA (K : PySem.W.Frag) : List V → Hp → VK → Prop := fun xs H Q => (∃ x n, xs = [x] ∧ LenV K x H n ∧ Q (.int n) H) ∨ (∃ d kvs, xs = [.ref d] ∧ H d = some (.dK kvs) ∧ Q (.int kvs.length) H)
def lenD : D → Option Nat
  | .list ds => some ds.length
  | .tuple ds => some ds.length
  | .str z => if z.length ≤ sizeLine then some z.length else none
  | _ => none
def fLen : F1 := fun x Q => match lenD x with
  | some n => Q (.fz (.int (n : Int)))
  | none => False
theorem cl_len : CaL K (fun xs H Q => ∃ x n, xs = [x] ∧ LenV K x H n ∧ Q (.int n) H) (fA1 fLen) := by
  intro f g σ H ρ vs ds Q R hK hR hA hF0 k
  subst hK
  obtain ⟨d, rfl, hF⟩ := fA1_some hF0
  obtain ⟨v, rfl, h⟩ := hA.one
  unfold fLen at hF
  cases d with
  | list ds =>
    obtain ⟨a, xs, rfl, e1, r1⟩ := h.list fz_sub
    exact ⟨_, xs.length, rfl, .inl ⟨xs, .inl (.inl e1), rfl⟩, OEnd.fz k hR (.int _) (by rw [r1.length]; exact hF)⟩
  | tuple ds =>
    obtain ⟨a, xs, rfl, e1, r1, _⟩ := h.tuple fz_sub
    exact ⟨_, xs.length, rfl, .inr ⟨xs, e1, rfl⟩, OEnd.fz k hR (.int _) (by rw [r1.length]; exact hF)⟩
  | str z =>
    obtain rfl := h.str
    simp only [lenD] at hF
    split at hF
    · rename_i n e
      split at e
      · rename_i hz
        cases e
        exact ⟨_, z.length, rfl, ⟨hz, rfl⟩, OEnd.fz k hR (.int _) hF⟩
      · cases e
    · exact hF.elim
  | none => exact hF.elim
  | bool _ => exact hF.elim
  | int _ => exact hF.elim
  | dict _ => exact hF.elim
/-! ### tuple, list -/
def rTupleA (K : PySem.W.Frag) : List V → Hp → VK → Prop := fun xs H Q => ∃ p ys, xs = [.ref p] ∧ ((SqL K H p ys ∧ ∀ l, H l = none → Q (.ref l) (upd H l (.tup ys))) ∨ (SqT K H p ys ∧ Q (.ref p) H))
def fTuple : F1 := fun x Q => match x with
  | .list ds => Q (.fz (.tuple ds))
  | .tuple ds => Q (.fz (.tuple ds))
  | _ => False
theorem cl_tuple : CaL K (fun xs H Q => ∃ p ys, xs = [.ref p] ∧ ((SqL K H p ys ∧ ∀ l, H l = none → Q (.ref l) (upd H l (.tup ys))) ∨ (SqT K H p ys ∧ Q (.ref p) H))) (fA1 fTuple) := by
  intro f g σ H ρ vs ds Q R hK hR hA hF0 k
  subst hK
  obtain ⟨d, rfl, hF⟩ := fA1_some hF0
  obtain ⟨v, rfl, h⟩ := hA.one
  cases d with
  | list ds =>
    obtain ⟨a, xs, rfl, e1, r1⟩ := h.list fz_sub
    exact ⟨a, xs, rfl, .inl ⟨.inl (.inl e1), OEnd.tup k hR r1 hF⟩⟩
  | tuple ds =>
    obtain ⟨a, xs, rfl, e1, r1, z1⟩ := h.tuple fz_sub
    exact ⟨a, xs, rfl, .inr ⟨e1, OEnd.fz k hR (.tup z1 r1) hF⟩⟩
  | none => exact hF.elim
  | bool _ => exact hF.elim
  | int _ => exact hF.elim
  | dict _ => exact hF.elim
  | str _ => exact hF.elim
def fList : F1 := fun x Q => match x with
  | .list ds => Q (.nw (.list ds))
  | .tuple ds => Q (.nw (.list ds))
  | _ => False
theorem cl_list : CaL K (fun xs H Q => ∃ p ys, xs = [.ref p] ∧ (SqL K H p ys ∨ SqT K H p ys) ∧ ∀ l, H l = none → Q (.ref l) (upd H l (.lst ys))) (fA1 fList) := by
  intro f g σ H ρ vs ds Q R hK hR hA hF0 k
  subst hK
  obtain ⟨d, rfl, hF⟩ := fA1_some hF0
  obtain ⟨v, rfl, h⟩ := hA.one
  cases d with
  | list ds =>
    obtain ⟨a, xs, rfl, e1, r1⟩ := h.list fz_sub
    exact ⟨a, xs, rfl, .inl (.inl (.inl e1)), OEnd.lst k hR r1 hF⟩
  | tuple ds =>
    obtain ⟨a, xs, rfl, e1, r1, z1⟩ := h.tuple fz_sub
    exact ⟨a, xs, rfl, .inr e1, OEnd.lst k hR r1 hF⟩
  | none => exact hF.elim
  | bool _ => exact hF.elim
  | int _ => exact hF.elim
  | dict _ => exact hF.elim
  | str _ => exact hF.elim
/-! ### ints in a list -/
def intsOf : List D → Option (List Int)
  | [] => some []
  | .int i :: r => match intsOf r with
    | some ns => some (i :: ns)
    | none => none
  | _ => none
theorem intsOf_eq {ds : List D} {ns : List Int} (h : intsOf ds = some ns) : ds = ns.map PyData.int := by
  induction ds generalizing ns with
  | nil => cases h; rfl
  | cons d ds ih =>
    cases d with
    | int i =>
      unfold intsOf at h
      split at h
      · rename_i ms e
        cases h
        rw [ih e]; rfl
      · cases h
    | _ => cases h
theorem intsOf_map (ns : List Int) : intsOf (ns.map PyData.int) = some ns := by
  induction ns with
  | nil => rfl
  | cons n ns ih => simp [intsOf, ih]
def boolsOf : List D → Option (List Bool)
  | [] => some []
  | .bool i :: r => match boolsOf r with
    | some ns => some (i :: ns)
    | none => none
  | _ => none
theorem boolsOf_eq {ds : List D} {ns : List Bool} (h : boolsOf ds = some ns) : ds = ns.map PyData.bool := by
  induction ds generalizing ns with
  | nil => cases h; rfl
  | cons d ds ih =>
    cases d with
    | bool i =>
      unfold boolsOf at h
      split at h
      · rename_i ms e
        cases h
        rw [ih e]; rfl
      · cases h
    | _ => cases h
theorem boolsOf_map (ns : List Bool) : boolsOf (ns.map PyData.bool) = some ns := by
  induction ns with
  | nil => rfl
  | cons n ns ih => simp [boolsOf, ih]
def wN (o : Option (List Int)) (k : List Int → Prop) : Prop := match o with
  | some ns => k ns
  | none => False
theorem wN_some {o : Option (List Int)} {k : List Int → Prop} (h : wN o k) : ∃ b, o = some b ∧ k b := by
  cases o with
  | some x => exact ⟨x, rfl, h⟩
  | none => exact h.elim
def wBs (o : Option (List Bool)) (k : List Bool → Prop) : Prop := match o with
  | some ns => k ns
  | none => False
theorem wBs_some {o : Option (List Bool)} {k : List Bool → Prop} (h : wBs o k) : ∃ b, o = some b ∧ k b := by
  cases o with
  | some x => exact ⟨x, rfl, h⟩
  | none => exact h.elim
theorem RN.lints {F H : Hp} {v : V} {ns : List Int} (e : Same F H) (h : RN K F H v (.list (ns.map PyData.int))) : ∃ a, v = .ref a ∧ SqL K H a (ns.map V.int) := by
  obtain ⟨a, xs, rfl, e1, r1⟩ := h.list e
  rw [r1.ints] at e1
  exact ⟨a, rfl, .inl (.inl e1)⟩
theorem RN.lbools {F H : Hp} {v : V} {ns : List Bool} (e : Same F H) (h : RN K F H v (.list (ns.map PyData.bool))) : ∃ a, v = .ref a ∧ SqL K H a (ns.map V.bl) := by
  obtain ⟨a, xs, rfl, e1, r1⟩ := h.list e
  rw [r1.bools] at e1
  exact ⟨a, rfl, .inl (.inl e1)⟩
def listOf : D → Option (List D)
  | .list ds => some ds
  | _ => none
def fInts (G : List Int → (Rv → Prop) → Prop) : F1 := fun x Q => wA (listOf x) fun ds => wN (intsOf ds) fun ns => G ns Q
theorem fInts_some {G : List Int → (Rv → Prop) → Prop} {x : D} {Q : Rv → Prop} (h : fInts G x Q) : ∃ ns, x = .list (ns.map PyData.int) ∧ G ns Q := by
  obtain ⟨ds, e, h1⟩ := wA_some h
  obtain ⟨ns, e2, h2⟩ := wN_some h1
  cases x with
  | list xs => cases e; exact ⟨ns, by rw [intsOf_eq e2], h2⟩
  | _ => cases e
def fSum : F1 := fInts fun ns Q => Q (.fz (.int ns.sum))
theorem cl_sum : CaL K (rSum K) (fA1 fSum) := by
  intro f g σ H ρ vs ds Q R hK hR hA hF0 k
  subst hK
  obtain ⟨d, rfl, hF⟩ := fA1_some hF0
  obtain ⟨v, rfl, h⟩ := hA.one
  obtain ⟨ns, rfl, q⟩ := fInts_some hF
  obtain ⟨a, rfl, e⟩ := h.lints fz_sub
  exact ⟨a, ns, rfl, e, OEnd.fz k hR (.int _) q⟩
def fMaxL : F1 := fInts fun ns Q => 0 < ns.length ∧ ∀ m, m ∈ ns → (∀ y ∈ ns, y ≤ m) → Q (.fz (.int m))
theorem cl_max : CaL K (rMax K) (fA1 fMaxL) := by
  intro f g σ H ρ vs ds Q R hK hR hA hF0 k
  subst hK
  obtain ⟨d, rfl, hF⟩ := fA1_some hF0
  obtain ⟨v, rfl, h⟩ := hA.one
  obtain ⟨ns, rfl, hl, q⟩ := fInts_some hF
  obtain ⟨a, rfl, e⟩ := h.lints fz_sub
  exact ⟨a, ns, rfl, e, hl, fun m hm hle => OEnd.fz k hR (.int _) (q m hm hle)⟩
def fMinL : F1 := fInts fun ns Q => 0 < ns.length ∧ ∀ m, m ∈ ns → (∀ y ∈ ns, m ≤ y) → Q (.fz (.int m))
theorem cl_min : CaL K (rMin K) (fA1 fMinL) := by
  intro f g σ H ρ vs ds Q R hK hR hA hF0 k
  subst hK
  obtain ⟨d, rfl, hF⟩ := fA1_some hF0
  obtain ⟨v, rfl, h⟩ := hA.one
  obtain ⟨ns, rfl, hl, q⟩ := fInts_some hF
  obtain ⟨a, rfl, e⟩ := h.lints fz_sub
  exact ⟨a, ns, rfl, e, hl, fun m hm hle => OEnd.fz k hR (.int _) (q m hm hle)⟩
def fSorted : F1 := fInts fun ns Q => ∀ ms : List Int, ms.Perm ns → ms.Pairwise (· ≤ ·) → Q (.nw (.list (ms.map PyData.int)))
theorem cl_sorted : CaL K (rSortedI K) (fA1 fSorted) := by
  intro f g σ H ρ vs ds Q R hK hR hA hF0 k
  subst hK
  obtain ⟨d, rfl, hF⟩ := fA1_some hF0
  obtain ⟨v, rfl, h⟩ := hA.one
  obtain ⟨ns, rfl, q⟩ := fInts_some hF
  obtain ⟨a, rfl, e⟩ := h.lints fz_sub
  exact ⟨a, ns, rfl, e, fun ms p hp hs hn => OEnd.lst k hR (RpA.of_ints ms) (q ms hp hs) p hn⟩
def fBools (G : List Bool → Bool) : F1 := fun x Q => wA (listOf x) fun ds => wBs (boolsOf ds) fun bs => Q (.fz (.bool (G bs)))
theorem fBools_some {G : List Bool → Bool} {x : D} {Q : Rv → Prop} (h : fBools G x Q) : ∃ ns, x = .list (ns.map PyData.bool) ∧ Q (.fz (.bool (G ns))) := by
  obtain ⟨ds, e, h1⟩ := wA_some h
  obtain ⟨ns, e2, h2⟩ := wBs_some h1
  cases x with
  | list xs => cases e; exact ⟨ns, by rw [boolsOf_eq e2], h2⟩
  | _ => cases e
def fAny : F1 := fBools fun bs => bs.any id
def fAll : F1 := fBools fun bs => bs.all id
theorem cl_any : CaL K (rAny K) (fA1 fAny) := by
  intro f g σ H ρ vs ds Q R hK hR hA hF0 k
  subst hK
  obtain ⟨d, rfl, hF⟩ := fA1_some hF0
  obtain ⟨v, rfl, h⟩ := hA.one
  obtain ⟨ns, rfl, q⟩ := fBools_some hF
  obtain ⟨a, rfl, e⟩ := h.lbools fz_sub
  exact ⟨a, ns, rfl, e, OEnd.fz k hR (.bl _) q⟩
theorem cl_all : CaL K (rAll K) (fA1 fAll) := by
  intro f g σ H ρ vs ds Q R hK hR hA hF0 k
  subst hK
  obtain ⟨d, rfl, hF⟩ := fA1_some hF0
  obtain ⟨v, rfl, h⟩ := hA.one
  obtain ⟨ns, rfl, q⟩ := fBools_some hF
  obtain ⟨a, rfl, e⟩ := h.lbools fz_sub
  exact ⟨a, ns, rfl, e, OEnd.fz k hR (.bl _) q⟩
def fMax2 : F2 := fII0 fun i j => .int (max i j)
def fMin2 : F2 := fII0 fun i j => .int (min i j)
theorem fII0_some {G : Int → Int → D} {x y : D} {Q : Rv → Prop} (h : fII0 G x y Q) : ∃ i j, x = .int i ∧ y = .int j ∧ Q (.fz (G i j)) := by
  unfold fII0 at h
  split at h
  · exact ⟨_, _, rfl, rfl, h⟩
  · exact h.elim
theorem cl_max2 : CaL K (fun xs H Q => ∃ i j, xs = [.int i, .int j] ∧ Q (.int (if j > i then j else i)) H) (fA2 fMax2) := by
  intro f g σ H ρ vs ds Q R hK hR hA hF0 k
  subst hK
  obtain ⟨d, e, rfl, hF⟩ := fA2_some hF0
  obtain ⟨v, u, rfl, h, h'⟩ := hA.two
  obtain ⟨i, j, rfl, rfl, q⟩ := fII0_some hF
  obtain rfl := h.int
  obtain rfl := h'.int
  refine ⟨i, j, rfl, OEnd.fz k hR (.int _) ?_⟩
  have e : (if j > i then j else i) = max i j := by split <;> omega
  rw [e]; exact q
theorem cl_min2 : CaL K (fun xs H Q => ∃ i j, xs = [.int i, .int j] ∧ Q (.int (if j < i then j else i)) H) (fA2 fMin2) := by
  intro f g σ H ρ vs ds Q R hK hR hA hF0 k
  subst hK
  obtain ⟨d, e, rfl, hF⟩ := fA2_some hF0
  obtain ⟨v, u, rfl, h, h'⟩ := hA.two
  obtain ⟨i, j, rfl, rfl, q⟩ := fII0_some hF
  obtain rfl := h.int
  obtain rfl := h'.int
  refine ⟨i, j, rfl, OEnd.fz k hR (.int _) ?_⟩
  have e : (if j < i then j else i) = min i j := by split <;> omega
  rw [e]; exact q
def fAbs : F1 := fun x Q => match x with
  | .int i => Q (.fz (.int (i.natAbs : Int)))
  | _ => False
theorem cl_abs : CaL K (fun xs H Q => ∃ i, xs = [.int i] ∧ Q (.int (if i < 0 then -i else i)) H) (fA1 fAbs) := by
  intro f g σ H ρ vs ds Q R hK hR hA hF0 k
  subst hK
  obtain ⟨d, rfl, hF⟩ := fA1_some hF0
  obtain ⟨v, rfl, h⟩ := hA.one
  cases d with
  | int i =>
    obtain rfl := h.int
    refine ⟨i, rfl, OEnd.fz k hR (.int _) ?_⟩
    have e : (if i < 0 then -i else i) = (i.natAbs : Int) := by split <;> omega
    rw [e]; exact hF
  | _ => exact hF.elim
def fInt : F1 := fun x Q => match x with
  | .int i => Q (.fz (.int i))
  | .bool b => Q (.fz (.int (if b then 1 else 0)))
  | _ => False
theorem cl_int : CaL K (fun xs H Q => (∃ i, xs = [.int i] ∧ Q (.int i) H) ∨ ∃ k, xs = [.bl k] ∧ Q (.int (if k then 1 else 0)) H) (fA1 fInt) := by
  intro f g σ H ρ vs ds Q R hK hR hA hF0 k
  subst hK
  obtain ⟨d, rfl, hF⟩ := fA1_some hF0
  obtain ⟨v, rfl, h⟩ := hA.one
  cases d with
  | int i => obtain rfl := h.int; exact .inl ⟨i, rfl, OEnd.fz k hR (.int _) hF⟩
  | bool b => obtain rfl := h.bool; exact .inr ⟨b, rfl, OEnd.fz k hR (.int _) hF⟩
  | _ => exact hF.elim
/-- what a repr asks -/
def reprOk (d : D) : Prop := d.showable = true ∧ d.hasDict = false ∧ d.depth ≤ 60 ∧ d.shown.length ≤ sizeLine
def fRepr : F1 := fun x Q => reprOk x ∧ Q (.fz (.str x.shown))
theorem cl_repr : CaL K (rRepr K) (fA1 fRepr) := by
  intro f g σ H ρ vs ds Q R hK hR hA hF0 k
  subst hK
  obtain ⟨d, rfl, hF⟩ := fA1_some hF0
  obtain ⟨v, rfl, h⟩ := hA.one
  obtain ⟨⟨h1, h2, h3, h4⟩, q⟩ := hF
  exact ⟨v, d, rfl, h.dp fz_sub h2, h1, h2, h3, h4, OEnd.fz k hR (.str _) q⟩
end
/-! ### x or y, on truth: tests of any value -/
def truD : D → Bool
  | .none => false
  | .bool b => b
  | .int i => i != 0
  | .str z => (z.length : Int) != 0
  | .list ds => !ds.isEmpty
  | .tuple ds => !ds.isEmpty
  | .dict es => !es.isEmpty
/-! ### statements that change a list of one's own -/
section
variable {f : Fr} {g : Gs} {σ : L2.St} {H : Hp} {ρ : Rho} {d d' : D} {i : Nat} {a : Addr} {o : HO}
theorem Rel.mutOwn (R : Rel f g σ H ρ) (hs : ρ[i]? = some (some (.ow d))) (hv : σ[i]? = some (some (.ref a))) (hr : Rt f.K (Fz H g.M) (upd H a o) a d') :
    Rel f g σ (upd H a o) (ρ.set i (some (.ow d'))) ∧ Gro g H g (upd H a o) := by
  obtain ⟨w, e1, b, e2, m, h0, ns, r⟩ := R.slot i _ hs
  rw [hv] at e1; cases e1; cases e2
  have hk : ∀ b o', H b = some o' → b ≠ a → upd H a o b = some o' := fun b o' e n => by rw [upd_ne n]; exact e
  have hG : Same (Fz H g.M) (Fz (upd H a o) g.M) := fz_mono fun b o' e n => ⟨hk b o' e fun q => n (q ▸ m), n⟩
  have hd : ∀ b, upd H a o b = none → H b = none := fun b e => by
    by_cases q : b = a
    · rw [q, upd_same] at e; cases e
    · rw [upd_ne q] at e; exact e
  refine ⟨⟨fun b o' e n => hk b o' (R.keep b o' e n) (fun q => by rw [q, h0] at e; cases e), fun b e => R.dom b (hd b e), R.m0, R.m00, fun b m => by
    by_cases q : b = a
    · rw [q]; exact hr.mu
    · rw [upd_ne q]; exact R.mU b m, fun p c e => ?_, by rw [List.length_set]; exact R.len, fun j s e => ?_, fun j k l d e h1 h2 h3 h4 => ?_, fun b hb => ⟨(R.tmp b hb).1, (R.tmp b hb).2.1, fun j e h1 h2 => ?_⟩, R.fpM, R.fpn, mq_set R.mq (fun _ z => nomatch z)⟩, ⟨hG, fun _ h => h, rfl, fun b hb => upd_ne fun q => ?_, rfl⟩⟩
  · obtain ⟨h1, h2, h3, h4, h5, h6⟩ := R.src p c e
    exact ⟨h1, h2, h3, h4, h5, srcOk_upd h6 (Ne.symm (ns.1 p c e).1) (Ne.symm (ns.1 p c e).2)⟩
  · rcases getset e with ⟨rfl, q⟩ | ⟨ne, q⟩
    · cases q
      exact ⟨_, hv, a, rfl, m, h0, ns, hr.mono hG fun _ h => h⟩
    · obtain ⟨w, e1, q1⟩ := R.slot j s q
      refine ⟨w, e1, ?_⟩
      cases s with
      | sh d => exact Rp.mono hG q1
      | bo d => exact BoV.mono hG q1
      | ow d =>
        obtain ⟨b, e2, m', h0', ns', r⟩ := q1
        refine ⟨b, e2, m', h0', ns', r.mono hG fun o' e' => hk b o' e' fun z => ne ?_⟩
        rw [z] at e2
        rw [e2] at e1
        exact R.uq i j a _ _ hs q hv e1
      | src => exact q1
      | scr => exact q1
      | mu m2 =>
        obtain ⟨p, as, e2, e3, r⟩ := q1
        exact ⟨p, as, e2, e3, r.mono hG fun b hb o' e' => hk b o' e' fun z => ns.2 (by rw [e2, ← z]; exact hb)⟩
  · have j1 : ∃ d1, ρ[j]? = some (some (.ow d1)) := by
      rcases getset h1 with ⟨rfl, _⟩ | ⟨_, q⟩
      · exact ⟨_, hs⟩
      · exact ⟨_, q⟩
    have k1 : ∃ d1, ρ[k]? = some (some (.ow d1)) := by
      rcases getset h2 with ⟨rfl, _⟩ | ⟨_, q⟩
      · exact ⟨_, hs⟩
      · exact ⟨_, q⟩
    obtain ⟨d1, j1⟩ := j1
    obtain ⟨d2, k1⟩ := k1
    exact R.uq j k l d1 d2 j1 k1 h3 h4
  · have j1 : ∃ d1, ρ[j]? = some (some (.ow d1)) := by
      rcases getset h1 with ⟨rfl, _⟩ | ⟨_, q⟩
      · exact ⟨_, hs⟩
      · exact ⟨_, q⟩
    obtain ⟨d1, j1⟩ := j1
    exact (R.tmp b hb).2.2 j d1 j1 h2
  · subst q
    exact (R.tmp b hb).2.2 i d hs hv
end
def ownL (ρ : Rho) (i : Nat) : Option (List D) := match ρ[i]? with
  | some (some (.ow (.list ds))) => some ds
  | _ => none
theorem ownL_some {ρ : Rho} {i : Nat} {ds : List D} (h : ownL ρ i = some ds) : ρ[i]? = some (some (.ow (.list ds))) := by
  unfold ownL at h
  split at h
  · rename_i xs e; cases h; exact e
  · cases h
/-- xs.append(e) -/
def dApp (i : Nat) (de : DE) : DS := fun DD ρ => wA (ownL ρ i) fun _ => de ρ fun r ρ1 => wF (frz ρ1 r) fun d ρ2 => wA (ownL ρ2 i) fun xs => xs.length < sizeLine ∧ DD.nx (ρ2.set i (some (.ow (.list (xs ++ [d])))))
theorem ls_app {K : PySem.W.Frag} {i : Nat} {te : TE} {de : DE} (h : LE K te de) : LS K (tDrop (tBM K "list" rAppend (tVar i) (tCons te tNil))) (dApp i de) := by
  intro f g σ H ρ DD E hK R hd l
  obtain ⟨xs0, e0, hd⟩ := wA_some hd
  obtain ⟨w, e1, a, e2, m, h0, ns, r⟩ := R.slot i _ (ownL_some e0)
  subst e2
  refine ⟨.ref a, e1, ?_, ?_⟩
  · cases r with | lst h r => exact .inl ⟨rfl, _, .inl (.inl h)⟩
  · refine h.opd hK R hd fun v H1 g1 ρ1 r1 R1 G1 O1 q1 => ?_
    obtain ⟨d, ρ2, e3, q1⟩ := wF_some q1
    obtain ⟨g2, R2, G2, hv⟩ := O1.frz R1 e3
    obtain ⟨xs, e4, hl, q1⟩ := wA_some q1
    have s2 := ownL_some e4
    obtain ⟨w2, e5, a2, e6, m2, h02, ns2, r2⟩ := R2.slot i _ s2
    rw [e1] at e5; cases e5; cases e6
    cases r2 with
    | lst hh rr =>
      refine ⟨a, _, v, rfl, rfl, hh, by rw [rr.length]; exact hl, ?_⟩
      obtain ⟨R3, G3⟩ := R2.mutOwn (o := .lst (_ ++ [v])) (d' := .list (xs ++ [d])) s2 e1 (.lst upd_same (rr.append (.cons hv .nil)))
      exact l.nx g2 σ _ _ R3 ((G1.trans G2).trans G3) q1
/-- x += e, ints -/
def dAug (i : Nat) (de : DE) (F : F2) : DS := fun DD ρ => wD (slD ρ[i]?) fun x => de ρ fun r ρ1 => wD (res ρ1 r) fun y => F x y fun q => wR (asg ρ1 i q) DD.nx
end DL

set_option Elab.async false
set_option linter.all false
set_option maxRecDepth 100000
set_option maxHeartbeats 4000000
set_option autoImplicit false
namespace DL
open PySem L2

/-! ### keys -/
def keyOf : D → Option Key
  | .int i => some (.inl i)
  | .str x => some (.inr x)
  | _ => none
theorem keyOf_keyD (k : Key) : keyOf (keyD k) = some k := by cases k <;> rfl
theorem keyOf_kV {K : PySem.W.Frag} {F : Hp} {v : V} {d : D} {k : Key} (h : Rp K F v d) (e : keyOf d = some k) : v = kV k := by
  cases h <;> cases e <;> rfl
theorem keyOf_flat {d : D} {k : Key} (e : keyOf d = some k) : flatP d = true := by
  cases d <;> first | rfl | cases e
theorem keyOf_eq {d : D} {k : Key} (e : keyOf d = some k) : d = keyD k := by
  cases d <;> first | (cases e; rfl) | cases e
/-- what a dict tells of a key -/
def lookE : List (D × D) → Key → Option D
  | [], _ => none
  | (a, d) :: r, k => if keyOf a = some k then some d else lookE r k
def hasE (es : List (D × D)) (k : Key) : Bool := es.any fun e => decide (keyOf e.1 = some k)
def putE (es : List (D × D)) (k : Key) (x : D) : List (D × D) := if hasE es k = true then es.map (fun e => if keyOf e.1 = some k then (e.1, x) else e) else es ++ [(keyD k, x)]
section
variable {K : PySem.W.Frag} {F : Hp}
theorem RpK.look {kvs : List (Key × V)} {es : List (D × D)} (h : RpK K F kvs es) (k : Key) : (valV kvs k = none ∧ lookE es k = none) ∨ ∃ v d, valV kvs k = some v ∧ lookE es k = some d ∧ Rp K F v d := by
  induction es generalizing kvs with
  | nil => cases h; exact .inl ⟨rfl, rfl⟩
  | cons e es ih =>
    cases h with
    | @cons k0 v0 d0 vs ds h r =>
      unfold lookE
      rw [keyOf_keyD]
      by_cases q : k0 = k
      · subst q
        refine .inr ⟨v0, d0, ?_, by rw [if_pos rfl], h⟩
        simp [valV]
      · rw [if_neg (fun z => q (Option.some.inj z))]
        have e1 : valV ((k0, v0) :: vs) k = valV vs k := by simp [valV, q]
        rw [e1]
        exact ih r
theorem RpK.has {kvs : List (Key × V)} {es : List (D × D)} (h : RpK K F kvs es) (k : Key) : (kvs.any fun kv => decide (kv.1 = k)) = hasE es k := by
  induction es generalizing kvs with
  | nil => cases h; rfl
  | cons e es ih =>
    cases h with
    | @cons k0 v0 d0 vs ds h r =>
      show (decide (k0 = k) || _) = (decide (keyOf (keyD k0) = some k) || hasE es k)
      rw [ih r, keyOf_keyD]
      congr 1
      by_cases q : k0 = k
      · rw [q]; simp
      · simp [q]
theorem RpK.append {kvs kvs' : List (Key × V)} {es es' : List (D × D)} (h : RpK K F kvs es) (h' : RpK K F kvs' es') : RpK K F (kvs ++ kvs') (es ++ es') := by
  induction es generalizing kvs with
  | nil => cases h; exact h'
  | cons e es ih => cases h with | cons h r => exact .cons h (ih r)
theorem RpK.put {kvs : List (Key × V)} {es : List (D × D)} (h : RpK K F kvs es) (k : Key) {v : V} {d : D} (hv : Rp K F v d) : RpK K F (putK kvs k v) (putE es k d) := by
  unfold putK putE
  rw [h.has k]
  by_cases q : hasE es k = true
  · rw [if_pos q, if_pos q]
    clear q
    induction es generalizing kvs with
    | nil => cases h; exact .nil
    | cons e es ih =>
      cases h with
      | @cons k0 v0 d0 vs ds h r =>
        rw [List.map_cons, List.map_cons]
        by_cases q : k0 = k
        · rw [if_pos q, if_pos (by rw [keyOf_keyD, q])]
          exact .cons hv (ih r)
        · rw [if_neg q, if_neg (by rw [keyOf_keyD]; exact fun z => q (Option.some.inj z))]
          exact .cons h (ih r)
  · rw [if_neg q, if_neg q]
    exact h.append (.cons hv .nil)
theorem RpK.length {kvs : List (Key × V)} {es : List (D × D)} (h : RpK K F kvs es) : kvs.length = es.length := by
  induction es generalizing kvs with
  | nil => cases h; rfl
  | cons e es ih => cases h with | cons h r => simp [ih r]
end
def dictOf : D → Option (List (D × D))
  | .dict es => if isT es = true then none else some es
  | _ => none
def wDE (o : Option D) (k : List (D × D) → Prop) : Prop := match o with
  | some (.dict es) => isT es = false ∧ k es
  | _ => False
theorem wDE_some {o : Option D} {k : List (D × D) → Prop} (h : wDE o k) : ∃ es, o = some (.dict es) ∧ isT es = false ∧ k es := by
  unfold wDE at h
  split at h
  · exact ⟨_, rfl, h⟩
  · exact h.elim
def wK (o : Option D) (k : Key → Prop) : Prop := match o with
  | some (.int i) => k (.inl i)
  | some (.str x) => k (.inr x)
  | _ => False
theorem wK_some {o : Option D} {k : Key → Prop} (h : wK o k) : ∃ q, o = some (keyD q) ∧ k q := by
  unfold wK at h
  split at h
  · exact ⟨.inl _, rfl, h⟩
  · exact ⟨.inr _, rfl, h⟩
  · exact h.elim
theorem RN.key {K : PySem.W.Frag} {F H : Hp} {v : V} {k : Key} (h : RN K F H v (keyD k)) : v = kV k := by
  cases k with
  | inl i => exact h.int
  | inr x => exact h.str
section
variable {K : PySem.W.Frag} {td ty tv : TE} {dd dk dv : DE} {i : Nat}
/-- d[k] -/
def dDGet (dd dk : DE) : DE := fun ρ Q => dd ρ fun r ρ1 => dk ρ1 fun q ρ2 => wDE (res ρ2 r) fun es => wK (res ρ2 q) fun k => ∃ d, lookE es k = some d ∧ Q (.fz d) ρ2
theorem le_dget (h : LE K td dd) (h' : LE K ty dk) : LE K (tDGet td ty) (dDGet dd dk) := by
  intro f g σ H ρ Q R hK hR hd k
  refine h.opd hK hR hd fun v H1 g1 ρ1 r1 R1 G1 O1 q1 => ?_
  refine h'.opd hK R1 q1 fun u H2 g2 ρ2 r2 R2 G2 O2 q2 => ?_
  obtain ⟨es, e1, nt, q2⟩ := wDE_some q2
  obtain ⟨key, e2, q2⟩ := wK_some q2
  obtain ⟨d, e3, q2⟩ := q2
  obtain ⟨a, kvs, rfl, hd, hr⟩ := ((O1.mono G2).rn R2 e1).dict fz_sub nt
  rw [(O2.rn R2 e2).key]
  rcases hr.look key with ⟨_, z⟩ | ⟨w, d', z1, z2, z3⟩
  · rw [e3] at z; cases z
  · rw [e3] at z2; cases z2
    refine ⟨a, w, rfl, .inl ⟨kvs, key, .inl hd, rfl, z1.symm⟩, ?_⟩
    exact k w H2 g2 ρ2 (.fz d) R2 (G1.trans G2) z3 q2
/-- d.get(k) -/
def dDGet1 (dd dk : DE) : DE := fun ρ Q => dd ρ fun r ρ1 => wDE (res ρ1 r) fun _ => dk ρ1 fun q ρ2 => wDE (res ρ2 r) fun es => wK (res ρ2 q) fun k => ∃ d, (lookE es k).getD .none = d ∧ Q (.fz d) ρ2
theorem le_dget1 (h : LE K td dd) (h' : LE K ty dk) : LE K (tDGet1 td ty) (dDGet1 dd dk) := by
  intro f g σ H ρ Q R hK hR hd k
  refine h.opd hK hR hd fun v H1 g1 ρ1 r1 R1 G1 O1 q1 => ?_
  obtain ⟨es0, e0, nt0, q1⟩ := wDE_some q1
  obtain ⟨a, kvs0, rfl, hd0, _⟩ := (O1.rn R1 e0).dict fz_sub nt0
  refine ⟨a, rfl, .inl ⟨kvs0, .inl hd0⟩, ?_⟩
  refine h'.opd hK R1 q1 fun u H2 g2 ρ2 r2 R2 G2 O2 q2 => ?_
  obtain ⟨es, e1, nt, q2⟩ := wDE_some q2
  obtain ⟨key, e2, q2⟩ := wK_some q2
  obtain ⟨a', kvs, ea, hd, hr⟩ := ((O1.mono G2).rn R2 e1).dict fz_sub nt
  cases ea
  rw [(O2.rn R2 e2).key]
  obtain ⟨_, rfl, q2⟩ := q2
  refine ⟨valV kvs key, .inl ⟨kvs, key, .inl hd, rfl, rfl⟩, ?_⟩
  rcases hr.look key with ⟨z0, z⟩ | ⟨w, d', z1, z2, z3⟩
  · rw [z0]
    rw [z] at q2
    exact k .non H2 g2 ρ2 (.fz .none) R2 (G1.trans G2) Rp.non q2
  · rw [z1]
    rw [z2] at q2
    exact k w H2 g2 ρ2 (.fz d') R2 (G1.trans G2) z3 q2
/-- k in d -/
def dDIn (neg : Bool) (dk dd : DE) : DE := fun ρ Q => dk ρ fun q ρ1 => dd ρ1 fun r ρ2 => wDE (res ρ2 r) fun es => wK (res ρ2 q) fun k => ∃ b, (lookE es k).isSome = b ∧ Q (.fz (.bool (neg != b))) ρ2
theorem le_din (h' : LE K ty dk) (h : LE K td dd) : LE K (tDIn ty td) (dDIn false dk dd) := by
  intro f g σ H ρ Q R hK hR hd k
  refine h'.opd hK hR hd fun u H1 g1 ρ1 r1 R1 G1 O1 q1 => ?_
  refine h.opd hK R1 q1 fun v H2 g2 ρ2 r2 R2 G2 O2 q2 => ?_
  obtain ⟨es, e1, nt, q2⟩ := wDE_some q2
  obtain ⟨key, e2, q2⟩ := wK_some q2
  obtain ⟨a, kvs, rfl, hd, hr⟩ := (O2.rn R2 e1).dict fz_sub nt
  rw [((O1.mono G2).rn R2 e2).key]
  refine ⟨a, valV kvs key, rfl, .inl ⟨kvs, key, .inl hd, rfl, rfl⟩, ?_⟩
  have e : (valV kvs key).isSome = (lookE es key).isSome := by
    rcases hr.look key with ⟨z0, z⟩ | ⟨w, d', z1, z2, z3⟩
    · rw [z0, z]; rfl
    · rw [z1, z2]; rfl
  obtain ⟨_, rfl, q2⟩ := q2
  rw [e]
  exact k _ H2 g2 ρ2 (.fz (.bool _)) R2 (G1.trans G2) (Rp.bl _) (by simpa using q2)
theorem le_dnin (h' : LE K ty dk) (h : LE K td dd) : LE K (tDNotIn ty td) (dDIn true dk dd) := by
  intro f g σ H ρ Q R hK hR hd k
  refine h'.opd hK hR hd fun u H1 g1 ρ1 r1 R1 G1 O1 q1 => ?_
  refine h.opd hK R1 q1 fun v H2 g2 ρ2 r2 R2 G2 O2 q2 => ?_
  obtain ⟨es, e1, nt, q2⟩ := wDE_some q2
  obtain ⟨key, e2, q2⟩ := wK_some q2
  obtain ⟨a, kvs, rfl, hd, hr⟩ := (O2.rn R2 e1).dict fz_sub nt
  rw [((O1.mono G2).rn R2 e2).key]
  refine ⟨a, valV kvs key, rfl, .inl ⟨kvs, key, .inl hd, rfl, rfl⟩, ?_⟩
  have e : (valV kvs key).isSome = (lookE es key).isSome := by
    rcases hr.look key with ⟨z0, z⟩ | ⟨w, d', z1, z2, z3⟩
    · rw [z0, z]; rfl
    · rw [z1, z2]; rfl
  obtain ⟨_, rfl, q2⟩ := q2
  rw [e]
  exact k _ H2 g2 ρ2 (.fz (.bool _)) R2 (G1.trans G2) (Rp.bl _) (by simpa using q2)
/-- {} -/
def dDNew : DE := fun ρ Q => Q (.nw (.dict [])) ρ
def dDNewT : DE := fun ρ Q => Q (.nw (.dict [tmark])) ρ
theorem le_dnew : LE K tDNewK dDNew := by
  intro f g σ H ρ Q R hK hR hd k p hp
  obtain ⟨R3, G3, V3⟩ := hR.own (o := .dK []) (d := .dict []) hp (.dic upd_same .nil)
  exact k _ _ _ ρ _ R3 G3 V3 hd
theorem le_dnewT : LE K tDNewT dDNewT := by
  intro f g σ H ρ Q R hK hR hd k p hp
  obtain ⟨R3, G3, V3⟩ := hR.own (o := .dT []) (d := .dict [tmark]) hp (.dct upd_same .nil)
  exact k _ _ _ ρ _ R3 G3 V3 hd
/-- d[k] = v, d one's own -/
def ownD (ρ : Rho) (i : Nat) : Option (List (D × D)) := match ρ[i]? with
  | some (some (.ow (.dict es))) => if isT es = true then none else some es
  | _ => none
theorem ownD_some {ρ : Rho} {i : Nat} {es : List (D × D)} (h : ownD ρ i = some es) : ρ[i]? = some (some (.ow (.dict es))) ∧ isT es = false := by
  unfold ownD at h
  split at h
  · rename_i xs e
    split at h
    · cases h
    · rename_i n
      cases h
      exact ⟨e, by simpa using n⟩
  · cases h
def wO (o : Option (List (D × D))) (k : List (D × D) → Prop) : Prop := match o with
  | some es => k es
  | none => False
theorem wO_some {o : Option (List (D × D))} {k : List (D × D) → Prop} (h : wO o k) : ∃ b, o = some b ∧ k b := by
  cases o with
  | some x => exact ⟨x, rfl, h⟩
  | none => exact h.elim
def dDPut (i : Nat) (dk dv : DE) : DS := fun DD ρ => dv ρ fun r ρ1 => wF (frz ρ1 r) fun d ρ2 => (∃ es, ρ2[i]? = some (some (.ow (.dict es))) ∧ isT es = false) ∧ dk ρ2 fun q ρ3 => ∃ es, ρ3[i]? = some (some (.ow (.dict es))) ∧ isT es = false ∧ wK (res ρ3 q) fun k => es.length < sizeLine ∧ DD.nx (ρ3.set i (some (.ow (.dict (putE es k d)))))
theorem ls_dput (h : LE K ty dk) (h' : LE K tv dv) : LS K (sDPut (tVar i) ty tv) (dDPut i dk dv) := by
  intro f g σ H ρ DD E hK R hd l
  refine h'.opd hK R hd fun v H1 g1 ρ1 r1 R1 G1 O1 q1 => ?_
  obtain ⟨d, ρ2, e2, q1⟩ := wF_some q1
  obtain ⟨g2, R2, G2, hv⟩ := O1.frz R1 e2
  obtain ⟨⟨es0, e0, _⟩, q1⟩ := q1
  obtain ⟨w, w1, a, wa, m, h0, ns, rr⟩ := R2.slot i _ e0
  subst wa
  refine ⟨.ref a, w1, ?_⟩
  refine h.opd hK R2 q1 fun u H3 g3 ρ3 r3 R3 G3 O3 q3 => ?_
  obtain ⟨es, s4, nt, q3⟩ := q3
  obtain ⟨key, e5, hl, q3⟩ := wK_some q3
  obtain ⟨w', w2, a', wa', m', h0', ns', r4⟩ := R3.slot i _ s4
  rw [w1] at w2; cases w2; cases wa'
  rw [(O3.rn R3 e5).key]
  obtain ⟨a2, kvs, ea, hk, hr⟩ := (show RN f.K (Fz H3 g3.M) H3 (.ref a) (.dict es) from .inr ⟨a, rfl, r4⟩).dict fz_sub nt
  cases ea
  refine ⟨a, _, rfl, DPut.k (k := key) hk (by rw [hr.length]; exact hl), ?_⟩
  obtain ⟨R5, G5⟩ := R3.mutOwn (o := .dK (putK kvs key v)) (d' := .dict (putE es key d)) s4 w1 (.dic upd_same (hr.put key (hv.mono G3.fz)))
  exact l.nx g3 σ _ _ R5 (((G1.trans G2).trans G3).trans G5) q3
end
/-! ### chains -/
def dChain (F F' : F2) (da db dc : DE) : DE := fun ρ Q => da ρ fun r1 ρ1 => db ρ1 fun r2 ρ2 => wD (res ρ2 r1) fun x => wD (res ρ2 r2) fun y => F x y fun b => wB (res ρ2 b) fun b => useB b (dc ρ2 fun r3 ρ3 => wD (res ρ3 r2) fun y => wD (res ρ3 r3) fun z => F' y z fun r => Q r ρ3) (Q (.fz (.bool false)) ρ2)
theorem le_chain {K : PySem.W.Frag} {ta tb tc : TE} {da db dc : DE} {r r' : R2} {F F' : F2} (ha : LE K ta da) (hb : LE K tb db) (hc : LE K tc dc) (ho : OpL K r F) (ho' : OpL K r' F') : LE K (tChain r r' ta tb tc) (dChain F F' da db dc) := by
  intro f g σ H ρ Q R hK hR hd k
  refine ha.opd hK hR hd fun v H1 g1 ρ1 r1 R1 G1 O1 q1 => ?_
  refine hb.opd hK R1 q1 fun u H2 g2 ρ2 r2 R2 G2 O2 q2 => ?_
  obtain ⟨x, e1, q2⟩ := wD_some q2
  obtain ⟨y, e2, q2⟩ := wD_some q2
  subst hK
  refine ho f g2 σ H2 ρ2 v u x y _ _ rfl R2 ((O1.mono G2).rn R2 e1) (O2.rn R2 e2) q2 fun z H3 g3 r R3 G3 V3 q3 => ?_
  obtain ⟨b, e3, q3⟩ := wB_some q3
  obtain ⟨g4, R4, G4, O4⟩ := V3.opd R3
  refine ⟨b, (O4.rn R4 e3).bool, ?_⟩
  cases b with
  | false =>
    rw [if_neg Bool.false_ne_true]
    replace q3 := useB_f q3
    exact k _ H3 g4 ρ2 (.fz (.bool false)) R4 ((G1.trans G2).trans (G3.trans G4)) (Rp.bl false) q3
  | true =>
    rw [if_pos rfl]
    replace q3 := useB_t q3
    refine hc.opd rfl R4 q3 fun w H5 g5 ρ5 r5 R5 G5 O5 q5 => ?_
    obtain ⟨y', e6, q5⟩ := wD_some q5
    obtain ⟨z', e7, q5⟩ := wD_some q5
    exact ho' f g5 σ H5 ρ5 u w y' z' _ R rfl R5 ((((O2.mono G3).mono G4).mono G5).rn R5 e6) (O5.rn R5 e7) q5 fun z H6 g6 r R6 G6 V6 q6 => k z H6 g6 ρ5 r R6 ((((G1.trans G2).trans (G3.trans G4)).trans G5).trans G6) V6 q6
/-! ### truth -/
def dTru (da : DE) : DT := fun ρ Q => da ρ fun r ρ1 => wD (res ρ1 r) fun x => (strOk0 x ∧ (match x with | .dict es => isT es = false | _ => True)) ∧ Q (truD x) ρ1
theorem emp_eq {K : PySem.W.Frag} {F : Hp} {vs : List V} {ds : List D} (h : RpA K F vs ds) : (!ds.isEmpty) = !vs.isEmpty := by
  cases ds <;> cases h <;> rfl
theorem lt_truth {K : PySem.W.Frag} {ta : TE} {da : DE} (h : LE K ta da) : LT K (fun σ H Q => ta σ H fun x H' => ∃ k, TruV K x H' k ∧ Q k H') (dTru da) := by
  intro f g σ H ρ Q R hK hR hd k
  refine h.opd hK hR hd fun v H1 g1 ρ1 r1 R1 G1 O1 q1 => ?_
  obtain ⟨x, e1, ⟨hs, nt⟩, q1⟩ := wD_some q1
  subst hK
  have rn := O1.rn R1 e1
  refine ⟨truD x, ?_, k _ H1 g1 ρ1 R1 G1 q1⟩
  cases x with
  | none => obtain rfl := rn.non; rfl
  | bool b => obtain rfl := rn.bool; rfl
  | int b => obtain rfl := rn.int; rfl
  | str z => obtain rfl := rn.str; exact ⟨hs, rfl⟩
  | list ds =>
    obtain ⟨a, xs, rfl, e2, r2⟩ := rn.list fz_sub
    exact .inl ⟨xs, .inl (.inl e2), emp_eq r2⟩
  | tuple ds =>
    obtain ⟨a, xs, rfl, e2, r2, _⟩ := rn.tuple fz_sub
    exact .inr (.inl ⟨xs, e2, emp_eq r2⟩)
  | dict es =>
    obtain ⟨a, kvs, rfl, e2, r2⟩ := rn.dict fz_sub nt
    refine .inr (.inr ⟨kvs, e2, ?_⟩)
    cases es <;> cases r2 <;> rfl
end DL

set_option Elab.async false
set_option linter.all false
set_option maxRecDepth 100000
set_option maxHeartbeats 4000000
set_option autoImplicit false
namespace DL
open PySem L2

/-! ### loops by what holds -/
theorem dLoop_of {dg : DG} {db : DS} {DD : DEnds} (ds : List D) (I : Nat → Rho → Prop) {ρ : Rho} (h0 : I 0 ρ)
    (hs : ∀ (i : Nat) (d : D) (ρ : Rho) (k : Rho → Prop), ds[i]? = some d → I i ρ → (∀ ρ', I (i + 1) ρ' → k ρ') → dg (.fz d) ρ fun ρ1 => db { nx := k, ct := k, bk := DD.nx, rt := DD.rt } ρ1)
    (hd : ∀ ρ, I ds.length ρ → DD.nx ρ) : dLoop dg db DD ds ρ := by
  suffices h : ∀ (n i : Nat) (ρ : Rho), i + n = ds.length → I i ρ → dLoop dg db DD (ds.drop i) ρ by
    have := h ds.length 0 ρ (by simp) h0
    simpa using this
  intro n
  induction n with
  | zero =>
    intro i ρ e hi
    have e : i = ds.length := by omega
    subst e
    rw [List.drop_length]
    exact hd ρ hi
  | succ n ih =>
    intro i ρ e hi
    have hlt : i < ds.length := by omega
    rw [List.drop_eq_getElem_cons hlt]
    exact hs i _ ρ _ (by simp [hlt]) hi fun ρ' h => ih (i + 1) ρ' (by omega) h
theorem dLcGo_of {dg : DG} {dt : DT} {de : DE} {vs : List Nat} {Q : Rv → Rho → Prop} (ds : List D) (I : Nat → List D → Rho → Prop) {ρ : Rho} (h0 : I 0 [] ρ)
    (hs : ∀ (i : Nat) (x : D) (acc : List D) (ρ : Rho) (k : List D → Rho → Prop), ds[i]? = some x → I i acc ρ → (∀ acc' ρ', I (i + 1) acc' ρ' → k acc' ρ') →
      dg (.fz x) (wipeR ρ vs) fun ρ1 => dt ρ1 fun b ρ2 => useB b (de ρ2 fun r ρ3 => wF (frz ρ3 r) fun d ρ4 => acc.length < sizeLine ∧ k (acc ++ [d]) (bckR ρ ρ4 vs)) (k acc (bckR ρ ρ2 vs)))
    (hd : ∀ acc ρ, I ds.length acc ρ → Q (.nw (.list acc)) ρ) : dLcGo dg dt de vs Q ds [] ρ := by
  suffices h : ∀ (n i : Nat) (acc : List D) (ρ : Rho), i + n = ds.length → I i acc ρ → dLcGo dg dt de vs Q (ds.drop i) acc ρ by
    have := h ds.length 0 [] ρ (by simp) h0
    simpa using this
  intro n
  induction n with
  | zero =>
    intro i acc ρ e hi
    have e : i = ds.length := by omega
    subst e
    rw [List.drop_length]
    exact hd acc ρ hi
  | succ n ih =>
    intro i acc ρ e hi
    have hlt : i < ds.length := by omega
    rw [List.drop_eq_getElem_cons hlt]
    exact hs i _ acc ρ _ (by simp [hlt]) hi fun acc' ρ' h => ih (i + 1) acc' ρ' (by omega) h
/-- an element by element list, the slots as they were -/
theorem dLcGo_map {dg : DG} {de : DE} {vs : List Nat} {Q : Rv → Rho → Prop} (ds : List D) (f : D → D) {ρ : Rho} (hl : ds.length ≤ sizeLine)
    (hs : ∀ (x : D) (k : D → Rho → Prop), x ∈ ds → k (f x) ρ → dg (.fz x) (wipeR ρ vs) fun ρ1 => de ρ1 fun r ρ3 => wF (frz ρ3 r) fun d ρ4 => k d (bckR ρ ρ4 vs))
    (hd : Q (.nw (.list (ds.map f))) ρ) : dLcGo dg dYes de vs Q ds [] ρ := by
  suffices h : ∀ (xs acc : List D), acc.length + xs.length ≤ sizeLine → (∀ x ∈ xs, x ∈ ds) → Q (.nw (.list (acc ++ xs.map f))) ρ → dLcGo dg dYes de vs Q xs acc ρ from
    h ds [] (by simpa using hl) (fun _ h => h) (by simpa using hd)
  intro xs
  induction xs with
  | nil => intro acc _ _ q; simpa [dLcGo] using q
  | cons x xs ih =>
    intro acc hl hm q
    show dg (.fz x) (wipeR ρ vs) fun ρ1 => useB true _ _
    have hu : ∀ (A B : Prop), useB true A B = A := fun A B => propext ⟨useB_t, useB_y rfl⟩
    simp only [hu]
    have hl' : acc.length < sizeLine := by simp at hl; omega
    have := hs x (fun d ρ' => acc.length < sizeLine ∧ dLcGo dg dYes de vs Q xs (acc ++ [d]) ρ') (hm x List.mem_cons_self) ⟨hl', ih (acc ++ [f x]) (by simp at hl ⊢; omega) (fun y hy => hm y (List.mem_cons_of_mem _ hy)) (by simpa using q)⟩
    exact this

/-! ### the source's dict -/
theorem nCL : ¬ ((Str.ofString "cells") = Str.ofString "left") := by decide +kernel
theorem nCM : ¬ ((Str.ofString "cells") = Str.ofString "mixed") := by decide +kernel
theorem nCT : ¬ ((Str.ofString "cells") = Str.ofString "turn") := by decide +kernel
theorem nCR : ¬ ((Str.ofString "cells") = Str.ofString "room") := by decide +kernel
theorem nLC : ¬ ((Str.ofString "left") = Str.ofString "cells") := by decide +kernel
theorem nLM : ¬ ((Str.ofString "left") = Str.ofString "mixed") := by decide +kernel
theorem nLT : ¬ ((Str.ofString "left") = Str.ofString "turn") := by decide +kernel
theorem nLR : ¬ ((Str.ofString "left") = Str.ofString "room") := by decide +kernel
theorem nMC : ¬ ((Str.ofString "mixed") = Str.ofString "cells") := by decide +kernel
theorem nML : ¬ ((Str.ofString "mixed") = Str.ofString "left") := by decide +kernel
theorem nMT : ¬ ((Str.ofString "mixed") = Str.ofString "turn") := by decide +kernel
theorem nMR : ¬ ((Str.ofString "mixed") = Str.ofString "room") := by decide +kernel
theorem nTC : ¬ ((Str.ofString "turn") = Str.ofString "cells") := by decide +kernel
theorem nTL : ¬ ((Str.ofString "turn") = Str.ofString "left") := by decide +kernel
theorem nTM : ¬ ((Str.ofString "turn") = Str.ofString "mixed") := by decide +kernel
theorem nTR : ¬ ((Str.ofString "turn") = Str.ofString "room") := by decide +kernel
theorem nRC : ¬ ((Str.ofString "room") = Str.ofString "cells") := by decide +kernel
theorem nRL : ¬ ((Str.ofString "room") = Str.ofString "left") := by decide +kernel
theorem nRM : ¬ ((Str.ofString "room") = Str.ofString "mixed") := by decide +kernel
theorem nRT : ¬ ((Str.ofString "room") = Str.ofString "turn") := by decide +kernel
section
variable {c : Addr} {l m t : Int} {more : List (Key × V)}
theorem src_cells : valV (srcKvs c l m t more) (Sum.inr "cells") = some (.ref c) := by simp [srcKvs, valV, nCL, nCM, nCT, nCR, nLC, nLM, nLT, nLR, nMC, nML, nMT, nMR, nTC, nTL, nTM, nTR, nRC, nRL, nRM, nRT]
theorem src_left : valV (srcKvs c l m t more) (Sum.inr "left") = some (.int l) := by simp [srcKvs, valV, nCL, nCM, nCT, nCR, nLC, nLM, nLT, nLR, nMC, nML, nMT, nMR, nTC, nTL, nTM, nTR, nRC, nRL, nRM, nRT]
theorem src_mixed : valV (srcKvs c l m t more) (Sum.inr "mixed") = some (.int m) := by simp [srcKvs, valV, nCL, nCM, nCT, nCR, nLC, nLM, nLT, nLR, nMC, nML, nMT, nMR, nTC, nTL, nTM, nTR, nRC, nRL, nRM, nRT]
theorem src_turn : valV (srcKvs c l m t more) (Sum.inr "turn") = some (.int t) := by simp [srcKvs, valV, nCL, nCM, nCT, nCR, nLC, nLM, nLT, nLR, nMC, nML, nMT, nMR, nTC, nTL, nTM, nTR, nRC, nRL, nRM, nRT]
def MoreOk (more : List (Key × V)) : Prop := more = [] ∨ ∃ r : Int, more = [((Sum.inr "room" : Key), V.int r)]
theorem put_left (h : MoreOk more) (x : Int) : putK (srcKvs c l m t more) (Sum.inr "left") (.int x) = srcKvs c x m t more := by
  rcases h with rfl | ⟨r, rfl⟩ <;> simp [srcKvs, putK, nCL, nCM, nCT, nCR, nLC, nLM, nLT, nLR, nMC, nML, nMT, nMR, nTC, nTL, nTM, nTR, nRC, nRL, nRM, nRT]
theorem put_mixed (h : MoreOk more) (x : Int) : putK (srcKvs c l m t more) (Sum.inr "mixed") (.int x) = srcKvs c l x t more := by
  rcases h with rfl | ⟨r, rfl⟩ <;> simp [srcKvs, putK, nCL, nCM, nCT, nCR, nLC, nLM, nLT, nLR, nMC, nML, nMT, nMR, nTC, nTL, nTM, nTR, nRC, nRL, nRM, nRT]
theorem put_turn (h : MoreOk more) (x : Int) : putK (srcKvs c l m t more) (Sum.inr "turn") (.int x) = srcKvs c l m x more := by
  rcases h with rfl | ⟨r, rfl⟩ <;> simp [srcKvs, putK, nCL, nCM, nCT, nCR, nLC, nLM, nLT, nLR, nMC, nML, nMT, nMR, nTC, nTL, nTM, nTR, nRC, nRL, nRM, nRT]
theorem put_room (h : MoreOk more) (x : Int) : ∃ more', MoreOk more' ∧ putK (srcKvs c l m t more) (Sum.inr "room") (.int x) = srcKvs c l m t more' := by
  rcases h with rfl | ⟨r, rfl⟩
  · exact ⟨_, .inr ⟨x, rfl⟩, by simp [srcKvs, putK, nCL, nCM, nCT, nCR, nLC, nLM, nLT, nLR, nMC, nML, nMT, nMR, nTC, nTL, nTM, nTR, nRC, nRL, nRM, nRT]⟩
  · exact ⟨_, .inr ⟨x, rfl⟩, by simp [srcKvs, putK, nCL, nCM, nCT, nCR, nLC, nLM, nLT, nLR, nMC, nML, nMT, nMR, nTC, nTL, nTM, nTR, nRC, nRL, nRM, nRT]⟩
theorem src_len (h : MoreOk more) : (srcKvs c l m t more).length < sizeLine := by
  rcases h with rfl | ⟨r, rfl⟩ <;> (show _ < 16777216; simp [srcKvs])
end
end DL

set_option Elab.async false
set_option linter.all false
set_option maxRecDepth 100000
set_option maxHeartbeats 4000000
set_option autoImplicit false
namespace DL
open PySem L2

/-! ### what stands of the source, for its own defs -/
structure Sx (c : Addr) (H : Hp) (p : Addr) (ns : List Int) (l m t : Int) (more : List (Key × V)) : Prop where
  hp : H p = some (.dK (srcKvs c l m t more))
  hc : H c = some (.lst (ns.map V.int))
  nn : ∀ n ∈ ns, 0 ≤ n
  l0 : 0 ≤ l
  m0 : 0 ≤ m
  m1 : m < 2147483647
  mo : MoreOk more
structure Fm (H : Hp) (p c : Addr) (H' : Hp) : Prop where
  keep : ∀ a o, H a = some o → a ≠ p → a ≠ c → H' a = some o
  dom : ∀ a, H' a = none → H a = none
section
variable {H H' : Hp} {p c : Addr} {ns : List Int} {l m t x : Int} {more : List (Key × V)}
theorem SrcOk.sx (h : SrcOk H p c) : ∃ ns l m t more, Sx c H p ns l m t more := by
  obtain ⟨ns, l, m, t, more, h1, h2, h3, h4, h5, h6, h7⟩ := h
  exact ⟨ns, l, m, t, more, h1, h2, h3, h4, h5, h6, h7⟩
theorem Sx.ok (h : Sx c H p ns l m t more) : SrcOk H p c := ⟨ns, l, m, t, more, h.hp, h.hc, h.nn, h.l0, h.m0, h.m1, h.mo⟩
theorem Fm.refl : Fm H p c H := ⟨fun a o h _ _ => h, fun a h => h⟩
theorem Fm.updP {o : HO} (h : Fm H p c H') : Fm H p c (upd H' p o) := by
  refine ⟨fun a u e n1 n2 => by rw [upd_ne n1]; exact h.keep a u e n1 n2, fun a e => ?_⟩
  by_cases q : a = p
  · rw [q, upd_same] at e; cases e
  · rw [upd_ne q] at e; exact h.dom a e
theorem Fm.updC {o : HO} (h : Fm H p c H') : Fm H p c (upd H' c o) := by
  refine ⟨fun a u e n1 n2 => by rw [upd_ne n2]; exact h.keep a u e n1 n2, fun a e => ?_⟩
  by_cases q : a = c
  · rw [q, upd_same] at e; cases e
  · rw [upd_ne q] at e; exact h.dom a e
theorem Sx.gC (h : Sx c H p ns l m t more) : DGet H p (.str "cells") (some (.ref c)) := .inl ⟨_, .inr "cells", .inl h.hp, rfl, src_cells.symm⟩
theorem Sx.gL (h : Sx c H p ns l m t more) : DGet H p (.str "left") (some (.int l)) := .inl ⟨_, .inr "left", .inl h.hp, rfl, src_left.symm⟩
theorem Sx.gM (h : Sx c H p ns l m t more) : DGet H p (.str "mixed") (some (.int m)) := .inl ⟨_, .inr "mixed", .inl h.hp, rfl, src_mixed.symm⟩
theorem Sx.gT (h : Sx c H p ns l m t more) : DGet H p (.str "turn") (some (.int t)) := .inl ⟨_, .inr "turn", .inl h.hp, rfl, src_turn.symm⟩
theorem Sx.pL (h : Sx c H p ns l m t more) : DPut H p (.str "left") (.int x) (upd H p (.dK (srcKvs c x m t more))) := .inl ⟨_, .inr "left", h.hp, rfl, src_len h.mo, by rw [put_left h.mo]⟩
theorem Sx.pM (h : Sx c H p ns l m t more) : DPut H p (.str "mixed") (.int x) (upd H p (.dK (srcKvs c l x t more))) := .inl ⟨_, .inr "mixed", h.hp, rfl, src_len h.mo, by rw [put_mixed h.mo]⟩
theorem Sx.pT (h : Sx c H p ns l m t more) : DPut H p (.str "turn") (.int x) (upd H p (.dK (srcKvs c l m x more))) := .inl ⟨_, .inr "turn", h.hp, rfl, src_len h.mo, by rw [put_turn h.mo]⟩
theorem Sx.setL (h : Sx c H p ns l m t more) (n : c ≠ p) (hx : 0 ≤ x) : Sx c (upd H p (.dK (srcKvs c x m t more))) p ns x m t more := ⟨upd_same, by rw [upd_ne n]; exact h.hc, h.nn, hx, h.m0, h.m1, h.mo⟩
theorem Sx.setM (h : Sx c H p ns l m t more) (n : c ≠ p) (hx : 0 ≤ x) (hy : x < 2147483647) : Sx c (upd H p (.dK (srcKvs c l x t more))) p ns l x t more := ⟨upd_same, by rw [upd_ne n]; exact h.hc, h.nn, h.l0, hx, hy, h.mo⟩
theorem Sx.setT (h : Sx c H p ns l m t more) (n : c ≠ p) : Sx c (upd H p (.dK (srcKvs c l m x more))) p ns l m x more := ⟨upd_same, by rw [upd_ne n]; exact h.hc, h.nn, h.l0, h.m0, h.m1, h.mo⟩
theorem Sx.setC (h : Sx c H p ns l m t more) (n : c ≠ p) {ms : List Int} (hm : ∀ n ∈ ms, 0 ≤ n) : Sx c (upd H c (.lst (ms.map V.int))) p ms l m t more := ⟨by rw [upd_ne (Ne.symm n)]; exact h.hp, upd_same, hm, h.l0, h.m0, h.m1, h.mo⟩
end
theorem log_pick {m : Int} (h1 : 1 ≤ m) (h2 : m < 1267650600228229401496703205376) : m.natAbs.log2 < 9000 := by
  have : m.natAbs.log2 < 100 := (Nat.log2_lt (by omega)).mpr (by omega)
  omega
/-- a draw -/
def Cpick : Con := fun ds Q => ∃ m : Int, ds = [.none, .int m] ∧ (1 ≤ m ∧ m < 1267650600228229401496703205376) ∧ ∀ k : Int, 0 ≤ k → k < m → Q (.fz (.int k))
/-- a drawn member -/
def Cof : Con := fun ds Q => ∃ xs : List D, (ds = [.none, .list xs] ∨ ds = [.none, .tuple xs]) ∧ (1 ≤ xs.length ∧ xs.length < 1073741824) ∧ ∀ x ∈ xs, Q (.fz x)
theorem ite_b {c : Bool} {A B : Prop} (h1 : c = true → A) (h2 : c = false → B) : if c = true then A else B := by
  cases c with
  | true => rw [if_pos rfl]; exact h1 rfl
  | false => rw [if_neg Bool.false_ne_true]; exact h2 rfl
/-- the arguments of a draw's def -/
theorem pre_src2 {K : PySem.W.Frag} {M0 : AP} {src : Option (Addr × Addr)} {H : Hp} {vs : List V} {m : Int} (P : PreC K M0 src [] (.fl []) H [.src, .bo] vs [.none, .int m]) : ∃ p c, vs = [.ref p, .int m] ∧ src = some (p, c) ∧ p ≠ c ∧ SrcOk H p c := by
  obtain ⟨_, sok, args, _⟩ := P
  cases args with
  | cons h r =>
    cases r with
    | cons h' r =>
      cases r
      obtain ⟨_, p, c, e, rfl⟩ := h
      obtain ⟨h1, _, _, h4⟩ := sok p c e
      rcases h' with h' | ⟨a, _, h', _⟩
      · cases h'; exact ⟨p, c, rfl, e, h1, h4⟩
      · cases h'
theorem pre_src1 {K : PySem.W.Frag} {M0 : AP} {src : Option (Addr × Addr)} {H : Hp} {vs : List V} {d : D} (P : PreC K M0 src [] (.fl []) H [.src] vs [d]) : ∃ p c, vs = [.ref p] ∧ src = some (p, c) ∧ p ≠ c ∧ SrcOk H p c := by
  obtain ⟨_, sok, args, _⟩ := P
  cases args with
  | cons h r =>
    cases r
    obtain ⟨_, p, c, e, rfl⟩ := h
    obtain ⟨h1, _, _, h4⟩ := sok p c e
    exact ⟨p, c, rfl, e, h1, h4⟩
/-- a scalar handed back, the source changed -/
theorem Fm.post {K : PySem.W.Frag} {M0 : AP} {p c : Addr} {H H' : Hp} {v : V} {d : D} (h : Fm H p c H') (hs : SrcOk H' p c) (hv : ∀ F, Rp K F v d) : PostC K M0 (some (p, c)) [] (.fl []) H H' v (.fz d) :=
  ⟨fun a o e n _ => h.keep a o e (n p c rfl).1 (n p c rfl).2, h.dom, (fun q d e => by cases e; exact hs), hv _, (fun _ _ h => nomatch h)⟩
/-- the source made from the script -/
def spSrc (K : PySem.W.Frag) : Sp := fun vs H Q _ => ∃ (a : Addr) (ns : List Int), vs = [.ref a] ∧ SqL K H a (ns.map V.int) ∧ ns.length ≤ 63 ∧
  ∀ (p c : Addr) (H' : Hp), p ≠ c → H p = none → H c = none → (∀ x o, H x = some o → H' x = some o) → (∀ x, H' x = none → H x = none) → SrcOk H' p c → Q (.ref p) H'
theorem ite_t {A B : Prop} (h : A) : if true = true then A else B := h
end DL

set_option Elab.async false
set_option linter.all false
set_option maxRecDepth 100000
set_option maxHeartbeats 4000000
set_option autoImplicit false
namespace DL
open PySem L2
/-- what is promised of law itself -/
def spLaw (K : PySem.W.Frag) : Sp := fun vs H Q _ => ∃ (a : Addr) (ns : List Int), vs = [.ref a] ∧ SqL K H a (ns.map V.int) ∧ ns.length ≤ 63 ∧ ∀ H', Q (.bl true) H'
def sayYes : DEnds := { nx := fun _ => False, rt := fun r _ => r = .fz (.bool true) }
/-- law: the source is made, the rest on data -/
theorem law_rest {K : PySem.W.Frag} {N : List Str} {tR : TS} {dR : DS} {vs : List V} {H : Hp} {Q : VK} {E XE : XK} (h : spLaw K vs H Q XE) (hN : 2 ≤ N.length) (hl : LS K tR dR)
    (hd : dR sayYes (some .scr :: some .src :: List.replicate (N.length - 2) none)) :
    tSeq (tAsg (tCall (spSrc K) [] E (tCons (tVar 0) tNil)) (gName 1)) tR { nx := fun _ H' => Q .non H', rt := Q } (L2.start N vs) H := by
  obtain ⟨a, ns, rfl, hs, hlen, hQ⟩ := h
  have hs' : SqL K (Fz H (srcSet none [])) a (ns.map V.int) := by
    have e : ∀ x o, H x = some o → Fz H (srcSet none []) x = some o := fun x o h => fz_of h (NoS.set (fun _ _ z => nomatch z) List.not_mem_nil)
    exact hs.elim (fun h1 => .inl (h1.elim (fun h2 => .inl (e _ _ h2)) fun ⟨o, h2⟩ => .inr ⟨o, e _ _ h2⟩)) fun h1 => .inr h1
  have P : PreC K (fun _ => False) none [] (.fl []) H [.scr] [.ref a] [.none] := ⟨fun _ z => z.elim, (fun _ _ z => nomatch z), .cons ⟨rfl, a, ns, rfl, hs', hlen⟩ .nil, (fun _ h => nomatch h), List.nodup_nil, (fun _ _ h => nomatch h)⟩
  have R0 := rel_start (N := N) P rfl
  refine ⟨_, rfl, a, ns, rfl, hs, hlen, fun p c H' hpc hp hc hk hdm ok => ?_⟩
  obtain ⟨R1, G1⟩ := R0.mkSrc rfl hp hc hpc hk hdm ok
  have R2 := R1.set (i := 1) (v := .ref p) (s := .src) ⟨p, c, rfl, rfl⟩ (fun d z => nomatch z)
  have e : (startM N.length (.fl []) [.scr] [.none]).set 1 (some .src) = some .scr :: some .src :: List.replicate (N.length - 2) none := by
    obtain ⟨n, e⟩ : ∃ n, N.length = n + 2 := ⟨N.length - 2, by omega⟩
    rw [e]
    rfl
  rw [e] at R2
  refine hl _ _ _ _ _ sayYes _ rfl R2 hd ⟨fun g' σ' H' ρ' _ _ q => q.elim, fun g' σ' H' ρ' v r R' G' V' q => ?_, fun g' σ' H' ρ' _ _ q => q.elim, fun g' σ' H' ρ' _ _ q => q.elim⟩
  have q : r = .fz (.bool true) := q
  subst q
  have V' : Rp _ _ v (.bool true) := V'
  cases V'
  exact hQ _
end DL

set_option Elab.async false
set_option linter.all false
set_option maxRecDepth 100000
set_option maxHeartbeats 4000000
set_option autoImplicit false
namespace DL
open PySem L2

/-! ### a dict display -/
def mergeE (es more : List (D × D)) : List (D × D) := more.foldl (fun acc e => match keyOf e.1 with
  | some k => putE acc k e.2
  | none => acc) es
theorem RpK.merge {K : PySem.W.Frag} {F : Hp} {more : List (Key × V)} {mo : List (D × D)} (hm : RpK K F more mo) : ∀ {kvs : List (Key × V)} {es : List (D × D)}, RpK K F kvs es → RpK K F (mergeK kvs more) (mergeE es mo) := by
  induction mo generalizing more with
  | nil => intro kvs es h; cases hm; exact h
  | cons e mo ih =>
    intro kvs es h
    cases hm with
    | @cons k v d vs ds hv hr =>
      have := ih hr (h.put k hv)
      unfold mergeE mergeK at this ⊢
      rw [List.foldl_cons, List.foldl_cons]
      show RpK K F _ (List.foldl _ (match keyOf (keyD k) with
        | some k => putE es k d
        | none => es) _)
      rw [keyOf_keyD]
      exact this
abbrev DP := Rho → (List (D × D) → Rho → Prop) → Prop
def LP (K : PySem.W.Frag) (t : List (TE × TE)) (d : DP) : Prop := ∀ (f : Fr) (g : Gs) (σ : L2.St) (H : Hp) (ρ : Rho) (Q : List (D × D) → Rho → Prop) (R : List (V × V) → Hp → Prop), f.K = K → Rel f g σ H ρ → d ρ Q →
  (∀ (kvs : List (Key × V)) (es : List (D × D)) (H' : Hp) (g' : Gs) (ρ' : Rho), Rel f g' σ H' ρ' → Gro g H g' H' → RpK f.K (Fz H' g'.M) kvs es → Q es ρ' → R (kvs.map fun kv => (kV kv.1, kv.2)) H') → tPairs t σ H R
def dPNil : DP := fun ρ Q => Q [] ρ
def dPCons (dk dv : DE) (dr : DP) : DP := fun ρ Q => dk ρ fun q ρ1 => dv ρ1 fun r ρ2 => wF (frz ρ2 r) fun d ρ3 => wK (res ρ3 q) fun k => dr ρ3 fun es ρ4 => Q ((keyD k, d) :: es) ρ4
section
variable {K : PySem.W.Frag} {tk tv : TE} {dk dv : DE} {tr : List (TE × TE)} {dr : DP}
theorem lp_nil : LP K [] dPNil := fun f g σ H ρ Q R hK hR hd k => k [] [] H g ρ hR Gro.refl .nil hd
theorem lp_cons (h : LE K tk dk) (h' : LE K tv dv) (hr : LP K tr dr) : LP K ((tk, tv) :: tr) (dPCons dk dv dr) := by
  intro f g σ H ρ Q R hK hR hd k
  refine h.opd hK hR hd fun u H1 g1 ρ1 q R1 G1 O1 q1 => ?_
  refine h'.opd hK R1 q1 fun v H2 g2 ρ2 r R2 G2 O2 q2 => ?_
  obtain ⟨d, ρ3, e3, q3⟩ := wF_some q2
  obtain ⟨g3, R3, G3, hv⟩ := O2.frz R2 e3
  obtain ⟨key, e4, q4⟩ := wK_some q3
  have hu := (((O1.mono G2).mono G3).rn R3 e4).key
  subst hu
  refine hr f g3 σ H2 ρ3 _ _ hK R3 q4 fun kvs es H4 g4 ρ4 R4 G4 r4 q5 => ?_
  exact k ((key, v) :: kvs) ((keyD key, d) :: es) H4 g4 ρ4 R4 (((G1.trans G2).trans G3).trans G4) (.cons (hv.mono G4.fz) r4) q5
def dDisp (dp : DP) : DE := fun ρ Q => dp ρ fun es ρ1 => es.length ≤ 15 ∧ Q (.nw (.dict (mergeE [] es))) ρ1
theorem le_disp (h : LP K tr dr) : LE K (tDisp tr) (dDisp dr) := by
  intro f g σ H ρ Q R hK hR hd k
  intro D0 hD
  have h0 : f.H0 D0 = none := hR.dom D0 hD
  obtain ⟨R2, G2, V2⟩ := hR.own (o := .dK []) (d := .dict []) hD (.dic upd_same .nil)
  obtain ⟨a, ea, m2, _, ns2, _, t2, u2⟩ := V2
  cases ea
  have R3 : Rel f ((g.add D0).push D0) σ (upd H D0 (.dK [])) ρ := ⟨R2.keep, R2.dom, R2.m0, R2.m00, R2.mU, R2.src, R2.len, R2.slot, R2.uq, fun b hb => by
    rcases List.mem_cons.mp hb with rfl | hb
    · exact ⟨m2, ns2, u2⟩
    · exact R2.tmp b hb, R2.fpM, R2.fpn, R2.mq⟩
  refine h f _ σ _ ρ _ _ hK R3 hd fun kvs es H4 g4 ρ4 R4 G4 r4 q => ?_
  have T4 : g4.T = D0 :: g.T := G4.tm.trans (congrArg (D0 :: ·) G2.tm)
  have e4 : H4 D0 = some (.dK []) := (G4.th D0 List.mem_cons_self).trans upd_same
  refine ⟨e4, kvs, rfl, by rw [r4.length]; exact q.1, ?_⟩
  have hm4 : D0 ∈ g4.T := by rw [T4]; exact List.mem_cons_self
  obtain ⟨R5, S5⟩ := R4.mutTmp (o := .dK (mergeK [] kvs)) hm4 h0
  obtain ⟨m', ns', u'⟩ := R5.tmp D0 hm4
  refine k _ _ (g4.pop g.T) ρ4 (.nw _) (R5.pop (T := g.T) fun a ha => by rw [T4]; exact List.mem_cons_of_mem _ ha) ⟨(G2.fz.trans G4.fz).trans S5, fun pc h => G4.src pc (G2.src pc h), rfl, fun b hb => ?_, G4.fp.trans G2.fp⟩ ⟨D0, rfl, m', h0, ns', .dic upd_same ((RpK.merge r4 .nil).mono S5), ?_, u'⟩ q.2
  · rw [upd_ne]
    · exact (G4.th b (List.mem_cons_of_mem _ (by rw [G2.tm]; exact hb))).trans (G2.th b hb)
    · rintro rfl
      exact hR.mH b hD (hR.tmp b hb).1
  · intro ha
    exact hR.mH D0 hD (hR.tmp D0 ha).1
end
end DL

set_option Elab.async false
set_option linter.all false
set_option maxRecDepth 100000
set_option maxHeartbeats 4000000
set_option autoImplicit false
namespace DL
open PySem L2

/-! ### repr of a dict that holds no list -/
mutual
def plainD : D → Bool
  | .list _ => false
  | .tuple ds => plainAll ds
  | .dict es => !isT es && plainEnts es
  | _ => true
def plainAll : List D → Bool
  | [] => true
  | d :: ds => plainD d && plainAll ds
def plainEnts : List (D × D) → Bool
  | [] => true
  | (_, d) :: es => plainD d && plainEnts es
end
section
variable {X : Cx} {pins : List (Addr × Obj)} {σ : L2.St} {H F : Hp} {s : Shared}
theorem keyIs_reads {k : Key} {u : Value} {P : Program} {w : World} (h : (mixKind P w).is k u = true) : Reads s.heap u (keyD k) [] := by
  rcases keyIs_shape h with ⟨i, t, rfl, rfl⟩ | ⟨x, t, rfl, rfl⟩
  · exact .int i t
  · exact .str x t
mutual
theorem Rp.readsP (I : Inv X pins σ H s) (e : Same F H) : ∀ {v : V} {d : D}, Rp X.K F v d → plainD d = true → ∀ u, RelV v u → ∃ as, Reads s.heap u d as ∧ sysModules ∉ as
  | _, _, .non, _, u, r => by cases r; exact ⟨_, .none, by simp⟩
  | _, _, .bl b, _, u, r => by cases r; exact ⟨_, .bool b, by simp⟩
  | _, _, .int b, _, u, r => by obtain ⟨t, rfl⟩ := r; exact ⟨_, .int b t, by simp⟩
  | _, _, .str b, _, u, r => by obtain ⟨t, rfl⟩ := r; exact ⟨_, .str b t, by simp⟩
  | _, _, .lst h r, hp, _, _ => by simp [plainD] at hp
  | _, _, .tup h r, hp, u, q => by
    cases q
    obtain ⟨its, rv, ⟨o, ho, hc, n, hd⟩, _⟩ := I.tuple (.inl (.inl (e _ _ h)))
    obtain ⟨as, hr, hn⟩ := RpA.readsP I e r (by simpa [plainD] using hp) its rv
    exact ⟨_, .tuple ho hc hd hr, hn⟩
  | _, _, .dic h r, hp, u, q => by
    cases q
    simp only [plainD, Bool.and_eq_true] at hp
    obtain ⟨z, hm, vs, rel, o, es, ep, ho, hx, hd, _, hpr, _⟩ := dk_of I.hok (e _ _ h)
    obtain ⟨as, bs, h1, h2, n1, n2⟩ := RpK.readsP I e r hp.2 vs rel es.toList hpr
    refine ⟨_, .dict ho hx.1 hd h1 h2, ?_⟩
    simp only [List.cons_append, List.mem_cons, List.mem_append, not_or]
    exact ⟨fun z => by rw [← z] at hm; simp at hm, n1, n2⟩
  | _, _, .dct h r, hp, _, _ => by simp [plainD, isT] at hp
theorem RpA.readsP (I : Inv X pins σ H s) (e : Same F H) : ∀ {vs : List V} {ds : List D}, RpA X.K F vs ds → plainAll ds = true → ∀ us, Vals vs us → ∃ as, ReadsAll s.heap us ds as ∧ sysModules ∉ as
  | _, _, .nil, _, us, r => by cases r; exact ⟨_, .nil, by simp⟩
  | _, _, .cons h r, hp, us, q => by
    simp only [plainAll, Bool.and_eq_true] at hp
    cases q with
    | cons q1 q2 =>
      obtain ⟨as, a1, a2⟩ := Rp.readsP I e h hp.1 _ q1
      obtain ⟨bs, b1, b2⟩ := RpA.readsP I e r hp.2 _ q2
      exact ⟨_, .cons a1 b1, by simp [a2, b2]⟩
theorem RpK.readsP (I : Inv X pins σ H s) (e : Same F H) : ∀ {kvs : List (Key × V)} {es : List (D × D)}, RpK X.K F kvs es → plainEnts es = true → ∀ vs, KV kvs vs → ∀ ens : List DictEntry, Pairs (mixKind X.prog X.w) ens vs →
    ∃ as bs, ReadsAll s.heap (ens.map (·.key)) (es.map (·.1)) as ∧ ReadsAll s.heap (ens.map (·.val)) (es.map (·.2)) bs ∧ sysModules ∉ as ∧ sysModules ∉ bs
  | _, _, .nil, _, vs, r, ens, p => by cases r; cases p; exact ⟨_, _, .nil, .nil, by simp, by simp⟩
  | _, _, .cons h r, hp, vs, q, ens, p => by
    simp only [plainEnts, Bool.and_eq_true] at hp
    cases q with
    | cons q1 q2 =>
      cases p with
      | cons p1 p2 p3 =>
        obtain ⟨k1, v1⟩ := q1
        dsimp only at k1 v1
        subst k1
        obtain ⟨as, a1, a2⟩ := Rp.readsP I e h hp.1 _ v1
        obtain ⟨bs, cs, b1, b2, b3, b4⟩ := RpK.readsP I e r hp.2 _ q2 _ p3
        rw [← p2] at a1
        exact ⟨[] ++ bs, as ++ cs, .cons (keyIs_reads p1) b1, .cons a1 b2, by simp [b3], by simp [a2, b4]⟩
end
def rReprP (K : PySem.W.Frag) : List V → Hp → VK → Prop := fun xs H Q => ∃ v d, xs = [v] ∧ (∃ F, Same F H ∧ RN K F H v d) ∧ d.showable = true ∧ (d.hasDict = false ∨ plainD d = true) ∧ d.depth ≤ 60 ∧ d.shown.length ≤ sizeLine ∧ Q (.str d.shown) H
theorem RN.same {K : PySem.W.Frag} {v : V} {d : D} (e : Same F H) (h : RN K F H v d) : Rp K H v d := by
  rcases h with h | ⟨a, rfl, h⟩
  · exact h.mono e
  · exact h.rp e fun _ h => h
theorem call_reprP (hA : X.A.guards = some []) (hu : X.A.units + 64 < cLine) : CallR X (.builtin "repr") (rReprP X.K) := by
  intro pins s σ H xs us Q I r h
  obtain ⟨v, d, rfl, ⟨F, hs1, hd⟩, hs, hnd, hdp, hz, q⟩ := h
  have hd := hd.same hs1
  cases r with
  | @cons _ uu _ _ r rr =>
    cases rr
    have key : ∀ (u : Tok) (tk : Nat) (h' : Heap), (∀ b o, s.heap.get? b = some o → h'.get? b = some o) → EP X pins σ Q (.str d.shown u) { s with heap := h', toks := tk } := fun u tk h' hk => ⟨.str d.shown, H, I.kept hk, ⟨_, rfl⟩, q⟩
    have hr : ∃ as, Reads s.heap uu d as ∧ (d.hasDict = true → sysModules ∉ as) := by
      rcases hnd with hnd | hp
      · obtain ⟨as, rd⟩ := Dp.reads I d v _ (hd.dp hnd) r
        exact ⟨as, rd, fun z => by rw [hnd] at z; cases z⟩
      · obtain ⟨as, rd, n⟩ := hd.readsP I (Same.refl _) hp _ r
        exact ⟨as, rd, fun _ => n⟩
    obtain ⟨as, rd, nd⟩ := hr
    cases rd with
    | none => exact PySem.P.repr_of_none ⟨.str _, H, I.tok _, ⟨_, rfl⟩, q⟩
    | bool b => exact PySem.P.repr_of_bool ⟨.str _, H, I.tok _, ⟨_, rfl⟩, by cases b <;> exact q⟩
    | int i t => exact PySem.P.repr_of_int (by simpa [PyData.showable] using hs) ⟨.str _, H, I.tok _, ⟨_, rfl⟩, q⟩
    | str x t => exact PySem.P.repr_of_str ⟨.str _, H, I.tok _, ⟨_, rfl⟩, q⟩ hz
    | list h1 h2 h3 h4 => exact repr_of_reads' (.list h1 h2 h3 h4) hs nd hA (by omega) (fun _ _ h => h) (fun h' u tk hk => key u tk h' hk) hz
    | tuple h1 h2 h3 h4 => exact repr_of_reads' (.tuple h1 h2 h3 h4) hs nd hA (by omega) (fun _ _ h => h) (fun h' u tk hk => key u tk h' hk) hz
    | dict h1 h2 h3 h4 h5 => exact repr_of_reads' (.dict h1 h2 h3 h4 h5) hs nd hA (by omega) (fun _ _ h => h) (fun h' u tk hk => key u tk h' hk) hz
end
def reprOkP (d : D) : Prop := d.showable = true ∧ (d.hasDict = false ∨ plainD d = true) ∧ d.depth ≤ 60 ∧ d.shown.length ≤ sizeLine
def fReprP : F1 := fun x Q => reprOkP x ∧ Q (.fz (.str x.shown))
theorem cl_reprP {K : PySem.W.Frag} : CaL K (rReprP K) (fA1 fReprP) := by
  intro f g σ H ρ vs ds Q R hK hR hA hF0 k
  subst hK
  obtain ⟨d, rfl, hF⟩ := fA1_some hF0
  obtain ⟨v, rfl, h⟩ := hA.one
  obtain ⟨⟨h1, h2, h3, h4⟩, q⟩ := hF
  exact ⟨v, d, rfl, ⟨_, fz_sub, h⟩, h1, h2, h3, h4, OEnd.fz k hR (.str _) q⟩
end DL

set_option Elab.async false
set_option linter.all false
set_option maxRecDepth 100000
set_option maxHeartbeats 4000000
set_option autoImplicit false
namespace DL
open PySem L2

section
variable {K : PySem.W.Frag} {ta tb tc : TE} {da db dc : DE}
def dPar3 (i j l : Nat) (da db dc : DE) : DS := fun DD ρ => da ρ fun r ρ1 => wP (plainV ρ1 r) fun r1 ρ2 => db ρ2 fun q ρ3 => wP (plainV ρ3 q) fun q1 ρ4 => dc ρ4 fun s ρ5 => wP (plainV ρ5 s) fun s1 ρ6 => DD.nx (setR (setR (setR ρ6 i r1) j q1) l s1)
theorem ls_par3 {i j l : Nat} (h : LE K ta da) (h' : LE K tb db) (h'' : LE K tc dc) : LS K (tPar3 i j l (tCons ta (tCons tb (tCons tc tNil)))) (dPar3 i j l da db dc) := by
  intro f g σ H ρ DD E hK R hd lk
  refine h f g σ H ρ _ _ hK R hd fun v H1 g1 ρ1 r R1 G1 V1 q1 => ?_
  obtain ⟨r1, ρ2, e1, q1⟩ := wP_some q1
  obtain ⟨g2, R2, G2, V2, p2⟩ := V1.plain R1 e1
  obtain ⟨g3, R3, hh⟩ := V2.held R2 p2
  refine h' f g3 σ H1 ρ2 _ _ hK R3 q1 fun w H4 g4 ρ4 q R4 G4 V4 q4 => ?_
  obtain ⟨qq, ρ5, e5, q5⟩ := wP_some q4
  obtain ⟨g5, R5, G5, V5, p5⟩ := V4.plain R4 e5
  obtain ⟨g6, R6, kk⟩ := V5.held R5 p5
  refine h'' f g6 σ H4 ρ5 _ _ hK R6 q5 fun z H7 g7 ρ7 s R7 G7 V7 q7 => ?_
  obtain ⟨ss, ρ8, e8, q8⟩ := wP_some q7
  obtain ⟨g8, R8, G8, V8, p8⟩ := V7.plain R7 e8
  obtain ⟨g9, R9, G9, V9, kk9⟩ := kk g8 H7 ρ8 R8 (G7.trans G8) (fun i z => by rw [z] at p5; exact p5.elim)
  obtain ⟨W9, n9⟩ := kk9 z ss V8
  obtain ⟨g10, R10, G10, V10, hh10⟩ := hh g9 H7 ρ8 R9 ((G4.trans G5).trans G9) (fun i z => by rw [z] at p2; exact p2.elim)
  obtain ⟨Wb, nb⟩ := hh10 w qq V9
  obtain ⟨Wc, nc⟩ := hh10 z ss W9
  refine ⟨v, w, z, rfl, ?_⟩
  have R11 := V10.put R10 p2 i
  have B11 := Wb.putO R10 p2 p5 (fun d e z1 z2 => nb d e z1 z2) i
  have C11 := Wc.putO R10 p2 p8 (fun d e z1 z2 => nc d e z1 z2) i
  have R12 := B11.put R11 p5 j
  have C12 := C11.putO R11 p5 p8 (fun d e z1 z2 => n9 d e z1 z2) j
  exact lk.nx g10 _ H7 _ (C12.put R12 p8 l) ((G1.trans G2).trans G10) q8
theorem atI0 {x : D} {xs : List D} : atI (x :: xs) 0 = some x := by simp [atI, ixN]
theorem atI1 {x y : D} {xs : List D} : atI (x :: y :: xs) 1 = some y := by simp [atI, ixN, show (1 : Int) < (xs.length : Int) + 1 + 1 by omega]
theorem atI2 {x y z : D} {xs : List D} : atI (x :: y :: z :: xs) 2 = some z := by simp [atI, ixN, show (2 : Int) < (xs.length : Int) + 1 + 1 + 1 by omega]
theorem strOk0_tuple {xs : List D} : strOk0 (.tuple xs) = True := rfl
theorem strOk0_list {xs : List D} : strOk0 (.list xs) = True := rfl
theorem ite_y {c : Bool} {A B : Prop} (h : c = true) (a : A) : if c = true then A else B := by rw [if_pos h]; exact a
theorem ite_n {c : Bool} {A B : Prop} (h : c = false) (a : B) : if c = true then A else B := by rw [h, if_neg Bool.false_ne_true]; exact a
theorem src_room {c : Addr} {l m t : Int} {more : List (Key × V)} (h : MoreOk more) : ∃ r : Int, ((valV (srcKvs c l m t more) (Sum.inr "room")).getD (.int 150)) = .int r := by
  rcases h with rfl | ⟨r, rfl⟩
  · exact ⟨150, by simp [srcKvs, valV, nCR, nLR, nMR, nTR]⟩
  · exact ⟨r, by simp [srcKvs, valV, nCR, nLR, nMR, nTR]⟩
theorem room_put {c : Addr} {l m t : Int} {more : List (Key × V)} (h : MoreOk more) (x : Int) : valV (putK (srcKvs c l m t more) (Sum.inr "room") (.int x)) (Sum.inr "room") = some (.int x) := by
  rcases h with rfl | ⟨r, rfl⟩ <;> simp [srcKvs, putK, valV, nCR, nLR, nMR, nTR]
/-- the source's room set -/
def isInt : D → Prop
  | .int _ => True
  | _ => False
def dSrcPut (i : Nat) (da : DE) : DS := fun DD ρ => da ρ fun r ρ1 => wD (res ρ1 r) fun d => isInt d ∧ ρ1[i]? = some (some .src) ∧ DD.nx ρ1
theorem ls_sput {i : Nat} (h : LE K ta da) : LS K (sDPut (tVar i) (tC (.str "room")) ta) (dSrcPut i da) := by
  intro f g σ H ρ DD E hK R hd l
  refine h.opd hK R hd fun v H1 g1 ρ1 r1 R1 G1 O1 q1 => ?_
  obtain ⟨d, e2, hi, hs, q1⟩ := wD_some q1
  obtain ⟨n, rfl⟩ : ∃ n, d = .int n := by cases d <;> first | exact ⟨_, rfl⟩ | exact hi.elim
  have hv := (O1.rn R1 e2).int
  subst hv
  obtain ⟨w, w1, p, c, e3, rfl⟩ := R1.slot i _ hs
  obtain ⟨hpc, mp, mc, _, _, ok⟩ := R1.src p c e3
  obtain ⟨ns, lf, m, t, more, S⟩ := ok.sx
  obtain ⟨more', hm', e4⟩ := put_room (c := c) (l := lf) (m := m) (t := t) S.mo n
  refine ⟨.ref p, w1, p, _, rfl, DPut.k (k := .inr "room") S.hp (src_len S.mo), ?_⟩
  rw [e4]
  have ok' : SrcOk (upd H1 p (.dK (srcKvs c lf m t more'))) p c := (⟨upd_same, by rw [upd_ne (Ne.symm hpc)]; exact S.hc, S.nn, S.l0, S.m0, S.m1, hm'⟩ : Sx c _ p ns lf m t more').ok
  obtain ⟨R2, G2⟩ := R1.step (g' := g1) (H' := upd H1 p (.dK (srcKvs c lf m t more'))) (fun _ => Iff.rfl) rfl rfl (fun a o e n => by rw [upd_ne (n p c e3).1]; exact e) (fun a e => by
    by_cases q : a = p
    · rw [q, upd_same] at e; cases e
    · rw [upd_ne q] at e; exact e) (fun p' c' e => by rw [e3] at e; cases e; exact ok')
  exact l.nx g1 σ _ _ R2 (G1.trans G2) q1
/-- d.get(k, x) -/
def dDGet2 (dd dk dx : DE) : DE := fun ρ Q => dd ρ fun r ρ1 => wDE (res ρ1 r) fun _ => dk ρ1 fun q ρ2 => dx ρ2 fun s ρ3 => wF (frz ρ3 s) fun x ρ4 => wDE (res ρ4 r) fun es => wK (res ρ4 q) fun k => ∃ d, (lookE es k).getD x = d ∧ Q (.fz d) ρ4
theorem le_dget2 {td ty tx : TE} {dd dk dx : DE} (h : LE K td dd) (h' : LE K ty dk) (h'' : LE K tx dx) : LE K (tDGet2 td ty tx) (dDGet2 dd dk dx) := by
  intro f g σ H ρ Q R hK hR hd k
  refine h.opd hK hR hd fun v H1 g1 ρ1 r1 R1 G1 O1 q1 => ?_
  obtain ⟨es0, e0, nt0, q1⟩ := wDE_some q1
  obtain ⟨a, kvs0, rfl, hd0, _⟩ := (O1.rn R1 e0).dict fz_sub nt0
  refine ⟨a, rfl, .inl ⟨kvs0, .inl hd0⟩, ?_⟩
  refine h'.opd hK R1 q1 fun u H2 g2 ρ2 r2 R2 G2 O2 q2 => ?_
  refine h''.opd hK R2 q2 fun x H3 g3 ρ3 r3 R3 G3 O3 q3 => ?_
  obtain ⟨xd, ρ4, e3, q4⟩ := wF_some q3
  obtain ⟨g4, R4, G4, hx⟩ := O3.frz R3 e3
  obtain ⟨es, e1, nt, q4⟩ := wDE_some q4
  obtain ⟨key, e2, q4⟩ := wK_some q4
  obtain ⟨a', kvs, ea, hd, hr⟩ := ((((O1.mono G2).mono G3).mono G4).rn R4 e1).dict fz_sub nt
  cases ea
  rw [(((O2.mono G3).mono G4).rn R4 e2).key]
  obtain ⟨_, rfl, q4⟩ := q4
  refine ⟨valV kvs key, .inl ⟨kvs, key, .inl hd, rfl, rfl⟩, ?_⟩
  rcases hr.look key with ⟨z0, z⟩ | ⟨w, d', z1, z2, z3⟩
  · rw [z0]
    rw [z] at q4
    exact k x H3 g4 ρ4 (.fz xd) R4 (((G1.trans G2).trans G3).trans G4) hx q4
  · rw [z1]
    rw [z2] at q4
    exact k w H3 g4 ρ4 (.fz d') R4 (((G1.trans G2).trans G3).trans G4) z3 q4
end
end DL

set_option Elab.async false
set_option linter.all false
set_option maxRecDepth 100000
set_option maxHeartbeats 4000000
set_option autoImplicit false
namespace DL
open PySem PySem.Spec PyProof.Rows L2

/-! ### a list or a tuple, whichever: what its iterator draws -/
def SqB (K : PySem.W.Frag) (b : Bool) (H : Hp) (a : Addr) (xs : List V) : Prop := match b with
  | true => SqT K H a xs
  | false => SqL K H a xs
def ItB (b : Bool) (h : Heap) (it a : Addr) (i : Nat) : Prop := match b with
  | true => h.IsTupleIter it a i
  | false => h.IsListIter it a i
def SeB (b : Bool) (h : Heap) (a : Addr) (its : Array Value) : Prop := match b with
  | true => h.IsTuple a its
  | false => h.IsList a its
def itO (b : Bool) (a : Addr) : Obj := match b with
  | true => { cls := .type "tuple_iterator", data := .fields #[.ref a, .int 0 0] }
  | false => { cls := .type "list_iterator", data := .fields #[.ref a, .int 0 0] }
section
variable {X : Cx} {pins : List (Addr × Obj)} {σ : L2.St} {H : Hp} {s : Shared} {b : Bool} {a it : Addr} {xs ys : List V} {h h' : Heap} {i : Nat} {its : Array Value}
theorem Inv.seqB (I : L2.Inv X pins σ H s) (q : SqB X.K b H a xs) : ∃ its : List Value, Vals xs its ∧ SeB b s.heap a its.toArray := by
  cases b with
  | true => obtain ⟨its, r, p, _⟩ := I.tuple q; exact ⟨its, r, p⟩
  | false => obtain ⟨its, r, p, _⟩ := I.list q; exact ⟨its, r, p.isList⟩
theorem Inv.seqB_inj (I : L2.Inv X pins σ H s) (q : SqB X.K b H a xs) (q' : SqB X.K b H a ys) : xs = ys := by
  cases b with
  | true => exact I.tuple_inj q q'
  | false => exact I.list_inj q q'
theorem draws_b {P : Program} {w : World} {A : Around} (hh : A.handled = none) (hne : a ≠ it) : Draws P w A it [it, a] its.size (fun i v => its[i]? = some v) (fun i h => ItB b h it a i ∧ SeB b h a its) := by
  cases b with
  | true => exact Draws.tuple hh it a hne its
  | false => exact Draws.list hh it a hne its
theorem begins_b : Begins (.ref a) (itO b a) (fun h => SeB b h a its) := by
  cases b with
  | true => exact begins_tuple a its
  | false => exact begins_list a its
theorem ItB.obj (t : ItB b h it a i) : ∃ o v, h.get? it = some o ∧ o.data = .fields v ∧ ∃ n, o.cls = .type n ∧ n ≠ "tuple" ∧ n ≠ "list" := by
  cases b with
  | true => obtain ⟨o, e, c, d⟩ := t; exact ⟨o, _, e, d, _, c, by decide, by decide⟩
  | false => obtain ⟨o, e, c, d⟩ := t; exact ⟨o, _, e, d, _, c, by decide, by decide⟩
theorem SeB.obj (t : SeB b h a its) : ∃ o n, h.get? a = some o ∧ o.data = .seq its n := by
  cases b with
  | true => obtain ⟨o, e, c, n, d⟩ := t; exact ⟨o, n, e, d⟩
  | false => obtain ⟨o, e, c, n, d⟩ := t; exact ⟨o, n, e, d⟩
theorem ItB.at (t : ItB b h it a i) (k : ∀ o, h.get? it = some o → h'.get? it = some o) : ItB b h' it a i := by
  cases b with
  | true => obtain ⟨o, e, c, d⟩ := t; exact ⟨o, k o e, c, d⟩
  | false => obtain ⟨o, e, c, d⟩ := t; exact ⟨o, k o e, c, d⟩
theorem SeB.at (t : SeB b h a its) (k : ∀ o, h.get? a = some o → h'.get? a = some o) : SeB b h' a its := by
  cases b with
  | true => obtain ⟨o, e, c, n, d⟩ := t; exact ⟨o, k o e, c, n, d⟩
  | false => obtain ⟨o, e, c, n, d⟩ := t; exact ⟨o, k o e, c, n, d⟩
theorem ItB.begun (e : h.get? it = some (itO b a)) : ItB b h it a 0 := by
  cases b with
  | true => exact ⟨_, e, rfl, rfl⟩
  | false => exact ⟨_, e, rfl, rfl⟩
theorem seb_ne (t : SeB b h a its) (e : ItB b h it a i) : a ≠ it := by
  rintro rfl
  obtain ⟨o, n, e1, d1⟩ := t.obj
  obtain ⟨o2, v, e2, d2, _⟩ := e.obj
  rw [e1] at e2; cases e2
  rw [d1] at d2; cases d2
end
/-! ### enumerate -/
def IteB (b : Bool) (K : PySem.W.Frag) (a : Addr) : It :=
  ⟨fun i H => ∃ (xs : List V) (x : V), SqB K b H a xs ∧ xs[i]? = some x, fun i H v H' => ∃ T x, v = .ref T ∧ H T = none ∧ H' = upd H T (.tup [.int (i : Nat), x]) ∧ ∀ xs, SqB K b H a xs → xs[i]? = some x, fun i H => ∃ xs : List V, SqB K b H a xs ∧ xs.length = i⟩
theorem turn_enumB {b : Bool} {P : Program} {w : World} {K : PySem.W.Frag} {elts : List Expr} {kk : Nat} {tpos : Pos} (a e it : Addr) :
    Turn P w K (.Tuple elts kk tpos) (IteB b K a) [e, it] e (fun i h => (∃ old, IsEnum h e it ((i : Nat) : Int) old) ∧ ItB b h it a i ∧ e ≠ it) where
  mem := by simp
  obj := fun i h st c hc => by
    obtain ⟨⟨old, he⟩, hi, _⟩ := st
    obtain ⟨o, v, ho, hd, _⟩ := hi.obj
    have e' : c = e ∨ c = it := by simpa using hc
    rcases e' with z | z
    · rw [z]; exact ⟨_, he, fun v q => nomatch q⟩
    · rw [z]; exact ⟨o, ho, fun v q => by rw [hd] at q; cases q⟩
  keep := fun i h h' st k => let ⟨⟨old, he⟩, hi, hne⟩ := st; ⟨⟨old, k e (by simp) _ he⟩, hi.at fun o q => k it (by simp) o q, hne⟩
  item := by
    intro X hP hw hK hc i pins s σ H E I hf st hg
    subst hP hw hK
    obtain ⟨⟨old, he⟩, hit, hne⟩ := st
    obtain ⟨xs, x, hq, hx⟩ := hg
    obtain ⟨its, rv, p⟩ := Inv.seqB I hq
    obtain ⟨u, hu, ru⟩ := rv.get hx
    have hai := seb_ne p hit
    have hae : e ≠ a := by
      rintro rfl
      obtain ⟨o, n, e1, d1⟩ := p.obj
      rw [he] at e1; cases e1; cases d1
    have hel : e < s.heap.objs.size := Heap.lt_size he
    have hil : it < s.heap.objs.size := by obtain ⟨_, _, q, _⟩ := hit.obj; exact Heap.lt_size q
    have hlt : i < its.toArray.size := by
      have := (List.getElem?_eq_some_iff.mp hu).1
      simpa using this
    refine wpAny_pyNext_enum_itemC (c := (i : Int)) (draws_b (b := b) (A := X.A.in1) (I.ok.hd hc) hai) he ⟨hit, p⟩ hlt hne (by simp [hne, hae]) fun x2 h' tk hP ho st' hT hsz hk => ?_
    have hxu : x2 = u := by
      have h1 : its.toArray[i]? = some u := by simpa using hu
      rw [h1] at hP; exact (Option.some.inj hP).symm
    subst hxu
    refine ⟨_, rfl, wpAny_letOwnedTupleGo_enum (s := { s with heap := h', toks := tk + 1 }) ho fun h'' he' sb => ?_⟩
    have hT2 : h''.get? s.heap.objs.size = some { cls := .type "tuple", data := .seq #[.int i tk, x2] } := (sb.2 _ (Nat.ne_of_gt hel)).trans hT
    have new : ObjOk X.prog X.w (upd H s.heap.objs.size (.tup [.int (i : Nat), x])) h'' s.heap.objs.size (.tup [.int (i : Nat), x]) :=
      ⟨by show 2 ≤ sizeLine; decide, [.int i tk, x2], .cons ⟨_, rfl⟩ (.cons ru .nil), ⟨_, hT2, rfl, _, rfl⟩⟩
    have I1 : L2.Inv X pins σ (upd H s.heap.objs.size (.tup [.int (i : Nat), x])) { s with heap := h'', toks := tk + 1 } :=
      I.turnedNew (t' := tk + 1) (ch := [e, it]) (fun c ob hb q => (sb.2 c (fun z => hb (by simp [z]))).trans (hk c ob (fun z => hb (by simp [z])) (fun z => hb (by simp [z])) q)) hf (Nat.le_refl _) new
    refine ⟨.ref s.heap.objs.size, _, I1, rfl, ⟨_, x, rfl, I.hok.fresh (Nat.le_refl _), rfl, fun ys hy => by rw [Inv.seqB_inj I hy hq]; exact hx⟩, ⟨⟨x2, ?_⟩, st'.1.at fun o q => (sb.2 it (Ne.symm hne)).trans q, hne⟩, fun c hcm => ?_⟩
    · have e1 : ((i + 1 : Nat) : Int) = (i : Int) + 1 := by omega
      rw [e1]; exact he'
    · have hb' : c < s.heap.objs.size := by
        have e' : c = e ∨ c = it := by simpa using hcm
        rcases e' with z | z
        · rw [z]; exact hel
        · rw [z]; exact hil
      rw [upd_ne (Nat.ne_of_lt hb')]
      exact (hf c hcm).1
  done := by
    intro X hP hw hK hc i pins s σ H E I hf st hg
    subst hP hw hK
    obtain ⟨⟨old, he⟩, hit, hne⟩ := st
    obtain ⟨xs, hq, hx⟩ := hg
    obtain ⟨its, rv, p⟩ := Inv.seqB I hq
    obtain ⟨f0, f1, f2, f3, f4, f5⟩ := hf it (by simp)
    have hl := rv.length
    have hi : i = its.toArray.size := by simp; omega
    subst hi
    exact wpAny_pyNext_enum_endD (draws_b (b := b) (A := X.A.in1) (I.ok.hd hc) (seb_ne p hit)) he ⟨hit, p⟩ fun h' eb => ⟨rfl, I.turned (t' := s.toks) (fun b o hb q => eb b o hb q) f0 f1 f3 f4 f5⟩
  self := fun A i s Q E st h => let ⟨⟨_, he⟩, _⟩ := st; wpAny_pyIter_enum he h
set_option maxHeartbeats 8000000 in
theorem meets_enum_b {v : Value} {o : Obj} {H : Heap → Prop} (B : Begins v o H) :
    Meets (Builtin.«enumerate.__new__» ⟨[.type "enumerate", v], []⟩) (fun _ R s => H s.heap ∧
      R (.ok (.ret (.ref (s.heap.push o).objs.size))) { s with heap := (s.heap.push o).push { cls := .type "enumerate", data := .fields #[.none, .bool false, .ref s.heap.objs.size, rawInt 0, .none, .none] } }) :=
  .of_wp fun prog w A R s h => by
    obtain ⟨hp, g, d, tk, os⟩ := s; obtain ⟨h1, h⟩ := h
    have hsub := sub_enumerate
    have q1 : ∀ {A' : Around} {E : Value → Shared → Prop} {Q : Value → Shared → Prop}, Q (.ref hp.objs.size) ⟨hp.push o, g, d, tk, os⟩ → wpAny (model prog w) A' (pyIter v) Q E ⟨hp, g, d, tk, os⟩ :=
      fun q => B.iter prog w _ _ ⟨hp, g, d, tk, os⟩ _ h1 q
    wp_walk using q1
    refine wpAny_stack_any fun st => wpAny_pure ?_
    split
    · rename_i c _ _ _ _ _
      cases (c == Value.type "enumerate")
      · wp_walk using q1
        exact ⟨_, rfl, h⟩
      · wp_walk using q1
        exact ⟨_, rfl, h⟩
    · wp_walk using q1
      exact ⟨_, rfl, h⟩
theorem call_enum_b {prog : Program} {w : World} {A : Around} {E : Value → Shared → Prop} {s : Shared} {v : Value} {o : Obj} {H : Heap → Prop} {Q : Value → Shared → Prop} (B : Begins v o H) (h1 : H s.heap)
    (h : ∀ h', IsEnum h' (s.heap.objs.size + 1) s.heap.objs.size 0 .none → h'.get? s.heap.objs.size = some o → h'.objs.size = s.heap.objs.size + 2 →
      (∀ b o, s.heap.get? b = some o → h'.get? b = some o) → Q (.ref (s.heap.objs.size + 1)) { s with heap := h' }) :
    wpAny (model prog w) A (call (.type "enumerate") [v]) Q E s := by
  refine callType_new F.called_enumerate (by decide) (F.typeCall_enumerate_1 _) (F.newCall_enumerate_1 _) (fun obj => F.args_object_init_2 obj _) F.entry_enumerate_new
    (meets_enum_b B) ⟨h1, ?_⟩
  have hz : (s.heap.push o).objs.size = s.heap.objs.size + 1 := Heap.size_push ..
  show _ ∧ _
  rw [hz]
  have he : IsEnum ((s.heap.push o).push { cls := .type "enumerate", data := .fields #[.none, .bool false, .ref s.heap.objs.size, rawInt 0, .none, .none] }) (s.heap.objs.size + 1) s.heap.objs.size 0 .none := by
    have := Heap.get?_push_size (s.heap.push o) (o := { cls := .type "enumerate", data := .fields #[.none, .bool false, .ref s.heap.objs.size, rawInt 0, .none, .none] }) rfl
    rw [hz] at this; exact this
  refine ⟨⟨_, he, rfl⟩, h _ he (Heap.get?_push_of_some _ (Heap.get?_push_size _ B.free)) (by rw [Heap.size_push, hz]) fun b o x => Heap.get?_push_of_some _ (Heap.get?_push_of_some _ x)⟩
def iEnumA (K : PySem.W.Frag) (ta : TA) : TI := fun σ H R => ta σ H fun vs H1 => ∃ a b xs, vs = [.ref a] ∧ SqB K b H1 a xs ∧ R (IteB b K a) H1
theorem pi_enumA {X : Cx} {e : Expr} {ta : TA} {p pos tpos : Pos} {elts : List Expr} {kk : Nat} (hg : Gl X "enumerate") (hm : X.mg "enumerate" = none) (ha : PA X [e] ta) (hs : starEach [e] X.env = [(false, eval e X.env)] := by rfl) :
    PI X (.Tuple elts kk tpos) (.Call (.Name "enumerate" p) [e] [] pos) (iEnumA X.K ta) := by
  refine ⟨fun pins s σ H R I h => ?_⟩
  refine Call_ (ld_blt I hg hm boot_enumerate (PyProof.Rows.callWith_type1 (thn (ha.run pos pins s σ H _ I h) fun us s1 ⟨vs, H1, I1, r1, q1⟩ => ?_) hs rfl))
  obtain ⟨a, b, xs, ex, hq, q⟩ := q1
  subst ex
  cases r1 with
  | cons r rr =>
    cases rr
    cases r
    obtain ⟨its, rv, p'⟩ := Inv.seqB I1 hq
    refine call_enum_b begins_b p' fun h' he hit hsz hk => wpAny_pyIter_enum he ?_
    have I2 : L2.Inv X pins σ H1 { s1 with heap := h' } := I1.kept (t' := s1.toks) hk
    refine ⟨s1.heap.objs.size + 1, [s1.heap.objs.size + 1, s1.heap.objs.size], _, _, H1, rfl, I2, turn_enumB a (s1.heap.objs.size + 1) s1.heap.objs.size, ⟨⟨.none, he⟩, ItB.begun hit, Nat.succ_ne_self _⟩, fun b hb => ?_, q⟩
    have e' : b = s1.heap.objs.size + 1 ∨ b = s1.heap.objs.size := by simpa using hb
    have hle : s1.heap.objs.size ≤ b := by
      rcases e' with z | z
      · rw [z]; exact Nat.le_add_right _ _
      · rw [z]; exact Nat.le_refl _
    exact I1.fpOk hle (I1.hok.fresh hle)
end DL

set_option Elab.async false
set_option linter.all false
set_option maxRecDepth 100000
set_option maxHeartbeats 4000000
set_option autoImplicit false
namespace DL
open PySem PySem.Spec PyProof.Rows L2
/-! ### a strict zip -/
abbrev IsZipS (h : Heap) (z TI TO : Addr) (f0 : Value) : Prop :=
  h.get? z = some { cls := .type "zip", dict := none, data := .fields #[f0, .bool false, .bool true, .ref TI, .ref TO], slots := #[] }
section
variable {prog : Program} {w : World} {A : Around} {E : Value → Shared → Prop} {s : Shared} {z TI TO i1 i2 : Addr} {fp1 fp2 : List Addr} {n1 n2 i : Nat} {P1 P2 : Nat → Value → Prop} {St1 St2 : Nat → Heap → Prop} {a1 a2 : Value}
theorem wpAny_no {α : Type} {c : Prop} [Decidable c] {a b : Sem α} {Q : α → Shared → Prop} (hc : ¬ c) (h : wpAny (model prog w) A b Q E s) : wpAny (model prog w) A (if c then a else b) Q E s := by rw [if_neg hc]; exact h
theorem nextOrEnd_item {it : Addr} {fp : List Addr} {n : Nat} {P : Nat → Value → Prop} {St : Nat → Heap → Prop} (D : Draws prog w A it fp n P St) {Q : Option Value → Shared → Prop} (hi : i < n) (st : St i s.heap)
    (hQ : ∀ x h' tk, P i x → St (i + 1) h' → Heap.SameBut it s.heap h' → Q (some x) { s with heap := h', toks := tk }) : wpAny (model prog w) A (Builtin.SmallTypes.nextOrEnd (.ref it)) Q E s := by
  unfold Builtin.SmallTypes.nextOrEnd
  exact wpAny_bind (wpAny_attempt (D.item i s _ _ hi st fun x h' tk hp hs hb => wpAny_pure (hQ x h' tk hp hs hb)))
theorem nextOrEnd_end {it : Addr} {fp : List Addr} {n : Nat} {P : Nat → Value → Prop} {St : Nat → Heap → Prop} (D : Draws prog w A it fp n P St) {Q : Option Value → Shared → Prop} (st : St n s.heap)
    (hQ : ∀ h', Heap.ExtBut it s.heap h' → Q none { s with heap := h' }) : wpAny (model prog w) A (Builtin.SmallTypes.nextOrEnd (.ref it)) Q E s := by
  unfold Builtin.SmallTypes.nextOrEnd
  refine wpAny_bind (wpAny_attempt (D.done s _ _ st fun h' e hb ⟨o, ho, hc⟩ => ?_))
  exact wpAny_bind (wpAny_isInstance (T := "StopIteration") (b := true) ⟨o, ho, hc⟩ isSubtype_stop (wpAny_pure (hQ h' hb)))
theorem zipS_next_item {Q : Value → Shared → Prop} (S : ZipSep2 z TI TO i1 i2 fp1 fp2) (D1 : Draws prog w A i1 fp1 n1 P1 St1) (D2 : Draws prog w A i2 fp2 n2 P2 St2)
    (hz : IsZipS s.heap z TI TO .none) (hTI : IsTupOf2 s.heap TI (.ref i1) (.ref i2)) (hTO : IsTupOf2 s.heap TO a1 a2) (st1 : St1 i s.heap) (st2 : St2 i s.heap) (hlt1 : i < n1) (hlt2 : i < n2)
    (hQ : ∀ x1 x2 h' tk, P1 i x1 → P2 i x2 → IsZipS h' z TI TO (rawInt s.heap.objs.size) → IsTupOf2 h' TO x1 x2 → St1 (i + 1) h' → St2 (i + 1) h' → IsTupOf2 h' s.heap.objs.size x1 x2 → h'.objs.size = s.heap.objs.size + 1 →
      (∀ c o, c ≠ z → c ≠ TO → c ≠ i1 → c ≠ i2 → s.heap.get? c = some o → h'.get? c = some o) → Q (.ref s.heap.objs.size) { s with heap := h', toks := tk }) :
    wpAny (model prog w) A (Builtin.«zip.__next__» ⟨[.ref z], []⟩) (fun fin s' => ∃ v, fin = .done (.ret v) ∧ Q v s') E s := by
  obtain ⟨hp, g, d, tk0, os⟩ := s
  show wpAny _ _ (field (.ref z) 2 >>= _) _ _ _
  refine wpAny_bind (wpAny_field hz rfl (x := .bool true) rfl ?_)
  show wpAny _ _ (field (.ref z) 3 >>= _) _ _ _
  refine wpAny_bind (wpAny_field hz rfl (x := .ref TI) rfl ?_)
  refine wpAny_bind (wpAny_seqItems hTI rfl ?_)
  show wpAny _ _ (Builtin.SmallTypes.ownedTupleIsFree (.ref z) >>= _) _ _ _
  refine wpAny_bind ?_
  unfold Builtin.SmallTypes.ownedTupleIsFree
  refine wpAny_bind (wpAny_field hz rfl (x := .none) rfl (wpAny_pure ?_))
  simp only [if_true]
  refine wpAny_bind (wpAny_rule ?_)
  refine wpAny_bind (wpAny_field hz rfl (x := .ref TO) rfl ?_)
  refine wpAny_bind (wpAny_setField_rec hz (by simp) fun g0 hz0 hs0 => ?_)
  replace hz0 : IsZipS g0 z TI TO .ellipsis := hz0
  replace hs0 : Heap.SameBut z hp g0 := hs0
  refine wpAny_bind ?_
  simp only [List.zipIdx_cons, List.zipIdx_nil, List.forIn_cons, List.forIn_nil]
  refine wpAny_bind (wpAny_bind (wpAny_onRaise ?_))
  show wpAny _ _ (Builtin.SmallTypes.nextOrEnd (.ref i1)) _ _ ⟨g0, g, d, tk0, os⟩
  refine nextOrEnd_item D1 hlt1 (D1.over st1 hs0 S.zf1) fun x1 p1 tk1 hx1 sn1 hp1 => ?_
  replace hp1 : Heap.SameBut i1 g0 p1 := hp1
  have hU1 : IsTupOf2 p1 TO a1 a2 := hp1.extBut _ _ S.Ti1 (hs0.extBut _ _ S.TOz hTO)
  refine wpAny_bind (wpAny_seqItems (s := ⟨p1, g, d, tk1, os⟩) hU1 rfl ?_)
  refine wpAny_bind (updateSeq_IsTupOf2 (s := ⟨p1, g, d, tk1, os⟩) hU1 fun g1 hT1 hs1 => ?_)
  replace hT1 : IsTupOf2 g1 TO x1 a2 := hT1
  replace hs1 : Heap.SameBut TO p1 g1 := hs1
  refine wpAny_bind (wpAny_letGo (wpAny_pure ?_))
  refine wpAny_bind (wpAny_bind (wpAny_onRaise ?_))
  show wpAny _ _ (Builtin.SmallTypes.nextOrEnd (.ref i2)) _ _ ⟨g1, g, d, tk1, os⟩
  refine nextOrEnd_item D2 hlt2 (D2.over (D2.over (D2.over st2 hs0 S.zf2) hp1 S.sep1_2) hs1 S.Tf2) fun x2 p2 tk2 hx2 sn2 hp2 => ?_
  replace hp2 : Heap.SameBut i2 g1 p2 := hp2
  have hU2 : IsTupOf2 p2 TO x1 a2 := hp2.extBut _ _ S.Ti2 hT1
  refine wpAny_bind (wpAny_seqItems (s := ⟨p2, g, d, tk2, os⟩) hU2 rfl ?_)
  refine wpAny_bind (updateSeq_IsTupOf2 (s := ⟨p2, g, d, tk2, os⟩) hU2 fun g2 hT2 hs2 => ?_)
  replace hT2 : IsTupOf2 g2 TO x1 x2 := hT2
  replace hs2 : Heap.SameBut TO p2 g2 := hs2
  refine wpAny_bind (wpAny_letGo (wpAny_pure (wpAny_pure ?_)))
  refine wpAny_bind (wpAny_seqItems (s := ⟨g2, g, d, tk2, os⟩) hT2 rfl ?_)
  refine wpAny_bind (wpAny_newTuple ?_)
  have hsz : g2.objs.size = hp.objs.size := by rw [hs2.1, hp2.1, hs1.1, hp1.1, hs0.1]
  have hzz : IsZipS g2 z TI TO .ellipsis := (hs2.extBut _ _ S.TOz.symm (hp2.extBut _ _ S.zi2 (hs1.extBut _ _ S.TOz.symm (hp1.extBut _ _ S.zi1 hz0))))
  have hkk : ∀ c o, c ≠ z → c ≠ TO → c ≠ i1 → c ≠ i2 → hp.get? c = some o → g2.get? c = some o := fun c o cz cT c1 c2 e =>
    (hs2.extBut _ _ cT (hp2.extBut _ _ c2 (hs1.extBut _ _ cT (hp1.extBut _ _ c1 (hs0.extBut _ _ cz e)))))
  have hj1 : St1 (i + 1) g2 := (D1.over (D1.over (D1.over sn1 hs1 S.Tf1) hp2 S.sep2_1) hs2 S.Tf1)
  have hj2 : St2 (i + 1) g2 := (D2.over sn2 hs2 S.Tf2)
  have hzlt : z < g2.objs.size := Heap.lt_size hzz
  show wpAny _ _ (Builtin.SmallTypes.ownedTupleHandOut (.ref z) (.ref g2.objs.size) >>= _) _ _ ⟨g2.push { cls := .type "tuple", data := .seq #[x1, x2] }, g, d, tk2, os⟩
  refine wpAny_bind ?_
  unfold Builtin.SmallTypes.ownedTupleHandOut
  have hz₆ : IsZipS (g2.push { cls := .type "tuple", data := .seq #[x1, x2] }) z TI TO .ellipsis := Heap.get?_push_of_some _ hzz
  refine wpAny_bind (wpAny_setField_rec hz₆ (by simp) fun h₇ hz₇ hs₇ => ?_)
  replace hz₇ : IsZipS h₇ z TI TO (rawInt g2.objs.size) := hz₇
  refine wpAny_setField_rec hz₇ (by simp) fun h₈ hz₈ hs₈ => ?_
  replace hz₈ : IsZipS h₈ z TI TO (rawInt g2.objs.size) := hz₈
  replace hs₇ : Heap.SameBut z (g2.push { cls := .type "tuple", data := .seq #[x1, x2] }) h₇ := hs₇
  replace hs₈ : Heap.SameBut z h₇ h₈ := hs₈
  have up : ∀ c o, c ≠ z → g2.get? c = some o → h₈.get? c = some o := fun c o c1 e => hs₈.extBut _ _ c1 (hs₇.extBut _ _ c1 (Heap.get?_push_of_some _ e))
  have hT₈ : IsTupOf2 h₈ g2.objs.size x1 x2 := hs₈.extBut _ _ (Nat.ne_of_gt hzlt) (hs₇.extBut _ _ (Nat.ne_of_gt hzlt) (Heap.get?_push_size _ rfl))
  have hz8 : h₈.objs.size = g2.objs.size + 1 := by rw [hs₈.1, hs₇.1, Heap.size_push]
  rw [hsz] at hz₈ hT₈ hz8
  refine wpAny_pure ⟨_, rfl, ?_⟩
  show Q (.ref g2.objs.size) ⟨h₈, g, d, tk2, os⟩
  rw [hsz]
  exact hQ x1 x2 h₈ tk2 hx1 hx2 hz₈ (up _ _ S.TOz hT2) (D1.frame _ _ _ hj1 fun b hb o e => up b o (fun q => S.zf1 (q ▸ hb)) e) (D2.frame _ _ _ hj2 fun b hb o e => up b o (fun q => S.zf2 (q ▸ hb)) e) hT₈ hz8 fun c o cz cT c1 c2 e => up c o cz (hkk c o cz cT c1 c2 e)
theorem zipS_next_end {Q : Fin → Shared → Prop} (hh : A.handled = none) (S : ZipSep2 z TI TO i1 i2 fp1 fp2) (D1 : Draws prog w A i1 fp1 n1 P1 St1) (D2 : Draws prog w A i2 fp2 n2 P2 St2)
    (hz : IsZipS s.heap z TI TO .none) (hTI : IsTupOf2 s.heap TI (.ref i1) (.ref i2)) (hTO : IsTupOf2 s.heap TO a1 a2) (st1 : St1 i s.heap) (st2 : St2 i s.heap) (e1 : i = n1) (e2 : i = n2)
    (hE : ∀ h' tk e, (∀ c o, c ≠ z → c ≠ TO → c ≠ i1 → c ≠ i2 → s.heap.get? c = some o → h'.get? c = some o) → (∃ o, h'.get? e = some o ∧ o.cls = .type "StopIteration") → E (.ref e) { s with heap := h', toks := tk }) :
    wpAny (model prog w) A (Builtin.«zip.__next__» ⟨[.ref z], []⟩) Q E s := by
  obtain ⟨hp, g, d, tk0, os⟩ := s
  show wpAny _ _ (field (.ref z) 2 >>= _) _ _ _
  refine wpAny_bind (wpAny_field hz rfl (x := .bool true) rfl ?_)
  show wpAny _ _ (field (.ref z) 3 >>= _) _ _ _
  refine wpAny_bind (wpAny_field hz rfl (x := .ref TI) rfl ?_)
  refine wpAny_bind (wpAny_seqItems hTI rfl ?_)
  show wpAny _ _ (Builtin.SmallTypes.ownedTupleIsFree (.ref z) >>= _) _ _ _
  refine wpAny_bind ?_
  unfold Builtin.SmallTypes.ownedTupleIsFree
  refine wpAny_bind (wpAny_field hz rfl (x := .none) rfl (wpAny_pure ?_))
  simp only [if_true]
  refine wpAny_bind (wpAny_rule ?_)
  refine wpAny_bind (wpAny_field hz rfl (x := .ref TO) rfl ?_)
  refine wpAny_bind (wpAny_setField_rec hz (by simp) fun g0 hz0 hs0 => ?_)
  replace hz0 : IsZipS g0 z TI TO .ellipsis := hz0
  replace hs0 : Heap.SameBut z hp g0 := hs0
  refine wpAny_bind ?_
  simp only [List.zipIdx_cons, List.zipIdx_nil, List.forIn_cons, List.forIn_nil]
  refine wpAny_bind (wpAny_bind (wpAny_onRaise ?_))
  show wpAny _ _ (Builtin.SmallTypes.nextOrEnd (.ref i1)) _ _ ⟨g0, g, d, tk0, os⟩
  refine nextOrEnd_end D1 (by rw [← e1]; exact D1.over st1 hs0 S.zf1) fun q hq => ?_
  replace hq : Heap.ExtBut i1 g0 q := hq
  have hzq : IsZipS q z TI TO .ellipsis := hq _ _ S.zi1 hz0
  refine wpAny_bind (wpAny_setField_rec (s := ⟨q, g, d, tk0, os⟩) hzq (by simp) fun q' hzq' hq' => ?_)
  replace hq' : Heap.SameBut z q q' := hq'
  refine wpAny_bind ?_
  show wpAny _ _ (forIn (List.zipIdx (List.drop 1 [Value.ref i1, Value.ref i2]) 1) PUnit.unit _ >>= _) _ _ _
  simp only [List.drop_succ_cons, List.drop_zero, List.zipIdx_cons, List.zipIdx_nil, List.forIn_cons, List.forIn_nil]
  refine wpAny_bind (wpAny_bind (wpAny_bind (nextOrEnd_end D2 (by rw [← e2]; exact D2.over (D2.frame _ _ _ (D2.over st2 hs0 S.zf2) fun b hb o e => hq b o (fun x => S.sep1_2 (x ▸ hb)) e) hq' S.zf2) fun q2 hq2 => ?_)))
  replace hq2 : Heap.ExtBut i2 q' q2 := hq2
  rw [if_neg (show ¬ ((none : Option Value).isSome = true) from Bool.false_ne_true)]
  refine wpAny_pure (wpAny_pure (wpAny_bind (wpAny_rule ?_)))
  show wpAny _ _ (newExc (.type "StopIteration") [] >>= _) _ _ _
  refine wpAny_bind ?_
  simp only [newExc, newTuple]
  refine wpAny_bind (wpAny_newObj_type ?_ (by size_fits))
  refine wpAny_bind (m := firstArgMember _ _) (wpAny_of_eq (a := Value.none) (by first | rfl | (simp only [firstArgMember]; rfl)) ?_)
  refine wpAny_newObj_type ?_ (by size_fits)
  simp only [raiseNew]
  refine wpAny_bind (wpAny_handled ?_)
  rw [hh]
  refine wpAny_bind (wpAny_pure (wpAny_throw ?_))
  have hk : ∀ c o, c ≠ z → c ≠ TO → c ≠ i1 → c ≠ i2 → hp.get? c = some o → q2.get? c = some o := fun c o cz cT c1 c2 x => hq2 _ _ c2 (hq'.extBut _ _ cz (hq _ _ c1 (hs0.extBut _ _ cz x)))
  exact hE _ tk0 _ (fun c o cz cT c1 c2 x => Heap.get?_push_of_some _ (Heap.get?_push_of_some _ (hk c o cz cT c1 c2 x))) ⟨_, Heap.get?_push_size _ rfl, rfl⟩
theorem pyNext_zipS_item {Q : Option Value → Shared → Prop} (S : ZipSep2 z TI TO i1 i2 fp1 fp2) (D1 : Draws prog w A.in1 i1 fp1 n1 P1 St1) (D2 : Draws prog w A.in1 i2 fp2 n2 P2 St2)
    (hz : IsZipS s.heap z TI TO .none) (hTI : IsTupOf2 s.heap TI (.ref i1) (.ref i2)) (hTO : IsTupOf2 s.heap TO a1 a2) (st1 : St1 i s.heap) (st2 : St2 i s.heap) (hlt1 : i < n1) (hlt2 : i < n2)
    (hQ : ∀ x1 x2 h' tk, P1 i x1 → P2 i x2 → IsZipS h' z TI TO (rawInt s.heap.objs.size) → IsTupOf2 h' TO x1 x2 → St1 (i + 1) h' → St2 (i + 1) h' → IsTupOf2 h' s.heap.objs.size x1 x2 → h'.objs.size = s.heap.objs.size + 1 →
      (∀ c o, c ≠ z → c ≠ TO → c ≠ i1 → c ≠ i2 → s.heap.get? c = some o → h'.get? c = some o) → Q (some (.ref s.heap.objs.size)) { s with heap := h', toks := tk }) :
    wpAny (model prog w) A (pyNext (.ref z)) Q E s := by
  have hT : s.TypeIs (.ref z) "zip" := ⟨_, hz, rfl⟩
  unfold pyNext
  exact wpAny_bind (wpAny_attempt (wpAny_callSpecial?_slot (name := Str.ofString "__next__") hT F.slot_zip_next
    (wpAny_call_entry F.slot_zip_next hT F.entry_zip_next
      (zipS_next_item S D1 D2 hz hTI hTO st1 st2 hlt1 hlt2 fun x1 x2 h' tk y1 y2 b1 b2 d1 d2 b5 b6 b7 => wpAny_pure (hQ x1 x2 h' tk y1 y2 b1 b2 d1 d2 b5 b6 b7)) (F.args_zip_next_1 _))))
theorem pyNext_zipS_end {Q : Option Value → Shared → Prop} (hh : A.handled = none) (S : ZipSep2 z TI TO i1 i2 fp1 fp2) (D1 : Draws prog w A.in1 i1 fp1 n1 P1 St1) (D2 : Draws prog w A.in1 i2 fp2 n2 P2 St2)
    (hz : IsZipS s.heap z TI TO .none) (hTI : IsTupOf2 s.heap TI (.ref i1) (.ref i2)) (hTO : IsTupOf2 s.heap TO a1 a2) (st1 : St1 i s.heap) (st2 : St2 i s.heap) (e1 : i = n1) (e2 : i = n2)
    (hQ : ∀ h' tk, (∀ c o, c ≠ z → c ≠ TO → c ≠ i1 → c ≠ i2 → s.heap.get? c = some o → h'.get? c = some o) → Q none { s with heap := h', toks := tk }) : wpAny (model prog w) A (pyNext (.ref z)) Q E s := by
  have hT : s.TypeIs (.ref z) "zip" := ⟨_, hz, rfl⟩
  unfold pyNext
  refine wpAny_bind (wpAny_attempt (wpAny_callSpecial?_slot (name := Str.ofString "__next__") hT F.slot_zip_next
    (wpAny_call_entry F.slot_zip_next hT F.entry_zip_next (zipS_next_end (A := A.in1) hh S D1 D2 hz hTI hTO st1 st2 e1 e2 fun h' tk e hk he => ?_) (F.args_zip_next_1 _))))
  obtain ⟨o, ho, hc⟩ := he
  refine wpAny_bind (wpAny_isInstance (T := "StopIteration") (b := true) ⟨o, ho, hc⟩ isSubtype_stop ?_)
  exact wpAny_pure (hQ _ _ hk)
theorem letGo_zipS {elts : List Expr} {x1} {pos : Pos} {z TI TO T : Addr} {Q : Unit → Shared → Prop} (hz : IsZipS s.heap z TI TO (rawInt T))
    (hQ : ∀ h', IsZipS h' z TI TO .none → Heap.SameBut z s.heap h' → Q () { s with heap := h' }) :
    wpAny (model prog w) A (letOwnedTupleGo (.Tuple elts x1 pos) (.ref z) (.ref T)) Q E s := by
  unfold letOwnedTupleGo
  refine wpAny_bind (wpAny_load hz ?_)
  show wpAny _ _ (if (["enumerate", "zip", "dict_itemiterator", "dict_reverseitemiterator", "odict_iterator", "itertools.zip_longest", "itertools.pairwise"].contains "zip" &&
      (#[rawInt T, .bool false, .bool true, .ref TI, .ref TO] : Array Value)[0]? == some (rawInt T)) = true then _ else _) Q E s
  rw [if_pos (by simp)]
  refine wpAny_bind (wpAny_rule ?_)
  show wpAny _ _ (setField (.ref z) 0 .none) Q E s
  exact wpAny_setField_rec hz (by simp) fun h' hz' hs' => hQ h' hz' hs'
theorem pyIter_zipS {z TI TO : Addr} {f0 : Value} {Q : Value → Shared → Prop} (hz : IsZipS s.heap z TI TO f0) (h : Q (.ref z) s) : wpAny (model prog w) A (pyIter (.ref z)) Q E s := by
  have hT : s.TypeIs (.ref z) "zip" := ⟨_, hz, rfl⟩
  refine wpAny_pyIter_slot hT F.slot_zip_iter (wpAny_call_entry F.slot_zip_iter hT F.entry_zip_iter ?_ (F.args_zip_iter_1 _))
  show wpAny _ _ (ret (.ref z)) _ _ s
  exact wpAny_pure ⟨_, rfl, "zip", _, hT, F.slot_zip_next.lookup, h⟩
end
end DL

set_option Elab.async false
set_option linter.all false
set_option maxRecDepth 100000
set_option maxHeartbeats 4000000
set_option autoImplicit false
namespace DL
open PySem PySem.Spec PyProof.Rows L2
/-! ### zip of two sequences, strict or not -/
abbrev IsZf (sf : Bool) (h : Heap) (z TI TO : Addr) (f0 : Value) : Prop :=
  h.get? z = some { cls := .type "zip", dict := none, data := .fields #[f0, .bool false, .bool sf, .ref TI, .ref TO], slots := #[] }
section
variable {prog : Program} {w : World} {A : Around} {E : Value → Shared → Prop} {s : Shared} {z TI TO i1 i2 : Addr} {fp1 fp2 : List Addr} {n1 n2 i : Nat} {P1 P2 : Nat → Value → Prop} {St1 St2 : Nat → Heap → Prop} {a1 a2 : Value} {sf : Bool}
theorem pyNext_zf_item {Q : Option Value → Shared → Prop} (S : ZipSep2 z TI TO i1 i2 fp1 fp2) (D1 : Draws prog w A.in1 i1 fp1 n1 P1 St1) (D2 : Draws prog w A.in1 i2 fp2 n2 P2 St2)
    (hz : IsZf sf s.heap z TI TO .none) (hTI : IsTupOf2 s.heap TI (.ref i1) (.ref i2)) (hTO : IsTupOf2 s.heap TO a1 a2) (st1 : St1 i s.heap) (st2 : St2 i s.heap) (hlt1 : i < n1) (hlt2 : i < n2)
    (hQ : ∀ x1 x2 h' tk, P1 i x1 → P2 i x2 → IsZf sf h' z TI TO (rawInt s.heap.objs.size) → IsTupOf2 h' TO x1 x2 → St1 (i + 1) h' → St2 (i + 1) h' → IsTupOf2 h' s.heap.objs.size x1 x2 → h'.objs.size = s.heap.objs.size + 1 →
      (∀ c o, c ≠ z → c ≠ TO → c ≠ i1 → c ≠ i2 → s.heap.get? c = some o → h'.get? c = some o) → Q (some (.ref s.heap.objs.size)) { s with heap := h', toks := tk }) :
    wpAny (model prog w) A (pyNext (.ref z)) Q E s := by
  cases sf with
  | true => exact pyNext_zipS_item S D1 D2 hz hTI hTO st1 st2 hlt1 hlt2 hQ
  | false => exact wpAny_pyNext_zipD2_item S D1 D2 hz hTI hTO st1 st2 hlt1 hlt2 hQ
/-- how a zip ends -/
def Zend (sf : Bool) (i n1 n2 : Nat) : Prop := match sf with
  | true => i = n1 ∧ i = n2
  | false => i ≤ n1 ∧ i ≤ n2 ∧ (i = n1 ∨ i = n2)
theorem pyNext_zf_end {Q : Option Value → Shared → Prop} (hh : A.handled = none) (S : ZipSep2 z TI TO i1 i2 fp1 fp2) (D1 : Draws prog w A.in1 i1 fp1 n1 P1 St1) (D2 : Draws prog w A.in1 i2 fp2 n2 P2 St2)
    (hz : IsZf sf s.heap z TI TO .none) (hTI : IsTupOf2 s.heap TI (.ref i1) (.ref i2)) (hTO : IsTupOf2 s.heap TO a1 a2) (st1 : St1 i s.heap) (st2 : St2 i s.heap) (e : Zend sf i n1 n2)
    (hQ : ∀ h' tk, (∀ c o, c ≠ z → c ≠ TO → c ≠ i1 → c ≠ i2 → s.heap.get? c = some o → h'.get? c = some o) → Q none { s with heap := h', toks := tk }) : wpAny (model prog w) A (pyNext (.ref z)) Q E s := by
  cases sf with
  | true => exact pyNext_zipS_end hh S D1 D2 hz hTI hTO st1 st2 e.1 e.2 hQ
  | false => exact wpAny_pyNext_zipD2_end S D1 D2 hz hTI hTO st1 st2 e.1 e.2.1 e.2.2 hQ
theorem letGo_zf {elts : List Expr} {x1} {pos : Pos} {z TI TO T : Addr} {Q : Unit → Shared → Prop} (hz : IsZf sf s.heap z TI TO (rawInt T))
    (hQ : ∀ h', IsZf sf h' z TI TO .none → Heap.SameBut z s.heap h' → Q () { s with heap := h' }) :
    wpAny (model prog w) A (letOwnedTupleGo (.Tuple elts x1 pos) (.ref z) (.ref T)) Q E s := by
  cases sf with
  | true => exact letGo_zipS hz hQ
  | false => exact wpAny_letOwnedTupleGo_zip hz hQ
theorem pyIter_zf {z TI TO : Addr} {f0 : Value} {Q : Value → Shared → Prop} (hz : IsZf sf s.heap z TI TO f0) (h : Q (.ref z) s) : wpAny (model prog w) A (pyIter (.ref z)) Q E s := by
  cases sf with
  | true => exact pyIter_zipS hz h
  | false => exact wpAny_pyIter_zip hz h
end
def ItzB (sf b1 b2 : Bool) (K : PySem.W.Frag) (a b : Addr) : It :=
  ⟨fun i H => ∃ (xs ys : List V) (x y : V), SqB K b1 H a xs ∧ SqB K b2 H b ys ∧ xs[i]? = some x ∧ ys[i]? = some y,
    fun i H v H' => ∃ T x y, v = .ref T ∧ H T = none ∧ H' = upd H T (.tup [x, y]) ∧ (∀ xs, SqB K b1 H a xs → xs[i]? = some x) ∧ ∀ ys, SqB K b2 H b ys → ys[i]? = some y,
    fun i H => ∃ xs ys : List V, SqB K b1 H a xs ∧ SqB K b2 H b ys ∧ Zend sf i xs.length ys.length⟩
theorem turn_zipB {sf b1 b2 : Bool} {P : Program} {w : World} {K : PySem.W.Frag} {elts : List Expr} {kk : Nat} {tpos : Pos} {a b z TI TO i1 i2 : Addr} (D : ZipSep2 z TI TO i1 i2 [i1, a] [i2, b]) :
    Turn P w K (.Tuple elts kk tpos) (ItzB sf b1 b2 K a b) [z, TI, TO, i1, i2] z (fun i h => IsZf sf h z TI TO .none ∧ IsTupOf2 h TI (.ref i1) (.ref i2) ∧ (∃ x y, IsTupOf2 h TO x y) ∧ ItB b1 h i1 a i ∧ ItB b2 h i2 b i) where
  mem := by simp
  obj := fun i h st c hc => by
    obtain ⟨hz, hTI, ⟨x, y, hTO⟩, t1, t2⟩ := st
    obtain ⟨o1, v1, e1, d1, _⟩ := t1.obj
    obtain ⟨o2, v2, e2, d2, _⟩ := t2.obj
    have e' : c = z ∨ c = TI ∨ c = TO ∨ c = i1 ∨ c = i2 := by simpa using hc
    rcases e' with q | q | q | q | q
    · rw [q]; exact ⟨_, hz, fun v q => nomatch q⟩
    · rw [q]; exact ⟨_, hTI, fun v q => nomatch q⟩
    · rw [q]; exact ⟨_, hTO, fun v q => nomatch q⟩
    · rw [q]; exact ⟨o1, e1, fun v q => by rw [d1] at q; cases q⟩
    · rw [q]; exact ⟨o2, e2, fun v q => by rw [d2] at q; cases q⟩
  keep := fun i h h' st k => by
    obtain ⟨hz, hTI, ⟨x, y, hTO⟩, h1, h2⟩ := st
    exact ⟨k z (by simp) _ hz, k TI (by simp) _ hTI, ⟨x, y, k TO (by simp) _ hTO⟩, h1.at fun o q => k i1 (by simp) o q, h2.at fun o q => k i2 (by simp) o q⟩
  item := by
    intro X hP hw hK hc i pins s σ H E I hf st hg
    subst hP hw hK
    obtain ⟨hz, hTI, ⟨x0, y0, hTO⟩, h1, h2⟩ := st
    obtain ⟨xs, ys, x, y, hqx, hqy, hx, hy⟩ := hg
    obtain ⟨its, rv, p⟩ := Inv.seqB I hqx
    obtain ⟨its2, rv2, p2⟩ := Inv.seqB I hqy
    obtain ⟨u, hu, ru⟩ := rv.get hx
    obtain ⟨u2, hu2, ru2⟩ := rv2.get hy
    have hzl : z < s.heap.objs.size := Heap.lt_size hz
    have l1 : i < its.toArray.size := by
      have := (List.getElem?_eq_some_iff.mp hu).1
      simpa using this
    have l2 : i < its2.toArray.size := by
      have := (List.getElem?_eq_some_iff.mp hu2).1
      simpa using this
    refine pyNext_zf_item D (draws_b (b := b1) (A := X.A.in1) (I.ok.hd hc) (seb_ne p h1)) (draws_b (b := b2) (A := X.A.in1) (I.ok.hd hc) (seb_ne p2 h2)) hz hTI hTO ⟨h1, p⟩ ⟨h2, p2⟩ l1 l2 fun w1 w2 h' tk q1 q2 z' TO' n1 n2 hT hsz hk => ?_
    have e1 : w1 = u := by
      have h3 : its.toArray[i]? = some u := by simpa using hu
      rw [h3] at q1; exact (Option.some.inj q1).symm
    have e2 : w2 = u2 := by
      have h3 : its2.toArray[i]? = some u2 := by simpa using hu2
      rw [h3] at q2; exact (Option.some.inj q2).symm
    subst e1 e2
    refine ⟨_, rfl, letGo_zf (s := { s with heap := h', toks := tk }) z' fun h'' z'' sb => ?_⟩
    have hT2 : h''.get? s.heap.objs.size = some { cls := .type "tuple", data := .seq #[w1, w2] } := (sb.2 _ (Nat.ne_of_gt hzl)).trans hT
    have new : ObjOk X.prog X.w (upd H s.heap.objs.size (.tup [x, y])) h'' s.heap.objs.size (.tup [x, y]) :=
      ⟨by show 2 ≤ sizeLine; decide, [w1, w2], .cons ru (.cons ru2 .nil), ⟨_, hT2, rfl, _, rfl⟩⟩
    have I1 : L2.Inv X pins σ (upd H s.heap.objs.size (.tup [x, y])) { s with heap := h'', toks := tk } :=
      I.turnedNew (t' := tk) (ch := [z, TI, TO, i1, i2]) (fun c o hb q => (sb.2 c (fun q' => hb (by simp [q']))).trans (hk c o (fun q' => hb (by simp [q'])) (fun q' => hb (by simp [q'])) (fun q' => hb (by simp [q'])) (fun q' => hb (by simp [q'])) q)) hf (Nat.le_refl _) new
    refine ⟨.ref s.heap.objs.size, _, I1, rfl, ⟨_, x, y, rfl, I.hok.fresh (Nat.le_refl _), rfl, fun l hl => by rw [Inv.seqB_inj I hl hqx]; exact hx, fun l hl => by rw [Inv.seqB_inj I hl hqy]; exact hy⟩, ⟨z'', ?_, ⟨w1, w2, ?_⟩, ?_, ?_⟩, fun c hcm => ?_⟩
    · exact (sb.2 _ D.TIz).trans (hk _ _ D.TIz D.TITO D.TIi1 D.TIi2 hTI)
    · exact (sb.2 _ D.TOz).trans TO'
    · exact n1.1.at fun o q => (sb.2 _ D.zi1.symm).trans q
    · exact n2.1.at fun o q => (sb.2 _ D.zi2.symm).trans q
    · have hlt : c < s.heap.objs.size := by
        obtain ⟨_, _, e1, _⟩ := h1.obj
        obtain ⟨_, _, e2, _⟩ := h2.obj
        have e' : c = z ∨ c = TI ∨ c = TO ∨ c = i1 ∨ c = i2 := by simpa using hcm
        rcases e' with q | q | q | q | q
        · rw [q]; exact hzl
        · rw [q]; exact Heap.lt_size hTI
        · rw [q]; exact Heap.lt_size hTO
        · rw [q]; exact Heap.lt_size e1
        · rw [q]; exact Heap.lt_size e2
      rw [upd_ne (Nat.ne_of_lt hlt)]
      exact (hf c hcm).1
  done := by
    intro X hP hw hK hc i pins s σ H E I hf st hg
    subst hP hw hK
    obtain ⟨hz, hTI, ⟨x0, y0, hTO⟩, h1, h2⟩ := st
    obtain ⟨xs, ys, hqx, hqy, hend⟩ := hg
    obtain ⟨its, rv, p⟩ := Inv.seqB I hqx
    obtain ⟨its2, rv2, p2⟩ := Inv.seqB I hqy
    have e1 : xs.length = its.toArray.size := by rw [rv.length]; simp
    have e2 : ys.length = its2.toArray.size := by rw [rv2.length]; simp
    rw [e1, e2] at hend
    exact pyNext_zf_end (I.ok.hd hc) D (draws_b (b := b1) (A := X.A.in1) (I.ok.hd hc) (seb_ne p h1)) (draws_b (b := b2) (A := X.A.in1) (I.ok.hd hc) (seb_ne p2 h2)) hz hTI hTO ⟨h1, p⟩ ⟨h2, p2⟩ hend fun h' tk hk => ⟨rfl, I.turnedL (t' := tk) (ch := [z, TI, TO, i1, i2]) (fun c o hb q =>
      hk c o (fun q' => hb (by simp [q'])) (fun q' => hb (by simp [q'])) (fun q' => hb (by simp [q'])) (fun q' => hb (by simp [q'])) q) hf⟩
  self := fun A i s Q E st h => pyIter_zf st.1 h
def iZipB (sf : Bool) (K : PySem.W.Frag) (ta : TA) : TI := fun σ H R => ta σ H fun vs H1 => ∃ a b b1 b2 xs ys, vs = [.ref a, .ref b] ∧ SqB K b1 H1 a xs ∧ SqB K b2 H1 b ys ∧ R (ItzB sf b1 b2 K a b) H1
theorem SeB.lt {b : Bool} {h : Heap} {a : Addr} {its : Array Value} (t : SeB b h a its) : a < h.objs.size := by
  obtain ⟨o, n, e, _⟩ := t.obj
  exact Heap.lt_size e
theorem zipB_fresh {X : Cx} {pins : List (Addr × Obj)} {σ : L2.St} {H1 : Hp} {s1 : Shared} (I1 : L2.Inv X pins σ H1 s1) : ∀ c, c ∈ [s1.heap.objs.size + 4, s1.heap.objs.size + 2, s1.heap.objs.size + 3, s1.heap.objs.size, s1.heap.objs.size + 1] → FpOk X pins H1 c := fun c hcm => by
  have e' : c = s1.heap.objs.size + 4 ∨ c = s1.heap.objs.size + 2 ∨ c = s1.heap.objs.size + 3 ∨ c = s1.heap.objs.size ∨ c = s1.heap.objs.size + 1 := by simpa using hcm
  have hle : s1.heap.objs.size ≤ c := by
    rcases e' with z | z | z | z | z
    · rw [z]; exact Nat.le_add_right _ _
    · rw [z]; exact Nat.le_add_right _ _
    · rw [z]; exact Nat.le_add_right _ _
    · rw [z]; exact Nat.le_refl _
    · rw [z]; exact Nat.le_add_right _ _
  exact I1.fpOk hle (I1.hok.fresh hle)
/-- zip(a, b) -/
theorem pi_zipB {X : Cx} {e e2 : Expr} {ta : TA} {p pos tpos : Pos} {elts : List Expr} {kk : Nat} (hg : Gl X "zip") (hm : X.mg "zip" = none) (ha : PA X [e, e2] ta)
    (hs : starEach [e, e2] X.env = (false, eval e X.env) :: starEach [e2] X.env := by rfl) (hpl : (backTo pos (starEach [e2] X.env)).any (·.1) = false := by rfl) :
    PI X (.Tuple elts kk tpos) (.Call (.Name "zip" p) [e, e2] [] pos) (iZipB false X.K ta) := by
  refine ⟨fun pins s σ H R I h => ?_⟩
  refine Call_ (ld_blt I hg hm PyProof.Rows.boot_zip (PyProof.Rows.callWith_type1 (thn (ha.run pos pins s σ H _ I h) fun us s1 ⟨vs, H1, I1, r1, q1⟩ => ?_) hs hpl))
  obtain ⟨a, b, b1, b2, xs, ys, ex, hqx, hqy, q⟩ := q1
  subst ex
  cases r1 with
  | cons r rr =>
    cases rr with
    | cons r' rr =>
      cases rr
      cases r
      cases r'
      obtain ⟨its, rv, p1⟩ := Inv.seqB I1 hqx
      obtain ⟨its2, rv2, p2⟩ := Inv.seqB I1 hqy
      refine zip_begins2 begins_b begins_b p1 p2 fun h' hz hTI hTO h1 h2 hsz hk => wpAny_pyIter_zip hz ?_
      have I2 : L2.Inv X pins σ H1 { s1 with heap := h' } := I1.kept (t' := s1.toks) hk
      exact ⟨s1.heap.objs.size + 4, [s1.heap.objs.size + 4, s1.heap.objs.size + 2, s1.heap.objs.size + 3, s1.heap.objs.size, s1.heap.objs.size + 1], _, _, H1, rfl, I2,
        turn_zipB (sf := false) (zip_sep2 (fp1 := [a]) (fp2 := [b]) (fun c hc => by rw [List.mem_singleton.mp hc]; exact p1.lt) (fun c hc => by rw [List.mem_singleton.mp hc]; exact p2.lt)),
        ⟨hz, hTI, ⟨_, _, hTO⟩, ItB.begun h1, ItB.begun h2⟩, zipB_fresh I1, q⟩
end DL

set_option Elab.async false
set_option linter.all false
set_option maxRecDepth 100000
set_option maxHeartbeats 4000000
set_option autoImplicit false
namespace DL
open PySem PySem.Spec PyProof.Rows L2
/-! ### zip(a, b, strict=..) -/
abbrev gzS2 (sf : Bool) (h : Heap) (o1 o2 : Obj) : Heap := (gzO2 h o1 o2).push { cls := .type "zip", data := .fields #[.none, .bool false, .bool sf, .ref ((h.push o1).push o2).objs.size, .ref (gzT2 h o1 o2).objs.size] }
theorem typeCall_zip_strict (a b c : Value) : checkTypeCall "zip" ⟨[a, b], [(Str.ofString "strict", c)]⟩ = pure () := by kernel_rfl
theorem newCall_zip_strict (a b c : Value) : checkBuiltinCall "zip.__new__" ⟨[.type "zip", a, b], [(Str.ofString "strict", c)]⟩ = pure () := by kernel_rfl
theorem args_object_init_strict (obj a b c : Value) : argsOk "object.__init__" ⟨[obj, a, b], [(Str.ofString "strict", c)]⟩ := by unfold argsOk; kernel_rfl
set_option maxHeartbeats 8000000 in
theorem meets_zip_newS {v1 v2 : Value} {o1 o2 : Obj} {H1 H2 : Heap → Prop} (B1 : Begins v1 o1 H1) (B2 : Begins v2 o2 H2) (sf : Bool) :
    Meets (Builtin.«zip.__new__» ⟨[.type "zip", v1, v2], [(Str.ofString "strict", .bool sf)]⟩) (fun _ R s => (H1 s.heap ∧ H2 s.heap) ∧
      R (.ok (.ret (.ref (gzO2 s.heap o1 o2).objs.size))) { s with heap := gzS2 sf s.heap o1 o2 }) :=
  .of_wp fun prog w A R s h => by
    obtain ⟨hp, g, d, tk, os⟩ := s; obtain ⟨⟨h1, h2⟩, h⟩ := h
    have hsub := sub_zip
    have e2 : (Str.ofString "strict" != ("strict" : Str)) = false := by decide +kernel
    have q1 : ∀ {A' : Around} {E : Value → Shared → Prop} {Q : Value → Shared → Prop}, Q (.ref hp.objs.size) ⟨(hp.push o1), g, d, tk, os⟩ → wpAny (model prog w) A' (pyIter v1) Q E ⟨hp, g, d, tk, os⟩ :=
      fun q => B1.iter prog w _ _ ⟨hp, g, d, tk, os⟩ _ (B1.keeps _ _ h1 fun b o' e => e) q
    have q2 : ∀ {A' : Around} {E : Value → Shared → Prop} {Q : Value → Shared → Prop}, Q (.ref (hp.push o1).objs.size) ⟨((hp.push o1).push o2), g, d, tk, os⟩ → wpAny (model prog w) A' (pyIter v2) Q E ⟨(hp.push o1), g, d, tk, os⟩ :=
      fun q => B2.iter prog w _ _ ⟨(hp.push o1), g, d, tk, os⟩ _ (B2.keeps _ _ h2 fun b o' e => (Heap.get?_push_of_some _ e)) q
    wp_walk using q1, q2
    exact ⟨_, rfl, h⟩
section
variable {prog : Program} {w : World} {A : Around} {E : Value → Shared → Prop} {s : Shared}
theorem zip_beginsS {v1 v2 : Value} {o1 o2 : Obj} {H1 H2 : Heap → Prop} {Q : Value → Shared → Prop} {sf : Bool} (B1 : Begins v1 o1 H1) (B2 : Begins v2 o2 H2) (h1 : H1 s.heap) (h2 : H2 s.heap)
    (h : ∀ h', IsZf sf h' (s.heap.objs.size + 4) (s.heap.objs.size + 2) (s.heap.objs.size + 3) .none → IsTupOf2 h' (s.heap.objs.size + 2) (.ref s.heap.objs.size) (.ref (s.heap.objs.size + 1)) →
      IsTupOf2 h' (s.heap.objs.size + 3) .none .none → h'.get? s.heap.objs.size = some o1 → h'.get? (s.heap.objs.size + 1) = some o2 → h'.objs.size = s.heap.objs.size + 5 →
      (∀ c o, s.heap.get? c = some o → h'.get? c = some o) → Q (.ref (s.heap.objs.size + 4)) { s with heap := h' }) :
    wpAny (model prog w) A (call (.type "zip") [v1, v2] [(Str.ofString "strict", .bool sf)]) Q E s := by
  refine callType_newKw F.called_zip (by decide) (typeCall_zip_strict _ _ _) (newCall_zip_strict _ _ _) (fun obj => args_object_init_strict obj _ _ _) F.entry_zip_new
    (meets_zip_newS B1 B2 sf) ⟨⟨h1, h2⟩, ?_⟩
  have z1 : (s.heap.push o1).objs.size = s.heap.objs.size + 1 := by rw [Heap.size_push]
  have z2 : ((s.heap.push o1).push o2).objs.size = s.heap.objs.size + 2 := by rw [Heap.size_push, z1]
  have zT : (gzT2 s.heap o1 o2).objs.size = s.heap.objs.size + 3 := by rw [Heap.size_push, z2]
  have zO : (gzO2 s.heap o1 o2).objs.size = s.heap.objs.size + 4 := by rw [Heap.size_push, zT]
  have zZ : (gzS2 sf s.heap o1 o2).objs.size = s.heap.objs.size + 5 := by rw [Heap.size_push, zO]
  have gZ : (gzS2 sf s.heap o1 o2).get? (gzO2 s.heap o1 o2).objs.size = some { cls := .type "zip", data := .fields #[.none, .bool false, .bool sf, .ref ((s.heap.push o1).push o2).objs.size, .ref (gzT2 s.heap o1 o2).objs.size] } := Heap.get?_push_size _ rfl
  have gO : (gzS2 sf s.heap o1 o2).get? (gzT2 s.heap o1 o2).objs.size = some { cls := .type "tuple", data := .seq #[.none, .none] } := Heap.get?_push_of_some _ (Heap.get?_push_size _ rfl)
  have gT : (gzS2 sf s.heap o1 o2).get? ((s.heap.push o1).push o2).objs.size = some { cls := .type "tuple", data := .seq #[.ref s.heap.objs.size, .ref (s.heap.push o1).objs.size] } := Heap.get?_push_of_some _ (Heap.get?_push_of_some _ (Heap.get?_push_size _ rfl))
  have g1 : (gzS2 sf s.heap o1 o2).get? s.heap.objs.size = some o1 := Heap.get?_push_of_some _ (Heap.get?_push_of_some _ (Heap.get?_push_of_some _ (Heap.get?_push_of_some _ (Heap.get?_push_size _ B1.free))))
  have g2 : (gzS2 sf s.heap o1 o2).get? (s.heap.push o1).objs.size = some o2 := Heap.get?_push_of_some _ (Heap.get?_push_of_some _ (Heap.get?_push_of_some _ (Heap.get?_push_size _ B2.free)))
  rw [zO, zT, z2] at gZ
  rw [zT] at gO
  rw [z2, z1] at gT
  rw [z1] at g2
  show _ ∧ _
  rw [zO]
  exact ⟨⟨_, gZ, rfl⟩, h _ gZ gT gO g1 g2 zZ fun c o e => Heap.get?_push_of_some _ (Heap.get?_push_of_some _ (Heap.get?_push_of_some _ (Heap.get?_push_of_some _ (Heap.get?_push_of_some _ e))))⟩
end
section
variable {M : Model} {A : Around} {E : Value → Shared → Prop} {s : Shared} {env : Env}
theorem callWith_type_kwB {pos : Pos} {T : String} {first : List Value} {args : List (Bool × Sem Value)} {keywords : List (Option Str × Sem Value)} {Q : Value → Shared → Prop}
    (hplain : args.any (·.1) = false) (hkw : keywords.any (·.1.isNone) = false)
    (h : wpAny M A (evalArgs (.type T) true args keywords) (fun a s₁ => wpAny M A (call (.type T) (first ++ a.pos) a.kw) Q E s₁) E s) :
    wpAny M A (callWith pos (.type T) first args keywords) Q E s := by
  unfold callWith
  refine wpAny_bind (wpAny_holding (wpAny_mono h (fun a s₁ h₁ => wpAny_bind (wpAny_standAt ?_)) fun _ _ x => x))
  simp only [hplain, hkw, Bool.or_false]
  refine wpAny_bind (wpAny_pure ?_)
  exact wpAny_bind (wpAny_mono h₁ (fun r s₂ hr => wpAny_bind (wpAny_holding (wpAny_point (wpAny_pure hr)))) fun _ _ x => x)
theorem callWith_typeKw {pos : Pos} {T : String} {e : Expr} {rest : List Expr} {kws : List Keyword} {Q : Value → Shared → Prop}
    (h : wpAny M A (spliced (backTo pos (starEach (e :: rest) env))) (fun vs s₁ => wpAny M A (evalAll ((backToKw pos (keywordEach kws env)).map (·.2)))
      (fun kvs s₂ => wpAny M A (call (.type T) vs (((backToKw pos (keywordEach kws env)).filterMap (·.1)).zip kvs)) Q E s₂) E s₁) E s)
    (he : backTo pos (starEach (e :: rest) env) = (false, eval e env) :: backTo pos (starEach rest env) := by rfl)
    (hplain : (backTo pos (starEach (e :: rest) env)).any (·.1) = false := by rfl)
    (hall : (backToKw pos (keywordEach kws env)).all (·.1.isSome) = true := by rfl)
    (hkw : (backToKw pos (keywordEach kws env)).any (·.1.isNone) = false := by rfl) :
    wpAny M A (callWith pos (.type T) [] (backTo pos (starEach (e :: rest) env)) (backToKw pos (keywordEach kws env))) Q E s := by
  refine callWith_type_kwB hplain hkw ?_
  rw [he] at h ⊢
  exact evalArgs_kwB hall h
end
theorem pi_zipS {X : Cx} {e e2 : Expr} {ta : TA} {p pos tpos kp kp2 : Pos} {elts : List Expr} {kk k3 : Nat} {sf : Bool} (hg : Gl X "zip") (hm : X.mg "zip" = none) (ha : PA X [e, e2] ta)
    (he : backTo pos (starEach [e, e2] X.env) = (false, eval e X.env) :: backTo pos (starEach [e2] X.env) := by rfl) (hpl : (backTo pos (starEach [e, e2] X.env)).any (·.1) = false := by rfl) :
    PI X (.Tuple elts kk tpos) (.Call (.Name "zip" p) [e, e2] [⟨some "strict", .Constant (.bool sf) k3 kp, kp2⟩] pos) (iZipB sf X.K ta) := by
  refine ⟨fun pins s σ H R I h => ?_⟩
  refine wpAny_Call_Name_kw (ld_blt I hg hm PyProof.Rows.boot_zip (callWith_typeKw (thn (ha.run pos pins s σ H _ I h) fun us s1 ⟨vs, H1, I1, r1, q1⟩ => ?_) he hpl))
  obtain ⟨a, b, b1, b2, xs, ys, ex, hqx, hqy, q⟩ := q1
  subst ex
  cases r1 with
  | cons r rr =>
    cases rr with
    | cons r' rr =>
      cases rr
      cases r
      cases r'
      obtain ⟨its, rv, p1⟩ := Inv.seqB I1 hqx
      obtain ⟨its2, rv2, p2⟩ := Inv.seqB I1 hqy
      refine kws_cons ((pe_bl (X := X) (b := sf)).run pins s1 σ H1 (fun v H2 => v = .bl sf ∧ H2 = H1) I1 ⟨rfl, rfl⟩ |> fun hx => thn hx fun v s2 ⟨x, H2, I2, rx, ex, eh⟩ => ?_)
      subst ex eh
      cases rx
      refine kws_nil ?_
      show wpAny _ _ (call (.type "zip") [.ref a, .ref b] [(Str.ofString "strict", .bool sf)]) _ _ s2
      obtain ⟨its, rv, p1⟩ := Inv.seqB I2 hqx
      obtain ⟨its2, rv2, p2⟩ := Inv.seqB I2 hqy
      refine zip_beginsS begins_b begins_b p1 p2 fun h' hz hTI hTO h1 h2 hsz hk => pyIter_zf hz ?_
      have I3 : L2.Inv X pins σ H2 { s2 with heap := h' } := I2.kept (t' := s2.toks) hk
      exact ⟨s2.heap.objs.size + 4, [s2.heap.objs.size + 4, s2.heap.objs.size + 2, s2.heap.objs.size + 3, s2.heap.objs.size, s2.heap.objs.size + 1], _, _, H2, rfl, I3,
        turn_zipB (sf := sf) (zip_sep2 (fp1 := [a]) (fp2 := [b]) (fun c hc => by rw [List.mem_singleton.mp hc]; exact p1.lt) (fun c hc => by rw [List.mem_singleton.mp hc]; exact p2.lt)),
        ⟨hz, hTI, ⟨_, _, hTO⟩, ItB.begun h1, ItB.begun h2⟩, zipB_fresh I2, q⟩
end DL

set_option Elab.async false
set_option linter.all false
set_option maxRecDepth 100000
set_option maxHeartbeats 4000000
set_option autoImplicit false
namespace DL
open PySem L2
/-! ### enumerate and zip as data -/
def seq2 : D → Option (List D)
  | .list ds => some ds
  | .tuple ds => some ds
  | _ => none
def itS (ρ : Rho) (r : Rv) : Option (List D × Rho) := match itD ρ r with
  | some (d, ρ1) => match seq2 d with
    | some ds => some (ds, ρ1)
    | none => none
  | none => none
theorem itS_some {ρ ρ2 : Rho} {r : Rv} {ds : List D} (h : itS ρ r = some (ds, ρ2)) : ∃ d, itD ρ r = some (d, ρ2) ∧ seq2 d = some ds := by
  unfold itS at h
  split at h
  · rename_i d ρ1 e
    split at h
    · rename_i xs e2
      cases h
      exact ⟨d, e, e2⟩
    · cases h
  · cases h
def enumD (ds : List D) : List D := ds.mapIdx fun i d => .tuple [.int (i : Nat), d]
def zipD (xs ys : List D) : List D := List.zipWith (fun x y => .tuple [x, y]) xs ys
def dEnum (da : DA) : DI := fun ρ Q => da ρ fun rs ρ1 => match rs with
  | [r] => wFA (itS ρ1 r) fun ds ρ2 => Q (enumD ds) ρ2
  | _ => False
def dZip (sf : Bool) (da : DA) : DI := fun ρ Q => da ρ fun rs ρ1 => match rs with
  | [r, q] => wFA (itS ρ1 r) fun xs ρ2 => wFA (itS ρ2 q) fun ys ρ3 => (sf = true → xs.length = ys.length) ∧ Q (zipD xs ys) ρ3
  | _ => False
section
variable {K : PySem.W.Frag} {f : Fr} {g g' : Gs} {σ : L2.St} {H H' : Hp} {ρ ρ' : Rho} {v : V} {r : Rv} {d : D} {b b1 b2 sf : Bool} {a a2 : Addr} {xs ys : List V} {ta : TA} {da : DA}
theorem walk_enumB : Walk (IteB b K a) xs.length (fun H => SqB K b H a xs) (YPair (fun i => some (.int (i : Nat))) (fun i => xs[i]?)) := by
  refine ⟨fun i _ hi q => ⟨xs, xs[i], q, by simp [hi]⟩, fun _ q => ⟨xs, q, rfl⟩, fun i H v H' _ q y => ?_⟩
  obtain ⟨T, x, h1, h2, h3, h4⟩ := y
  exact ⟨T, .int (i : Nat), x, h1, h2, h3, rfl, h4 xs q⟩
theorem walk_zipB {n : Nat} (hn : Zend sf n xs.length ys.length) (hn2 : n ≤ xs.length ∧ n ≤ ys.length) : Walk (ItzB sf b1 b2 K a a2) n (fun H => SqB K b1 H a xs ∧ SqB K b2 H a2 ys) (YPair (fun i => xs[i]?) (fun i => ys[i]?)) := by
  refine ⟨fun i _ hi q => ?_, fun _ q => ⟨xs, ys, q.1, q.2, hn⟩, fun i H v H' _ q y => ?_⟩
  · have h1 : i < xs.length := by omega
    have h2 : i < ys.length := by omega
    exact ⟨xs, ys, xs[i], ys[i], q.1, q.2, by simp [h1], by simp [h2]⟩
  · obtain ⟨T, x, z, h1, h2, h3, h4, h5⟩ := y
    exact ⟨T, x, z, h1, h2, h3, h4 xs q.1, h5 ys q.2⟩
theorem BoV.seqB {F : Hp} {ds : List D} (h : BoV f F v d) (e : seq2 d = some ds) : ∃ b a xs, v = .ref a ∧ RpA f.K F xs ds ∧ ∀ g2 σ2 H2 ρ2, Rel f g2 σ2 H2 ρ2 → Same F (Fz H2 g2.M) → SqB f.K b H2 a xs := by
  cases d with
  | list xs => cases e; obtain ⟨a, ys, e1, e2, e3⟩ := h.list; exact ⟨false, a, ys, e1, e2, e3⟩
  | tuple xs => cases e; obtain ⟨a, ys, e1, e2, e3⟩ := h.tuple; exact ⟨true, a, ys, e1, e2, e3⟩
  | none => cases e
  | bool _ => cases e
  | int _ => cases e
  | str _ => cases e
  | dict _ => cases e
theorem itOk_pair {fx fy : Nat → Option V} {ds : List D} {G : Hp → Prop} (hf : ∀ (i : Nat) (d : D), ds[i]? = some d → ∃ dx dy, d = .tuple [dx, dy] ∧ (∀ x, fx i = some x → Rp f.K (Fz H g.M) x dx) ∧ ∀ y, fy i = some y → Rp f.K (Fz H g.M) y dy)
    (hG : ∀ g2 σ2 H2 ρ2, Rel f g2 σ2 H2 ρ2 → Same (Fz H g.M) (Fz H2 g2.M) → G H2) : ItOk f g H G (YPair fx fy) ds := by
  refine ⟨hG, fun g2 σ2 H2 ρ2 R2 e i v H3 d hd y => ?_⟩
  obtain ⟨T, x, y, rfl, hT, rfl, h1, h2⟩ := y
  obtain ⟨dx, dy, rfl, q1, q2⟩ := hf i d hd
  obtain ⟨R3, G3, e3⟩ := R2.new (o := .tup [x, y]) hT
  exact ⟨g2, R3, G3, .tup e3 (.cons (((q1 x h1).mono e).mono G3.fz) (.cons (((q2 y h2).mono e).mono G3.fz) .nil))⟩
theorem li_enum (h : LA K ta da) : LI K (iEnumA K ta) (dEnum da) := by
  intro f g σ H ρ Q R hK hR hd k
  refine h f g σ H ρ _ _ hK hR hd fun vs H1 g1 ρ1 rs R1 G1 O1 q1 => ?_
  subst hK
  cases O1 with
  | nil => exact q1.elim
  | cons o or' =>
    cases or' with
    | cons _ _ => exact q1.elim
    | nil =>
      obtain ⟨ds, ρ2, e2, q2⟩ := wFA_some q1
      obtain ⟨d, e3, e4⟩ := itS_some e2
      obtain ⟨g2, R2, G2, B⟩ := itD_ok R1 o e3
      obtain ⟨b, a, xs, rfl, hr, hs⟩ := B.seqB e4
      refine ⟨a, b, xs, rfl, hs g2 σ H1 ρ2 R2 (Same.refl _), k _ H1 g2 ρ2 _ _ (enumD ds) R2 (G1.trans G2) (by unfold enumD; rw [List.length_mapIdx, ← hr.length]; exact walk_enumB) (itOk_pair (fun i d hd => ?_) hs) q2⟩
      unfold enumD at hd
      rw [List.getElem?_mapIdx] at hd
      cases hi : ds[i]? with
      | none => rw [hi] at hd; cases hd
      | some x =>
        rw [hi] at hd
        cases hd
        refine ⟨_, _, rfl, fun x e => by cases e; exact .int _, fun y e => ?_⟩
        obtain ⟨w, e1, q⟩ := hr.get hi
        rw [e] at e1; cases e1
        exact q
theorem li_zip (h : LA K ta da) : LI K (iZipB sf K ta) (dZip sf da) := by
  intro f g σ H ρ Q R hK hR hd k
  refine h f g σ H ρ _ _ hK hR hd fun vs H1 g1 ρ1 rs R1 G1 O1 q1 => ?_
  subst hK
  cases O1 with
  | nil => exact q1.elim
  | cons o or' =>
    cases or' with
    | nil => exact q1.elim
    | cons o2 or2 =>
      cases or2 with
      | cons _ _ => exact q1.elim
      | nil =>
        obtain ⟨ds, ρ2, e2, q2⟩ := wFA_some q1
        obtain ⟨d, e3, e4⟩ := itS_some e2
        obtain ⟨g2, R2, G2, B⟩ := itD_ok R1 o e3
        obtain ⟨es, ρ3, e5, hl, q3⟩ := wFA_some q2
        obtain ⟨d', e6, e7⟩ := itS_some e5
        obtain ⟨g3, R3, G3, B'⟩ := itD_ok R2 (o2.mono G2) e6
        obtain ⟨b1, a, xs, rfl, hr, hs⟩ := (B.mono G3.fz).seqB e4
        obtain ⟨b2, a2, ys, rfl, hr', hs'⟩ := B'.seqB e7
        have hlen : (zipD ds es).length = min ds.length es.length := by unfold zipD; rw [List.length_zipWith]
        refine ⟨a, a2, b1, b2, xs, ys, rfl, hs g3 σ H1 ρ3 R3 (Same.refl _), hs' g3 σ H1 ρ3 R3 (Same.refl _), k _ H1 g3 ρ3 _ _ (zipD ds es) R3 ((G1.trans G2).trans G3) (walk_zipB (xs := xs) (ys := ys) ?_ ?_) (itOk_pair (fun i d hd => ?_) fun g2 σ2 H2 ρ2 R2 e => ⟨hs g2 σ2 H2 ρ2 R2 e, hs' g2 σ2 H2 ρ2 R2 e⟩) q3⟩
        · rw [hlen, hr.length, hr'.length]
          cases sf with
          | true => have := hl rfl; exact ⟨by omega, by omega⟩
          | false => exact ⟨by omega, by omega, by omega⟩
        · rw [hlen, hr.length, hr'.length]; exact ⟨by omega, by omega⟩
        · unfold zipD at hd
          rw [List.getElem?_zipWith] at hd
          cases hi : ds[i]? with
          | none => rw [hi] at hd; cases hd
          | some x =>
            rw [hi] at hd
            cases hj : es[i]? with
            | none => rw [hj] at hd; cases hd
            | some y =>
              rw [hj] at hd
              cases hd
              refine ⟨_, _, rfl, fun x e => ?_, fun y e => ?_⟩
              · obtain ⟨w, e1, q⟩ := hr.get hi
                rw [e] at e1; cases e1
                exact q
              · obtain ⟨w, e1, q⟩ := hr'.get hj
                rw [e] at e1; cases e1
                exact q
end
end DL

set_option Elab.async false
set_option linter.all false
set_option maxRecDepth 100000
set_option maxHeartbeats 4000000
set_option autoImplicit false
namespace DL
open PySem L2
/-! ### what repr asks, from bounds -/
theorem reprOk_of {d : D} (h1 : d.showable = true) (h2 : d.hasDict = false ∨ plainD d = true) (h3 : d.leavesShort 25 = true) (h4 : d.weight ≤ 500000) (h5 : d.depth ≤ 60) : reprOkP d := by
  refine ⟨h1, h2, h5, ?_⟩
  have := PyData.shown_le 25 (by decide) d h3
  rw [sizeLine_eq]
  omega
/-- ints of at most 64 bits -/
def small (n : Int) : Prop := n.natAbs < 2 ^ 65
theorem small_log {i : Int} (h : small i) : i.natAbs.log2 < 65 := by
  by_cases e : i.natAbs = 0
  · rw [e]; decide
  · rw [Nat.log2_lt e]; exact h
theorem small_int {i : Int} (h : small i) : PyData.showable (.int i) = true ∧ PyData.leavesShort 25 (.int i) = true ∧ PyData.weight (.int i) ≤ 65 ∧ PyData.depth (.int i) ≤ 1 ∧ PyData.hasDict (.int i) = false := by
  have hl := small_log h
  refine ⟨?_, ?_, ?_, ?_, rfl⟩
  · simp only [PyData.showable, decide_eq_true_eq]; omega
  · simp only [PyData.leavesShort, decide_eq_true_eq]
    have e := int_text_length_le10 (a := i) (k := 20) (by decide) (Nat.lt_trans h (by decide))
    show (Str.ofString (toString i)).length ≤ 25
    rw [ofString_length]; omega
  · simp only [PyData.weight]
    split <;> omega
  · simp [PyData.depth]
theorem small_ints {ns : List Int} (h : ∀ n ∈ ns, small n) : PyData.showableAll (ns.map PyData.int) = true ∧ PyData.leavesShortAll 25 (ns.map PyData.int) = true ∧ PyData.weightAll (ns.map PyData.int) ≤ 66 * ns.length ∧ PyData.depthAll (ns.map PyData.int) ≤ 2 ∧ PyData.hasDictAll (ns.map PyData.int) = false := by
  induction ns with
  | nil => exact ⟨rfl, rfl, Nat.le_refl _, by simp [PyData.depthAll], rfl⟩
  | cons n ns ih =>
    obtain ⟨a1, a2, a3, a4, a5⟩ := ih fun x hx => h x (List.mem_cons_of_mem _ hx)
    obtain ⟨b1, b2, b3, b4, b5⟩ := small_int (h n List.mem_cons_self)
    refine ⟨?_, ?_, ?_, ?_, ?_⟩
    · simp only [List.map_cons, PyData.showableAll, a1, b1, Bool.and_true]
    · simp only [List.map_cons, PyData.leavesShortAll, a2, b2, Bool.and_true]
    · simp only [List.map_cons, PyData.weightAll, List.length_cons]; omega
    · simp only [List.map_cons, PyData.depthAll]; omega
    · simp only [List.map_cons, PyData.hasDictAll, a5, b5, Bool.or_false]
theorem repr_int {i : Int} (h : small i) : reprOkP (.int i) := by
  obtain ⟨b1, b2, b3, b4, b5⟩ := small_int h
  exact reprOk_of b1 (.inl b5) b2 (by omega) (by omega)
theorem repr_ints {ns : List Int} (h : ∀ n ∈ ns, small n) (hl : ns.length ≤ 5000) : reprOkP (.tuple (ns.map PyData.int)) ∧ reprOkP (.list (ns.map PyData.int)) := by
  obtain ⟨a1, a2, a3, a4, a5⟩ := small_ints h
  constructor <;> refine reprOk_of ?_ (.inl ?_) ?_ ?_ ?_ <;> first
    | (simp only [PyData.showable]; exact a1)
    | (simp only [PyData.hasDict]; exact a5)
    | (simp only [PyData.leavesShort]; exact a2)
    | (simp only [PyData.weight]; omega)
    | (simp only [PyData.depth]; omega)
theorem repr_two {ns ms : List Int} (h : ∀ n ∈ ns, small n) (h' : ∀ n ∈ ms, small n) (hl : ns.length ≤ 3000) (hl' : ms.length ≤ 3000) : reprOkP (.list [.tuple (ns.map PyData.int), .tuple (ms.map PyData.int)]) := by
  obtain ⟨a1, a2, a3, a4, a5⟩ := small_ints h
  obtain ⟨b1, b2, b3, b4, b5⟩ := small_ints h'
  refine reprOk_of ?_ (.inl ?_) ?_ ?_ ?_
  · simp only [PyData.showable, PyData.showableAll, a1, b1]; rfl
  · simp only [PyData.hasDict, PyData.hasDictAll, a5, b5]; rfl
  · simp only [PyData.leavesShort, PyData.leavesShortAll, a2, b2]; rfl
  · simp only [PyData.weight, PyData.weightAll]; omega
  · simp only [PyData.depth, PyData.depthAll]; omega
theorem eqv_str (a b : Str) : PyData.eqv (.str a) (.str b) = decide (a = b) := by simp only [PyData.eqv]; by_cases h : a = b <;> simp [h]
theorem eqv_int (a b : Int) : PyData.eqv (.int a) (.int b) = decide (a = b) := by simp only [PyData.eqv]; by_cases h : a = b <;> simp [h]
def isI : D → Bool
  | .int _ => true
  | _ => false
def isS : D → Bool
  | .str _ => true
  | _ => false
theorem mem_int {xs : List D} {x : D} (h : xs.all isI = true) (hx : x ∈ xs) : ∃ i, x = .int i := by
  have := List.all_eq_true.mp h x hx
  cases x <;> first | exact ⟨_, rfl⟩ | cases this
theorem mem_str {xs : List D} {x : D} (h : xs.all isS = true) (hx : x ∈ xs) : ∃ i, x = .str i := by
  have := List.all_eq_true.mp h x hx
  cases x <;> first | exact ⟨_, rfl⟩ | cases this
theorem atI_mem {xs : List D} {k : Int} (h1 : 0 ≤ k) (h2 : k < xs.length) : ∃ x, x ∈ xs ∧ atI xs k = some x := by
  refine ⟨xs[k.toNat]'(by omega), List.getElem_mem _, ?_⟩
  unfold atI ixN
  rw [if_pos h1, if_pos h2]
  show xs[k.toNat]? = _
  rw [List.getElem?_eq_getElem]
theorem huOf {A : Around} {k : Nat} (hr : Room k A) : A.units + 1 < cLine := Nat.lt_of_le_of_lt (Nat.add_le_add_left (by decide : 1 ≤ 64) _) hr.units
end DL

set_option Elab.async false
set_option linter.all false
set_option maxRecDepth 100000
set_option maxHeartbeats 4000000
set_option autoImplicit false
namespace DL
open PySem L2
/-! ### the rules with the fragment told apart (inside a comprehension the frame's K must not hang on the block) -/
section
variable {X : Cx} {K : PySem.W.Frag}
theorem k_add (h : X.K = K) : OpR X (binaryOp .Add) (rAddA K) := by subst h; exact op_addA
theorem k_eq (h : X.K = K) (hu : X.A.units + 64 < cLine) : OpR X (compareOp .Eq) (fun x y H Q => rEq x y H Q ∨ rEqD K x y H Q) := by subst h; exact op_eq.or (op_eqD hu)
theorem k_ne (h : X.K = K) (hu : X.A.units + 64 < cLine) : OpR X (compareOp .NotEq) (fun x y H Q => rNe x y H Q ∨ rNeD K x y H Q) := by subst h; exact op_ne.or (op_neD hu)
theorem k_in (h : X.K = K) : OpR X (compareOp .In) (rIn K false) := by subst h; exact op_in_seq
theorem k_nin (h : X.K = K) : OpR X (compareOp .NotIn) (rIn K true) := by subst h; exact op_notIn_seq
theorem k_ix (h : X.K = K) : IxR X (rIx K) := by subst h; exact ix_seq
theorem k_sl (h : X.K = K) : L2.SlR X (rSlAny K) := by subst h; exact sl_any
theorem k_repr (h : X.K = K) (hA : X.A.guards = some []) (hu : X.A.units + 64 < cLine) : CallR X (.builtin "repr") (rReprP K) := by subst h; exact call_reprP hA hu
theorem k_sum (h : X.K = K) (hc : X.calm = true) : CallR X (.builtin "sum") (rSum K) := by subst h; exact cr_sum hc
theorem k_max (h : X.K = K) (hc : X.calm = true) : CallR X (.builtin "max") (rMax K) := by subst h; exact cr_max hc
theorem k_min (h : X.K = K) (hc : X.calm = true) : CallR X (.builtin "min") (rMin K) := by subst h; exact cr_min hc
theorem k_any (h : X.K = K) (hc : X.calm = true) : CallR X (.builtin "any") (rAny K) := by subst h; exact cr_any hc
theorem k_all (h : X.K = K) (hc : X.calm = true) : CallR X (.builtin "all") (rAll K) := by subst h; exact cr_all hc
theorem k_sorted (h : X.K = K) : CallR X (.builtin "sorted") (rSortedI K) := by subst h; exact cr_sortedI
theorem k_list (h : X.K = K) : CallR X (.type "list") (fun xs H Q => ∃ p ys, xs = [.ref p] ∧ (SqL K H p ys ∨ SqT K H p ys) ∧ ∀ l, H l = none → Q (.ref l) (upd H l (.lst ys))) := by subst h; exact call_list_of
theorem k_tuple (h : X.K = K) : CallR X (.type "tuple") (fun xs H Q => ∃ p ys, xs = [.ref p] ∧ ((SqL K H p ys ∧ ∀ l, H l = none → Q (.ref l) (upd H l (.tup ys))) ∨ (SqT K H p ys ∧ Q (.ref p) H))) := by subst h; exact call_tuple_of
theorem k_len (h : X.K = K) : CallR X (.builtin "len") (fun xs H Q => ∃ x n, xs = [x] ∧ LenV K x H n ∧ Q (.int n) H) := by subst h; exact call_len
theorem k_gtup {es : List Expr} {k : Nat} {t : TGs} {n : Nat} {pos : Pos} (h : X.K = K) (hc : X.calm = true) (hp : PGs X es t) (hn : (assignEach es X.env).length = n := by rfl) (hst : (assignEach es X.env).findIdx? (·.1) = none := by rfl) : PG X (.Tuple es k pos) (gTup K n t) := by subst h; exact pg_tup hc hp hn hst
section
variable {tg : Expr} {tl : TE} {l : Expr} {ta : TA} {e e2 : Expr} {p pos tpos kp kp2 : Pos} {elts : List Expr} {kk k3 : Nat} {sf : Bool}
theorem k_iany (h : X.K = K) (hl : PE X l tl) : PI X tg l (iAny K tl) := by subst h; exact pi_any hl
theorem k_enum (h : X.K = K) (hg : Gl X "enumerate") (hm : X.mg "enumerate" = none) (ha : PA X [e] ta) (hs : starEach [e] X.env = [(false, eval e X.env)] := by rfl) :
    PI X (.Tuple elts kk tpos) (.Call (.Name "enumerate" p) [e] [] pos) (iEnumA K ta) := by subst h; exact pi_enumA hg hm ha hs
theorem k_zip (h : X.K = K) (hg : Gl X "zip") (hm : X.mg "zip" = none) (ha : PA X [e, e2] ta)
    (hs : starEach [e, e2] X.env = (false, eval e X.env) :: starEach [e2] X.env := by rfl) (hpl : (backTo pos (starEach [e2] X.env)).any (·.1) = false := by rfl) :
    PI X (.Tuple elts kk tpos) (.Call (.Name "zip" p) [e, e2] [] pos) (iZipB false K ta) := by subst h; exact pi_zipB hg hm ha hs hpl
theorem k_zips (h : X.K = K) (hg : Gl X "zip") (hm : X.mg "zip" = none) (ha : PA X [e, e2] ta)
    (he : backTo pos (starEach [e, e2] X.env) = (false, eval e X.env) :: backTo pos (starEach [e2] X.env) := by rfl) (hpl : (backTo pos (starEach [e, e2] X.env)).any (·.1) = false := by rfl) :
    PI X (.Tuple elts kk tpos) (.Call (.Name "zip" p) [e, e2] [⟨some "strict", .Constant (.bool sf) k3 kp, kp2⟩] pos) (iZipB sf K ta) := by subst h; exact pi_zipS hg hm ha he hpl
end
end
end DL

set_option Elab.async false
set_option linter.all false
set_option maxRecDepth 100000
set_option maxHeartbeats 4000000
set_option autoImplicit false
namespace DL
open PySem PySem.Spec PyProof.Rows L2
/-! ### tuple(d) -/
section
variable {prog : Program} {w : World} {A : Around} {E : Value → Shared → Prop} {s : Shared} {T : String} {r d : Addr} {n : Nat} {P : Nat → Value → Prop} {OK : Heap → Prop}
theorem code_tuple_new_kdl {Q₁ : Value → Shared → Prop} (K : PySem.W.KdlSrc prog w T r d n P OK) (hh : A.handled = none) (hok : OK s.heap) (hn : n ≤ sizeLine)
    (h : ∀ (h' : Heap) (tk : Nat) (acc : Array Value), (∀ b o, s.heap.get? b = some o → h'.get? b = some o) → ItemsOf P acc n →
      Q₁ (.ref h'.objs.size) { s with heap := h'.push { cls := .type "tuple", data := .seq acc }, toks := tk }) :
    codeAny (model prog w) A (.call (.builtin "tuple.__new__") ⟨[.type "tuple", .ref r], []⟩) (wants Q₁ E) s := by
  refine codeAny_of_tree ?_
  show wpAny _ A.in1 (do checkBuiltinCall "tuple.__new__" ⟨[.type "tuple", .ref r], []⟩; again (.builtin "tuple.__new__" ⟨[.type "tuple", .ref r], []⟩)) _ _ s
  refine wpAny_bind (wpAny_of_eq (F.newCall_tuple_1 _) (wpAny_pure ⟨plainId_quiet F.plain_tuple_new _, codeAny_builtin F.entry_tuple_new ?_⟩))
  rw [Around.under_plainId F.plain_tuple_new _]
  have hsub := sub_tuple_self
  have hinit := init_tuple_lookup
  have hmh := madeHere_tuple
  have hTI : s.TypeIs (.ref r) T := K.type s hok
  have hnt : (Value.type T == Value.type "tuple") = false := K.notTuple
  have hh1 : A.in1.handled = none := hh
  wp_walk using wpAny_typeOf hTI, PySem.W.kdu_collect (A := A.in1) K hh1 hok hn
  intro h' tk acc hk hacc
  show wpAny _ _ (Builtin.Tuple.tupleExact acc.toList.toArray >>= fun v => ret v) _ _ _
  unfold Builtin.Tuple.tupleExact
  refine wpAny_bind (wpAny_newObj_type ?_ (by show acc.toList.toArray.size ≤ sizeLine; simp only [Array.toArray_toList]; rw [hacc.1]; exact hn))
  refine wpAny_pure ?_
  have e : acc.toList.toArray = acc := by simp
  rw [e]
  exact h h' tk acc hk hacc
end

/-! ### tuple(d), list(d), len(d): keys of a dict -/
section
variable {X : Cx}
theorem call_tuple_dT (hc : X.calm = true) : CallR X (.type "tuple") (fun xs H Q => ∃ d kvs, xs = [V.ref d] ∧ Rd H d (.dT kvs) ∧ ∀ p bs, H p = none → IsKeys H kvs bs → Q (.ref p) (upd H p (.tup (bs.map V.ref)))) := by
  intro pins s σ H xs us Q I r h
  obtain ⟨d, kvs, rfl, hd, q⟩ := h
  obtain ⟨u, rfl, rx⟩ := r.one
  cases rx
  obtain ⟨z, hs, ks, pr, o, es, ep, ho, hx, hdt, he, hn⟩ := (show ObjOk X.prog X.w H s.heap d (.dT kvs) from hd.ok I.hok)
  have l1 : es.size = ks.length := size_of_entries he
  have l2 : kvs.length = ks.length := Paired.length pr
  have hz : ((ks.map fun x => x.2.1).map V.ref).length ≤ sizeLine := by rw [List.length_map, List.length_map]; omega
  refine callType_codes (Q₁ := fun obj s₁ => s₁.TypeIs obj "tuple" ∧ EP X pins σ Q obj s₁) F.called_tuple (F.typeCall_tuple_1 _) F.entry_object_init
    (code_tuple_new_kdl (A := X.A.in1) (kdl_raw hs hx hdt) (I.ok.hd hc) ho (by omega) fun h' tk acc hk it => ⟨⟨_, Heap.get?_push_size _ rfl, rfl⟩, ?_⟩) fun obj s₁ h₁ => ?_
  · have ea : acc.toList = ks.map fun x => Value.ref x.2.1 := by
      have hl : acc.toList.length = ks.length := by rw [Array.length_toList, it.1]; exact l1
      apply List.ext_getElem?
      intro j
      rw [List.getElem?_map]
      cases hj : acc.toList[j]? with
      | none =>
        have h1 := List.getElem?_eq_none_iff.mp hj
        rw [List.getElem?_eq_none (by omega)]
        all_goals rfl
      | some v =>
        obtain ⟨en, hen, hv⟩ := it.2 j v (by rw [← Array.getElem?_toList]; exact hj)
        have qe := entry_at he j
        rw [hen] at qe
        cases hb : ks[j]? with
        | none =>
          rw [hb] at qe
          exact nomatch (show some en = none from qe)
        | some b =>
          rw [hb] at qe
          have e2 : en = entryOfKey (tupleKind (mixKind X.prog X.w)) b := Option.some.inj qe
          rw [hv, e2]
          all_goals rfl
    have eb : acc.toList = (ks.map fun x => x.2.1).map Value.ref := by rw [ea, List.map_map]; all_goals rfl
    have rv : Vals ((ks.map fun x => x.2.1).map V.ref) acc.toList := by rw [eb]; exact vals_refs _
    have I1 : Inv X pins σ H { s with heap := h', toks := tk } := I.kept hk
    have ht : ({ cls := .type "tuple", data := .seq acc } : Obj) = { cls := .type "tuple", data := .seq acc.toList.toArray } := by rw [Array.toArray_toList]
    have I2 : Inv X pins σ (upd H h'.objs.size (.tup ((ks.map fun x => x.2.1).map V.ref))) { s with heap := h'.push { cls := .type "tuple", data := .seq acc }, toks := tk } :=
      I1.laid (t' := tk) (fun c o e => Heap.get?_push_of_some _ e) (Nat.le_refl _) (show ObjOk X.prog X.w _ _ _ (.tup ((ks.map fun x => x.2.1).map V.ref)) from ⟨hz, acc.toList, rv, by rw [ht]; exact IsTup.new _ _⟩)
    exact ⟨.ref h'.objs.size, _, I2, rfl, q _ _ (I1.hok.fresh (Nat.le_refl _)) (isKeys_of pr)⟩
  · exact ⟨h₁.1, F.args_object_init_2 obj _, object_init_meets F.called_tuple.init.lookup F.called_tuple.made (by decide) X.prog X.w X.A.in1 _ s₁ ⟨h₁.1, rfl, h₁.2⟩⟩
theorem k_tupleA {K : PySem.W.Frag} (h : X.K = K) (hc : X.calm = true) : CallR X (.type "tuple") (fun xs H Q => (∃ p ys, xs = [.ref p] ∧ ((SqL K H p ys ∧ ∀ l, H l = none → Q (.ref l) (upd H l (.tup ys))) ∨ (SqT K H p ys ∧ Q (.ref p) H))) ∨
    ∃ d kvs, xs = [V.ref d] ∧ Rd H d (.dT kvs) ∧ ∀ p bs, H p = none → IsKeys H kvs bs → Q (.ref p) (upd H p (.tup (bs.map V.ref)))) := (k_tuple h).or (call_tuple_dT hc)
theorem k_listA {K : PySem.W.Frag} (h : X.K = K) (hc : X.calm = true) : CallR X (.type "list") (fun xs H Q => (∃ p ys, xs = [.ref p] ∧ (SqL K H p ys ∨ SqT K H p ys) ∧ ∀ l, H l = none → Q (.ref l) (upd H l (.lst ys))) ∨
    ((∃ d kvs, xs = [V.ref d] ∧ Rd H d (.dT kvs) ∧ ∀ p bs, H p = none → IsKeys H kvs bs → Q (.ref p) (upd H p (.lst (bs.map V.ref)))) ∨ rListD xs H Q)) := (k_list h).or ((call_list_dT hc).or (call_list_dK hc))
def rLenDK : List V → Hp → VK → Prop := fun xs H Q => ∃ d kvs, xs = [.ref d] ∧ H d = some (.dK kvs) ∧ Q (.int ((kvs.length : Nat) : Int)) H
end
/-! ### keys as data -/
theorem rp_key {K : PySem.W.Frag} {F : Hp} (k : Key) : Rp K F (kV k) (keyD k) := by
  cases k with
  | inl i => exact .int i
  | inr x => exact .str x
theorem rpA_key {K : PySem.W.Frag} {F : Hp} (k : List Key) : RpA K F (k.map kV) (k.map keyD) := by
  induction k with
  | nil => exact .nil
  | cons a k ih => exact .cons (rp_key a) ih
/-- the keys of a dict with tuples as keys -/
def keysT (es : List (D × D)) : List D := es.map (·.1)
theorem rpA_keysT {K : PySem.W.Frag} {F H : Hp} {M : AP} (hF : F = Fz H M) (hm : ∀ a, M a → MuO (H a)) {kvs : List (List Key × V)} {es : List (D × D)} (r : RpT K F kvs es) {bs : List Addr} (h : IsKeys H kvs bs) : RpA K F (bs.map V.ref) (keysT es) := by
  induction es generalizing kvs bs with
  | nil => cases r; cases h; exact .nil
  | cons e es ih =>
    cases r with
    | cons r rr =>
      cases h with
      | cons h hh =>
        refine .cons (.tup ?_ (rpA_key _)) (ih rr hh)
        rw [hF]
        refine fz_of h fun m => ?_
        have := hm _ m
        rw [h] at this
        exact this
theorem rpA_keysK {K : PySem.W.Frag} {F : Hp} {kvs : List (Key × V)} {es : List (D × D)} (r : RpK K F kvs es) : RpA K F (kvs.map fun kv => kV kv.1) (es.map (·.1)) := by
  induction es generalizing kvs with
  | nil => cases r; exact .nil
  | cons e es ih => cases r with | cons r rr => exact .cons (rp_key _) (ih rr)
/-- what tuple(x), list(x) walk -/
def itemsD : D → Option (List D)
  | .list ds => some ds
  | .tuple ds => some ds
  | .dict es => match es with
    | (.none, .none) :: r => some (keysT r)
    | es => some (es.map (·.1))
  | _ => none
section
variable {K : PySem.W.Frag}
theorem isT_true {es : List (D × D)} (h : isT es = true) : ∃ r, es = tmark :: r := by
  unfold isT at h
  split at h
  · exact ⟨_, rfl⟩
  · cases h
theorem RpT.length {F : Hp} {kvs : List (List Key × V)} {es : List (D × D)} (h : RpT K F kvs es) : kvs.length = es.length := by
  induction es generalizing kvs with
  | nil => cases h; rfl
  | cons e es ih => cases h with | cons h r => simp [ih r]
def fTupleA : F1 := fun x Q => match x with
  | .list ds => Q (.fz (.tuple ds))
  | .tuple ds => Q (.fz (.tuple ds))
  | .dict es => match es with
    | [] => False
    | e :: r => e = tmark ∧ Q (.fz (.tuple (keysT r)))
  | _ => False
theorem cl_tupleA : CaL K (fun xs H Q => (∃ p ys, xs = [.ref p] ∧ ((SqL K H p ys ∧ ∀ l, H l = none → Q (.ref l) (upd H l (.tup ys))) ∨ (SqT K H p ys ∧ Q (.ref p) H))) ∨
    ∃ d kvs, xs = [V.ref d] ∧ Rd H d (.dT kvs) ∧ ∀ p bs, H p = none → IsKeys H kvs bs → Q (.ref p) (upd H p (.tup (bs.map V.ref)))) (fA1 fTupleA) := by
  intro f g σ H ρ vs ds Q R hK hR hA hF0 k
  subst hK
  obtain ⟨d, rfl, hF⟩ := fA1_some hF0
  obtain ⟨v, rfl, h⟩ := hA.one
  cases d with
  | list ds =>
    obtain ⟨a, xs, rfl, e1, r1⟩ := h.list fz_sub
    exact .inl ⟨a, xs, rfl, .inl ⟨.inl (.inl e1), OEnd.tup k hR r1 hF⟩⟩
  | tuple ds =>
    obtain ⟨a, xs, rfl, e1, r1, z1⟩ := h.tuple fz_sub
    exact .inl ⟨a, xs, rfl, .inr ⟨e1, OEnd.fz k hR (.tup z1 r1) hF⟩⟩
  | dict es =>
    cases es with
    | nil => exact hF.elim
    | cons e es =>
      obtain ⟨rfl, hF⟩ := hF
      obtain ⟨a, kvs, rfl, e1, r1⟩ := h.dictT fz_sub
      exact .inr ⟨a, kvs, rfl, .inl e1, fun p bs hp hb => OEnd.tup k hR (rpA_keysT rfl hR.mU r1 hb) hF p hp⟩
  | none => exact hF.elim
  | bool _ => exact hF.elim
  | int _ => exact hF.elim
  | str _ => exact hF.elim
def fListA : F1 := fun x Q => match x with
  | .list ds => Q (.nw (.list ds))
  | .tuple ds => Q (.nw (.list ds))
  | .dict es => useB (isT es) (Q (.nw (.list (keysT es.tail)))) (Q (.nw (.list (es.map (·.1)))))
  | _ => False
theorem cl_listA : CaL K (fun xs H Q => (∃ p ys, xs = [.ref p] ∧ (SqL K H p ys ∨ SqT K H p ys) ∧ ∀ l, H l = none → Q (.ref l) (upd H l (.lst ys))) ∨
    ((∃ d kvs, xs = [V.ref d] ∧ Rd H d (.dT kvs) ∧ ∀ p bs, H p = none → IsKeys H kvs bs → Q (.ref p) (upd H p (.lst (bs.map V.ref)))) ∨ rListD xs H Q)) (fA1 fListA) := by
  intro f g σ H ρ vs ds Q R hK hR hA hF0 k
  subst hK
  obtain ⟨d, rfl, hF⟩ := fA1_some hF0
  obtain ⟨v, rfl, h⟩ := hA.one
  cases d with
  | list ds =>
    obtain ⟨a, xs, rfl, e1, r1⟩ := h.list fz_sub
    exact .inl ⟨a, xs, rfl, .inl (.inl (.inl e1)), OEnd.lst k hR r1 hF⟩
  | tuple ds =>
    obtain ⟨a, xs, rfl, e1, r1, z1⟩ := h.tuple fz_sub
    exact .inl ⟨a, xs, rfl, .inr e1, OEnd.lst k hR r1 hF⟩
  | dict es =>
    have hF : useB (isT es) (Q (.nw (.list (keysT es.tail)))) (Q (.nw (.list (es.map (·.1))))) := hF
    cases e : isT es with
    | true =>
      rw [e] at hF
      replace hF := useB_t hF
      obtain ⟨r, rfl⟩ := isT_true e
      obtain ⟨a, kvs, rfl, e1, r1⟩ := h.dictT fz_sub
      exact .inr (.inl ⟨a, kvs, rfl, .inl e1, fun p bs hp hb => OEnd.lst k hR (rpA_keysT rfl hR.mU r1 hb) hF p hp⟩)
    | false =>
      rw [e] at hF
      replace hF := useB_f hF
      obtain ⟨a, kvs, rfl, e1, r1⟩ := h.dict fz_sub e
      exact .inr (.inr ⟨a, kvs, rfl, e1, OEnd.lst k hR (rpA_keysK r1) hF⟩)
  | none => exact hF.elim
  | bool _ => exact hF.elim
  | int _ => exact hF.elim
  | str _ => exact hF.elim
/-- len(x), dicts too -/
def lenDA : D → Option Nat
  | .list ds => some ds.length
  | .tuple ds => some ds.length
  | .str z => if z.length ≤ sizeLine then some z.length else none
  | .dict es => if isT es = true then some (es.length - 1) else none
  | _ => none
def fLenA : F1 := fun x Q => match lenDA x with
  | some n => Q (.fz (.int (n : Int)))
  | none => False
theorem cl_lenA : CaL K (fun xs H Q => (∃ x n, xs = [x] ∧ LenV K x H n ∧ Q (.int n) H) ∨ rLenT xs H Q) (fA1 fLenA) := by
  intro f g σ H ρ vs ds Q R hK hR hA hF0 k
  have hF0' := hF0
  obtain ⟨d, rfl, hF⟩ := fA1_some hF0
  cases d with
  | dict es =>
    subst hK
    obtain ⟨v, rfl, h⟩ := hA.one
    unfold fLenA lenDA at hF
    dsimp only at hF
    split at hF
    · rename_i n e
      split at e
      · rename_i ht
        obtain ⟨r, rfl⟩ := isT_true ht
        cases e
        obtain ⟨a, kvs, rfl, e1, r1⟩ := h.dictT fz_sub
        refine .inr ⟨a, kvs, rfl, e1, OEnd.fz k hR (.int _) ?_⟩
        rw [r1.length]
        exact hF
      · cases e
    · exact hF.elim
  | list ds => exact .inl (cl_len f g σ H ρ vs _ Q R hK hR hA (show fA1 fLen [.list ds] Q from hF) k)
  | tuple ds => exact .inl (cl_len f g σ H ρ vs _ Q R hK hR hA (show fA1 fLen [.tuple ds] Q from hF) k)
  | str z => exact .inl (cl_len f g σ H ρ vs _ Q R hK hR hA (show fA1 fLen [.str z] Q from hF) k)
  | none => exact hF.elim
  | bool _ => exact hF.elim
  | int _ => exact hF.elim
theorem k_lenA {X : Cx} (h : X.K = K) : CallR X (.builtin "len") (fun xs H Q => (∃ x n, xs = [x] ∧ LenV K x H n ∧ Q (.int n) H) ∨ rLenT xs H Q) := (k_len h).or call_len_dT
end
end DL

set_option Elab.async false
set_option linter.all false
set_option maxRecDepth 100000
set_option maxHeartbeats 4000000
set_option autoImplicit false
namespace DL
open PySem L2

/-! ### dicts with tuples as keys -/
def keysOf : List D → Option (List Key)
  | [] => some []
  | d :: ds => match keyOf d with
    | some k => match keysOf ds with
      | some ks => some (k :: ks)
      | none => none
    | none => none
def tkOf : D → Option (List Key)
  | .tuple ds => keysOf ds
  | _ => none
theorem keysOf_keyD (ks : List Key) : keysOf (ks.map keyD) = some ks := by
  induction ks with
  | nil => rfl
  | cons k ks ih => simp only [List.map_cons, keysOf, keyOf_keyD, ih]
theorem tkOf_key (ks : List Key) : tkOf (.tuple (ks.map keyD)) = some ks := keysOf_keyD ks
theorem kV_of_keys {K : PySem.W.Frag} {F : Hp} {ks : List Key} {vs : List V} (h : RpA K F vs (ks.map keyD)) : vs = ks.map kV := by
  induction ks generalizing vs with
  | nil => cases h; rfl
  | cons k ks ih =>
    cases h with
    | cons h r => rw [ih r, keyOf_kV h (keyOf_keyD k)]; rfl
def lookT : List (D × D) → List Key → Option D
  | [], _ => none
  | (a, d) :: r, k => if tkOf a = some k then some d else lookT r k
def hasT (es : List (D × D)) (k : List Key) : Bool := es.any fun e => decide (tkOf e.1 = some k)
def putT (es : List (D × D)) (k : List Key) (x : D) : List (D × D) := if hasT es k = true then es.map (fun e => if tkOf e.1 = some k then (e.1, x) else e) else es ++ [(.tuple (k.map keyD), x)]
section
variable {K : PySem.W.Frag} {F : Hp}
theorem RpT.look {kvs : List (List Key × V)} {es : List (D × D)} (h : RpT K F kvs es) (k : List Key) : (valV kvs k = none ∧ lookT es k = none) ∨ ∃ v d, valV kvs k = some v ∧ lookT es k = some d ∧ Rp K F v d := by
  induction es generalizing kvs with
  | nil => cases h; exact .inl ⟨rfl, rfl⟩
  | cons e es ih =>
    cases h with
    | @cons k0 v0 d0 vs ds h r =>
      unfold lookT
      rw [tkOf_key]
      by_cases q : k0 = k
      · subst q
        refine .inr ⟨v0, d0, ?_, by rw [if_pos rfl], h⟩
        simp [valV]
      · rw [if_neg (fun z => q (Option.some.inj z))]
        have e1 : valV ((k0, v0) :: vs) k = valV vs k := by simp [valV, q]
        rw [e1]
        exact ih r
theorem RpT.has {kvs : List (List Key × V)} {es : List (D × D)} (h : RpT K F kvs es) (k : List Key) : (kvs.any fun kv => decide (kv.1 = k)) = hasT es k := by
  induction es generalizing kvs with
  | nil => cases h; rfl
  | cons e es ih =>
    cases h with
    | @cons k0 v0 d0 vs ds h r =>
      show (decide (k0 = k) || _) = (decide (tkOf (.tuple (k0.map keyD)) = some k) || hasT es k)
      rw [ih r, tkOf_key]
      congr 1
      by_cases q : k0 = k
      · rw [q]; simp
      · simp [q]
theorem RpT.append {kvs kvs' : List (List Key × V)} {es es' : List (D × D)} (h : RpT K F kvs es) (h' : RpT K F kvs' es') : RpT K F (kvs ++ kvs') (es ++ es') := by
  induction es generalizing kvs with
  | nil => cases h; exact h'
  | cons e es ih => cases h with | cons h r => exact .cons h (ih r)
theorem RpT.put {kvs : List (List Key × V)} {es : List (D × D)} (h : RpT K F kvs es) (k : List Key) {v : V} {d : D} (hv : Rp K F v d) : RpT K F (putK kvs k v) (putT es k d) := by
  unfold putK putT
  rw [h.has k]
  by_cases q : hasT es k = true
  · rw [if_pos q, if_pos q]
    clear q
    induction es generalizing kvs with
    | nil => cases h; exact .nil
    | cons e es ih =>
      cases h with
      | @cons k0 v0 d0 vs ds h r =>
        rw [List.map_cons, List.map_cons]
        by_cases q : k0 = k
        · rw [if_pos q, if_pos (by rw [tkOf_key, q])]
          exact .cons hv (ih r)
        · rw [if_neg q, if_neg (by rw [tkOf_key]; exact fun z => q (Option.some.inj z))]
          exact .cons h (ih r)
  · rw [if_neg q, if_neg q]
    exact h.append (.cons hv .nil)
theorem RN.keys {H : Hp} {v : V} {ks : List Key} (e : Same F H) (h : RN K F H v (.tuple (ks.map keyD))) : ∃ b, v = .ref b ∧ F b = some (.tup (ks.map kV)) := by
  obtain ⟨a, xs, rfl, _, r, q⟩ := h.tuple e
  rw [kV_of_keys r] at q
  exact ⟨a, rfl, q⟩
end
section
variable {K : PySem.W.Frag} {td ty tv : TE} {dd dk dv : DE} {i : Nat}
def wDT (o : Option D) (k : List (D × D) → Prop) : Prop := match o with
  | some (.dict (e :: es)) => e = tmark ∧ k es
  | _ => False
theorem wDT_some {o : Option D} {k : List (D × D) → Prop} (h : wDT o k) : ∃ es, o = some (.dict (tmark :: es)) ∧ k es := by
  unfold wDT at h
  split at h
  · obtain ⟨rfl, h⟩ := h
    exact ⟨_, rfl, h⟩
  · exact h.elim
/-- d[k], k a tuple -/
def dDGetT (dd dk : DE) : DE := fun ρ Q => dd ρ fun r ρ1 => dk ρ1 fun q ρ2 => wDT (res ρ2 r) fun es => ∃ ks, res ρ2 q = some (.tuple (ks.map keyD)) ∧ ∃ d, lookT es ks = some d ∧ Q (.fz d) ρ2
theorem le_dgetT (h : LE K td dd) (h' : LE K ty dk) : LE K (tDGet td ty) (dDGetT dd dk) := by
  intro f g σ H ρ Q R hK hR hd k
  refine h.opd hK hR hd fun v H1 g1 ρ1 r1 R1 G1 O1 q1 => ?_
  refine h'.opd hK R1 q1 fun u H2 g2 ρ2 r2 R2 G2 O2 q2 => ?_
  obtain ⟨es, e1, ks, e2, d, e3, q2⟩ := wDT_some q2
  obtain ⟨a, kvs, rfl, hd, hr⟩ := ((O1.mono G2).rn R2 e1).dictT fz_sub
  obtain ⟨b, rfl, hb⟩ := (O2.rn R2 e2).keys fz_sub
  rcases hr.look ks with ⟨_, z⟩ | ⟨w, d', z1, z2, z3⟩
  · rw [e3] at z; cases z
  · rw [e3] at z2; cases z2
    refine ⟨a, w, rfl, .inr ⟨kvs, ks, b, .inl hd, rfl, fz_sub _ _ hb, z1.symm⟩, ?_⟩
    exact k w H2 g2 ρ2 (.fz d) R2 (G1.trans G2) z3 q2
/-- k in d, k a tuple -/
def dDInT (neg : Bool) (dk dd : DE) : DE := fun ρ Q => dk ρ fun q ρ1 => dd ρ1 fun r ρ2 => wDT (res ρ2 r) fun es => ∃ ks, res ρ2 q = some (.tuple (ks.map keyD)) ∧ ∃ b, (lookT es ks).isSome = b ∧ Q (.fz (.bool (neg != b))) ρ2
theorem le_dinT (h' : LE K ty dk) (h : LE K td dd) : LE K (tDIn ty td) (dDInT false dk dd) := by
  intro f g σ H ρ Q R hK hR hd k
  refine h'.opd hK hR hd fun u H1 g1 ρ1 r1 R1 G1 O1 q1 => ?_
  refine h.opd hK R1 q1 fun v H2 g2 ρ2 r2 R2 G2 O2 q2 => ?_
  obtain ⟨es, e1, ks, e2, _, rfl, q2⟩ := wDT_some q2
  obtain ⟨a, kvs, rfl, hd, hr⟩ := (O2.rn R2 e1).dictT fz_sub
  obtain ⟨b, rfl, hb⟩ := ((O1.mono G2).rn R2 e2).keys fz_sub
  refine ⟨a, valV kvs ks, rfl, .inr ⟨kvs, ks, b, .inl hd, rfl, fz_sub _ _ hb, rfl⟩, ?_⟩
  have e : (valV kvs ks).isSome = (lookT es ks).isSome := by
    rcases hr.look ks with ⟨z0, z⟩ | ⟨w, d', z1, z2, z3⟩
    · rw [z0, z]; rfl
    · rw [z1, z2]; rfl
  rw [e]
  exact k _ H2 g2 ρ2 (.fz (.bool _)) R2 (G1.trans G2) (Rp.bl _) (by simpa using q2)
theorem le_dninT (h' : LE K ty dk) (h : LE K td dd) : LE K (tDNotIn ty td) (dDInT true dk dd) := by
  intro f g σ H ρ Q R hK hR hd k
  refine h'.opd hK hR hd fun u H1 g1 ρ1 r1 R1 G1 O1 q1 => ?_
  refine h.opd hK R1 q1 fun v H2 g2 ρ2 r2 R2 G2 O2 q2 => ?_
  obtain ⟨es, e1, ks, e2, _, rfl, q2⟩ := wDT_some q2
  obtain ⟨a, kvs, rfl, hd, hr⟩ := (O2.rn R2 e1).dictT fz_sub
  obtain ⟨b, rfl, hb⟩ := ((O1.mono G2).rn R2 e2).keys fz_sub
  refine ⟨a, valV kvs ks, rfl, .inr ⟨kvs, ks, b, .inl hd, rfl, fz_sub _ _ hb, rfl⟩, ?_⟩
  have e : (valV kvs ks).isSome = (lookT es ks).isSome := by
    rcases hr.look ks with ⟨z0, z⟩ | ⟨w, d', z1, z2, z3⟩
    · rw [z0, z]; rfl
    · rw [z1, z2]; rfl
  rw [e]
  exact k _ H2 g2 ρ2 (.fz (.bool _)) R2 (G1.trans G2) (Rp.bl _) (by simpa using q2)
/-- d[k] = v, d one's own, k a tuple -/
def dDPutT (i : Nat) (dk dv : DE) : DS := fun DD ρ => dv ρ fun r ρ1 => wF (frz ρ1 r) fun d ρ2 => (∃ es, ρ2[i]? = some (some (.ow (.dict (tmark :: es))))) ∧ dk ρ2 fun q ρ3 => ∃ es, ρ3[i]? = some (some (.ow (.dict (tmark :: es)))) ∧ ∃ ks, res ρ3 q = some (.tuple (ks.map keyD)) ∧ es.length < sizeLine ∧ DD.nx (ρ3.set i (some (.ow (.dict (tmark :: putT es ks d)))))
theorem ls_dputT (h : LE K ty dk) (h' : LE K tv dv) : LS K (sDPut (tVar i) ty tv) (dDPutT i dk dv) := by
  intro f g σ H ρ DD E hK R hd l
  refine h'.opd hK R hd fun v H1 g1 ρ1 r1 R1 G1 O1 q1 => ?_
  obtain ⟨d, ρ2, e2, q1⟩ := wF_some q1
  obtain ⟨g2, R2, G2, hv⟩ := O1.frz R1 e2
  obtain ⟨⟨es0, e0⟩, q1⟩ := q1
  obtain ⟨w, w1, a, wa, m, h0, ns, rr⟩ := R2.slot i _ e0
  subst wa
  refine ⟨.ref a, w1, ?_⟩
  refine h.opd hK R2 q1 fun u H3 g3 ρ3 r3 R3 G3 O3 q3 => ?_
  obtain ⟨es, s4, ks, e5, hl, q3⟩ := q3
  obtain ⟨w', w2, a', wa', m', h0', ns', r4⟩ := R3.slot i _ s4
  rw [w1] at w2; cases w2; cases wa'
  obtain ⟨b, rfl, hb⟩ := (O3.rn R3 e5).keys fz_sub
  obtain ⟨a2, kvs, ea, hk, hr⟩ := (show RN f.K (Fz H3 g3.M) H3 (.ref a) (.dict (tmark :: es)) from .inr ⟨a, rfl, r4⟩).dictT fz_sub
  cases ea
  refine ⟨a, _, rfl, DPut.t (k := ks) hk (fz_sub _ _ hb) (by rw [hr.length]; exact hl), ?_⟩
  obtain ⟨R5, G5⟩ := R3.mutOwn (o := .dT (putK kvs ks v)) (d' := .dict (tmark :: putT es ks d)) s4 w1 (.dct upd_same (hr.put ks (hv.mono G3.fz)))
  exact l.nx g3 σ _ _ R5 (((G1.trans G2).trans G3).trans G5) q3
end
end DL

set_option Elab.async false
set_option linter.all false
set_option maxRecDepth 100000
set_option maxHeartbeats 4000000
set_option autoImplicit false
namespace L2
open PySem PySem.Spec PyProof.Rows HT
section
variable {prog : Program} {w : World} {A : Around} {E : Value → Shared → Prop} {s : Shared}
theorem dl_sliceRev {sl : Addr} {vs : Value} {n : Nat} {Q : Int × Int × Nat → Shared → Prop} (hs : s.heap.IsSliceOf sl .none .none vs) (ps : IsPart vs (some (-1)))
    (h : Q ((n : Int) - 1, -1, n) s) : wpAny (model prog w) A (Builtin.Slice.sliceApplied (.ref sl) (pure (n : Int))) Q E s := by
  obtain ⟨os, hos, hcs, hds⟩ := id hs
  unfold Builtin.Slice.sliceApplied Builtin.Slice.sliceFields
  refine wpAny_bind (wpAny_bind (wpAny_field hos hds (x := .none) rfl (wpAny_bind (wpAny_field hos hds (x := .none) rfl (wpAny_bind (wpAny_field hos hds (x := vs) rfl (wpAny_pure ?_)))))))
  refine wpAny_bind (slicePart_ ps ?_)
  show wpAny _ _ (if ((-1 : Int) == 0) = true then _ else _) _ _ s
  rw [if_neg (by decide)]
  refine wpAny_bind (slicePart_none (wpAny_bind (slicePart_none (wpAny_bind (wpAny_pure ?_)))))
  have e1 : Builtin.Slice.sliceAdjust none none (-1) (n : Int) = ((n : Int) - 1, -1) := rfl
  have e2 : Builtin.Slice.slicePlaces ((n : Int) - 1) (-1) (-1) = n := by
    unfold Builtin.Slice.slicePlaces
    have h1 : ¬ ((-1 : Int) > 0) := by omega
    simp only [h1, if_false, show (- -1 : Int) = 1 by decide, Int.ediv_one]
    split <;> omega
  show wpAny _ _ (match Builtin.Slice.sliceAdjust none none (-1) (n : Int) with | (lo, hi) => pure (lo, (-1 : Int), Builtin.Slice.slicePlaces lo hi (-1))) _ _ s
  rw [e1]
  show wpAny _ _ (pure ((n : Int) - 1, (-1 : Int), Builtin.Slice.slicePlaces ((n : Int) - 1) (-1) (-1))) _ _ s
  rw [e2]
  exact wpAny_pure h
theorem dl_filterMap {f : Nat → Option Value} {g : Nat → Value} (l : List Nat) (h : ∀ m ∈ l, f m = some (g m)) : l.filterMap f = l.map g := by
  induction l with
  | nil => rfl
  | cons a l ih =>
    rw [List.filterMap_cons, h a List.mem_cons_self, List.map_cons]
    simp only
    rw [ih fun m hm => h m (List.mem_cons_of_mem _ hm)]
theorem dl_pickRev (xs : Array Value) : ((List.range xs.size).filterMap fun (m : Nat) => xs[(((xs.size : Nat) : Int) - 1 + (m : Int) * (-1)).toNat]?).toArray = xs.toList.reverse.toArray := by
  have hs : ∀ m (hm : m < xs.size), xs[(((xs.size : Nat) : Int) - 1 + (m : Int) * (-1)).toNat]? = some (xs.toList.reverse[m]'(by simpa using hm)) := fun m hm => by
    have e : (((xs.size : Nat) : Int) - 1 + (m : Int) * (-1)).toNat = xs.size - 1 - m := by omega
    rw [e, Array.getElem?_eq_getElem (by omega), List.getElem_reverse]
    simp
  rw [dl_filterMap (g := fun m => if hm : m < xs.size then xs.toList.reverse[m]'(by simpa using hm) else .none) _ fun m hm => by
    have hm := List.mem_range.mp hm
    rw [hs m hm, dif_pos hm]]
  congr 1
  apply List.ext_getElem
  · simp
  · intro i h1 h2
    have hi : i < xs.size := by simpa using h2
    rw [List.getElem_map]
    simp only [List.getElem_range]
    rw [dif_pos hi]
theorem dl_getItem_tuple_rev {t sl : Addr} {items : Array Value} {vs : Value} {Q : Value → Shared → Prop} (ht : IsTup s.heap t items) (hs : s.heap.IsSliceOf sl .none .none vs) (ps : IsPart vs (some (-1)))
    (h : Q (.ref s.heap.objs.size) { s with heap := s.heap.push { cls := .type "tuple", data := .seq items.toList.reverse.toArray } })
    (hsz : items.size ≤ sizeLine) : wpAny (model prog w) A (getItem (.ref t) (.ref sl)) Q E s := by
  have htake : sizeOk (.seq items.toList.reverse.toArray) := by
    show items.toList.reverse.toArray.size ≤ sizeLine
    rw [List.size_toArray, List.length_reverse, Array.length_toList]
    exact hsz
  obtain ⟨os, hos, hcs, hds⟩ := id hs
  have hTs : s.TypeIs (.ref sl) "slice" := ⟨os, hos, hcs⟩
  unfold getItem
  try with_reducible refine wpAny_holding ?_
  first | refine wpAny_bind (wpAny_pure ?_) | skip
  refine wpAny_bind (wpAny_sequenceKey ht.typeIs (by decide) ?_)
  refine wpAny_bind (wpAny_callSpecial?_slot (name := Str.ofString "__getitem__") ht.typeIs PyProof.Rows.slot_tuple_getitem
    (wpAny_call_entry PyProof.Rows.slot_tuple_getitem ht.typeIs entry_tuple_getitem ?_ (args_tuple_getitem _ _)))
  show wpAny _ _ (Builtin.Tuple.tupleItemsOf (.ref t) >>= _) _ _ s
  refine wpAny_bind (tupleItemsOf_ ht ?_)
  refine wpAny_bind (wpAny_typeOf hTs ?_)
  rw [if_pos (by decide)]
  refine wpAny_bind (dl_sliceRev hs ps ?_)
  have hno : ¬ ((((items.size : Nat) : Int) - 1 == 0 && (-1 : Int) == 1 && items.size == items.size) = true) := by
    intro q
    rw [Bool.and_eq_true, Bool.and_eq_true] at q
    exact absurd q.1.2 (by decide)
  show wpAny _ _ (if ((((items.size : Nat) : Int) - 1 == 0 && (-1 : Int) == 1 && items.size == items.size) = true) then _ else _) _ _ s
  rw [if_neg hno, dl_pickRev]
  first
    | exact wpAny_bind (m := Builtin.Tuple.tupleExact _) (wpAny_newObj_type (wpAny_pure ⟨_, rfl, wpAny_pure h⟩) htake)
    | exact wpAny_bind (m := Builtin.Tuple.tupleExact _) (wpAny_newObj_type (wpAny_bind (wpAny_pure (wpAny_pure ⟨_, rfl, wpAny_pure h⟩))) htake)
    | exact wpAny_bind (wpAny_bind (m := Builtin.Tuple.tupleExact _) (wpAny_newObj_type (wpAny_pure (wpAny_pure ⟨_, rfl, wpAny_pure h⟩)) htake))
    | exact wpAny_bind (wpAny_bind (m := Builtin.Tuple.tupleExact _) (wpAny_newObj_type (wpAny_pure ⟨_, rfl, wpAny_pure h⟩) htake))
end
/-- x[::-1] of a list or a tuple -/
def tRevA (K : PySem.W.Frag) (te : TE) : TE := fun σ H Q => te σ H fun x H1 => ∃ a xs, x = .ref a ∧
  ((SqL K H1 a xs ∧ ∀ p, H1 p = none → Q (.ref p) (upd H1 p (.lst xs.reverse))) ∨ (SqT K H1 a xs ∧ ∀ p, H1 p = none → Q (.ref p) (upd H1 p (.tup xs.reverse))))
section
variable {X : Cx} {K : PySem.W.Frag}
theorem pe_revA {e : Expr} {te : TE} {k : Nat} {p1 p2 p3 pos : Pos} (hK : X.K = K) (he : PE X e te) : PE X (.Subscript e (.Slice none none (some (.UnaryOp .USub (.Constant (.int 1) k p1) p2)) p3) pos) (tRevA K te) := by
  subst hK
  refine ⟨fun pins s σ H Q I h => ?_⟩
  refine Subscript_ (thn (he.run pins s σ H _ I h) fun v s1 ⟨x, H1, I1, r1, q1⟩ => ?_)
  obtain ⟨a, xs, ex, hx⟩ := q1
  subst ex
  cases r1
  have hst : PO X (some (.UnaryOp .USub (.Constant (.int 1) k p1) p2)) (tPart (tUn (rU fun i => .int (-i)) (tC (.int 1)))) := po_some (pe_un un_neg pe_int)
  refine wpAny_Slice (thn (po_none.run pins s1 σ H1 (fun o H2 => o = none ∧ H2 = H1) I1 ⟨rfl, rfl⟩) fun vl s2 ⟨l, H2, I2, pl, el, e2⟩ => ?_)
  subst el e2
  refine thn (po_none.run pins s2 σ H2 (fun o H3 => o = none ∧ H3 = H2) I2 ⟨rfl, rfl⟩) fun vu s3 ⟨u, H3, I3, pu, eu, e3⟩ => ?_
  subst eu e3
  refine thn (hst.run pins s3 σ H3 (fun o H4 => o = some (-1) ∧ H4 = H3) I3 ⟨1, rfl, -1, rfl, rfl, rfl⟩) fun vs s4 ⟨o, H4, I4, ps, eo, e4⟩ => ?_
  subst eo e4
  have I5 : Inv X pins σ H4 { s4 with heap := s4.heap.push { cls := .type "slice", data := .fields #[vl, vu, vs] } } := I4.kept (t' := s4.toks) fun b ob q => Heap.get?_push_of_some _ q
  show wpAny (model X.prog X.w) X.A (subscriptTail e (.Slice none none (some (.UnaryOp .USub (.Constant (.int 1) k p1) p2)) p3) (.ref a) (.ref s4.heap.objs.size)) (EP X pins σ Q) X.xe { s4 with heap := s4.heap.push { cls := .type "slice", data := .fields #[vl, vu, vs] } }
  rcases hx with ⟨hx, q⟩ | ⟨hx, q⟩
  · obtain ⟨its, r, ht, hz⟩ := I5.list hx
    have hlen := r.length
    refine tail_any (ops := [.ref a, .ref s4.heap.objs.size]) ht.isList.typeIs (PySem.slot_list_getitem.lookup) ?_ (by with_unfolding_all rfl)
    refine wpAny_getItem_list_slice ht.isList (Heap.IsSliceOf.new _ vl vu vs) pl pu ps (by decide) ?_ (by rw [List.size_toArray]; omega)
    rw [PySem.W.krv_pick]
    refine ⟨.ref _, _, I5.laid (t' := s4.toks) (o := .lst xs.reverse) (fun b ob q => Heap.get?_push_of_some _ q) (Nat.le_refl _) ?_, rfl, q _ (I5.hok.fresh (Nat.le_refl _))⟩
    exact ⟨by rw [List.length_reverse]; exact hz, _, 0, r.reverse, Heap.get?_push_size _ rfl⟩
  · cases pl
    cases pu
    obtain ⟨its, r, ht, hz⟩ := I5.tuple hx
    have hlen := r.length
    refine tail_any (ops := [.ref a, .ref s4.heap.objs.size]) ht.typeIs (PyProof.Rows.slot_tuple_getitem.lookup) ?_ (by with_unfolding_all rfl)
    refine dl_getItem_tuple_rev ht (Heap.IsSliceOf.new _ .none .none vs) ps ?_ (by rw [List.size_toArray]; omega)
    refine ⟨.ref _, _, I5.laid (t' := s4.toks) (o := .tup xs.reverse) (fun b ob q => Heap.get?_push_of_some _ q) (Nat.le_refl _) ?_, rfl, q _ (I5.hok.fresh (Nat.le_refl _))⟩
    exact ⟨by rw [List.length_reverse]; exact hz, its.reverse, r.reverse, IsTup.new _ _⟩
end
end L2
namespace DL
open PySem L2
def fRev (x : D) (Q : Rv → Prop) : Prop := match x with
  | .list ds => Q (.nw (.list ds.reverse))
  | .tuple ds => Q (.fz (.tuple ds.reverse))
  | _ => False
def dRev (da : DE) : DE := fun ρ Q => da ρ fun r ρ1 => wD (res ρ1 r) fun x => fRev x fun q => Q q ρ1
theorem le_rev {K : PySem.W.Frag} {ta : TE} {da : DE} (h : LE K ta da) : LE K (tRevA K ta) (dRev da) := by
  intro f g σ H ρ Q R hK hR hd k
  refine h.opd hK hR hd fun v H1 g1 ρ1 r1 R1 G1 O1 q1 => ?_
  obtain ⟨x, e, q⟩ := wD_some q1
  subst hK
  have hx := O1.rn R1 e
  have k' : OEnd f g1 σ H1 ρ1 (fun q => Q q ρ1) R := fun z H' g' r R' G' V' q' => k z H' g' ρ1 r R' (G1.trans G') V' q'
  cases x with
  | list ds =>
    obtain ⟨a, xs, rfl, e1, r1⟩ := hx.list fz_sub
    exact ⟨a, xs, rfl, .inl ⟨.inl (.inl e1), OEnd.lst k' R1 r1.reverse q⟩⟩
  | tuple ds =>
    obtain ⟨a, xs, rfl, e1, r1, z1⟩ := hx.tuple fz_sub
    exact ⟨a, xs, rfl, .inr ⟨e1, OEnd.tup k' R1 r1.reverse q⟩⟩
  | none => exact q.elim
  | bool _ => exact q.elim
  | int _ => exact q.elim
  | dict _ => exact q.elim
  | str _ => exact q.elim
end DL

set_option Elab.async false
set_option linter.all false
set_option maxRecDepth 100000
set_option maxHeartbeats 4000000
set_option autoImplicit false
namespace DL
open PySem L2
open StX (tStar pa_star)

/-! ### stars in a display -/
abbrev DF := Rho → (List D → Rho → Prop) → Prop
/-- elements, frozen -/
def LF (K : PySem.W.Frag) (t : TA) (d : DF) : Prop := ∀ (f : Fr) (g : Gs) (σ : L2.St) (H : Hp) (ρ : Rho) (Q : List D → Rho → Prop) (R : List V → Hp → Prop), f.K = K → Rel f g σ H ρ → d ρ Q →
  (∀ (vs : List V) (H' : Hp) (g' : Gs) (ρ' : Rho) (ds : List D), Rel f g' σ H' ρ' → Gro g H g' H' → RpA f.K (Fz H' g'.M) vs ds → Q ds ρ' → R vs H') → t σ H R
def starOf : D → Option (List D)
  | .list ds => some ds
  | .tuple ds => some ds
  | _ => none
def dFNil : DF := fun ρ Q => Q [] ρ
def dFCons (da : DE) (dr : DF) : DF := fun ρ Q => da ρ fun r ρ1 => wF (frz ρ1 r) fun d ρ2 => dr ρ2 fun ds ρ3 => Q (d :: ds) ρ3
def dFStar (da : DE) (dr : DF) : DF := fun ρ Q => da ρ fun r ρ1 => wD (res ρ1 r) fun x => wA (starOf x) fun ds => dr ρ1 fun es ρ2 => Q (ds ++ es) ρ2
section
variable {K : PySem.W.Frag} {ta : TE} {da : DE} {tr : TA} {dr : DF}
theorem lf_nil : LF K tNil dFNil := fun f g σ H ρ Q R hK hR hd k => k [] H g ρ [] hR Gro.refl .nil hd
theorem lf_cons (h : LE K ta da) (h' : LF K tr dr) : LF K (tCons ta tr) (dFCons da dr) := by
  intro f g σ H ρ Q R hK hR hd k
  refine h.opd hK hR hd fun v H1 g1 ρ1 r1 R1 G1 O1 q1 => ?_
  obtain ⟨d, ρ2, e2, q1⟩ := wF_some q1
  obtain ⟨g2, R2, G2, hv⟩ := O1.frz R1 e2
  subst hK
  exact h' f g2 σ H1 ρ2 _ _ rfl R2 q1 fun vs H3 g3 ρ3 ds R3 G3 O3 q3 => k _ H3 g3 ρ3 _ R3 ((G1.trans G2).trans G3) (.cons (hv.mono G3.fz) O3) q3
theorem lf_star (h : LE K ta da) (h' : LF K tr dr) : LF K (tStar K ta tr) (dFStar da dr) := by
  intro f g σ H ρ Q R hK hR hd k
  refine h.opd hK hR hd fun v H1 g1 ρ1 r1 R1 G1 O1 q1 => ?_
  obtain ⟨x, e, q1⟩ := wD_some q1
  obtain ⟨ds, e', q1⟩ := wA_some q1
  subst hK
  have hx := O1.rn R1 e
  cases x with
  | list es =>
    cases e'
    obtain ⟨a, xs, rfl, e1, r1⟩ := hx.list fz_sub
    refine ⟨a, xs, rfl, .inr (.inl (.inl e1)), ?_⟩
    exact h' f g1 σ H1 ρ1 _ _ rfl R1 q1 fun vs H2 g2 ρ2 rs R2 G2 O2 q2 => k _ H2 g2 ρ2 _ R2 (G1.trans G2) ((r1.mono G2.fz).append O2) q2
  | tuple es =>
    cases e'
    obtain ⟨a, xs, rfl, e1, r1, _⟩ := hx.tuple fz_sub
    refine ⟨a, xs, rfl, .inl e1, ?_⟩
    exact h' f g1 σ H1 ρ1 _ _ rfl R1 q1 fun vs H2 g2 ρ2 rs R2 G2 O2 q2 => k _ H2 g2 ρ2 _ R2 (G1.trans G2) ((r1.mono G2.fz).append O2) q2
  | none => cases e'
  | bool _ => cases e'
  | int _ => cases e'
  | dict _ => cases e'
  | str _ => cases e'
def dLstF (da : DF) : DE := fun ρ Q => da ρ fun ds ρ1 => ds.length ≤ sizeLine ∧ Q (.nw (.list ds)) ρ1
def dTupF (da : DF) : DE := fun ρ Q => da ρ fun ds ρ1 => ds.length ≤ sizeLine ∧ Q (.fz (.tuple ds)) ρ1
theorem le_lstF (h : LF K tr dr) : LE K (tLst tr) (dLstF dr) := by
  intro f g σ H ρ Q R hK hR hd k
  refine h f g σ H ρ _ _ hK hR hd fun vs H1 g1 ρ1 ds R1 G1 q2 q1 => ?_
  obtain ⟨hl, q1⟩ := q1
  refine ⟨by rw [q2.length]; exact hl, fun p hp => ?_⟩
  obtain ⟨R3, G3, V3⟩ := R1.own (o := .lst vs) (d := .list ds) hp (.lst upd_same q2)
  exact k _ _ _ ρ1 _ R3 (G1.trans G3) V3 q1
theorem le_tupF (h : LF K tr dr) : LE K (tTup tr) (dTupF dr) := by
  intro f g σ H ρ Q R hK hR hd k
  refine h f g σ H ρ _ _ hK hR hd fun vs H1 g1 ρ1 ds R1 G1 q2 q1 => ?_
  obtain ⟨hl, q1⟩ := q1
  refine ⟨by rw [q2.length]; exact hl, fun p hp => ?_⟩
  obtain ⟨R3, G3, e3⟩ := R1.new (o := .tup vs) hp
  exact k _ _ g1 ρ1 (.fz (.tuple ds)) R3 (G1.trans G3) (Rp.tup e3 (q2.mono G3.fz)) q1
end
theorem k_star {X : Cx} {K : PySem.W.Frag} {e : Expr} {te : TE} {es : List Expr} {t : TA} {p : Pos} (hK : X.K = K) (he : PE X e te) (hr : PA X es t) (hs : starEach (.Starred e p :: es) X.env = (true, eval e X.env) :: starEach es X.env := by rfl) : PA X (.Starred e p :: es) (tStar K te t) := by
  subst hK; exact pa_star he hr hs
/-! ### a list unpacked -/
def wL (o : Option D) (k : List D → Prop) : Prop := match o with
  | some (.list ds) => k ds
  | _ => False
theorem wL_some {o : Option D} {k : List D → Prop} (h : wL o k) : ∃ b, o = some (.list b) ∧ k b := by
  unfold wL at h
  split at h
  · exact ⟨_, rfl, h⟩
  · exact h.elim
def dgL (n : Nat) (dgs : DGs) : DG := fun r ρ Q => wL (res ρ r) fun ds => ds.length = n ∧ dgs ds ρ Q
theorem lg_lst {K : PySem.W.Frag} {n : Nat} {ts : TGs} {dgs : DGs} (h : LGs K ts dgs) : LG K (gLst K n ts) (dgL n dgs) := by
  intro f g σ H ρ v r Q R hK hR V q k
  obtain ⟨ds, e, hl, q⟩ := wL_some q
  obtain ⟨g1, R1, G1, O1⟩ := V.opd hR
  subst hK
  obtain ⟨a, xs, rfl, hs, hr⟩ := (O1.rn R1 e).list fz_sub
  refine ⟨a, xs, rfl, .inl (.inl hs), by rw [hr.length]; exact hl, ?_⟩
  exact h f g1 σ H ρ xs ds Q R rfl R1 hr q fun g2 σ2 H2 ρ2 R2 G2 q2 => k g2 σ2 H2 ρ2 R2 (G1.trans G2) q2
theorem k_glst {X : Cx} {K : PySem.W.Frag} {es : List Expr} {k : Nat} {t : TGs} {n : Nat} {pos : Pos} (h : X.K = K) (hc : X.calm = true) (hp : PGs X es t) (hn : (assignEach es X.env).length = n := by rfl) (hst : (assignEach es X.env).findIdx? (·.1) = none := by rfl) : PG X (.Tuple es k pos) (gLst K n t) := by
  subst h; exact pg_lst hc hp hn hst
/-! ### repr([..]): the list is made and dropped, its members stay one's own -/
def dReprL (dr : DA) : DE := fun ρ Q => dr ρ fun rs ρ1 => wA (resA ρ1 rs) fun ds => ds.length ≤ sizeLine ∧ reprOkP (.list ds) ∧ Q (.fz (.str (PyData.shown (.list ds)))) ρ1
theorem RNA.rp {K : PySem.W.Frag} {F H : Hp} {vs : List V} {ds : List D} (e : Same F H) (h : RNA K F H vs ds) : RpA K H vs ds := by
  induction h with
  | nil => exact .nil
  | cons h _ ih => exact .cons (h.same e) ih
theorem le_reprL {K : PySem.W.Frag} {tr : TA} {dr : DA} (h : LA K tr dr) : LE K (tCB (rReprP K) (tCons (tLst tr) tNil)) (dReprL dr) := by
  intro f g σ H ρ Q R hK hR hd k
  refine h f g σ H ρ _ _ hK hR hd fun vs H1 g1 ρ1 rs R1 G1 O1 q1 => ?_
  obtain ⟨ds, e1, hl, hr, q1⟩ := wA_some q1
  subst hK
  have ra := RNA.rp fz_sub (O1.rn R1 e1)
  refine ⟨by rw [ra.length]; exact hl, fun p hp => ?_⟩
  obtain ⟨R3, G3, e3⟩ := R1.new (o := .lst vs) hp
  obtain ⟨h1, h2, h3, h4⟩ := hr
  have up : Same H1 (upd H1 p (.lst vs)) := fun a o e => by rw [upd_ne (ne_of_none e hp)]; exact e
  refine ⟨.ref p, .list ds, rfl, ⟨_, Same.refl _, .inl (.lst upd_same (ra.mono up))⟩, h1, h2, h3, h4, ?_⟩
  exact k _ _ g1 ρ1 (.fz (.str _)) R3 (G1.trans G3) (.str _) q1
end DL

set_option Elab.async false
set_option linter.all false
set_option maxRecDepth 100000
set_option maxHeartbeats 4000000
set_option autoImplicit false
namespace DL
open PySem L2
/-! ### what repr asks, built up -/
structure RB (w n : Nat) (d : D) : Prop where
  sh : d.showable = true
  lv : d.leavesShort 25 = true
  wt : d.weight ≤ w
  dp : d.depth ≤ n
  nd : d.hasDict = false
structure RBs (w n : Nat) (ds : List D) : Prop where
  sh : PyData.showableAll ds = true
  lv : PyData.leavesShortAll 25 ds = true
  wt : PyData.weightAll ds ≤ w
  dp : PyData.depthAll ds ≤ n
  nd : PyData.hasDictAll ds = false
theorem RB.mono {w w' n n' : Nat} {d : D} (h : RB w n d) (hw : w ≤ w') (hn : n ≤ n') : RB w' n' d := ⟨h.sh, h.lv, Nat.le_trans h.wt hw, Nat.le_trans h.dp hn, h.nd⟩
theorem RBs.mono {w w' n n' : Nat} {d : List D} (h : RBs w n d) (hw : w ≤ w') (hn : n ≤ n') : RBs w' n' d := ⟨h.sh, h.lv, Nat.le_trans h.wt hw, Nat.le_trans h.dp hn, h.nd⟩
theorem RB.int {i : Int} (h : small i) : RB 65 1 (.int i) := by
  obtain ⟨a, b, c, d, e⟩ := small_int h
  exact ⟨a, b, c, d, e⟩
theorem RB.bool (b : Bool) : RB 0 1 (.bool b) := ⟨rfl, by cases b <;> decide +kernel, Nat.le_refl _, Nat.zero_le _, rfl⟩
theorem RB.none : RB 0 1 .none := ⟨rfl, by decide +kernel, Nat.le_refl _, Nat.zero_le _, rfl⟩
theorem RBs.nil : RBs 0 0 [] := ⟨rfl, rfl, Nat.le_refl _, by simp [PyData.depthAll], rfl⟩
theorem RBs.cons {w w' n : Nat} {d : D} {ds : List D} (h : RB w n d) (h' : RBs w' n ds) : RBs (w + 1 + w') n (d :: ds) := by
  refine ⟨?_, ?_, ?_, ?_, ?_⟩
  · simp only [PyData.showableAll, h.sh, h'.sh, Bool.and_self]
  · simp only [PyData.leavesShortAll, h.lv, h'.lv, Bool.and_self]
  · have := h.wt; have := h'.wt; simp only [PyData.weightAll]; omega
  · have := h.dp; have := h'.dp; simp only [PyData.depthAll]; omega
  · simp only [PyData.hasDictAll, h.nd, h'.nd, Bool.or_self]
theorem RBs.one {w n : Nat} {d : D} (h : RB w n d) : RBs (w + 1 + 0) n [d] := .cons h (RBs.nil.mono (Nat.le_refl _) (Nat.zero_le _))
theorem RBs.all {w n k : Nat} {ds : List D} (h : ∀ d ∈ ds, RB w n d) (hl : ds.length ≤ k) : RBs ((w + 1) * k) n ds := by
  refine RBs.mono (w := (w + 1) * ds.length) ?_ (Nat.mul_le_mul_left _ hl) (Nat.le_refl _)
  clear hl
  induction ds with
  | nil => exact RBs.nil.mono (by simp) (Nat.zero_le _)
  | cons d ds ih =>
    refine (RBs.cons (h d List.mem_cons_self) (ih fun x hx => h x (List.mem_cons_of_mem _ hx))).mono ?_ (Nat.le_refl _)
    rw [List.length_cons, Nat.mul_succ]
    omega
theorem RB.list {w n : Nat} {ds : List D} (h : RBs w n ds) : RB w (n + 1) (.list ds) := ⟨h.sh, h.lv, h.wt, by have := h.dp; simp only [PyData.depth]; omega, h.nd⟩
theorem RB.tuple {w n : Nat} {ds : List D} (h : RBs w n ds) : RB w (n + 1) (.tuple ds) := ⟨h.sh, h.lv, h.wt, by have := h.dp; simp only [PyData.depth]; omega, h.nd⟩
theorem RB.ok {w n : Nat} {d : D} (h : RB w n d) (hw : w ≤ 500000) (hn : n ≤ 60) : reprOkP d := reprOk_of h.sh (.inl h.nd) h.lv (Nat.le_trans h.wt hw) (Nat.le_trans h.dp hn)
theorem RBs.ints {ns : List Int} {k : Nat} (h : ∀ n ∈ ns, small n) (hl : ns.length ≤ k) : RBs (66 * k) 1 (ns.map PyData.int) := .all (fun d hd => by
  obtain ⟨n, hn, rfl⟩ := List.mem_map.mp hd
  exact .int (h n hn)) (by simpa using hl)
/-! ### bits as ints -/
def bit (n : Int) : Prop := n = 0 ∨ n = 1
theorem bit.small {n : Int} (h : bit n) : small n := by rcases h with rfl | rfl <;> (unfold DL.small; decide)
theorem RB.bit {n : Int} (h : bit n) : RB 1 1 (.int n) := by
  have := RB.int h.small
  exact ⟨this.sh, this.lv, by rcases h with rfl | rfl <;> decide, this.dp, this.nd⟩
theorem RBs.bits {ns : List Int} {k : Nat} (h : ∀ n ∈ ns, DL.bit n) (hl : ns.length ≤ k) : RBs (2 * k) 1 (ns.map PyData.int) := .all (fun d hd => by
  obtain ⟨n, hn, rfl⟩ := List.mem_map.mp hd
  exact .bit (h n hn)) (by simpa using hl)
theorem bit_xor {a b : Int} (h : bit a) (h' : bit b) : bit (Builtin.bitXor a b) := by
  rcases h with rfl | rfl <;> rcases h' with rfl | rfl
  · exact .inl (by decide)
  · exact .inr (by decide)
  · exact .inr (by decide)
  · exact .inl (by decide)
theorem bit_and {a b : Int} (h : bit a) (h' : bit b) : bit (Builtin.bitAnd a b) := by
  rcases h with rfl | rfl <;> rcases h' with rfl | rfl
  · exact .inl (by decide)
  · exact .inl (by decide)
  · exact .inl (by decide)
  · exact .inr (by decide)
theorem bit_mod (l : Int) : bit (l.fmod 2) := by
  have h1 := Int.fmod_nonneg_of_pos l (b := 2) (by decide)
  have h2 := Int.fmod_lt_of_pos l (b := 2) (by decide)
  rcases (by omega : l.fmod 2 = 0 ∨ l.fmod 2 = 1) with h | h
  · exact .inl h
  · exact .inr h
/-! ### indices -/
theorem atI_ok {xs : List D} {k : Int} (h1 : 0 ≤ k) (h2 : k < xs.length) : L2.atI xs k = some (xs[k.toNat]'(by omega)) := by
  unfold L2.atI ixN
  rw [if_pos h1, if_pos h2]
  show xs[k.toNat]? = _
  rw [List.getElem?_eq_getElem]
theorem atI_ints {xs : List Int} {k : Int} (h1 : 0 ≤ k) (h2 : k < xs.length) : L2.atI (xs.map PyData.int) k = some (.int (xs.getD k.toNat 0)) := by
  rw [atI_ok h1 (by simpa using h2)]
  simp only [List.getElem_map]
  rw [List.getD_eq_getElem?_getD, List.getElem?_eq_getElem (by omega)]
  rfl
theorem atI_last {xs : List D} {x : D} : L2.atI (xs ++ [x]) (-1) = some x := by
  unfold L2.atI ixN
  rw [if_neg (by omega), if_pos (by simp; omega)]
  have e : (-1 + ((xs ++ [x]).length : Int)).toNat = xs.length := by simp; omega
  show (xs ++ [x])[(-1 + ((xs ++ [x]).length : Int)).toNat]? = _
  rw [e]
  simp
theorem useB_d {p : Prop} [Decidable p] {A B : Prop} (h1 : p → A) (h2 : ¬ p → B) : useB (decide p) A B := by
  by_cases h : p
  · exact useB_y (decide_eq_true h) (h1 h)
  · exact useB_n (decide_eq_false h) (h2 h)
/-! ### a, b = x, y by way of a tuple (one of the names is a cell) -/
section
variable {K : PySem.W.Frag} {ta tb tc : TE} {da db dc : DE} {i j : Nat}
theorem ls_parT (h : LE K ta da) (h' : LE K tb db) : LS K (tAsg (tTup (tCons ta (tCons tb tNil))) (gTup K 2 (gCons (gName i) (gCons (gName j) gNil)))) (dPar i j da db) := by
  intro f g σ H ρ DD E hK R hd l
  refine h f g σ H ρ _ _ hK R hd fun v H1 g1 ρ1 r R1 G1 V1 q1 => ?_
  obtain ⟨r1, ρ2, e1, q1⟩ := wP_some q1
  obtain ⟨g2, R2, G2, V2, p2⟩ := V1.plain R1 e1
  obtain ⟨g3, R3, hh⟩ := V2.held R2 p2
  refine h' f g3 σ H1 ρ2 _ _ hK R3 q1 fun w H4 g4 ρ4 q R4 G4 V4 q4 => ?_
  obtain ⟨qq, ρ5, e5, q5⟩ := wP_some q4
  obtain ⟨g5, R5, G5, V5, p5⟩ := V4.plain R4 e5
  obtain ⟨g6, R6, G6, V6, hh6⟩ := hh g5 H4 ρ5 R5 (G4.trans G5) (fun i z => by rw [z] at p2; exact p2.elim)
  obtain ⟨W6, n6⟩ := hh6 w qq V5
  refine ⟨by show 2 ≤ sizeLine; rw [sizeLine_eq]; decide, fun p hp => ⟨p, [v, w], rfl, .inl (.inl upd_same), rfl, v, [w], rfl, w, [], rfl, rfl, ?_⟩⟩
  have R7 := V6.put R6 p2 i
  have W7 := W6.putO R6 p2 p5 (fun d e z1 z2 => n6 d e z1 z2) i
  obtain ⟨R9, G9, _⟩ := (W7.put R7 p5 j).new (o := .tup [v, w]) hp
  exact l.nx g6 _ _ _ R9 (((G1.trans G2).trans G6).trans G9) q5
theorem ls_par3T {i j l : Nat} (h : LE K ta da) (h' : LE K tb db) (h'' : LE K tc dc) : LS K (tAsg (tTup (tCons ta (tCons tb (tCons tc tNil)))) (gTup K 3 (gCons (gName i) (gCons (gName j) (gCons (gName l) gNil))))) (dPar3 i j l da db dc) := by
  intro f g σ H ρ DD E hK R hd lk
  refine h f g σ H ρ _ _ hK R hd fun v H1 g1 ρ1 r R1 G1 V1 q1 => ?_
  obtain ⟨r1, ρ2, e1, q1⟩ := wP_some q1
  obtain ⟨g2, R2, G2, V2, p2⟩ := V1.plain R1 e1
  obtain ⟨g3, R3, hh⟩ := V2.held R2 p2
  refine h' f g3 σ H1 ρ2 _ _ hK R3 q1 fun w H4 g4 ρ4 q R4 G4 V4 q4 => ?_
  obtain ⟨qq, ρ5, e5, q5⟩ := wP_some q4
  obtain ⟨g5, R5, G5, V5, p5⟩ := V4.plain R4 e5
  obtain ⟨g6, R6, kk⟩ := V5.held R5 p5
  refine h'' f g6 σ H4 ρ5 _ _ hK R6 q5 fun z H7 g7 ρ7 s R7 G7 V7 q7 => ?_
  obtain ⟨ss, ρ8, e8, q8⟩ := wP_some q7
  obtain ⟨g8, R8, G8, V8, p8⟩ := V7.plain R7 e8
  obtain ⟨g9, R9, G9, V9, kk9⟩ := kk g8 H7 ρ8 R8 (G7.trans G8) (fun i z => by rw [z] at p5; exact p5.elim)
  obtain ⟨W9, n9⟩ := kk9 z ss V8
  obtain ⟨g10, R10, G10, V10, hh10⟩ := hh g9 H7 ρ8 R9 ((G4.trans G5).trans G9) (fun i z => by rw [z] at p2; exact p2.elim)
  obtain ⟨Wb, nb⟩ := hh10 w qq V9
  obtain ⟨Wc, nc⟩ := hh10 z ss W9
  refine ⟨by show 3 ≤ sizeLine; rw [sizeLine_eq]; decide, fun p hp => ⟨p, [v, w, z], rfl, .inl (.inl upd_same), rfl, v, [w, z], rfl, w, [z], rfl, z, [], rfl, rfl, ?_⟩⟩
  have R11 := V10.put R10 p2 i
  have B11 := Wb.putO R10 p2 p5 (fun d e z1 z2 => nb d e z1 z2) i
  have C11 := Wc.putO R10 p2 p8 (fun d e z1 z2 => nc d e z1 z2) i
  have R12 := B11.put R11 p5 j
  have C12 := C11.putO R11 p5 p8 (fun d e z1 z2 => n9 d e z1 z2) j
  obtain ⟨Rn, Gn, _⟩ := (C12.put R12 p8 l).new (o := .tup [v, w, z]) hp
  exact lk.nx g10 _ _ _ Rn (((G1.trans G2).trans G10).trans Gn) q8
end
/-- a comprehension within one -/
theorem look_relabel {env : Env} {y : Str} : ∀ {names : List (Str × NameKind)}, (match names.lookup y with | some .cell => true | some .free => true | _ => false) = true →
    (match (names.map fun (n, k) => if (k == NameKind.free && env.scope.kind == .function && env.kindOf n == some .cell) then (n, NameKind.cell) else (n, k)).lookup y with | some .cell => true | some .free => true | _ => false) = true
  | [], h => h
  | (n, k) :: r, h => by
    have ih := @look_relabel env y r
    rw [List.map_cons]
    cases hx : y == n with
    | true =>
      simp only [List.lookup_cons, hx] at h ⊢
      by_cases q : (k == NameKind.free && env.scope.kind == .function && env.kindOf n == some .cell) = true
      · rw [if_pos q]; simp [List.lookup_cons, hx]
      · rw [if_neg q]; simp only [List.lookup_cons, hx]; exact h
    | false =>
      simp only [List.lookup_cons, hx] at h ⊢
      have e : ∀ (z : Str × NameKind) (l : List (Str × NameKind)), z.1 = n → (z :: l).lookup y = l.lookup y := fun z l e => by
        obtain ⟨z1, z2⟩ := z
        have e : z1 = n := e
        subst e
        rw [List.lookup_cons, hx]
      rw [e _ _ (by split <;> rfl)]
      exact ih h
theorem blkC_relabel {N : List Str} {sc scope : Scope} {own : List (Str × Nat)} {env : Env} (h : blkC N sc scope own = true) : blkC N (relabel sc env) scope own = true := by
  unfold blkC at h ⊢
  rw [Bool.and_eq_true] at h ⊢
  refine ⟨h.1, ?_⟩
  have h2 := h.2
  rw [List.all_eq_true] at h2 ⊢
  intro y hy
  have := h2 y hy
  revert this
  cases y.2 with
  | free => exact fun this => look_relabel this
  | _ => exact fun this => this
theorem blkOk_in {X : Cx} {s : Shared} {H : Hp} {cl : List (Str × Addr)} {C : Addr} {env : Env} {fp : List Addr} {N : List Str} {sc scope : Scope} {own : List (Str × Nat)} (h : blkC N sc scope own = true) : BlkOk N (X.blk s H sc (compEnvC sc cl C env) fp).env.scope scope own := blkOk_by (blkC_relabel h)
theorem mem_rng {lo : Int} {n : Nat} {d : D} (h : d ∈ rngD lo n) : ∃ j : Int, d = .int j ∧ lo ≤ j ∧ j < lo + n := by
  obtain ⟨i, hi, rfl⟩ := List.mem_map.mp h
  rw [List.mem_range] at hi
  exact ⟨_, rfl, by omega, by omega⟩
theorem eqv_strs {a : Str} : PyData.eqv (.str a) (.str a) = true := by simp [PyData.eqv]
/-! ### comprehensions of draws -/
theorem dLcGo_eachI {dg : DG} {de : DE} {vs : List Nat} {Q : Rv → Rho → Prop} (ds : List D) (p : Nat → D → Prop) (I : Rho → Prop) {ρ : Rho} (hl : ds.length ≤ sizeLine) (h0 : I ρ)
    (hs : ∀ (i : Nat) (x : D) (ρ : Rho) (k : D → Rho → Prop), ds[i]? = some x → I ρ → (∀ d ρ', p i d → I ρ' → k d ρ') → dg (.fz x) (wipeR ρ vs) fun ρ1 => de ρ1 fun r ρ3 => wF (frz ρ3 r) fun d ρ4 => k d (bckR ρ ρ4 vs))
    (hd : ∀ (acc : List D) (ρ : Rho), I ρ → acc.length = ds.length → (∀ i d, acc[i]? = some d → p i d) → Q (.nw (.list acc)) ρ) : dLcGo dg dYes de vs Q ds [] ρ := by
  have hu : ∀ (A B : Prop), useB true A B = A := fun A B => propext ⟨useB_t, useB_y rfl⟩
  refine dLcGo_of ds (fun i acc ρ => I ρ ∧ acc.length = i ∧ ∀ j d, acc[j]? = some d → p j d) ⟨h0, rfl, fun j d h => by simp at h⟩ ?_ ?_
  · rintro i x acc ρ k hx ⟨hI, hal, hap⟩ next
    have hi : i < ds.length := (List.getElem?_eq_some_iff.mp hx).1
    have := hs i x ρ (fun d ρ' => acc.length < sizeLine ∧ k (acc ++ [d]) ρ') hx hI fun d ρ' hd hI' => ⟨by omega, next _ _ ⟨hI', by simp; omega, fun j e he => ?_⟩⟩
    · show dg (.fz x) (wipeR ρ vs) fun ρ1 => useB true _ _
      simp only [hu]
      exact this
    · by_cases hj : j < acc.length
      · rw [List.getElem?_append_left hj] at he; exact hap j e he
      · have hlt := (List.getElem?_eq_some_iff.mp he).1
        rw [List.length_append, List.length_singleton] at hlt
        have e1 : j = acc.length := by omega
        subst e1
        rw [List.getElem?_append_right (Nat.le_refl _), Nat.sub_self] at he
        cases he
        rw [hal]; exact hd
  · rintro acc ρ ⟨hI, hal, hap⟩
    exact hd acc ρ hI hal hap
theorem dLcGo_each {dg : DG} {de : DE} {vs : List Nat} {Q : Rv → Rho → Prop} (ds : List D) (p : Nat → D → Prop) {ρ : Rho} (hl : ds.length ≤ sizeLine)
    (hs : ∀ (i : Nat) (x : D) (k : D → Rho → Prop), ds[i]? = some x → (∀ d, p i d → k d ρ) → dg (.fz x) (wipeR ρ vs) fun ρ1 => de ρ1 fun r ρ3 => wF (frz ρ3 r) fun d ρ4 => k d (bckR ρ ρ4 vs))
    (hd : ∀ acc : List D, acc.length = ds.length → (∀ i d, acc[i]? = some d → p i d) → Q (.nw (.list acc)) ρ) : dLcGo dg dYes de vs Q ds [] ρ :=
  dLcGo_eachI ds p (fun ρ' => ρ' = ρ) hl rfl (fun i x ρ' k hx e q => by subst e; exact hs i x k hx fun d hp => q d _ hp rfl) (fun acc ρ' e h1 h2 => by subst e; exact hd acc h1 h2)
theorem maps_of {α : Type} {f : α → D} {p : α → Prop} {acc : List D} (h : ∀ (i : Nat) (d : D), acc[i]? = some d → ∃ b, d = f b ∧ p b) : ∃ bs : List α, acc = bs.map f ∧ bs.length = acc.length ∧ ∀ b ∈ bs, p b := by
  induction acc with
  | nil => exact ⟨[], rfl, rfl, fun _ h => nomatch h⟩
  | cons d acc ih =>
    obtain ⟨b, rfl, hb⟩ := h 0 d rfl
    obtain ⟨bs, rfl, hl, hp⟩ := ih fun i e he => h (i + 1) e (by simpa using he)
    refine ⟨b :: bs, rfl, by simp, fun x hx => ?_⟩
    rcases List.mem_cons.mp hx with rfl | hx
    · exact hb
    · exact hp x hx
theorem bit_of {b : Int} (h1 : 0 ≤ b) (h2 : b < 2) : bit b := by unfold bit; omega
theorem rngLe {n : Nat} (h : n ≤ 16777216) {lo : Int} : (rngD lo n).length ≤ sizeLine := by rw [rngD_length, sizeLine_eq]; exact h
theorem ne_same {a b : Str} (h : a = b) : (true != PyData.eqv (.str a) (.str b)) = false := by rw [h, eqv_strs]; rfl
end DL

set_option Elab.async false
set_option linter.all false
set_option maxRecDepth 100000
set_option maxHeartbeats 4000000
set_option autoImplicit false
namespace DL
open PySem L2
section
variable {K : PySem.W.Frag} {ta tb te : TE} {da db de : DE} {i : Nat}
/-! ### n += e, ints -/
theorem slD_some {ρ : Rho} {d : D} (h : slD ρ[i]? = some d) : ∃ s, ρ[i]? = some (some s) ∧ (s = .sh d ∨ s = .bo d ∨ s = .ow d) := by
  unfold slD at h
  split at h
  · rename_i e; cases h; exact ⟨_, e, .inl rfl⟩
  · rename_i e; cases h; exact ⟨_, e, .inr (.inl rfl)⟩
  · rename_i e; cases h; exact ⟨_, e, .inr (.inr rfl)⟩
  · cases h
def dAugI (i : Nat) (G : Int → Int → Int) (de : DE) : DS := fun DD ρ => wI (slD ρ[i]?) fun n => de ρ fun r ρ1 => wI (res ρ1 r) fun m => DD.nx (ρ1.set i (some (.sh (.int (G n m)))))
theorem ls_augI {G : Int → Int → Int} (h : LE K te de) : LS K (tAug i te (rI0 fun a b => .int (G a b))) (dAugI i G de) := by
  intro f g σ H ρ DD E hK R hd l
  obtain ⟨n, e0, hd⟩ := wI_some hd
  obtain ⟨s, e1, hs⟩ := slD_some e0
  obtain ⟨v, e2, hv⟩ := R.slot i s e1
  have ev := (hv.rn R _ hs).int
  subst ev
  refine ⟨_, e2, ?_⟩
  refine h.opd hK R hd fun u H1 g1 ρ1 r1 R1 G1 O1 q1 => ?_
  obtain ⟨m, e3, q1⟩ := wI_some q1
  have eu := (O1.rn R1 e3).int
  subst eu
  refine ⟨n, m, rfl, rfl, ?_⟩
  exact l.nx g1 _ H1 _ (R1.set (i := i) (v := .int (G n m)) (s := .sh (.int (G n m))) (.int _) (fun d z => nomatch z)) G1 q1
/-! ### xs.pop(j), xs one's own -/
def dPopAt (i : Nat) (de : DE) : DE := fun ρ Q => wA (ownL ρ i) fun _ => de ρ fun r ρ1 => wI (res ρ1 r) fun j => ∃ xs, ρ1[i]? = some (some (.ow (.list xs))) ∧ 0 ≤ j ∧ j < xs.length ∧ xs.length ≤ sizeLine ∧ ∃ d, xs[j.toNat]? = some d ∧ Q (.fz d) (ρ1.set i (some (.ow (.list (xs.eraseIdx j.toNat)))))
theorem RpA.erase {F : Hp} {vs : List V} {ds : List D} (h : RpA K F vs ds) : ∀ n, RpA K F (vs.eraseIdx n) (ds.eraseIdx n) := by
  induction ds generalizing vs with
  | nil => cases h; intro n; exact .nil
  | cons x ds ih =>
    cases h with
    | cons h r =>
      intro n
      cases n with
      | zero => exact r
      | succ n => exact .cons h (ih r n)
theorem le_popAt (h : LE K te de) : LE K (tBM K "list" rPopAt (tVar i) (tCons te tNil)) (dPopAt i de) := by
  intro f g σ H ρ Q R hK hR hd k
  obtain ⟨xs0, e0, hd⟩ := wA_some hd
  obtain ⟨w, e1, a, e2, m, h0, ns, r⟩ := hR.slot i _ (ownL_some e0)
  subst e2
  refine ⟨.ref a, e1, ?_, ?_⟩
  · cases r with | lst h r => exact .inl ⟨rfl, _, .inl (.inl h)⟩
  · refine h.opd hK hR hd fun v H1 g1 ρ1 r1 R1 G1 O1 q1 => ?_
    obtain ⟨j, e3, xs, s2, j0, j1, hl, d, hd, q1⟩ := wI_some q1
    have ev := (O1.rn R1 e3).int
    subst ev
    obtain ⟨w2, e5, a2, e6, m2, h02, ns2, r2⟩ := R1.slot i _ s2
    rw [e1] at e5; cases e5; cases e6
    cases r2 with
    | lst hh rr =>
      obtain ⟨y, ey, ry⟩ := rr.get hd
      have hlen := rr.length
      refine ⟨a, _, j, j.toNat, y, rfl, rfl, hh, by omega, by rw [sizeLine_eq] at hl; omega, ?_, ey, ?_⟩
      · rw [hlen]
        unfold seqIndex?
        rw [if_neg (show ¬ j < 0 by omega)]
        dsimp only
        rw [if_pos (by simp only [Bool.and_eq_true, decide_eq_true_eq]; exact ⟨j0, j1⟩)]
      · obtain ⟨R3, G3⟩ := R1.mutOwn (o := .lst (_)) (d' := .list (xs.eraseIdx j.toNat)) s2 e1 (.lst upd_same (rr.erase j.toNat))
        exact k y _ g1 _ (.fz d) R3 (G1.trans G3) (ry.mono G3.fz) q1
/-! ### list(range(a, b)) -/
theorem rp_rg {F : Hp} (a b : Int) : RpA K F (rgV a b) (rngD a (b - a).toNat) := by
  have e1 : rgV a b = ((List.range (b - a).toNat).map fun (k : Nat) => a + (k : Int)).map V.int := by unfold rgV; rw [List.map_map]; rfl
  have e2 : rngD a (b - a).toNat = ((List.range (b - a).toNat).map fun (k : Nat) => a + (k : Int)).map PyData.int := by unfold rngD; rw [List.map_map]; rfl
  rw [e1, e2]
  exact RpA.of_ints _
def dLstRg (da db : DE) : DE := fun ρ Q => da ρ fun r ρ1 => db ρ1 fun q ρ2 => wI (res ρ2 r) fun a => wI (res ρ2 q) fun b => RgOk a b ∧ Q (.nw (.list (rngD a (b - a).toNat))) ρ2
theorem le_listRg (h : LE K ta da) (h' : LE K tb db) : LE K (tLstRg (tRg2 ta tb)) (dLstRg da db) := by
  intro f g σ H ρ Q R hK hR hd k
  refine h.opd hK hR hd fun v H1 g1 ρ1 r1 R1 G1 O1 q1 => ?_
  refine h'.opd hK R1 q1 fun u H2 g2 ρ2 r2 R2 G2 O2 q2 => ?_
  obtain ⟨a, e1, q2⟩ := wI_some q2
  obtain ⟨b, e2, ok, q2⟩ := wI_some q2
  refine ⟨a, b, ((O1.mono G2).rn R2 e1).int, (O2.rn R2 e2).int, ok, fun p hp => ?_⟩
  obtain ⟨R3, G3, V3⟩ := R2.own (o := .lst (rgV a b)) (d := .list (rngD a (b - a).toNat)) hp (.lst upd_same (rp_rg a b))
  exact k _ _ _ ρ2 _ R3 ((G1.trans G2).trans G3) V3 q2
def dLstRg1 (da : DE) : DE := fun ρ Q => da ρ fun r ρ1 => wI (res ρ1 r) fun b => RgOk 0 b ∧ Q (.nw (.list (rngD 0 (b - 0).toNat))) ρ1
theorem le_listRg1 (h : LE K ta da) : LE K (tLstRg (tRg1 ta)) (dLstRg1 da) := by
  intro f g σ H ρ Q R hK hR hd k
  refine h.opd hK hR hd fun v H1 g1 ρ1 r1 R1 G1 O1 q1 => ?_
  obtain ⟨b, e1, ok, q2⟩ := wI_some q1
  refine ⟨b, (O1.rn R1 e1).int, ok, fun p hp => ?_⟩
  obtain ⟨R3, G3, V3⟩ := R1.own (o := .lst (rgV 0 b)) (d := .list (rngD 0 (b - 0).toNat)) hp (.lst upd_same (rp_rg 0 b))
  exact k _ _ _ ρ1 _ R3 (G1.trans G3) V3 q2
/-! ### isinstance(x, T), T a built-in type -/
def tyN : D → String
  | .none => "NoneType"
  | .bool _ => "bool"
  | .int _ => "int"
  | .str _ => "str"
  | .list _ => "list"
  | .tuple _ => "tuple"
  | .dict _ => "dict"
def isInt' : D → Bool
  | .int _ => true
  | .bool _ => true
  | _ => false
def isBool : D → Bool
  | .bool _ => true
  | _ => false
def isStr : D → Bool
  | .str _ => true
  | _ => false
def isList : D → Bool
  | .list _ => true
  | _ => false
def isTuple : D → Bool
  | .tuple _ => true
  | _ => false
def isDict : D → Bool
  | .dict _ => true
  | _ => false
theorem ki_int (x : D) : kitB (tyN x) "int" = some (isInt' x) := by cases x <;> (simp only [tyN, isInt']; decide +kernel)
theorem ki_bool (x : D) : kitB (tyN x) "bool" = some (isBool x) := by cases x <;> (simp only [tyN, isBool]; decide +kernel)
theorem ki_str (x : D) : kitB (tyN x) "str" = some (isStr x) := by cases x <;> (simp only [tyN, isStr]; decide +kernel)
theorem ki_list (x : D) : kitB (tyN x) "list" = some (isList x) := by cases x <;> (simp only [tyN, isList]; decide +kernel)
theorem ki_tuple (x : D) : kitB (tyN x) "tuple" = some (isTuple x) := by cases x <;> (simp only [tyN, isTuple]; decide +kernel)
theorem ki_dict (x : D) : kitB (tyN x) "dict" = some (isDict x) := by cases x <;> (simp only [tyN, isDict]; decide +kernel)
theorem RN.tyX {F H : Hp} {v : V} {d : D} (e : Same F H) (h : RN K F H v d) : TyX K H v (.type (tyN d)) := by
  cases d with
  | none => have ev := h.non; subst ev; exact .base .non
  | bool b => have ev := h.bool; subst ev; exact .base (.bl b)
  | int b => have ev := h.int; subst ev; exact .base (.int b)
  | str b => have ev := h.str; subst ev; exact .base (.str b)
  | list ds => obtain ⟨a, xs, rfl, e1, _⟩ := h.list e; exact .base (.lst e1)
  | tuple ds => obtain ⟨a, xs, rfl, _, _, e1⟩ := h.tuple e; exact .base (.tup (e _ _ e1))
  | dict es =>
    cases q : isT es with
    | true =>
      obtain ⟨r, rfl⟩ := isT_true q
      obtain ⟨a, kvs, rfl, e1, _⟩ := h.dictT e
      exact .base (.dT e1)
    | false =>
      obtain ⟨a, kvs, rfl, e1, _⟩ := h.dict e q
      exact .base (.dK e1)
def dIsi (p : D → Bool) (da : DE) : DE := fun ρ Q => da ρ fun r ρ1 => wD (res ρ1 r) fun x => Q (.fz (.bool (p x))) ρ1
theorem le_isi {T : String} {p : D → Bool} (hp : ∀ x : D, kitB (tyN x) T = some (p x)) (h : LE K ta da) : LE K (tCB (rIsi K) (tCons ta (tCons (tC (.ty T)) tNil))) (dIsi p da) := by
  intro f g σ H ρ Q R hK hR hd k
  refine h.opd hK hR hd fun v H1 g1 ρ1 r1 R1 G1 O1 q1 => ?_
  obtain ⟨x, e1, q1⟩ := wD_some q1
  subst hK
  exact ⟨v, .ty T, _, _, p x, rfl, .ty T, (O1.rn R1 e1).tyX fz_sub, kit_ty (hp x), k _ H1 g1 ρ1 (.fz (.bool _)) R1 G1 (.bl _) q1⟩
theorem k_isi {X : Cx} (h : X.K = K) : CallR X (.builtin "isinstance") (rIsi K) := by subst h; exact call_isi
end
section
variable {X : Cx} {K : PySem.W.Frag} {o e : Expr} {es : List Expr} {to : TE} {t : TA} {name : Str} {apos cpos : Pos} {T id : String} {r : V → List V → Hp → VK → Prop}
theorem k_bm (h : X.K = K) (pa : PlainAttrs T) (slot : Slot T name id) (hty : typeOf (.builtin id) = pure (.type "method_descriptor")) (hm : MtR X id r) (ho : PE X o to) (ha : PA X (e :: es) t)
    (hbase : attributeBase o name X.env (eval o X.env) = eval o X.env := by rfl)
    (hfew : ((backTo cpos (starEach (e :: es) X.env)).all (fun x => !x.1) && (backToKw cpos (keywordEach [] X.env)).all (fun x => x.1.isSome)
      && decide ((e :: es).length + ([] : List Keyword).length + (if ([] : List Keyword).isEmpty then 0 else 1) < 30)) = true := by rfl)
    (hline : (apos.endLine == cpos.line) = true := by rfl) (hs : starEach (e :: es) X.env = (false, eval e X.env) :: starEach es X.env := by rfl) (hplain : (backTo cpos (starEach es X.env)).any (·.1) = false := by rfl) :
    PE X (.Call (.Attribute o name apos) (e :: es) [] cpos) (tBM K T r to t) := by
  subst h
  exact pe_bm pa slot hty hm ho ha hbase hfew hline hs hplain
end
/-- an element by element list, the slots by an invariant -/
theorem dLcGo_mapI {dg : DG} {de : DE} {vs : List Nat} {Q : Rv → Rho → Prop} (ds : List D) (f : D → D) (I : Rho → Prop) {ρ : Rho} (hl : ds.length ≤ sizeLine) (h0 : I ρ)
    (hs : ∀ (x : D) (ρ : Rho) (k : D → Rho → Prop), x ∈ ds → I ρ → (∀ ρ', I ρ' → k (f x) ρ') → dg (.fz x) (wipeR ρ vs) fun ρ1 => de ρ1 fun r ρ3 => wF (frz ρ3 r) fun d ρ4 => k d (bckR ρ ρ4 vs))
    (hd : ∀ ρ : Rho, I ρ → Q (.nw (.list (ds.map f))) ρ) : dLcGo dg dYes de vs Q ds [] ρ := by
  refine dLcGo_eachI ds (fun i d => ∃ x, ds[i]? = some x ∧ d = f x) I hl h0 (fun i x ρ k hx hI q => hs x ρ k (List.mem_of_getElem? hx) hI fun ρ' h => q _ _ ⟨x, hx, rfl⟩ h) fun acc ρ hI hal hap => ?_
  have e : acc = ds.map f := by
    apply List.ext_getElem?
    intro i
    rw [List.getElem?_map]
    by_cases hi : i < acc.length
    · obtain ⟨x, hx, e⟩ := hap i acc[i] (List.getElem?_eq_getElem hi)
      rw [List.getElem?_eq_getElem hi, hx, e]; rfl
    · rw [List.getElem?_eq_none (by omega), List.getElem?_eq_none (by omega)]; rfl
  rw [e]
  exact hd ρ hI
end DL

set_option Elab.async false
set_option linter.all false
set_option maxRecDepth 100000
set_option maxHeartbeats 4000000
set_option autoImplicit false
namespace DL
open PySem L2
section
variable {K : PySem.W.Frag} {ta tb te tk tv : TE} {da db de dk dv : DE} {i : Nat}
theorem set_same {σ : L2.St} {v : Option V} (h : σ[i]? = some v) : σ.set i v = σ := by
  apply List.ext_getElem?
  intro j
  by_cases e : i = j
  · subst e
    have hl := (List.getElem?_eq_some_iff.mp h).1
    rw [List.getElem?_set_self hl, h]
  · rw [List.getElem?_set_ne e]
/-! ### xs += e, xs.extend(e), xs one's own list -/
def dAugL (i : Nat) (de : DE) : DS := fun DD ρ => wA (ownL ρ i) fun _ => de ρ fun r ρ1 => wA ((res ρ1 r).bind listOf) fun ds => ∃ xs, ρ1[i]? = some (some (.ow (.list xs))) ∧ xs.length + ds.length ≤ sizeLine ∧ DD.nx (ρ1.set i (some (.ow (.list (xs ++ ds)))))
theorem listOf_some {d : D} {ds : List D} (h : listOf d = some ds) : d = .list ds := by
  cases d with
  | list xs => cases h; rfl
  | _ => cases h
theorem bind_list {ρ : Rho} {r : Rv} {ds : List D} (h : (res ρ r).bind listOf = some ds) : res ρ r = some (.list ds) := by
  cases e : res ρ r with
  | none => rw [e] at h; cases h
  | some d => rw [e] at h; rw [listOf_some h]
theorem ls_augL (h : LE K te de) : LS K (tAug i te rExt2) (dAugL i de) := by
  intro f g σ H ρ DD E hK R hd l
  obtain ⟨xs0, e0, hd⟩ := wA_some hd
  obtain ⟨w, e1, a, e2, m, h0, ns, r⟩ := R.slot i _ (ownL_some e0)
  subst e2
  refine ⟨.ref a, e1, ?_⟩
  refine h.opd hK R hd fun v H1 g1 ρ1 r1 R1 G1 O1 q1 => ?_
  obtain ⟨ds, e3, xs, s2, hl, q1⟩ := wA_some q1
  subst hK
  obtain ⟨b, zs, rfl, hb, rz⟩ := (O1.rn R1 (bind_list e3)).list fz_sub
  obtain ⟨w2, e5, a2, e6, m2, h02, ns2, r2⟩ := R1.slot i _ s2
  rw [e1] at e5; cases e5; cases e6
  cases r2 with
  | lst hh rr =>
    refine ⟨a, b, _, zs, rfl, rfl, hh, hb, by rw [rr.length, rz.length]; exact hl, ?_⟩
    obtain ⟨R3, G3⟩ := R1.mutOwn (o := .lst (_ ++ zs)) (d' := .list (xs ++ ds)) s2 e1 (.lst upd_same (rr.append rz))
    rw [set_same e1]
    exact l.nx g1 σ _ _ R3 (G1.trans G3) q1
theorem ls_extL (h : LE K te de) : LS K (tDrop (tBM K "list" rExtend (tVar i) (tCons te tNil))) (dAugL i de) := by
  intro f g σ H ρ DD E hK R hd l
  obtain ⟨xs0, e0, hd⟩ := wA_some hd
  obtain ⟨w, e1, a, e2, m, h0, ns, r⟩ := R.slot i _ (ownL_some e0)
  subst e2
  refine ⟨.ref a, e1, ?_, ?_⟩
  · cases r with | lst h r => exact .inl ⟨rfl, _, .inl (.inl h)⟩
  refine h.opd hK R hd fun v H1 g1 ρ1 r1 R1 G1 O1 q1 => ?_
  obtain ⟨ds, e3, xs, s2, hl, q1⟩ := wA_some q1
  subst hK
  obtain ⟨b, zs, rfl, hb, rz⟩ := (O1.rn R1 (bind_list e3)).list fz_sub
  obtain ⟨w2, e5, a2, e6, m2, h02, ns2, r2⟩ := R1.slot i _ s2
  rw [e1] at e5; cases e5; cases e6
  cases r2 with
  | lst hh rr =>
    refine ⟨a, b, _, zs, rfl, rfl, hh, hb, by rw [rr.length, rz.length]; exact hl, ?_⟩
    obtain ⟨R3, G3⟩ := R1.mutOwn (o := .lst (_ ++ zs)) (d' := .list (xs ++ ds)) s2 e1 (.lst upd_same (rr.append rz))
    exact l.nx g1 σ _ _ R3 (G1.trans G3) q1
/-! ### xs[k] = v, xs one's own list -/
def dSetL (i : Nat) (dk dv : DE) : DS := fun DD ρ => dv ρ fun r ρ1 => wF (frz ρ1 r) fun d ρ2 => (∃ xs, ρ2[i]? = some (some (.ow (.list xs)))) ∧ dk ρ2 fun q ρ3 => wI (res ρ3 q) fun k => ∃ xs, ρ3[i]? = some (some (.ow (.list xs))) ∧ 0 ≤ k ∧ k < xs.length ∧ DD.nx (ρ3.set i (some (.ow (.list (xs.set k.toNat d)))))
theorem ls_setL (h : LE K tk dk) (h' : LE K tv dv) : LS K (tAsg tv (gSub (tVar i) tk rSetL)) (dSetL i dk dv) := by
  intro f g σ H ρ DD E hK R hd l
  refine h'.opd hK R hd fun v H1 g1 ρ1 r1 R1 G1 O1 q1 => ?_
  obtain ⟨d, ρ2, e2, q1⟩ := wF_some q1
  obtain ⟨g2, R2, G2, hv⟩ := O1.frz R1 e2
  obtain ⟨⟨xs0, e0⟩, q1⟩ := q1
  obtain ⟨w, w1, a, wa, m, h0, ns, rr⟩ := R2.slot i _ e0
  subst wa
  refine ⟨.ref a, w1, ?_⟩
  refine h.opd hK R2 q1 fun u H3 g3 ρ3 r3 R3 G3 O3 q3 => ?_
  obtain ⟨k, e3, xs, s4, k0, k1, q3⟩ := wI_some q3
  have eu := (O3.rn R3 e3).int
  subst eu
  obtain ⟨w', w2, a', wa', m', h0', ns', r4⟩ := R3.slot i _ s4
  rw [w1] at w2; cases w2; cases wa'
  cases r4 with
  | lst hh rr =>
    have hlen := rr.length
    refine ⟨a, _, k, k.toNat, rfl, rfl, hh, ?_, ?_⟩
    · unfold ixN
      rw [if_pos k0, if_pos (by omega)]
    · obtain ⟨R5, G5⟩ := R3.mutOwn (o := .lst (_)) (d' := .list (xs.set k.toNat d)) s4 w1 (.lst upd_same (rr.set (hv.mono G3.fz) k.toNat))
      exact l.nx g3 σ _ _ R5 (((G1.trans G2).trans G3).trans G5) q3
/-! ### xs.index(e), flat items -/
def dIndex (da de : DE) : DE := fun ρ Q => da ρ fun r ρ1 => wA ((res ρ1 r).bind listOf) fun _ => de ρ1 fun q ρ2 => wA ((res ρ2 r).bind listOf) fun ds => wD (res ρ2 q) fun e => flatP e = true ∧ ds.all flatP = true ∧ ∃ (j : Nat) (z : D), ds[j]? = some z ∧ PyData.eqv z e = true ∧ (∀ (m : Nat) (z' : D), m < j → ds[m]? = some z' → PyData.eqv z' e = false) ∧ Q (.fz (.int (j : Int))) ρ2
theorem le_index (h : LE K ta da) (h' : LE K te de) : LE K (tBM K "list" (rIndex K) ta (tCons te tNil)) (dIndex da de) := by
  intro f g σ H ρ Q R hK hR hd k
  refine h.opd hK hR hd fun v H1 g1 ρ1 r1 R1 G1 O1 q1 => ?_
  obtain ⟨ds0, e0, q1⟩ := wA_some q1
  subst hK
  obtain ⟨a, ys0, rfl, ha0, _⟩ := (O1.rn R1 (bind_list e0)).list fz_sub
  refine ⟨.inl ⟨rfl, _, .inl (.inl ha0)⟩, ?_⟩
  refine h'.opd rfl R1 q1 fun u H2 g2 ρ2 r2 R2 G2 O2 q2 => ?_
  obtain ⟨ds, e1, q2⟩ := wA_some q2
  obtain ⟨e, e2, fe, fd, j, z, hz, hze, hno, q2⟩ := wD_some q2
  obtain ⟨a', ys, ea, ha, ry⟩ := ((O1.mono G2).rn R2 (bind_list e1)).list fz_sub
  cases ea
  have re := (O2.rn R2 e2).flat fe
  obtain ⟨y, hy, rz⟩ := ry.get hz
  have fz : flatP z = true := List.all_eq_true.mp fd z (List.mem_of_getElem? hz)
  refine ⟨a, ys, u, j, y, rfl, rfl, .inl (.inl ha), flat_of re fe, flatA_of ry fd, hy, by rw [eqV_of rz re fz fe]; exact hze, fun m y' hm hy' => ?_, k _ H2 g2 ρ2 (.fz (.int _)) R2 (G1.trans G2) (.int _) q2⟩
  obtain ⟨z', hz', rz'⟩ := ry.getV hy'
  rw [eqV_of rz' re (List.all_eq_true.mp fd z' (List.mem_of_getElem? hz')) fe]
  exact hno m z' hm hz'
/-! ### sorted(d) of a dict of ints -/
def keysI (es : List (D × D)) : Option (List Int) := intsOf (es.map (·.1))
theorem RpK.keysI {F : Hp} {kvs : List (Key × V)} {es : List (D × D)} (h : RpK K F kvs es) {ns : List Int} (e : keysI es = some ns) : kvs.map (·.1) = ns.map Sum.inl := by
  unfold DL.keysI at e
  induction es generalizing kvs ns with
  | nil => cases h; cases e; rfl
  | cons x es ih =>
    cases h with
    | @cons k0 v0 d0 vs ds h r =>
      cases k0 with
      | inl n =>
        have e : (match intsOf (es.map (·.1)) with | some ms => some (n :: ms) | none => none) = some ns := e
        split at e
        · rename_i ms e2
          cases e
          rw [List.map_cons, List.map_cons, ih r e2]
        · cases e
      | inr x => cases e
def fSortedD : F1 := fun x Q => match x with
  | .list _ => fSorted x Q
  | .dict es => isT es = false ∧ wN (keysI es) fun ns => ns.length < 64 ∧ ∀ ms : List Int, ms.Perm ns → ms.Pairwise (· ≤ ·) → Q (.nw (.list (ms.map PyData.int)))
  | _ => False
def rSortedD (K : PySem.W.Frag) : List V → Hp → VK → Prop := fun xs H Q => rSortedI K xs H Q ∨ ∃ (a : Addr) (kvs : List (Key × V)) (ks : List Int), xs = [.ref a] ∧ Rd H a (.dK kvs) ∧ kvs.map (·.1) = ks.map Sum.inl ∧ ks.length < 64 ∧
    ∀ (ys : List Int) (p : Addr), ys.Perm ks → ys.Pairwise (· ≤ ·) → H p = none → Q (.ref p) (upd H p (.lst (ys.map V.int)))
theorem k_sortedD {X : Cx} (h : X.K = K) (hc : X.calm = true) : CallR X (.builtin "sorted") (rSortedD K) := (k_sorted h).or (call_sortedDI hc)
theorem cl_sortedD : CaL K (rSortedD K) (fA1 fSortedD) := by
  intro f g σ H ρ vs ds Q R hK hR hA hF0 k
  obtain ⟨d, rfl, hF⟩ := fA1_some hF0
  cases d with
  | list xs => exact .inl (cl_sorted f g σ H ρ vs _ Q R hK hR hA (show fA1 fSorted [.list xs] Q from hF) k)
  | dict es =>
    subst hK
    obtain ⟨v, rfl, h⟩ := hA.one
    obtain ⟨nt, hF⟩ := hF
    obtain ⟨ns, e, hl, q⟩ := wN_some hF
    obtain ⟨a, kvs, rfl, e1, r1⟩ := h.dict fz_sub nt
    exact .inr ⟨a, kvs, ns, rfl, .inl e1, r1.keysI e, hl, fun ys p hp hs hn => OEnd.lst k hR (RpA.of_ints ys) (q ys hp hs) p hn⟩
  | none => exact hF.elim
  | bool _ => exact hF.elim
  | int _ => exact hF.elim
  | str _ => exact hF.elim
  | tuple _ => exact hF.elim
end
/-! ### a, b, c, d = .. by way of a tuple -/
section
variable {K : PySem.W.Frag} {ta tb tc td : TE} {da db dc dd : DE}
def dPar4 (i j l m : Nat) (da db dc dd : DE) : DS := fun DD ρ => da ρ fun r ρ1 => wP (plainV ρ1 r) fun r1 ρ2 => db ρ2 fun q ρ3 => wP (plainV ρ3 q) fun q1 ρ4 => dc ρ4 fun s ρ5 => wP (plainV ρ5 s) fun s1 ρ6 => dd ρ6 fun y ρ7 => wP (plainV ρ7 y) fun y1 ρ8 => DD.nx (setR (setR (setR (setR ρ8 i r1) j q1) l s1) m y1)
theorem ls_par4T {i j l m : Nat} (h : LE K ta da) (h' : LE K tb db) (h'' : LE K tc dc) (h4 : LE K td dd) : LS K (tAsg (tTup (tCons ta (tCons tb (tCons tc (tCons td tNil))))) (gTup K 4 (gCons (gName i) (gCons (gName j) (gCons (gName l) (gCons (gName m) gNil)))))) (dPar4 i j l m da db dc dd) := by
  intro f g σ H ρ DD E hK R hd lk
  refine h f g σ H ρ _ _ hK R hd fun v H1 g1 ρ1 r R1 G1 V1 q1 => ?_
  obtain ⟨r1, ρ2, e1, q1⟩ := wP_some q1
  obtain ⟨g2, R2, G2, V2, p2⟩ := V1.plain R1 e1
  obtain ⟨g3, R3, hh⟩ := V2.held R2 p2
  refine h' f g3 σ H1 ρ2 _ _ hK R3 q1 fun w H4 g4 ρ4 q R4 G4 V4 q4 => ?_
  obtain ⟨qq, ρ5, e5, q5⟩ := wP_some q4
  obtain ⟨g5, R5, G5, V5, p5⟩ := V4.plain R4 e5
  obtain ⟨g6, R6, kk⟩ := V5.held R5 p5
  refine h'' f g6 σ H4 ρ5 _ _ hK R6 q5 fun z H7 g7 ρ7 s R7 G7 V7 q7 => ?_
  obtain ⟨ss, ρ8, e8, q8⟩ := wP_some q7
  obtain ⟨g8, R8, G8, V8, p8⟩ := V7.plain R7 e8
  obtain ⟨g9, R9, ll⟩ := V8.held R8 p8
  refine h4 f g9 σ H7 ρ8 _ _ hK R9 q8 fun y Ha ga ρa b Ra Ga Va qa => ?_
  obtain ⟨bb, ρb, eb, qb⟩ := wP_some qa
  obtain ⟨gb, Rb, Gb, Vb, pb⟩ := Va.plain Ra eb
  obtain ⟨gc, Rc, Gc, Vc, ll2⟩ := ll gb Ha ρb Rb (Ga.trans Gb) (fun i z => by rw [z] at p8; exact p8.elim)
  obtain ⟨Wc, nc⟩ := ll2 y bb Vb
  obtain ⟨gd, Rd, Gd, Vd, kk2⟩ := kk gc Ha ρb Rc ((G7.trans G8).trans Gc) (fun i z => by rw [z] at p5; exact p5.elim)
  obtain ⟨Wd, nd1⟩ := kk2 z ss Vc
  obtain ⟨Xd, nd2⟩ := kk2 y bb Wc
  obtain ⟨ge, Re, Ge, Ve, hh2⟩ := hh gd Ha ρb Rd ((G4.trans G5).trans Gd) (fun i z => by rw [z] at p2; exact p2.elim)
  obtain ⟨We, ne1⟩ := hh2 w qq Vd
  obtain ⟨Xe, ne2⟩ := hh2 z ss Wd
  obtain ⟨Ye, ne3⟩ := hh2 y bb Xd
  refine ⟨by show 4 ≤ sizeLine; rw [sizeLine_eq]; decide, fun p hp => ⟨p, [v, w, z, y], rfl, .inl (.inl upd_same), rfl, v, [w, z, y], rfl, w, [z, y], rfl, z, [y], rfl, y, [], rfl, rfl, ?_⟩⟩
  have S1 := Ve.put Re p2 i
  have B1 := We.putO Re p2 p5 (fun d e z1 z2 => ne1 d e z1 z2) i
  have C1 := Xe.putO Re p2 p8 (fun d e z1 z2 => ne2 d e z1 z2) i
  have D1 := Ye.putO Re p2 pb (fun d e z1 z2 => ne3 d e z1 z2) i
  have S2 := B1.put S1 p5 j
  have C2 := C1.putO S1 p5 p8 (fun d e z1 z2 => nd1 d e z1 z2) j
  have D2 := D1.putO S1 p5 pb (fun d e z1 z2 => nd2 d e z1 z2) j
  have S3 := C2.put S2 p8 l
  have D3 := D2.putO S2 p8 pb (fun d e z1 z2 => nc d e z1 z2) l
  obtain ⟨Rn, Gn, _⟩ := (D3.put S3 pb m).new (o := .tup [v, w, z, y]) hp
  exact lk.nx ge _ _ _ Rn (((G1.trans G2).trans Ge).trans Gn) qb
end
/-! ### xs.pop() -/
def dPop (i : Nat) : DE := fun ρ Q => ∃ xs d, ρ[i]? = some (some (.ow (.list (xs ++ [d])))) ∧ Q (.fz d) (ρ.set i (some (.ow (.list xs))))
theorem le_pop {K : PySem.W.Frag} {i : Nat} : LE K (tBM0 K "list" rPop (tVar i)) (dPop i) := by
  intro f g σ H ρ Q R hK hR hd k
  obtain ⟨xs, d, e0, hd⟩ := hd
  obtain ⟨w, e1, a, e2, m, h0, ns, r⟩ := hR.slot i _ e0
  subst e2
  cases r with
  | lst hh rr =>
    rename_i vs
    have hlen := rr.length
    rw [List.length_append, List.length_singleton] at hlen
    obtain ⟨y, ey, ry⟩ := rr.get (i := xs.length) (d := d) (by simp)
    have hdl : RpA f.K (Fz H g.M) vs.dropLast xs := by
      have h1 := rr.take xs.length
      rw [List.take_left] at h1
      rw [List.dropLast_eq_take, show vs.length - 1 = xs.length by omega]
      exact h1
    refine ⟨.ref a, e1, .inl ⟨rfl, _, .inl (.inl hh)⟩, a, _, y, rfl, rfl, hh, by rw [show vs.length - 1 = xs.length by omega]; exact ey, ?_⟩
    obtain ⟨R3, G3⟩ := hR.mutOwn (o := .lst vs.dropLast) (d' := .list xs) e0 e1 (.lst upd_same hdl)
    exact k y _ g _ (.fz d) R3 G3 (ry.mono G3.fz) hd
/-! ### shapes for == -/
structure SH (n : Nat) (d : D) : Prop where
  nd : d.hasDict = false
  cl : PyData.canLay0 d = true
  dp : d.depth ≤ n
structure SHs (n : Nat) (ds : List D) : Prop where
  nd : PyData.hasDictAll ds = false
  cl : PyData.canLayAll0 ds = true
  dp : PyData.depthAll ds ≤ n
theorem SH.int (i : Int) : SH 0 (.int i) := ⟨rfl, rfl, Nat.le_refl _⟩
theorem SH.mono {n m : Nat} {d : D} (h : SH n d) (e : n ≤ m) : SH m d := ⟨h.nd, h.cl, Nat.le_trans h.dp e⟩
theorem SHs.all {n : Nat} {ds : List D} (h : ∀ d ∈ ds, SH n d) : SHs n ds := by
  induction ds with
  | nil => exact ⟨rfl, rfl, by simp [PyData.depthAll]⟩
  | cons d ds ih =>
    have h1 := h d List.mem_cons_self
    have h2 := ih fun x hx => h x (List.mem_cons_of_mem _ hx)
    refine ⟨?_, ?_, ?_⟩
    · simp only [PyData.hasDictAll, h1.nd, h2.nd, Bool.or_self]
    · simp only [PyData.canLayAll0, h1.cl, h2.cl, Bool.and_self]
    · have := h1.dp; have := h2.dp; simp only [PyData.depthAll]; omega
theorem SH.list {n : Nat} {ds : List D} (h : SHs n ds) : SH (n + 1) (.list ds) := ⟨h.nd, h.cl, by have := h.dp; simp only [PyData.depth]; omega⟩
theorem SH.tuple {n : Nat} {ds : List D} (h : SHs n ds) : SH (n + 1) (.tuple ds) := ⟨h.nd, h.cl, by have := h.dp; simp only [PyData.depth]; omega⟩
theorem SHs.ints (ns : List Int) : SHs 0 (ns.map PyData.int) := .all fun d hd => by
  obtain ⟨n, _, rfl⟩ := List.mem_map.mp hd
  exact .int n
theorem SHs.cons {n : Nat} {d : D} {ds : List D} (h1 : SH n d) (h2 : SHs n ds) : SHs n (d :: ds) := by
  refine ⟨?_, ?_, ?_⟩
  · simp only [PyData.hasDictAll, h1.nd, h2.nd, Bool.or_self]
  · simp only [PyData.canLayAll0, h1.cl, h2.cl, Bool.and_self]
  · have := h1.dp; have := h2.dp; simp only [PyData.depthAll]; omega
theorem SHs.nil {n : Nat} : SHs n [] := ⟨rfl, rfl, by simp [PyData.depthAll]⟩
theorem SH.ok {n : Nat} {d : D} (h : SH n d) (hn : n ≤ 64) : eqOk d = true := by
  have h1 := h.nd
  have h2 := h.cl
  have h3 := h.dp
  simp only [eqOk, h1, SeqAt.shaped, h2, Bool.not_false, Bool.true_and, decide_eq_true_eq]
  omega
theorem SH.ok2 {n m : Nat} {d e : D} (h : SH n d) (h' : SH m e) (hn : n ≤ 64) (hm : m ≤ 64) : eqOk2 d e = true := by
  unfold eqOk2
  rw [h.ok hn, h'.ok hm]
  simp
end DL

set_option Elab.async false
set_option linter.all false
set_option maxRecDepth 100000
set_option maxHeartbeats 4000000
set_option autoImplicit false
namespace DL
open PySem L2
/-! ### two new lists told in a list, compared, then changed there -/
section
variable {f : Fr} {g g2 : Gs} {σ : L2.St} {H H2 : Hp} {ρ ρ2 : Rho} {a : Addr} {v : V} {i : Nat} {o : HO} {d : D}
theorem Rel.push (R : Rel f g σ H ρ) (m : g.M a) (ns : NoSrc g a) (u : ∀ (i : Nat) (e : D), ρ[i]? = some (some (.ow e)) → σ[i]? ≠ some (some (.ref a))) : Rel f (g.push a) σ H ρ := by
  refine ⟨R.keep, R.dom, R.m0, R.m00, R.mU, R.src, R.len, R.slot, R.uq, fun b hb => ?_, R.fpM, R.fpn, R.mq⟩
  rcases List.mem_cons.mp hb with rfl | hb
  · exact ⟨m, ns, u⟩
  · exact R.tmp b hb
theorem Rel.pop2 (R : Rel f g2 σ H2 ρ2) (G : Gro (g.push a) H g2 H2) : Rel f ⟨g2.M, g2.src, g.T, g2.fp⟩ σ H2 ρ2 ∧ Gro g H ⟨g2.M, g2.src, g.T, g2.fp⟩ H2 :=
  ⟨⟨R.keep, R.dom, R.m0, R.m00, R.mU, R.src, R.len, R.slot, R.uq, fun b hb => R.tmp b (by rw [G.tm]; exact List.mem_cons_of_mem _ hb), R.fpM, R.fpn, R.mq⟩, G.fz, G.src, rfl, (fun b hb => G.th b (List.mem_cons_of_mem _ hb)), G.fp⟩
theorem Rel.hide (R : Rel f g σ H ρ) : Rel f g (σ.set i (some v)) H (ρ.set i none) := by
  have ow : ∀ (j : Nat) (e : D), (ρ.set i none)[j]? = some (some (.ow e)) → j ≠ i ∧ ρ[j]? = some (some (.ow e)) := fun j e h => by
    rcases getset h with ⟨rfl, z⟩ | ⟨ne, z⟩
    · cases z
    · exact ⟨ne.symm, z⟩
  refine ⟨R.keep, R.dom, R.m0, R.m00, R.mU, R.src, by rw [List.length_set, List.length_set]; exact R.len, fun j s e => ?_, fun j k l d e h1 h2 h3 h4 => ?_, fun b hb => ⟨(R.tmp b hb).1, (R.tmp b hb).2.1, fun j e h1 h2 => ?_⟩, R.fpM, R.fpn, mq_set R.mq (fun _ z => nomatch z)⟩
  · rcases getset e with ⟨rfl, z⟩ | ⟨ne, z⟩
    · cases z
    · obtain ⟨w, e1, h⟩ := R.slot j s z
      exact ⟨w, by rw [List.getElem?_set_ne ne]; exact e1, h⟩
  · obtain ⟨n1, h1⟩ := ow j d h1
    obtain ⟨n2, h2⟩ := ow k e h2
    rw [List.getElem?_set_ne n1.symm] at h3
    rw [List.getElem?_set_ne n2.symm] at h4
    exact R.uq j k l d e h1 h2 h3 h4
  · obtain ⟨n1, h1⟩ := ow j e h1
    rw [List.getElem?_set_ne n1.symm] at h2
    exact (R.tmp b hb).2.2 j e h1 h2
/-- a thing that nothing tells of is changed -/
theorem Rel.mutFree (R : Rel f g σ H ρ) (m : g.M a) (h0 : f.H0 a = none) (ns : NoSrc g a) (ht : a ∉ g.T) (u : ∀ (i : Nat) (e : D), ρ[i]? = some (some (.ow e)) → σ[i]? ≠ some (some (.ref a))) (ho : MuO (some o)) :
    Rel f g σ (upd H a o) ρ ∧ Gro g H g (upd H a o) := by
  have hk : ∀ b o', H b = some o' → b ≠ a → upd H a o b = some o' := fun b o' e n => by rw [upd_ne n]; exact e
  have hG : Same (Fz H g.M) (Fz (upd H a o) g.M) := fz_mono fun b o' e n => ⟨hk b o' e fun q => n (q ▸ m), n⟩
  have hd : ∀ b, upd H a o b = none → H b = none := fun b e => by
    by_cases q : b = a
    · rw [q, upd_same] at e; cases e
    · rw [upd_ne q] at e; exact e
  refine ⟨⟨fun b o' e n => hk b o' (R.keep b o' e n) (fun q => by rw [q, h0] at e; cases e), fun b e => R.dom b (hd b e), R.m0, R.m00, fun b m => by
    by_cases q : b = a
    · rw [q, upd_same]; exact ho
    · rw [upd_ne q]; exact R.mU b m, fun p c e => ?_, R.len, fun j s e => ?_, R.uq, R.tmp, R.fpM, R.fpn, R.mq⟩, ⟨hG, fun _ h => h, rfl, (fun b hb => upd_ne fun q => ht (q ▸ hb)), rfl⟩⟩
  · obtain ⟨h1, h2, h3, h4, h5, h6⟩ := R.src p c e
    exact ⟨h1, h2, h3, h4, h5, srcOk_upd h6 (Ne.symm (ns.1 p c e).1) (Ne.symm (ns.1 p c e).2)⟩
  · obtain ⟨w, e1, q1⟩ := R.slot j s e
    refine ⟨w, e1, ?_⟩
    cases s with
    | sh d => exact Rp.mono hG q1
    | bo d => exact BoV.mono hG q1
    | ow d =>
      obtain ⟨b, e2, m', h0', ns', r⟩ := q1
      refine ⟨b, e2, m', h0', ns', r.mono hG fun o' e' => hk b o' e' fun z => u j d e ?_⟩
      rw [e1, e2, z]
    | src => exact q1
    | scr => exact q1
    | mu m2 =>
      obtain ⟨p, as, e2, e3, r⟩ := q1
      exact ⟨p, as, e2, e3, r.mono hG fun b hb o' e' => hk b o' e' fun z => ns.2 (by rw [e2, ← z]; exact hb)⟩
end
def nwL (r : Rv) (k : List D → Prop) : Prop := ∃ xs, r = .nw (.list xs) ∧ k xs
def dTold2 (i : Nat) (da db : DE) (dr : DF) (de dt : DE) : DS := fun DD ρ => da ρ fun r1 ρ1 => nwL r1 fun d1 => db ρ1 fun r2 ρ2 => nwL r2 fun d2 => dr ρ2 fun ds ρ3 =>
  i < ρ3.length ∧ ds.length + 2 ≤ sizeLine ∧ reprOkP (.list (.list d1 :: .list d2 :: ds)) ∧ de (ρ3.set i none) fun r ρ4 => wD (res ρ4 r) fun y =>
    eqOk2 (.str (PyData.shown (.list (.list d1 :: .list d2 :: ds)))) y = true ∧ useB (true != PyData.eqv (.str (PyData.shown (.list (.list d1 :: .list d2 :: ds)))) y) (dt ρ4 DD.rt) (d1.length < sizeLine ∧ d2.length < sizeLine ∧ DD.nx ρ4)
theorem Rt.lstOf {K : PySem.W.Frag} {F G : Hp} {a : Addr} {ds : List D} (h : Rt K F G a (.list ds)) : ∃ xs, G a = some (.lst xs) ∧ RpA K F xs ds := by
  cases h with
  | lst h r => exact ⟨_, h, r⟩
theorem ls_told2 {K : PySem.W.Frag} {i : Nat} {ta tb te t : TE} {da db de dt : DE} {tr : TA} {dr : DF} (h1 : LE K ta da) (h2 : LE K tb db) (h3 : LF K tr dr) (h4 : LE K te de) (h5 : LE K t dt) :
    LS K (tSeq (tAsg (tLst (tCons ta (tCons tb tr))) (gName i)) (tSeq (tIfS (tTest (tOp (fun x y H Q => rNe x y H Q ∨ rNeD K x y H Q) (tCB (rReprP K) (tCons (tVar i) tNil)) te)) (tRet t) tNext)
      (tSeq (tDrop (tBM K "list" rAppend (tOp (rIx K) (tVar i) (tC (.int 0))) (tCons (tC .non) tNil))) (tDrop (tBM K "list" rAppend (tOp (rIx K) (tVar i) (tC (.int 1))) (tCons (tC .non) tNil)))))) (dTold2 i da db dr de dt) := by
  intro f g σ H ρ DD E hK hR hd l
  subst hK
  refine h1 f g σ H ρ _ _ rfl hR hd fun v1 H1 g1 ρ1 r1 R1 G1 V1 q1 => ?_
  obtain ⟨d1, rfl, q1⟩ := q1
  obtain ⟨a1, rfl, m1, z1, n1, t1, nt1, u1⟩ := V1
  have P1 := R1.push m1 n1 u1
  refine h2 f _ σ H1 ρ1 _ _ rfl P1 q1 fun v2 H2 g2 ρ2 r2 R2 G2 V2 q2 => ?_
  obtain ⟨d2, rfl, q2⟩ := q2
  obtain ⟨a2, rfl, m2, z2, n2, t2, nt2, u2⟩ := V2
  have P2 := R2.push m2 n2 u2
  refine h3 f _ σ H2 ρ2 _ _ rfl P2 q2 fun vs H3 g3 ρ3 ds R3 G3 O3 q3 => ?_
  obtain ⟨hi, hl, hr, q3⟩ := q3
  refine ⟨by show vs.length + 2 ≤ sizeLine; rw [O3.length]; exact hl, fun p hp => ?_⟩
  obtain ⟨R4, G4, e4⟩ := R3.new (o := .lst (.ref a1 :: .ref a2 :: vs)) hp
  have G24 := G3.trans G4
  have R5 := R4.hide (i := i) (v := .ref p)
  have hi' : i < σ.length := by rw [← R3.len]; exact hi
  have hσ : (σ.set i (some (.ref p)))[i]? = some (some (.ref p)) := List.getElem?_set_self hi'
  -- the lists are where they were
  have w1 : upd H3 p (.lst (.ref a1 :: .ref a2 :: vs)) a1 = H1 a1 := by
    rw [← G2.th a1 List.mem_cons_self]
    exact G24.th a1 (List.mem_cons_of_mem _ (by rw [G2.tm]; exact List.mem_cons_self))
  have w2 : upd H3 p (.lst (.ref a1 :: .ref a2 :: vs)) a2 = H2 a2 := G24.th a2 List.mem_cons_self
  have f12 : Same (Fz H1 g1.M) (Fz H2 g2.M) := G2.fz
  have f24 : Same (Fz H2 g2.M) (Fz (upd H3 p (.lst (.ref a1 :: .ref a2 :: vs))) g3.M) := G24.fz
  have rp : Rp f.K (upd H3 p (.lst (.ref a1 :: .ref a2 :: vs))) (.ref p) (.list (.list d1 :: .list d2 :: ds)) := by
    refine .lst (xs := .ref a1 :: .ref a2 :: vs) upd_same (.cons ?_ (.cons ?_ (O3.mono (G4.fz.trans fz_sub))))
    · exact t1.rp ((f12.trans f24).trans fz_sub) fun o e => w1.trans e
    · exact t2.rp (f24.trans fz_sub) fun o e => w2.trans e
  obtain ⟨s1, s2, s3, s4⟩ := hr
  refine ⟨.ref p, hσ, .ref p, .list (.list d1 :: .list d2 :: ds), rfl, ⟨_, Same.refl _, .inl rp⟩, s1, s2, s3, s4, ?_⟩
  refine h4.opd rfl R5 q3 fun v6 H6 g6 ρ6 r6 R6 G6 O6 q6 => ?_
  obtain ⟨y, e6, hq, q6⟩ := wD_some q6
  have G26 := G24.trans G6
  refine ol_ne f g6 _ H6 ρ6 _ v6 _ y (fun r => r = .fz (.bool (true != PyData.eqv (.str (PyData.shown (.list (.list d1 :: .list d2 :: ds)))) y))) _ rfl R6 (.inl (.str _)) (O6.rn R6 e6) ⟨hq, rfl⟩ ?_
  rintro z H7 g7 _ R7 G7 V7 rfl
  obtain rfl := RN.bool (K := f.K) (F := Fz H7 g7.M) (H := H7) (.inl V7)
  refine ⟨_, rfl, ?_⟩
  have G27 := G26.trans G7
  obtain ⟨R8, G8⟩ := R7.pop2 G27
  obtain ⟨R9, G9⟩ := R8.pop2 (g := g1) (a := a1) (G2.trans G8)
  have l9 := l.mono (G1.trans G9)
  cases hb : (true != PyData.eqv (.str (PyData.shown (.list (.list d1 :: .list d2 :: ds)))) y) with
  | true =>
    rw [hb] at q6
    exact h5 f _ _ H7 ρ6 _ _ rfl R9 (useB_t q6) fun v8 H8 g8 ρ8 r8 R8 G8 V8 q8 => l9.rt g8 _ H8 ρ8 v8 r8 R8 G8 V8 q8
  | false =>
    rw [hb] at q6
    obtain ⟨hl1, hl2, q6⟩ := useB_f q6
    have hp7 : H7 p = some (.lst (.ref a1 :: .ref a2 :: vs)) := (of_fz ((G6.trans G7).fz _ _ e4)).1
    obtain ⟨xs1, b1, c1⟩ := t1.lstOf
    obtain ⟨xs2, b2, c2⟩ := t2.lstOf
    have k1 : H7 a1 = some (.lst xs1) := ((G27.th a1 (List.mem_cons_of_mem _ (by rw [G2.tm]; exact List.mem_cons_self))).trans (G2.th a1 List.mem_cons_self)).trans b1
    have k2 : H7 a2 = some (.lst xs2) := (G27.th a2 List.mem_cons_self).trans b2
    have ne12 : a2 ≠ a1 := fun e => nt2 (by rw [G2.tm, e]; exact List.mem_cons_self)
    have hT2 : g7.T = a2 :: g2.T := G27.tm
    have hT1 : g2.T = a1 :: g1.T := G2.tm
    have tm1 := R7.tmp a1 (by rw [hT2, hT1]; exact List.mem_cons_of_mem _ List.mem_cons_self)
    have tm2 := R7.tmp a2 (by rw [hT2]; exact List.mem_cons_self)
    obtain ⟨RA, GA⟩ := R9.mutFree (a := a1) (o := .lst (xs1 ++ [.non])) tm1.1 z1 tm1.2.1 nt1 tm1.2.2 trivial
    obtain ⟨RB, GB⟩ := RA.mutFree (a := a2) (o := .lst (xs2 ++ [.non])) tm2.1 z2 tm2.2.1 (fun z => nt2 (by rw [hT1]; exact List.mem_cons_of_mem _ z)) tm2.2.2 trivial
    have npa1 : p ≠ a1 := fun e => by
      have := (of_fz e4).2
      rw [e] at this
      exact this (R4.tmp a1 (by rw [G3.tm]; exact List.mem_cons_of_mem _ (by rw [hT1]; exact List.mem_cons_self))).1
    refine ⟨.ref p, hσ, ?_⟩
    refine .inl ⟨p, _, 0, .ref a1, rfl, rfl, .inl (.inl hp7), (by simp [atI, ixN, show (0 : Int) < (vs.length : Int) + 1 + 1 by omega]), ?_⟩
    refine ⟨.inl ⟨rfl, _, .inl (.inl k1)⟩, a1, xs1, .non, rfl, rfl, k1, by rw [c1.length]; exact hl1, ?_⟩
    refine ⟨.ref p, hσ, ?_⟩
    refine .inl ⟨p, _, 1, .ref a2, rfl, rfl, .inl (.inl (by rw [upd_ne npa1]; exact hp7)), (by simp [atI, ixN, show (1 : Int) < (vs.length : Int) + 1 + 1 by omega]), ?_⟩
    have k2' : upd H7 a1 (.lst (xs1 ++ [.non])) a2 = some (.lst xs2) := by rw [upd_ne ne12]; exact k2
    refine ⟨.inl ⟨rfl, _, .inl (.inl k2')⟩, a2, xs2, .non, rfl, rfl, k2', by rw [c2.length]; exact hl2, ?_⟩
    exact l9.nx _ _ _ ρ6 RB (GA.trans GB) q6
end DL

set_option Elab.async false
set_option linter.all false
set_option maxRecDepth 100000
set_option maxHeartbeats 4000000
set_option autoImplicit false
namespace DL
open PySem L2
/-! ### what is passed by reference: reading and changing its lists -/
def keyAt : List (Key × List D) → Key → Option Nat
  | [], _ => none
  | e :: es, k => if e.1 = k then some 0 else (keyAt es k).map (· + 1)
theorem keyAt_val {es : List (Key × List D)} {as : List Addr} {k : Key} {n : Nat} (h : keyAt es k = some n) (hl : as.length = es.length) : ∃ a, as[n]? = some a ∧ valV ((es.map (·.1)).zip (as.map V.ref)) k = some (.ref a) := by
  induction es generalizing as n with
  | nil => cases h
  | cons e es ih =>
    cases as with
    | nil => simp at hl
    | cons a as =>
      unfold keyAt at h
      by_cases q : e.1 = k
      · rw [if_pos q] at h
        cases h
        exact ⟨a, rfl, by simp [valV, q]⟩
      · rw [if_neg q] at h
        obtain ⟨m, e1, rfl⟩ := Option.map_eq_some_iff.mp h
        obtain ⟨b, h1, h2⟩ := ih (as := as) e1 (by simpa using hl)
        refine ⟨b, by simpa using h1, ?_⟩
        rw [List.map_cons, List.map_cons, List.zip_cons_cons, valV_neg q]
        exact h2
/-- x[k], x a dict of lists of one's own -/
def dMuGet (i : Nat) (dk : DE) : DE := fun ρ Q => dk ρ fun q ρ1 => wK (res ρ1 q) fun key => ∃ es n, ρ1[i]? = some (some (.mu (.dl es))) ∧ keyAt es key = some n ∧ Q (.mi i n) ρ1
/-- x[k], x a list of lists of one's own -/
def dMuIx (i : Nat) (dk : DE) : DE := fun ρ Q => dk ρ fun q ρ1 => ∃ es n, res ρ1 q = some (.int n) ∧ ρ1[i]? = some (some (.mu (.ll es))) ∧ (0 ≤ n ∧ n < es.length) ∧ Q (.mi i n.toNat) ρ1
section
variable {K : PySem.W.Frag} {tk te to : TE} {dk de do' : DE} {i : Nat} {f : Fr} {g : Gs} {σ : L2.St} {H H' : Hp} {ρ : Rho}
/-- the root's address -/
theorem Rel.muAt {m : MD} (R : Rel f g σ H ρ) (h : ρ[i]? = some (some (.mu m))) : ∃ p as, σ[i]? = some (some (.ref p)) ∧ g.fp = p :: as ∧ Rm f.K (Fz H g.M) H p as m := by
  obtain ⟨w, e1, p, as, e2, rfl, h⟩ := R.slot i _ h
  exact ⟨p, as, e1, e2, h⟩
def isMu (ρ : Rho) (i : Nat) : Bool := match ρ[i]? with
  | some (some (.mu _)) => true
  | _ => false
theorem isMu_some (h : isMu ρ i = true) : ∃ m, ρ[i]? = some (some (.mu m)) := by
  unfold isMu at h
  split at h
  · exact ⟨_, by assumption⟩
  · cases h
def dMuGetV (i : Nat) (dk : DE) : DE := fun ρ Q => isMu ρ i = true ∧ dMuGet i dk ρ Q
def dMuIxV (i : Nat) (dk : DE) : DE := fun ρ Q => isMu ρ i = true ∧ dMuIx i dk ρ Q
theorem le_muGetV (h : LE K tk dk) : LE K (tDGet (tVar i) tk) (dMuGetV i dk) := by
  intro f g σ H ρ Q R hK hR hd k
  obtain ⟨h0, hd⟩ := hd
  obtain ⟨m0, h0⟩ := isMu_some h0
  obtain ⟨p0, as0, e0, f0, _⟩ := hR.muAt h0
  refine ⟨_, e0, ?_⟩
  refine h.opd hK hR hd fun u H1 g1 ρ1 r1 R1 G1 O1 q1 => ?_
  obtain ⟨key, e1, q1⟩ := wK_some q1
  obtain ⟨es, n, h1, h2, q1⟩ := q1
  obtain ⟨p, as, e2, f1, h3, h4⟩ := R1.muAt h1
  rw [e0] at e2; cases e2
  subst hK
  rw [(O1.rn R1 e1).key]
  obtain ⟨a, h5, h6⟩ := keyAt_val h2 (by rw [h4.1, List.length_map])
  refine ⟨p0, .ref a, rfl, .inl ⟨_, key, .inl h3, rfl, h6.symm⟩, ?_⟩
  exact k _ H1 g1 ρ1 (.mi i n) R1 G1 ⟨_, p0, as, a, h1, f1, h5, rfl⟩ q1
theorem le_muIxV (h : LE K tk dk) : LE K (tOp (rIx K) (tVar i) tk) (dMuIxV i dk) := by
  intro f g σ H ρ Q R hK hR hd k
  obtain ⟨h0, hd⟩ := hd
  obtain ⟨m0, h0⟩ := isMu_some h0
  obtain ⟨p0, as0, e0, f0, _⟩ := hR.muAt h0
  refine ⟨_, e0, ?_⟩
  refine h.opd hK hR hd fun u H1 g1 ρ1 r1 R1 G1 O1 q1 => ?_
  obtain ⟨es, n, e1, h1, ⟨n1, n2⟩, q1⟩ := q1
  obtain ⟨p, as, e2, f1, h3, h4⟩ := R1.muAt h1
  rw [e0] at e2; cases e2
  subst hK
  obtain rfl := (O1.rn R1 e1).int
  have hl : as.length = es.length := h4.1
  have hn : n.toNat < as.length := by omega
  refine .inl ⟨p0, _, n, .ref as[n.toNat], rfl, rfl, .inl (.inl h3), ?_, ?_⟩
  · unfold L2.atI ixN
    rw [if_pos n1, if_pos (by rw [List.length_map]; omega)]
    show (as.map V.ref)[n.toNat]? = _
    rw [List.getElem?_map, List.getElem?_eq_getElem hn]
    rfl
  · exact k _ H1 g1 ρ1 (.mi i n.toNat) R1 G1 ⟨_, p0, as, _, h1, f1, List.getElem?_eq_getElem hn, rfl⟩ q1
/-! ### appending -/
theorem nodup_ix {as : List Addr} (h : as.Nodup) {i j : Nat} (hi : i < as.length) (hj : j < as.length) (e : as[i] = as[j]) : i = j := by
  have key : ∀ {a b : Nat} (ha : a < as.length) (hb : b < as.length), a < b → as[a] ≠ as[b] := fun ha hb hab => List.pairwise_iff_getElem.mp h _ _ ha hb hab
  rcases Nat.lt_trichotomy i j with z | z | z
  · exact absurd e (key hi hj z)
  · exact z
  · exact absurd e.symm (key hj hi z)
def putMi (k : Nat) (ds : List D) : MD → MD
  | .fl xs => .fl xs
  | .ll es => .ll (es.set k ds)
  | .dl es => match es[k]? with
    | some e => .dl (es.set k (e.1, ds))
    | none => .dl es
theorem RmA.put {F : Hp} {as : List Addr} {es : List (List D)} {n : Nat} {a : Addr} {ds : List D} {vs : List V} (h : RmA K F H as es) (ha : as[n]? = some a) (hnd : as.Nodup) (hr : RpA K F vs ds) : RmA K F (upd H a (.lst vs)) as (es.set n ds) := by
  refine ⟨by rw [List.length_set]; exact h.1, fun k b es' h1 h2 => ?_⟩
  by_cases e : n = k
  · subst e
    rw [ha] at h1; cases h1
    rcases getset h2 with ⟨_, z⟩ | ⟨z, _⟩
    · rw [z]; exact ⟨vs, upd_same, hr⟩
    · exact absurd rfl z
  · rw [List.getElem?_set_ne e] at h2
    obtain ⟨ws, h3, h4⟩ := h.2 k b es' h1 h2
    refine ⟨ws, ?_, h4⟩
    rw [upd_ne]
    · exact h3
    · rintro rfl
      obtain ⟨hk1, e1⟩ := List.getElem?_eq_some_iff.mp h1
      obtain ⟨hn1, e2⟩ := List.getElem?_eq_some_iff.mp ha
      exact e (nodup_ix hnd hn1 hk1 (e2.trans e1.symm))
theorem Rel.mutMu {m m' : MD} {a : Addr} {o : HO} (R : Rel f g σ H ρ) (hs : ρ[i]? = some (some (.mu m))) (ha : a ∈ g.fp) (hrm : ∀ p as, g.fp = p :: as → Rm f.K (Fz (upd H a o) g.M) (upd H a o) p as m') :
    Rel f g σ (upd H a o) (ρ.set i (some (.mu m'))) ∧ Gro g H g (upd H a o) := by
  have hk : ∀ b o', H b = some o' → NoS g.src b → b ∉ g.fp → upd H a o b = some o' := fun b o' e _ n => by rw [upd_ne (fun (z : b = a) => n (by rw [z]; exact ha))]; exact e
  have hd : ∀ b, upd H a o b = none → H b = none := fun b e => by
    by_cases q : b = a
    · rw [q, upd_same] at e; cases e
    · rw [upd_ne q] at e; exact e
  have hsrc : ∀ p c, g.src = some (p, c) → SrcOk (upd H a o) p c := fun p c e => by
    have := (R.fpM a ha).2.2 p c e
    exact srcOk_upd (R.src p c e).2.2.2.2.2 (Ne.symm this.1) (Ne.symm this.2)
  exact R.stepG (M' := g.M) (fun _ h => h) (fun _ h => .inl h) hs hk hd hsrc hrm
theorem fz_updM {F : Hp} {a : Addr} {o : HO} {M : AP} (m : M a) : Same (Fz H M) (Fz (upd H a o) M) := fz_mono fun b o' e n => ⟨by rw [upd_ne (fun (z : b = a) => n (by rw [z]; exact m))]; exact e, n⟩
def dAppMi (do' de : DE) : DS := fun DD ρ => do' ρ fun r ρ1 => ∃ i n, r = .mi i n ∧ (miD n ρ1[i]?).isSome = true ∧ de ρ1 fun q ρ2 => wF (frz ρ2 q) fun d ρ3 => ∃ m ds, ρ3[i]? = some (some (.mu m)) ∧ miD n (some (some (.mu m))) = some (.list ds) ∧ ds.length < sizeLine ∧ DD.nx (ρ3.set i (some (.mu (putMi n (ds ++ [d]) m))))
theorem ls_appMi (ho : LE K to do') (h : LE K te de) : LS K (tDrop (tBM K "list" rAppend to (tCons te tNil))) (dAppMi do' de) := by
  intro f g σ H ρ DD E hK hR hd l
  refine ho f g σ H ρ _ _ hK hR hd fun x H1 g1 ρ1 r1 R1 G1 V1 q1 => ?_
  obtain ⟨i, n, rfl, hsm, q1⟩ := q1
  obtain ⟨m0, p0, as0, a, hm0, f0, ha0, rfl⟩ := V1
  obtain ⟨d0, hd0⟩ := Option.isSome_iff_exists.mp hsm
  rw [hm0] at hd0
  obtain ⟨ds0, vs0, _, hv0, _⟩ := R1.inner hm0 f0 ha0 hd0
  refine ⟨.inl ⟨rfl, vs0, .inl (.inl hv0)⟩, ?_⟩
  refine h.opd hK R1 q1 fun v H2 g2 ρ2 r2 R2 G2 O2 q2 => ?_
  obtain ⟨d, ρ3, e3, q2⟩ := wF_some q2
  obtain ⟨g3, R3, G3, hv⟩ := O2.frz R2 e3
  obtain ⟨m, ds, hm, hi, hl, q2⟩ := q2
  have f3 : g3.fp = p0 :: as0 := (G3.fp.trans G2.fp).trans f0
  obtain ⟨ds', vs, e4, hh, rr⟩ := R3.inner hm f3 ha0 hi
  cases e4
  have ham : a ∈ g3.fp := by rw [f3]; exact List.mem_cons_of_mem _ (List.mem_of_getElem? ha0)
  have hnd := R3.fpn
  rw [f3] at hnd
  obtain ⟨hp0, hnd⟩ := List.nodup_cons.mp hnd
  have hpa : p0 ≠ a := fun z => hp0 (z ▸ List.mem_of_getElem? ha0)
  have mo := fz_updM (H := H2) (F := H2) (o := .lst (vs ++ [v])) (R3.fpM a ham).1
  have rr2 := (rr.append (.cons hv .nil)).mono mo
  refine ⟨a, vs, v, rfl, rfl, hh, by rw [rr.length]; exact hl, ?_⟩
  obtain ⟨R4, G4⟩ := R3.mutMu (a := a) (o := .lst (vs ++ [v])) (m' := putMi n (ds ++ [d]) m) hm ham (fun p as e => by
    rw [f3] at e; cases e
    obtain ⟨p', as', _, e5, hr⟩ := R3.muAt hm
    rw [f3] at e5; cases e5
    cases m with
    | fl xs => cases hi
    | ll es => exact ⟨by rw [upd_ne hpa]; exact hr.1, (hr.2.mono mo (fun _ _ _ z => z)).put ha0 hnd rr2⟩
    | dl es =>
      simp only [miD] at hi
      obtain ⟨x, e6, e7⟩ := Option.map_eq_some_iff.mp hi
      simp only [putMi, e6]
      have ek : (es.set n (x.1, ds ++ [d])).map (·.1) = es.map (·.1) := by
        rw [List.map_set]
        apply List.ext_getElem?
        intro j
        by_cases ej : n = j
        · subst ej
          have hn := (List.getElem?_eq_some_iff.mp e6).1
          rw [List.getElem?_set_self (by rw [List.length_map]; exact hn), List.getElem?_map, e6]
          rfl
        · rw [List.getElem?_set_ne ej]
      refine ⟨by rw [upd_ne hpa, ek]; exact hr.1, ?_⟩
      have := (hr.2.mono mo (fun _ _ _ z => z)).put ha0 hnd rr2
      rw [List.map_set]
      exact this)
  exact l.nx g3 σ _ _ R4 (((G1.trans G2).trans G3).trans G4) q2
/-- a flat one -/
def dAppFl (i : Nat) (de : DE) : DS := fun DD ρ => isMu ρ i = true ∧ (mrD ρ[i]?).isSome = true ∧ de ρ fun q ρ2 => wF (frz ρ2 q) fun d ρ3 => ∃ ds, ρ3[i]? = some (some (.mu (.fl ds))) ∧ ds.length < sizeLine ∧ DD.nx (ρ3.set i (some (.mu (.fl (ds ++ [d])))))
theorem ls_appFl (h : LE K te de) : LS K (tDrop (tBM K "list" rAppend (tVar i) (tCons te tNil))) (dAppFl i de) := by
  intro f g σ H ρ DD E hK hR hd l
  obtain ⟨h0, hsm, hd⟩ := hd
  obtain ⟨m0, h0⟩ := isMu_some h0
  obtain ⟨ds0, e0⟩ : ∃ ds, m0 = .fl ds := by
    rw [h0] at hsm
    cases m0 with
    | fl ds => exact ⟨ds, rfl⟩
    | _ => cases hsm
  subst e0
  obtain ⟨p, vs0, f0, e0, hv0, _⟩ := hR.flat h0
  refine ⟨_, e0, .inl ⟨rfl, vs0, .inl (.inl hv0)⟩, ?_⟩
  refine h.opd hK hR hd fun v H2 g2 ρ2 r2 R2 G2 O2 q2 => ?_
  obtain ⟨d, ρ3, e3, q2⟩ := wF_some q2
  obtain ⟨g3, R3, G3, hv⟩ := O2.frz R2 e3
  obtain ⟨ds, hm, hl, q2⟩ := q2
  obtain ⟨p', vs, f3, e4, hh, rr⟩ := R3.flat hm
  rw [e0] at e4; cases e4
  have ham : p ∈ g3.fp := by rw [f3]; exact List.mem_cons_self
  have mo := fz_updM (H := H2) (F := H2) (o := .lst (vs ++ [v])) (R3.fpM p ham).1
  refine ⟨p, vs, v, rfl, rfl, hh, by rw [rr.length]; exact hl, ?_⟩
  obtain ⟨R4, G4⟩ := R3.mutMu (a := p) (o := .lst (vs ++ [v])) (m' := .fl (ds ++ [d])) hm ham (fun q as e => by
    rw [f3] at e; cases e
    exact ⟨rfl, _, upd_same, (rr.append (.cons hv .nil)).mono mo⟩)
  exact l.nx g3 σ _ _ R4 ((G2.trans G3).trans G4) q2
end
end DL

set_option Elab.async false
set_option linter.all false
set_option maxRecDepth 100000
set_option maxHeartbeats 4000000
set_option autoImplicit false
namespace DL
open PySem L2
/-! ### the scope of what is passed by reference -/
def killS : Option Sl → Option Sl
  | some (.mu _) => none
  | o => o
def killMu (ρ : Rho) : Rho := ρ.map killS
theorem killMu_get {ρ : Rho} {i : Nat} {s : Sl} (h : (killMu ρ)[i]? = some (some s)) : ρ[i]? = some (some s) ∧ ∀ m, s ≠ .mu m := by
  unfold killMu at h
  rw [List.getElem?_map] at h
  cases e : ρ[i]? with
  | none => rw [e] at h; cases h
  | some o =>
    rw [e] at h
    have h : killS o = some s := Option.some.inj h
    unfold killS at h
    split at h
    · cases h
    · rename_i hn
      subst h
      exact ⟨rfl, fun m z => hn m (by rw [z])⟩
theorem killMu_of {ρ : Rho} {i : Nat} {s : Sl} (h : ρ[i]? = some (some s)) (hn : ∀ m, s ≠ .mu m) : (killMu ρ)[i]? = some (some s) := by
  unfold killMu
  rw [List.getElem?_map, h]
  show some (killS (some s)) = _
  cases s with
  | mu m => exact absurd rfl (hn m)
  | _ => rfl
def noMuR (ρ : Rho) : Bool := ρ.all fun o => match o with
  | some (.mu _) => false
  | _ => true
theorem noMuR_get {ρ : Rho} (h : noMuR ρ = true) {i : Nat} {m : MD} : ρ[i]? ≠ some (some (.mu m)) := fun e => by
  have := List.all_eq_true.mp h _ (List.mem_of_getElem? e)
  cases this
def outR (ρ : Rho) : Rv → Option Rv
  | .mr i => (mrD ρ[i]?).map .nw
  | .mi _ _ => none
  | r => some r
def dOut (DD : DEnds) : DEnds where
  nx ρ := DD.nx (killMu ρ)
  rt r ρ := ∃ r', outR ρ r = some r' ∧ DD.rt r' (killMu ρ)
  bk ρ := DD.bk (killMu ρ)
  ct ρ := DD.ct (killMu ρ)
section
variable {f : Fr} {g g0 : Gs} {σ : L2.St} {H H' : Hp} {ρ : Rho} {v : V} {r r' : Rv} {i : Nat} {m : MD}
theorem Rel.leave (R : Rel f g σ H ρ) (hT : g.T = g0.fp ++ g0.T) (hw : ∀ a ∈ g0.fp, Wr f a) (hn : g0.fp.Nodup) (hdj : ∀ a ∈ g0.T, a ∉ g0.fp) : Rel f ⟨g.M, g.src, g0.T, g0.fp⟩ σ H (killMu ρ) := by
  have inT : ∀ a ∈ g0.fp, a ∈ g.T := fun a h => by rw [hT]; exact List.mem_append_left _ h
  refine ⟨R.keep, R.dom, R.m0, R.m00, R.mU, R.src, by unfold killMu; rw [List.length_map]; exact R.len, fun i s e => ?_, fun i j l d e h1 h2 => R.uq i j l d e (killMu_get h1).1 (killMu_get h2).1, fun a h => ?_, fun a h => ?_, hn, fun i j d e h1 _ => absurd rfl ((killMu_get h1).2 d)⟩
  · obtain ⟨h1, h2⟩ := killMu_get e
    obtain ⟨v, e1, h⟩ := R.slot i s h1
    refine ⟨v, e1, ?_⟩
    cases s with
    | sh d => exact h
    | bo d => exact h
    | ow d =>
      obtain ⟨a, e2, m, h0, ns, r⟩ := h
      exact ⟨a, e2, m, h0, ⟨ns.1, fun z => (R.tmp a (inT a z)).2.2 i d h1 (by rw [e1, e2])⟩, r⟩
    | src => exact h
    | scr => exact h
    | mu m => exact absurd rfl (h2 m)
  · have ha : a ∈ g.T := by rw [hT]; exact List.mem_append_right _ h
    obtain ⟨h1, h2, h3⟩ := R.tmp a ha
    refine ⟨h1, ⟨h2.1, hdj a h⟩, fun j e h4 => h3 j e (killMu_get h4).1⟩
  · obtain ⟨h1, h2, _⟩ := R.tmp a (inT a h)
    exact ⟨h1, hw a h, h2.1⟩
theorem VR.leave (R : Rel f g σ H ρ) (hT : g.T = g0.fp ++ g0.T) (hz : ∀ a ∈ g.fp, f.H0 a = none) (V : VR f g σ H ρ v r) (e : outR ρ r = some r') : VR f ⟨g.M, g.src, g0.T, g0.fp⟩ σ H (killMu ρ) v r' := by
  have inT : ∀ a ∈ g0.fp, a ∈ g.T := fun a h => by rw [hT]; exact List.mem_append_left _ h
  have inT2 : ∀ a ∈ g0.T, a ∈ g.T := fun a h => by rw [hT]; exact List.mem_append_right _ h
  cases r with
  | fz d => cases e; exact V
  | nw d =>
    cases e
    obtain ⟨a, rfl, m, h0, ns, r, t, u⟩ := V
    exact ⟨a, rfl, m, h0, ⟨ns.1, fun z => t (inT a z)⟩, r, fun z => t (inT2 a z), fun j e h => u j e (killMu_get h).1⟩
  | vr i =>
    cases e
    obtain ⟨s, h1, h2, h3⟩ := V
    exact ⟨s, killMu_of h1 (fun m z => by rw [z] at h2; exact h2), h2, h3⟩
  | src => cases e; exact V
  | scr => cases e; exact V
  | mi _ _ => cases e
  | mr i =>
    have e : (mrD ρ[i]?).map Rv.nw = some r' := e
    obtain ⟨d, e1, rfl⟩ := Option.map_eq_some_iff.mp e
    obtain ⟨m, h1, h2⟩ := V
    rw [h1] at e1
    cases m with
    | fl ds =>
      cases e1
      obtain ⟨p, vs, f1, e2, h3, h4⟩ := R.flat h1
      rw [h2] at e2; cases e2
      have hp : p ∈ g.fp := by rw [f1]; exact List.mem_cons_self
      have nT : p ∉ g.T := fun z => (R.tmp p z).2.1.2 hp
      refine ⟨p, rfl, (R.fpM p hp).1, hz p hp, ⟨(R.fpM p hp).2.2, fun z => nT (inT p z)⟩, .lst h3 h4, fun z => nT (inT2 p z), fun j e h5 h6 => ?_⟩
      obtain ⟨w, e3, b, e4, _, _, ns, _⟩ := R.slot j _ (killMu_get h5).1
      rw [h6] at e3; cases e3; cases e4
      exact ns.2 hp
    | _ => cases e1
theorem Rel.enter {nf : List Addr} {M' : AP} {p : Addr} {as : List Addr} (R : Rel f g σ H ρ) (hnm : noMuR ρ = true) (hi : i < ρ.length) (hM1 : ∀ a, g.M a → M' a) (hM2 : ∀ a, M' a → g.M a ∨ a ∈ nf)
    (hnf : ∀ a ∈ nf, M' a ∧ f.H0 a = none ∧ NoSrc g a ∧ a ∉ g.T ∧ (∀ j e, ρ[j]? = some (some (.ow e)) → j ≠ i → σ[j]? ≠ some (some (.ref a))) ∧ (¬ g.M a → H a = none)) (hnd : nf.Nodup)
    (hk : ∀ a o, H a = some o → H' a = some o) (hd : ∀ a, H' a = none → H a = none) (enf : nf = p :: as) (hrm : Rm f.K (Fz H' M') H' p as m) :
    Rel f ⟨M', g.src, g.fp ++ g.T, nf⟩ (σ.set i (some (.ref p))) H' (ρ.set i (some (.mu m))) ∧ Same (Fz H g.M) (Fz H' M') := by
  have hG : Same (Fz H g.M) (Fz H' M') := fz_mono fun a o e n => ⟨hk a o e, fun z => (hM2 a z).elim n fun z => by rw [(hnf a z).2.2.2.2.2 n] at e; cases e⟩
  have ow : ∀ (j : Nat) (e : D), (ρ.set i (some (.mu m)))[j]? = some (some (.ow e)) → j ≠ i ∧ ρ[j]? = some (some (.ow e)) := fun j e h => by
    rcases getset h with ⟨_, z⟩ | ⟨ne, z⟩
    · cases z
    · exact ⟨ne.symm, z⟩
  have onT : ∀ a, g.M a → (∀ (j : Nat) (e : D), ρ[j]? = some (some (.ow e)) → σ[j]? ≠ some (some (.ref a))) → ∀ (j : Nat) (e : D), (ρ.set i (some (.mu m)))[j]? = some (some (.ow e)) → (σ.set i (some (.ref p)))[j]? ≠ some (some (.ref a)) := fun a _ h j e h1 => by
    obtain ⟨n, h2⟩ := ow j e h1
    rw [List.getElem?_set_ne n.symm]
    exact h j e h2
  refine ⟨⟨fun a o e n => hk a o (R.keep a o e n), fun a e => R.dom a (hd a e), fun a m => hM1 a (R.m0 a m), R.m00, fun a z => ?_, fun q c e => ?_, by rw [List.length_set, List.length_set]; exact R.len, fun j s e => ?_, fun j k l d e h1 h2 h3 h4 => ?_, fun a h => ?_, fun a h => ⟨(hnf a h).1, .inr (hnf a h).2.1, (hnf a h).2.2.1.1⟩, hnd, fun j k d e h1 h2 => ?_⟩, hG⟩
  · rcases hM2 a z with z | z
    · have h := R.mU a z
      cases e : H a with
      | none => rw [e] at h; exact h.elim
      | some o => rw [hk a o e, ← e]; exact h
    · exact hrm.mu a (enf ▸ z)
  · obtain ⟨h1, h2, h3, h4, h5, ns, l, m, t, more, e1, e2, r⟩ := R.src q c e
    exact ⟨h1, hM1 _ h2, hM1 _ h3, h4, h5, ns, l, m, t, more, hk _ _ e1, hk _ _ e2, r⟩
  · rcases getset e with ⟨rfl, z⟩ | ⟨ne, z⟩
    · cases z
      exact ⟨.ref p, List.getElem?_set_self (by rw [← R.len]; exact hi), p, as, enf, rfl, hrm⟩
    · obtain ⟨w, e1, h⟩ := R.slot j s z
      refine ⟨w, by rw [List.getElem?_set_ne ne]; exact e1, ?_⟩
      cases s with
      | sh d => exact Rp.mono hG h
      | bo d => exact BoV.mono hG h
      | ow d =>
        obtain ⟨a, e2, m, h0, ns, r⟩ := h
        exact ⟨a, e2, hM1 a m, h0, ⟨ns.1, fun z2 => (hnf a z2).2.2.2.2.1 j d z ne.symm (by rw [e1, e2])⟩, r.mono hG fun o e => hk a o e⟩
      | src => exact h
      | scr => exact h
      | mu m2 => exact absurd z (noMuR_get hnm)
  · obtain ⟨n1, h1⟩ := ow j d h1
    obtain ⟨n2, h2⟩ := ow k e h2
    rw [List.getElem?_set_ne n1.symm] at h3
    rw [List.getElem?_set_ne n2.symm] at h4
    exact R.uq j k l d e h1 h2 h3 h4
  · rcases List.mem_append.mp h with h | h
    · have hm := (R.fpM a h).1
      refine ⟨hM1 a hm, ⟨(R.fpM a h).2.2, fun z => (hnf a z).2.2.1.2 h⟩, onT a hm fun j e h1 h2 => ?_⟩
      obtain ⟨w, e3, b, e4, _, _, ns, _⟩ := R.slot j _ h1
      rw [h2] at e3; cases e3; cases e4
      exact ns.2 h
    · obtain ⟨h1, h2, h3⟩ := R.tmp a h
      exact ⟨hM1 a h1, ⟨h2.1, fun z => (hnf a z).2.2.2.1 h⟩, onT a h1 h3⟩
  · have one : ∀ (j : Nat) (d : MD), (ρ.set i (some (.mu m)))[j]? = some (some (.mu d)) → j = i := fun j d h => by
      rcases getset h with ⟨z, _⟩ | ⟨_, z⟩
      · exact z.symm
      · exact absurd z (noMuR_get hnm)
    rw [one j d h1, one k e h2]
/-- the rest, run in the scope -/
theorem scope_run {K : PySem.W.Frag} {t : TS} {d : DS} {nf : List Addr} {M' : AP} {σ' : L2.St} {ρ' : Rho} {DD : DEnds} {E : Ends} (h : LS K t d) (hK : f.K = K) (R : Rel f g σ H ρ)
    (R1 : Rel f ⟨M', g.src, g.fp ++ g.T, nf⟩ σ' H' ρ') (S1 : Same (Fz H g.M) (Fz H' M')) (hk : ∀ a o, H a = some o → H' a = some o) (hz : ∀ a ∈ nf, f.H0 a = none) (l : LkE f g H DD E) (hd : d (dOut DD) ρ') : t E σ' H' := by
  have lv : ∀ (g2 : Gs) (σ2 : L2.St) (H2 : Hp) (ρ2 : Rho), Rel f g2 σ2 H2 ρ2 → Gro ⟨M', g.src, g.fp ++ g.T, nf⟩ H' g2 H2 → Rel f ⟨g2.M, g2.src, g.T, g.fp⟩ σ2 H2 (killMu ρ2) ∧ Gro g H ⟨g2.M, g2.src, g.T, g.fp⟩ H2 := fun g2 σ2 H2 ρ2 R2 G2 => by
    refine ⟨R2.leave (g0 := g) G2.tm (fun a h => (R.fpM a h).2.1) R.fpn (fun a h => (R.tmp a h).2.1.2), S1.trans G2.fz, G2.src, rfl, fun a h => ?_, rfl⟩
    have e1 : H2 a = H' a := G2.th a (List.mem_append_right _ h)
    cases e : H a with
    | none => exact absurd (R.tmp a h).1 (R.mH a e)
    | some o => rw [e1, hk a o e]
  refine h f _ σ' H' ρ' (dOut DD) E hK R1 hd ⟨fun g2 σ2 H2 ρ2 R2 G2 q => ?_, fun g2 σ2 H2 ρ2 v r R2 G2 V2 q => ?_, fun g2 σ2 H2 ρ2 R2 G2 q => ?_, fun g2 σ2 H2 ρ2 R2 G2 q => ?_⟩
  · obtain ⟨A, B⟩ := lv g2 σ2 H2 ρ2 R2 G2
    exact l.nx _ σ2 H2 _ A B q
  · obtain ⟨A, B⟩ := lv g2 σ2 H2 ρ2 R2 G2
    obtain ⟨r', e, q⟩ := q
    exact l.rt _ σ2 H2 _ v r' A B (V2.leave R2 (g0 := g) G2.tm (fun a h => hz a (by rw [← (show g2.fp = nf from G2.fp)]; exact h)) e) q
  · obtain ⟨A, B⟩ := lv g2 σ2 H2 ρ2 R2 G2
    exact l.bk _ σ2 H2 _ A B q
  · obtain ⟨A, B⟩ := lv g2 σ2 H2 ρ2 R2 G2
    exact l.ct _ σ2 H2 _ A B q
/-- a list of one's own is passed by reference from here on -/
def dScope (i : Nat) (d : DS) : DS := fun DD ρ => noMuR ρ = true ∧ ∃ ds, ρ[i]? = some (some (.ow (.list ds))) ∧ d (dOut DD) (ρ.set i (some (.mu (.fl ds))))
theorem ls_scope {K : PySem.W.Frag} {t : TS} {d : DS} (i : Nat) (h : LS K t d) : LS K t (dScope i d) := by
  intro f g σ H ρ DD E hK R hd l
  obtain ⟨hnm, ds, hs, hd⟩ := hd
  obtain ⟨w, e1, a, rfl, m, h0, ns, r⟩ := R.slot i _ hs
  have hi : i < ρ.length := (List.getElem?_eq_some_iff.mp hs).1
  cases r with
  | lst hh rr =>
    obtain ⟨R1, S1⟩ := R.enter (H' := H) (nf := [a]) (M' := g.M) (p := a) (as := []) (m := .fl ds) hnm hi (fun _ h => h) (fun _ h => .inl h)
      (fun b hb => by
        rw [List.mem_singleton.mp hb]
        exact ⟨m, h0, ns, fun z => (R.tmp a z).2.2 i _ hs e1, fun j e h1 h2 h3 => h2 (R.uq j i a e _ h1 hs h3 e1), fun n => absurd m n⟩)
      (by simp) (fun _ _ h => h) (fun _ h => h) rfl ⟨rfl, _, hh, rr⟩
    rw [set_same e1] at R1
    exact scope_run h hK R R1 S1 (fun _ _ h => h) (fun b hb => by rw [List.mem_singleton.mp hb]; exact h0) l hd
/-- x = {"a": [], "b": []}, passed by reference from here on -/
def dMuDisp (i : Nat) (x1 x2 : Str) (d : DS) : DS := fun DD ρ => noMuR ρ = true ∧ i < ρ.length ∧ x1 ≠ x2 ∧ d (dOut DD) (ρ.set i (some (.mu (.dl [(Sum.inr x1, []), (Sum.inr x2, [])]))))
theorem ls_muDisp {K : PySem.W.Frag} {t : TS} {d : DS} {i : Nat} {x1 x2 : Str} (h : LS K t d) : LS K (tSeq (tAsg (tDisp [(tC (.str x1), tLst tNil), (tC (.str x2), tLst tNil)]) (gName i)) t) (dMuDisp i x1 x2 d) := by
  intro f g σ H ρ DD E hK R hd l
  obtain ⟨hnm, hi, hx, hd⟩ := hd
  intro p hp
  refine ⟨Nat.zero_le _, fun a1 h1 => ⟨Nat.zero_le _, fun a2 h2 => ?_⟩⟩
  have n1 : a1 ≠ p := fun z => by rw [z, upd_same] at h1; cases h1
  have h1' : H a1 = none := by rw [upd_ne n1] at h1; exact h1
  have n2 : a2 ≠ a1 := fun z => by rw [z, upd_same] at h2; cases h2
  have n3 : a2 ≠ p := fun z => by rw [upd_ne n2, z, upd_same] at h2; cases h2
  have h2' : H a2 = none := by rw [upd_ne n2, upd_ne n3] at h2; exact h2
  refine ⟨by rw [upd_ne n3.symm, upd_ne n1.symm, upd_same], [(Sum.inr x1, .ref a1), (Sum.inr x2, .ref a2)], rfl, (show 2 ≤ 15 by decide), ?_⟩
  have em : mergeK [] [((Sum.inr x1 : Key), V.ref a1), (Sum.inr x2, .ref a2)] = [(Sum.inr x1, .ref a1), (Sum.inr x2, .ref a2)] := by
    simp [mergeK, putK, hx]
  rw [em]
  have fresh : ∀ a ∈ [p, a1, a2], H a = none := fun a ha => by
    simp only [List.mem_cons, List.mem_nil_iff, or_false] at ha
    rcases ha with rfl | rfl | rfl <;> assumption
  have nofp : ∀ a, H a = none → NoSrc g a ∧ a ∉ g.T := fun a e => ⟨⟨fun q c hq => ⟨fun z => R.mH a e (z ▸ (R.src q c hq).2.1), fun z => R.mH a e (z ▸ (R.src q c hq).2.2.1)⟩, fun z => R.mH a e (R.fpM a z).1⟩, fun z => R.mH a e (R.tmp a z).1⟩
  have hk : ∀ a o, H a = some o → upd (upd (upd (upd H p (.dK [])) a1 (.lst [])) a2 (.lst [])) p (.dK [(Sum.inr x1, .ref a1), (Sum.inr x2, .ref a2)]) a = some o := fun a o e => by
    rw [upd_ne (ne_of_none e hp), upd_ne (ne_of_none e h2'), upd_ne (ne_of_none e h1'), upd_ne (ne_of_none e hp)]; exact e
  obtain ⟨R1, S1⟩ := R.enter (H' := upd (upd (upd (upd H p (.dK [])) a1 (.lst [])) a2 (.lst [])) p (.dK [(Sum.inr x1, .ref a1), (Sum.inr x2, .ref a2)])) (nf := [p, a1, a2]) (M' := fun a => g.M a ∨ a ∈ [p, a1, a2]) (p := p) (as := [a1, a2])
    (m := .dl [(Sum.inr x1, []), (Sum.inr x2, [])]) hnm hi (fun _ h => .inl h) (fun _ h => h)
    (fun b hb => ⟨.inr hb, R.dom b (fresh b hb), (nofp b (fresh b hb)).1, (nofp b (fresh b hb)).2, (fun j e h1 _ h3 => by
      obtain ⟨w, e3, c, e4, _, _, _, r⟩ := R.slot j _ h1
      rw [h3] at e3; cases e3; cases e4
      obtain ⟨o, e5⟩ := r.there
      rw [fresh b hb] at e5; cases e5), fun _ => fresh b hb⟩)
    (by
      refine List.nodup_cons.mpr ⟨?_, List.nodup_cons.mpr ⟨?_, by simp⟩⟩
      · simp only [List.mem_cons, List.mem_nil_iff, or_false, not_or]; exact ⟨n1.symm, n3.symm⟩
      · simp only [List.mem_cons, List.mem_nil_iff, or_false]; exact n2.symm)
    hk (fun a e => by
      by_cases q1 : a = p
      · rw [q1]; exact hp
      · rw [upd_ne q1] at e
        by_cases q2 : a = a2
        · rw [q2]; exact h2'
        · rw [upd_ne q2] at e
          by_cases q3 : a = a1
          · rw [q3]; exact h1'
          · rw [upd_ne q3, upd_ne q1] at e; exact e) rfl
    ⟨upd_same, rfl, fun k a ds e1 e2 => by
      match k with
      | 0 => cases e1; cases e2; exact ⟨[], by rw [upd_ne n1, upd_ne n2.symm, upd_same], .nil⟩
      | 1 => cases e1; cases e2; exact ⟨[], by rw [upd_ne n3, upd_same], .nil⟩
      | (k + 2) => simp at e1⟩
  exact scope_run h hK R R1 S1 hk (fun b hb => R.dom b (fresh b hb)) l hd
/-! ### read alone for a while -/
def mdD : MD → D
  | .fl ds => .list ds
  | .ll es => .list (es.map .list)
  | .dl es => .dict (es.map fun e => (keyD e.1, .list e.2))
def scalP : D → Bool
  | .none => true
  | .bool _ => true
  | .int _ => true
  | .str _ => true
  | _ => false
theorem Rp.scal {K : PySem.W.Frag} {F F' : Hp} {v : V} {d : D} (h : Rp K F v d) (hd : scalP d = true) : Rp K F' v d := by
  cases h with
  | non => exact .non
  | bl b => exact .bl b
  | int i => exact .int i
  | str s => exact .str s
  | _ => cases hd
theorem RpA.scal {K : PySem.W.Frag} {F F' : Hp} {vs : List V} {ds : List D} (h : RpA K F vs ds) (hd : ds.all scalP = true) : RpA K F' vs ds := by
  induction ds generalizing vs with
  | nil => cases h; exact .nil
  | cons d ds ih =>
    cases h with
    | cons h r =>
      obtain ⟨h1, h2⟩ := Bool.and_eq_true_iff.mp (by simpa using hd : (scalP d && ds.all scalP) = true)
      exact .cons (h.scal h1) (ih r h2)
def scalR : Rv → Bool
  | .fz d => scalP d
  | .nw (.list ds) => ds.all scalP
  | _ => false
def hideS : Option Sl → Option Sl
  | some (.ow _) => none
  | o => o
def hideOw (ρ : Rho) : Rho := ρ.map hideS
theorem hideOw_get {ρ : Rho} {i : Nat} {s : Sl} (h : (hideOw ρ)[i]? = some (some s)) : ρ[i]? = some (some s) ∧ ∀ d, s ≠ .ow d := by
  unfold hideOw at h
  rw [List.getElem?_map] at h
  cases e : ρ[i]? with
  | none => rw [e] at h; cases h
  | some o =>
    rw [e] at h
    have h : hideS o = some s := Option.some.inj h
    unfold hideS at h
    split at h
    · cases h
    · rename_i hn
      subst h
      exact ⟨rfl, fun m z => hn m (by rw [z])⟩
def owA1 : Option (Option Sl) → Option (Option V) → Option Addr
  | some (some (.ow _)), some (some (.ref a)) => some a
  | _, _ => none
def owA (σ : L2.St) (ρ : Rho) : List Addr := (List.range ρ.length).filterMap fun j => owA1 ρ[j]? σ[j]?
theorem owA_mem {σ : L2.St} {ρ : Rho} {a : Addr} : a ∈ owA σ ρ ↔ ∃ (j : Nat) (d : D), ρ[j]? = some (some (.ow d)) ∧ σ[j]? = some (some (.ref a)) := by
  unfold owA
  rw [List.mem_filterMap]
  constructor
  · rintro ⟨j, _, h⟩
    unfold owA1 at h
    split at h
    · rename_i d b h1 h2
      cases h
      exact ⟨j, d, h1, h2⟩
    · cases h
  · rintro ⟨j, d, h1, h2⟩
    refine ⟨j, List.mem_range.mpr (List.getElem?_eq_some_iff.mp h1).1, ?_⟩
    rw [h1, h2]; rfl
def dFrzMu (i : Nat) (d : DE) : DE := fun ρ Q => ∃ m, ρ[i]? = some (some (.mu m)) ∧ d ((hideOw ρ).set i (some (.sh (mdD m)))) fun r _ => scalR r = true ∧ Q r ρ
theorem Rm.rp {K : PySem.W.Frag} {F F' : Hp} {p : Addr} {as : List Addr} (h : Rm K F H p as m) (e : Same F F') (e' : ∀ a ∈ p :: as, ∀ o, H a = some o → F' a = some o) : Rp K F' (.ref p) (mdD m) := by
  have inn : ∀ {as : List Addr} {es : List (List D)}, (∀ a ∈ as, ∀ o, H a = some o → F' a = some o) → RmA K F H as es → RpA K F' (as.map V.ref) (es.map .list) := by
    intro as
    induction as with
    | nil =>
      intro es _ h
      have : es = [] := List.length_eq_zero_iff.mp h.1.symm
      rw [this]; exact .nil
    | cons a as ih =>
      intro es e2 h
      cases es with
      | nil => have := h.1; simp at this
      | cons x es =>
        obtain ⟨vs, h1, h2⟩ := h.2 0 a x rfl rfl
        exact .cons (.lst (e2 a List.mem_cons_self _ h1) (h2.mono e)) (ih (fun b hb => e2 b (List.mem_cons_of_mem _ hb)) ⟨by simpa using h.1, fun k b ds h3 h4 => h.2 (k + 1) b ds (by simpa using h3) (by simpa using h4)⟩)
  have ep := e' p List.mem_cons_self
  have ea : ∀ a ∈ as, ∀ o, H a = some o → F' a = some o := fun a h => e' a (List.mem_cons_of_mem _ h)
  cases m with
  | fl ds =>
    obtain ⟨_, vs, h1, h2⟩ := h
    exact .lst (ep _ h1) (h2.mono e)
  | ll es => exact .lst (ep _ h.1) (inn ea h.2)
  | dl es =>
    refine .dic (ep _ h.1) ?_
    have hr := inn ea h.2
    have hl : as.length = es.length := by have := h.2.1; rwa [List.length_map] at this
    clear h e' ep ea
    induction es generalizing as with
    | nil => exact .nil
    | cons x es ih =>
      cases as with
      | nil => simp at hl
      | cons a as =>
        cases hr with
        | cons h1 h2 => exact .cons h1 (ih h2 (by simpa using hl))
theorem le_frzMu {K : PySem.W.Frag} {t : TE} {d : DE} {i : Nat} (h : LE K t d) : LE K t (dFrzMu i d) := by
  intro f g σ H ρ Q R hK hR hd k
  obtain ⟨m, hs, hd⟩ := hd
  obtain ⟨p, as, e0, f0, hrm⟩ := hR.muAt hs
  have hi : i < ρ.length := (List.getElem?_eq_some_iff.mp hs).1
  have S0 : Same (Fz H g.M) (Fz H fun a => g.M a ∧ a ∉ g.fp) := fz_mono fun a o e n => ⟨e, fun z => n z.1⟩
  have sl : ∀ (j : Nat) (s : Sl), ((hideOw ρ).set i (some (.sh (mdD m))))[j]? = some (some s) → (j = i ∧ s = .sh (mdD m)) ∨ (ρ[j]? = some (some s) ∧ (∀ d, s ≠ .ow d) ∧ ∀ m, s ≠ .mu m) := fun j s e => by
    rcases getset e with ⟨rfl, z⟩ | ⟨ne, z⟩
    · cases z; exact .inl ⟨rfl, rfl⟩
    · obtain ⟨h1, h2⟩ := hideOw_get z
      exact .inr ⟨h1, h2, fun m2 z2 => ne (hR.mq i j _ m2 hs (z2 ▸ h1))⟩
  have noOw : ∀ (j : Nat) (e : D), ((hideOw ρ).set i (some (.sh (mdD m))))[j]? ≠ some (some (.ow e)) := fun j e h => by
    rcases sl j _ h with ⟨_, z⟩ | ⟨_, z, _⟩
    · cases z
    · exact z e rfl
  have R0 : Rel ⟨f.K, f.H0, fun a => f.M0 a ∧ a ∉ g.fp, f.mt⟩ ⟨fun a => g.M a ∧ a ∉ g.fp, g.src, owA σ ρ ++ g.T, []⟩ σ H ((hideOw ρ).set i (some (.sh (mdD m)))) := by
    refine ⟨hR.keep, hR.dom, fun a z => ⟨hR.m0 a z.1, z.2⟩, fun a z => hR.m00 a z.1, fun a z => hR.mU a z.1, fun q c e => ?_, by unfold hideOw; rw [List.length_set, List.length_map]; exact hR.len, fun j s e => ?_, fun j l a d e h1 => absurd h1 (noOw j d), fun a ha => ?_, (fun _ h => nomatch h), List.nodup_nil, fun j l d e h1 => ?_⟩
    · obtain ⟨h1, h2, h3, h4, h5, h6⟩ := hR.src q c e
      exact ⟨h1, ⟨h2, fun z => ((hR.fpM q z).2.2 q c e).1 rfl⟩, ⟨h3, fun z => ((hR.fpM c z).2.2 q c e).2 rfl⟩, h4, h5, h6⟩
    · rcases sl j s e with ⟨rfl, rfl⟩ | ⟨h1, h2, h3⟩
      · exact ⟨_, e0, hrm.rp S0 fun a ha o e => fz_of e fun z => z.2 (f0 ▸ ha)⟩
      · obtain ⟨w, e1, h⟩ := hR.slot j s h1
        refine ⟨w, e1, ?_⟩
        cases s with
        | sh d => exact Rp.mono S0 h
        | bo d => exact BoV.mono S0 h
        | ow d => exact absurd rfl (h2 d)
        | src => exact h
        | scr => exact h
        | mu m2 => exact absurd rfl (h3 m2)
    · refine ⟨?_, ⟨?_, List.not_mem_nil⟩, fun j e h1 => absurd h1 (noOw j e)⟩
      · rcases List.mem_append.mp ha with ha | ha
        · obtain ⟨j, d, h1, h2⟩ := owA_mem.mp ha
          obtain ⟨w, e1, b, e2, m, _, ns, _⟩ := hR.slot j _ h1
          rw [h2] at e1; cases e1; cases e2
          exact ⟨m, ns.2⟩
        · exact ⟨(hR.tmp a ha).1, (hR.tmp a ha).2.1.2⟩
      · rcases List.mem_append.mp ha with ha | ha
        · obtain ⟨j, d, h1, h2⟩ := owA_mem.mp ha
          obtain ⟨w, e1, b, e2, m, _, ns, _⟩ := hR.slot j _ h1
          rw [h2] at e1; cases e1; cases e2
          exact ns.1
        · exact (hR.tmp a ha).2.1.1
    · rcases sl j _ h1 with ⟨_, z⟩ | ⟨_, _, z⟩
      · cases z
      · exact absurd rfl (z d)
  refine h ⟨f.K, f.H0, fun a => f.M0 a ∧ a ∉ g.fp, f.mt⟩ _ σ H _ _ _ hK R0 hd fun v H1 g1 ρ1 r R1 G1 V1 q1 => ?_
  obtain ⟨hsc, q1⟩ := q1
  have hfp : ∀ a ∈ g.fp, H1 a = H a ∧ ¬ g1.M a := fun a ha => by
    obtain ⟨o, e⟩ := hrm.there a (f0 ▸ ha)
    obtain ⟨h1, h2⟩ := of_fz (G1.fz a o (fz_of e fun z => z.2 ha))
    exact ⟨by rw [h1, e], h2⟩
  have S1 : Same (Fz H g.M) (Fz H1 fun a => g1.M a ∨ a ∈ g.fp) := fz_mono fun a o e n => by
    have hn : a ∉ g.fp := fun z => n (hR.fpM a z).1
    obtain ⟨h1, h2⟩ := of_fz (G1.fz a o (fz_of e fun z => n z.1))
    exact ⟨h1, fun z => z.elim h2 hn⟩
  have nsF : ∀ a ∈ g.fp, NoS g1.src a := fun a ha q c e => by
    obtain ⟨_, h2, h3, _⟩ := R1.src q c e
    exact ⟨fun z => (hfp a ha).2 (z ▸ h2), fun z => (hfp a ha).2 (z ▸ h3)⟩
  have hT : ∀ a ∈ owA σ ρ ++ g.T, H1 a = H a := fun a ha => G1.th a ha
  have tm1 : g1.T = owA σ ρ ++ g.T := G1.tm
  have R2 : Rel f ⟨fun a => g1.M a ∨ a ∈ g.fp, g1.src, g.T, g.fp⟩ σ H1 ρ := by
    refine ⟨R1.keep, R1.dom, fun a z => ?_, hR.m00, fun a z => ?_, fun q c e => ?_, hR.len, fun j s e => ?_, hR.uq, fun a ha => ?_, fun a ha => ⟨.inr ha, (hR.fpM a ha).2.1, nsF a ha⟩, hR.fpn, hR.mq⟩
    · by_cases q : a ∈ g.fp
      · exact .inr q
      · exact .inl (R1.m0 a ⟨z, q⟩)
    · rcases z with z | z
      · exact R1.mU a z
      · rw [(hfp a z).1]; exact hR.mU a (hR.fpM a z).1
    · obtain ⟨h1, h2, h3, h4, h5, h6⟩ := R1.src q c e
      exact ⟨h1, .inl h2, .inl h3, h4, h5, h6⟩
    · obtain ⟨w, e1, h⟩ := hR.slot j s e
      refine ⟨w, e1, ?_⟩
      cases s with
      | sh d => exact Rp.mono S1 h
      | bo d => exact BoV.mono S1 h
      | ow d =>
        obtain ⟨a, e2, m2, h0, ns, r⟩ := h
        have ha : a ∈ owA σ ρ := owA_mem.mpr ⟨j, d, e, by rw [e1, e2]⟩
        have ha2 : a ∈ g1.T := by rw [tm1]; exact List.mem_append_left _ ha
        exact ⟨a, e2, .inl (R1.tmp a ha2).1, h0, ⟨(R1.tmp a ha2).2.1.1, ns.2⟩, r.mono S1 fun o e => by rw [hT a (List.mem_append_left _ ha)]; exact e⟩
      | src =>
        obtain ⟨q, c, e2, e3⟩ := h
        exact ⟨q, c, G1.src _ e2, e3⟩
      | scr => exact h
      | mu m2 =>
        obtain ⟨q, as', e2, e3, h⟩ := h
        exact ⟨q, as', e2, e3, h.mono S1 fun a ha o e => by rw [(hfp a (e2 ▸ ha)).1]; exact e⟩
    · have ha2 : a ∈ g1.T := by rw [tm1]; exact List.mem_append_right _ ha
      exact ⟨.inl (R1.tmp a ha2).1, ⟨(R1.tmp a ha2).2.1.1, (hR.tmp a ha).2.1.2⟩, (hR.tmp a ha).2.2⟩
  refine k v H1 _ ρ r R2 ⟨S1, G1.src, rfl, fun a ha => hT a (List.mem_append_right _ ha), rfl⟩ ?_ q1
  cases r with
  | fz d => exact Rp.scal V1 hsc
  | nw d =>
    cases d with
    | list ds =>
      obtain ⟨a, rfl, m2, h0, ns, r, t, u⟩ := V1
      have nfp : a ∉ g.fp := fun z => (hfp a z).2 m2
      refine ⟨a, rfl, .inl m2, h0, ⟨ns.1, nfp⟩, ?_, fun z => t (by rw [tm1]; exact List.mem_append_right _ z), fun j e h1 h2 => t (by rw [tm1]; exact List.mem_append_left _ (owA_mem.mpr ⟨j, e, h1, h2⟩))⟩
      cases r with
      | lst h1 h2 => exact .lst h1 (h2.scal hsc)
    | _ => cases hsc
  | _ => cases hsc
end
end DL

set_option Elab.async false
set_option linter.all false
set_option maxRecDepth 100000
set_option maxHeartbeats 4000000
set_option autoImplicit false
namespace DL
open PySem PySem.Spec PySem.Calls PyProof.Rows L2
/-! ### super().__init__(text) in an own exception over ValueError -/
/-- what the written part says of a class whose __init__ says super().__init__ -/
structure SupC (P : Program) (K : PySem.W.Frag) (mg : Str → Option Value) (C fI : Addr) (F : NdefX.NF) (cc : Addr) : Prop where
  ex : OexC K C
  cl : F.cl = [(("__class__" : Str), cc)]
  cell : ∃ oc od sl, K.lookup cc = some ⟨oc, od, .cell (some (.ref C)), sl⟩
  code : ∃ oc od sl vs file tf, K.lookup F.c = some ⟨oc, od, .fields vs, sl⟩ ∧ vs[2]? = some (.str file tf) ∧ ((P.main.file : Str) == file) = true
  fn : ∃ oc od sl doc pm ct, K.lookup fI = some ⟨oc, od, .func (F.fd doc pm ct), sl⟩
  sub : PySem.W.mroIn K C (.ref C) = some true
  top : (P.main.scope.names.lookup ("super" : Str)).isSome = false
  sup : mg "super" = none
  opq : PySem.W.nsIn K cStatics "thirdparty.any" = some none
  ini : PySem.W.ks_superIn K C C "__init__" = some (some (.builtin "ValueError.__init__"))
  ve : PySem.W.subIn K (.ref C) (.type "ValueError") = some true
  s1 : F.scope.names.lookup ("super" : Str) = some .globalImplicit
  s2 : F.scope.names.lookup ("__class__" : Str) = some .free
  sk : F.scope.kind = .function
section
variable {P : Program} {w : World} {A : Around} {E : Value → Shared → Prop} {h : Heap} {g : Array GenState} {d : Drawn} {t : Nat} {os : OsState}
/-- the wrapper called: the exception's args are laid anew -/
theorem call_wrap {C u e t0 : Addr} {rest : List Value} {Q : Value → Shared → Prop} {nm q : Str} {N : Addr} {bs bm sub : List Value} {sn : List Str} {ab : Bool} {col : Option Bool} {dd : Option Addr} {k0 k1 k2 k3 k5 : Option Value}
    (hC : h.get? C = some (excClassObj nm q C N bs bm true sn sub ab col dd k0 k1 k2 k3 k5 "ValueError.__new__")) (he : h.get? e = some (PySem.W.excObj C t0 none .none)) (hu : h.get? u = some (PySem.W.kxs_mw "ValueError.__init__" e)) (hr : rest.length ≤ sizeLine)
    (hq : ∀ h' t1, (∀ b o, b ≠ e → h.get? b = some o → h'.get? b = some o) → h'.get? e = some (PySem.W.excObj C t1 none .none) → Q .none ⟨h', g, d, t, os⟩) : wpAny (model P w) A (call (.ref u) rest) Q E ⟨h, g, d, t, os⟩ := by
  refine wpAny_call (codeAny_of_tree ?_); show wpAny _ A.in1 (callAny (.ref u) ⟨rest, []⟩) _ _ _
  simp only [callAny]
  refine wpAny_bind (wpAny_load hu ?_)
  simp only [show (Value.type "method-wrapper" == Value.type "method" || Value.type "method-wrapper" == Value.type "builtin_function_or_method" || Value.type "method-wrapper" == Value.type "method-wrapper") = true by decide, if_true, PySem.W.kxs_mw]
  refine PySem.W.KFB.if_so (by decide) (wpAny_bind (PySem.W.check_bound_init F.excBase_ValueError.toExcCallFacts hC he rfl (wpAny_bind (wpAny_pure (wpAny_pure ⟨plainId_quiet F.excBase_ValueError.init.plain _, codeAny_builtin F.excBase_ValueError.initEntry ?_⟩)))))
  rw [Around.under_plainId F.excBase_ValueError.init.plain _]
  exact PySem.W.exc_init_tree (cls := .ref C) (c2 := .none) (c3 := .none) (b4 := .bool false) he hr fun h' k1 k2 _ => hq h' _ k1 k2
end
section
variable {CX : CXT} {P : Program} {w : World} {K : PySem.W.Frag} {mg : Str → Option Value} {base : Heap} {N : List Str} {F : NdefX.NF} {f cc C : Addr} {A : Around} {outer : List Env} {s0 : Shared} {H0 : Hp} {E0 : XK}
/-- a pin more -/
theorem inv_pin {X : Cx} {pins : List (Addr × Obj)} {σ : L2.St} {H : Hp} {s : Shared} {u : Addr} {o : Obj} (I : Inv X pins σ H s) (hu : s.heap.get? u = some o) (hn : H u = none) (hl : u ≠ X.env.locals) (hf : u ∉ X.fs) (hc : ∀ v, o.data ≠ .cell v) : Inv X ((u, o) :: pins) σ H s :=
  I.pins_of fun p hp => by
    rcases List.mem_cons.mp hp with rfl | hp
    · exact ⟨hu, hn, hl, hf, hc⟩
    · exact I.pin p (List.mem_append_right _ hp)
theorem inv_unpin {X : Cx} {pins : List (Addr × Obj)} {σ : L2.St} {H : Hp} {s : Shared} {p : Addr × Obj} (I : Inv X (p :: pins) σ H s) : Inv X pins σ H s :=
  I.pins_of fun q hq => I.pin q (List.mem_append_right _ (List.mem_cons_of_mem _ hq))
theorem super_said (T : SupC P K mg C f F cc) {body : List Stmt} {m me : Str} {j : Nat} {p0 p1 p2 p3 p4 p5 : Pos} {ar : Arg} {Q : Flow → Shared → Prop} {s : Shared} {σ : L2.St} {H : Hp} {x : Addr}
    (I : Inv (NdefX.ncx CX P w K mg base N F f A outer s0 H0 E0) [] σ H s) (hp : (F.params.posonlyargs ++ F.params.args).head? = some ar) (har : ar.arg = me) (hme : F.scope.names.lookup me = some .local) (hN : N[0]? = some me) (hσ : σ[0]? = some (some (.ref x))) (hx : H x = some (exo x C none)) {pl : Sem Bool}
    (hc : eval (.Call (.Attribute (.Call (.Name "super" p0) [] [] p1) "__init__" p2) [.Constant (.str m) j p3] [] p4) (NdefX.envF F f s0.heap.objs.size) = (do
      let ov ← attributeBase (.Call (.Name "super" p0) [] [] p1) "__init__" (NdefX.envF F f s0.heap.objs.size) (eval (.Call (.Name "super" p0) [] [] p1) (NdefX.envF F f s0.heap.objs.size))
      standAt p2.atName
      let (f1, first) ← holding [ov] (getMethod ov "__init__" pl)
      callWith p4 f1 first (backTo p4 (starEach [.Constant (.str m) j p3] (NdefX.envF F f s0.heap.objs.size))) []))
    (h : ∀ s', Inv (NdefX.ncx CX P w K mg base N F f A outer s0 H0 E0) [] σ H s' → Q .next s') :
    _root_.PySem.wpAt (model P w) (A.deeper (NdefX.envF F f s0.heap.objs.size)) (.func body (NdefX.envF F f s0.heap.objs.size)) (exec (.Expr (.Call (.Attribute (.Call (.Name "super" p0) [] [] p1) "__init__" p2) [.Constant (.str m) j p3] [] p4) p5) (NdefX.envF F f s0.heap.objs.size)) Q (NdefX.ncx CX P w K mg base N F f A outer s0 H0 E0).xe s := by
  obtain ⟨nm, q, N', bs, bm, sn, sub, ab, col, dd, k0, k1, k2, k3, k5, hC, hbm⟩ := T.ex.cls
  obtain ⟨oc1, od1, sl1, hcell⟩ := T.cell
  obtain ⟨oc2, od2, sl2, vs, file, tf, hcode, hvs, hfile⟩ := T.code
  obtain ⟨oc3, od3, sl3, doc, pm, ct, hfn⟩ := T.fn
  have X : K.In s.heap := I.kIn
  have hcl : PySem.W.clsIn K C = some { name := nm, bases := bs, mro := .ref C :: bm, ns := N', qualname := q, hasDict := true, slotNames := sn, subclasses := sub, abstract := ab, collection := col, hasDel := false } := by unfold PySem.W.clsIn; rw [hC] <;> rfl
  obtain ⟨m0, hns, hlook⟩ := id I.loc
  obtain ⟨ux, rux, hlk⟩ := hlook 0 me (.ref x) hN hσ (.inl hme)
  obtain rfl : ux = Value.ref x := rux
  have hmx : m0 me = some (.ref x) := by
    rcases hlk with ⟨_, e⟩ | ⟨e, _⟩
    · exact e
    · have e : F.scope.names.lookup me = some .cell ∨ F.scope.names.lookup me = some .free := e
      rw [hme] at e
      rcases e with e | e <;> cases e
  obtain ⟨t0, hox⟩ := exo_at I.hok hx
  have hmod := I.mod
  obtain ⟨mb, hbl, hbv⟩ := hmod.blt
  refine ks_wpAt_Expr_any (ks_wpAt_MethodCall (ks_wpAt_super_base (env := NdefX.envF F f s0.heap.objs.size) T.s1 T.s2 (by decide) rfl (X _ _ hfn) rfl hp rfl (X _ _ hcode) rfl hvs hfile T.top ?_) hc) (by unfold interactive; rw [show (NdefX.envF F f s0.heap.objs.size).scope.kind = .function from T.sk]; rfl)
  refine PySem.W.ks_loadName_global T.sk T.s1 (loadGlobal_builtin (hmod.glob.keeps I.bk) T.sup (hbl.keeps I.bk) ((hbv _ (by decide)).trans Boot.«super») ⟨rfl, ?_⟩)
  refine wpAny_loadName_free T.sk T.s2 (by show F.cl.lookup _ = _; rw [T.cl]; rfl) ⟨_, X _ _ hcell, rfl⟩ ?_
  refine wpAny_loadName_local T.sk (by rw [har]; exact hme) hns (by rw [har]; exact hmx) ?_
  obtain ⟨hh, g, d, t, os⟩ := s
  refine ks_wpAny_isType_cls (X _ _ hC) rfl ⟨rfl, ?_⟩
  refine ks_wpAny_call_super (X _ _ hC) rfl hox rfl (fun c e => by cases e) (PySem.W.looks_mroIn X T.sub) (fun h1 e1 k1 => ?_)
  have I1 : Inv (NdefX.ncx CX P w K mg base N F f A outer s0 H0 E0) [] σ H ⟨h1, g, d, t, os⟩ := I.kept (t' := t) k1
  have hxC : x ≠ C := fun e => by
    have z := (I1.bs C _ (I1.mod.kin _ _ hC)).2
    rw [← e, hx] at z
    cases z
  have IA : PySem.W.InstAt h1 x _ C none := ⟨k1 _ _ hox, rfl, rfl, trivial⟩
  have hal : PySem.W.alongIn K "__init__" (((Value.ref C :: bm).dropWhile (· != .ref C)).drop 1) = some (some (.builtin "ValueError.__init__")) := by
    have z := T.ini
    unfold PySem.W.ks_superIn at z
    rw [hcl] at z
    exact z
  refine PySem.W.kxs_getMethod PySem.W.kxs_ValueError (l₀ := .ref C :: bm) e1 (PySem.W.looks_opaque I1.kIn T.opq) ((PySem.W.looks_clsIn I1.kIn hcl).andThen .now) rfl I1.kIn hal (IA.type.andThen (PySem.W.looks_subIn I1.kIn T.ve)) hxC (by decide) ?_
  have hge : (h1.push (PySem.W.kxs_mw "ValueError.__init__" x)).get? h1.objs.size = some (PySem.W.kxs_mw "ValueError.__init__" x) := Heap.get?_push_at rfl rfl
  have I2 : Inv (NdefX.ncx CX P w K mg base N F f A outer s0 H0 E0) [] σ H ⟨h1.push (PySem.W.kxs_mw "ValueError.__init__" x), g, d, t + 1, os⟩ := I1.kept (t' := t + 1) fun b o e => Heap.get?_push_of_some _ e
  have hul : h1.objs.size ≠ (NdefX.ncx CX P w K mg base N F f A outer s0 H0 E0).env.locals := Nat.ne_of_gt I1.lt
  have hun := I1.hok.fresh (Nat.le_refl h1.objs.size)
  have I3 := inv_pin I2 hge hun hul (I1.nofs (Nat.le_refl _)) (fun v e => by cases e)
  have hbn : base.get? h1.objs.size = none := by
    cases z : base.get? h1.objs.size with
    | none => rfl
    | some o => exact absurd (Heap.lt_size (I1.bk _ _ z)) (Nat.lt_irrefl _)
  refine PySem.W.kxs_callWith1 (i := "ValueError.__init__") (x := x) (h₀ := base) (L := (NdefX.ncx CX P w K mg base N F f A outer s0 H0 E0).env.locals) (news := [(h1.objs.size, PySem.W.kxs_mw "ValueError.__init__" x)]) (fun p hp => ?_) List.mem_cons_self ?_
  · rw [List.mem_singleton.mp hp]
    exact ⟨hge, hul, hbn⟩
  have ha : PA (NdefX.ncx CX P w K mg base N F f A outer s0 H0 E0) [.Constant (.str m) j p3] (tCons (tC (.str m)) tNil) := pa_cons pe_str pa_nil
  refine thn (ha.run p4 _ _ σ H (fun vs H1 => vs = [V.str m] ∧ H = H1) I3 ⟨rfl, rfl⟩) fun us s3 hh => ?_
  obtain ⟨vs, H1, I4, r1, rfl, rfl⟩ := hh
  have hpin := (I4.pin (h1.objs.size, PySem.W.kxs_mw "ValueError.__init__" x) (List.mem_append_right _ List.mem_cons_self)).1
  obtain ⟨t2, hox2⟩ := exo_at I4.hok hx
  have hl := r1.length
  refine ⟨hpin, ?_⟩
  obtain ⟨h3, g3, d3, tk3, os3⟩ := s3
  refine call_wrap (I4.kIn _ _ hC) hox2 hpin (by rw [← hl]; show 1 ≤ _; rw [sizeLine_eq]; decide) fun h' t1 kk ee => ?_
  have J := I4.write (t' := tk3) (x := x) (e := x) (o := exo x C none) (by rw [hx]; exact True.intro) (.inl rfl) kk ⟨_, ee⟩ (exo_ok ee)
  have eu : upd H x (exo x C none) = H := funext fun b => by
    by_cases hb : b = x
    · rw [hb, upd_same, hx]
    · rw [upd_ne hb]
  rw [eu] at J
  exact h _ (inv_unpin J)
end
end DL

set_option Elab.async false
set_option linter.all false
set_option maxRecDepth 100000
set_option maxHeartbeats 4000000
set_option autoImplicit false
namespace DL
open PySem PySem.Spec PySem.Calls PyProof.Rows L2
section
variable {P : Program} {w : World} {K : PySem.W.Frag} {mg : Str → Option Value} {base : Heap} {CX : CXT} {N ps : List Str} {F : NdefX.NF} {f cc C : Addr} {k : Nat} {sp : Sp}
/-- an own __init__ that begins with super().__init__(text) -/
theorem init_fn (T : SupC P K mg C f F cc) (S : NdefX.NScope N ps ["__class__"] F.scope) {m me : Str} {j : Nat} {p0 p1 p2 p3 p4 p5 : Pos} {ar : Arg} {rest : List Stmt} (hcd : PySem.W.codeIn K (.ref F.c) F.qual = true)
    (hbody : F.body = .Expr (.Call (.Attribute (.Call (.Name "super" p0) [] [] p1) "__init__" p2) [.Constant (.str m) j p3] [] p4) p5 :: rest)
    (hp : (F.params.posonlyargs ++ F.params.args).head? = some ar) (har : ar.arg = me) (hme : F.scope.names.lookup me = some .local) (hN : N[0]? = some me)
    (hc : ∀ L : Addr, ∃ pl : Sem Bool, eval (.Call (.Attribute (.Call (.Name "super" p0) [] [] p1) "__init__" p2) [.Constant (.str m) j p3] [] p4) (NdefX.envF F f L) = (do
      let ov ← attributeBase (.Call (.Name "super" p0) [] [] p1) "__init__" (NdefX.envF F f L) (eval (.Call (.Name "super" p0) [] [] p1) (NdefX.envF F f L))
      standAt p2.atName
      let (f1, first) ← holding [ov] (getMethod ov "__init__" pl)
      callWith p4 f1 first (backTo p4 (starEach [.Constant (.str m) j p3] (NdefX.envF F f L))) []))
    (len : ∀ vs H Q E, sp vs H Q E → vs.length = ps.length)
    (hb : ∀ (A : Around) (outer : List Env) (s : Shared) (H : Hp) (vs : List V) (Q : VK) (E : XK), sp vs H Q E →
      ∃ x t, vs[0]? = some (.ref x) ∧ H x = some (exo x C none) ∧ PSs (NdefX.ncx CX P w K mg base N F f A outer s H E) rest t ∧ t { nx := fun _ H' => Q .non H', rt := Q } (NdefX.startF N vs [none]) H) :
    ∀ fd, (∃ oc od sl doc pm ct, K.lookup f = some ⟨oc, od, .func (F.fd doc pm ct), sl⟩ ∧ fd = F.fd doc pm ct) → FnOk P w K mg base CX (k + 1) f fd ps sp := by
  rintro fd ⟨oc, od, sl, doc, pm, ct, lk, rfl⟩
  refine ⟨len, fun A outer s H args us vs Q E hr e0 hbd r hsp => ?_⟩
  have KX : K.In s.heap := e0.mod.kin.keeps fun b o e => (e0.bs b o e).1
  obtain ⟨oc1, od1, sl1, hcell⟩ := T.cell
  have hHc : H cc = none := (e0.bs _ _ (e0.mod.kin _ _ hcell)).2
  have CA : NdefX.CellsAt F.cl ["__class__"] [none] s.heap H := by
    rw [T.cl]
    refine ⟨rfl, fun y c e => ?_, fun x y c e1 e2 => ?_, fun i y e => ?_⟩
    · have : c = cc := by
        simp only [List.lookup] at e
        split at e
        · exact (Option.some.inj e).symm
        · cases e
      subst this
      exact ⟨hHc, _, _, KX _ _ hcell, rfl⟩
    · simp only [List.lookup] at e1 e2
      split at e1
      · split at e2
        · rename_i h1 _ h2
          rw [beq_iff_eq.mp h1, beq_iff_eq.mp h2]
        · cases e2
      · cases e1
    · cases i with
      | zero =>
        cases e
        exact ⟨cc, rfl, fun v hv => by cases hv⟩
      | succ i => simp at e
  refine ks_codeAny_call_defAt (fd := F.fd doc pm ct) (body := F.body) (binds := ps.zip us) hr.depth (KX _ _ lk) rfl (e0.mod.nolimit.keeps fun b o e => (e0.bs b o e).1) (PySem.W.codeRec_of KX hcd) rfl hbd S.nocell (fun y hy => S.par y.1 (List.of_mem_zip hy).1) (fun h₁ hns kp => ?_) S.co S.gen S.kind
  have I := NdefX.inv_startN (CX := CX) (E := E) (N := N) (tk := s.toks + (ps.zip us).length) (f := f) S hr.hd e0 (len _ _ _ _ hsp) r CA hns kp
  obtain ⟨x, t, hx0, hx, ht, hq⟩ := hb A outer s H vs Q E hsp
  obtain ⟨pl, hpl⟩ := hc s.heap.objs.size
  have hσ : (NdefX.startF N vs [none])[0]? = some (some (.ref x)) := by
    unfold NdefX.startF
    cases vs with
    | nil => simp at hx0
    | cons v vs =>
      simp at hx0
      subst hx0
      rfl
  show _root_.PySem.wpAt _ _ (.func F.body (NdefX.envF F f s.heap.objs.size)) (execs F.body (NdefX.envF F f s.heap.objs.size)) _ _ _
  rw [hbody]
  refine ks_wpAt_execs_cons (super_said T I hp har hme hN hσ hx hpl fun s' J => ?_)
  refine wpAt_of_wpAny (wpAny_mono (ht.run [] s' _ H _ J hq) (fun fl s2 hs => ?_) fun e s2 h => h)
  cases fl with
  | ret u => obtain ⟨v, σ', H', J, rv, q⟩ := hs; exact ⟨v, H', J.os, J.bare, J.base, J.hok, rv, q⟩
  | next => obtain ⟨σ', H', J, q⟩ := hs; exact ⟨V.non, H', J.os, J.bare, J.base, J.hok, rfl, q⟩
  | brk => obtain ⟨_, _, _, q⟩ := hs; exact q.elim
  | cont => obtain ⟨_, _, _, q⟩ := hs; exact q.elim
end
end DL

set_option Elab.async false
set_option linter.all false
set_option maxRecDepth 100000
set_option maxHeartbeats 4000000
set_option autoImplicit false
namespace DL
open PySem PySem.Spec PySem.Calls PyProof.Rows L2
/-! ### an own exception with one field -/
def fldOk (K : PySem.W.Frag) (tup : Bool) (H : Hp) (v : V) : Prop := tup = true → ∃ p ys, v = .ref p ∧ SqT K H p ys
def spI1 (K : PySem.W.Frag) (C : Addr) (fl : Str) (tup : Bool) : Sp := fun vs H Q _ => ∃ x v, vs = [.ref x, v] ∧ H x = some (exo x C none) ∧ fldOk K tup H v ∧ ∀ d, H d = none → d ≠ x → Q .non (upd (upd H d (exd d [(fl, v)])) x (exo x C (some d)))
theorem SqT.keep {K : PySem.W.Frag} {H H' : Hp} {a : Addr} {xs : List V} (k : ∀ b o, H b = some o → H' b = some o) (h : SqT K H a xs) : SqT K H' a xs := sqT_mono (fun b o e => k b o e) h
theorem fldOk.keep {K : PySem.W.Frag} {tup : Bool} {H H' : Hp} {v : V} (k : ∀ b o, H b = some o → H' b = some o) (h : fldOk K tup H v) : fldOk K tup H' v := fun e => by
  obtain ⟨p, ys, e1, e2⟩ := h e
  exact ⟨p, ys, e1, SqT.keep k e2⟩
section
/-- the heap behind C(v): one new dict -/
theorem upd_made {H : Hp} {a d : Addr} {o u z : HO} (ha : H a = none) (hd : d ≠ a) : upd (L2.del (upd (upd (upd H a o) d u) a z) a) d u = upd H d u := by
  funext b
  by_cases h : b = d
  · rw [h, upd_same, upd_same]
  · rw [upd_ne h, upd_ne h]
    by_cases h2 : b = a
    · rw [h2, del_same, ha]
    · rw [del_ne h2, upd_ne h2, upd_ne h, upd_ne h2]
theorem upd_made2 {H : Hp} {a d : Addr} {o u v z : HO} (ha : H a = none) (hd : d ≠ a) : upd (L2.del (upd (upd (upd H a o) d u) a z) a) d v = upd H d v := by
  funext b
  by_cases h : b = d
  · rw [h, upd_same, upd_same]
  · rw [upd_ne h, upd_ne h]
    by_cases h2 : b = a
    · rw [h2, del_same, ha]
    · rw [del_ne h2, upd_ne h2, upd_ne h, upd_ne h2]
end
end DL

set_option Elab.async false
set_option linter.all false
set_option maxRecDepth 100000
set_option maxHeartbeats 4000000
set_option autoImplicit false
namespace DL
open PySem L2
/-! ### exceptions as data: the class by its name, its fields -/
structure XD where
  name : Str
  fs : List (Str × D)
inductive XFs (K : PySem.W.Frag) (F : Hp) : List (Str × V) → List (Str × D) → Prop
  | nil : XFs K F [] []
  | cons {n : Str} {v : V} {d : D} {vs : List (Str × V)} {ds : List (Str × D)} : Rp K F v d → XFs K F vs ds → XFs K F ((n, v) :: vs) ((n, d) :: ds)
theorem XFs.mono {K : PySem.W.Frag} {F F' : Hp} (e : Same F F') {vs : List (Str × V)} {ds : List (Str × D)} (h : XFs K F vs ds) : XFs K F' vs ds := by
  induction h with
  | nil => exact .nil
  | cons h _ ih => exact .cons (h.mono e) ih
theorem XFs.look {K : PySem.W.Frag} {F : Hp} {vs : List (Str × V)} {ds : List (Str × D)} (h : XFs K F vs ds) {n : Str} {d : D} (e : ds.lookup n = some d) : ∃ v, vs.lookup n = some v ∧ Rp K F v d := by
  induction h with
  | nil => cases e
  | @cons n' v d' vs ds h _ ih =>
    simp only [List.lookup] at e ⊢
    split at e
    · cases e
      exact ⟨v, rfl, h⟩
    · exact ih e
def XR (K : PySem.W.Frag) (mg : Str → Option Value) (F : Hp) (x : XD) (cls : Value) (d : Option Addr) : Prop := ∃ C, mg x.name = some (.ref C) ∧ cls = .ref C ∧ (x.fs = [] ∨ ∃ dx vs, d = some dx ∧ F dx = some (.xd vs) ∧ XFs K F vs x.fs)
theorem XR.mono {K : PySem.W.Frag} {mg : Str → Option Value} {F F' : Hp} (e : Same F F') {x : XD} {cls : Value} {d : Option Addr} (h : XR K mg F x cls d) : XR K mg F' x cls d := by
  obtain ⟨C, h1, h2, h3⟩ := h
  refine ⟨C, h1, h2, h3.imp id ?_⟩
  rintro ⟨dx, vs, e1, e2, e3⟩
  exact ⟨dx, vs, e1, e _ _ e2, e3.mono e⟩
abbrev DW := XD → Rho → Prop
def LkW (mg : Str → Option Value) (f : Fr) (g : Gs) (H : Hp) (Y : DW) (W : WX) : Prop := ∀ (g' : Gs) (σ' : L2.St) (H' : Hp) (ρ' : Rho) (x : XD) (cls : Value) (d : Option Addr), Rel f g' σ' H' ρ' → Gro g H g' H' → XR f.K mg (Fz H' g'.M) x cls d → Y x ρ' → W cls d σ' H'
theorem LkW.mono {mg : Str → Option Value} {f : Fr} {g g1 : Gs} {H H1 : Hp} {Y : DW} {W : WX} (G : Gro g H g1 H1) (l : LkW mg f g H Y W) : LkW mg f g1 H1 Y W := fun g' σ' H' ρ' x cls d R G' => l g' σ' H' ρ' x cls d R (G.trans G')
section
variable (K : PySem.W.Frag) (mg : Str → Option Value)
def LEw (t : WX → TE) (d : DW → DE) : Prop := ∀ (W : WX) (Y : DW) (f : Fr) (g : Gs) (σ : L2.St) (H : Hp) (ρ : Rho) (Q : Rv → Rho → Prop) (R : V → Hp → Prop), f.K = K → Rel f g σ H ρ → LkW mg f g H Y W → d Y ρ Q →
  (∀ (v : V) (H' : Hp) (g' : Gs) (ρ' : Rho) (r : Rv), Rel f g' σ H' ρ' → Gro g H g' H' → VR f g' σ H' ρ' v r → Q r ρ' → R v H') → t W σ H R
def LTw (t : WX → TT) (d : DW → DT) : Prop := ∀ (W : WX) (Y : DW) (f : Fr) (g : Gs) (σ : L2.St) (H : Hp) (ρ : Rho) (Q : Bool → Rho → Prop) (R : Bool → Hp → Prop), f.K = K → Rel f g σ H ρ → LkW mg f g H Y W → d Y ρ Q →
  (∀ (b : Bool) (H' : Hp) (g' : Gs) (ρ' : Rho), Rel f g' σ H' ρ' → Gro g H g' H' → Q b ρ' → R b H') → t W σ H R
def LSw (t : WX → TS) (d : DW → DS) : Prop := ∀ (W : WX) (Y : DW) (f : Fr) (g : Gs) (σ : L2.St) (H : Hp) (ρ : Rho) (DD : DEnds) (E : Ends), f.K = K → Rel f g σ H ρ → LkW mg f g H Y W → d Y DD ρ → LkE f g H DD E → t W E σ H
end
section
variable {K : PySem.W.Frag} {mg : Str → Option Value} {ta tb : WX → TE} {da db : DW → DE} {t u : WX → TS} {d e : DW → DS} {tt : WX → TT} {dt : DW → DT} {tg : TG} {dg : DG}
theorem lew_of {ta : TE} {da : DE} (h : LE K ta da) : LEw K mg (fun _ => ta) (fun _ => da) := fun W Y f g σ H ρ Q R hK hR _ hd k => h f g σ H ρ Q R hK hR hd k
theorem ltw_of {ta : TT} {da : DT} (h : LT K ta da) : LTw K mg (fun _ => ta) (fun _ => da) := fun W Y f g σ H ρ Q R hK hR _ hd k => h f g σ H ρ Q R hK hR hd k
theorem lsw_of {ta : TS} {da : DS} (h : LS K ta da) : LSw K mg (fun _ => ta) (fun _ => da) := fun W Y f g σ H ρ DD E hK hR _ hd k => h f g σ H ρ DD E hK hR hd k
theorem LEw.opd (h : LEw K mg ta da) {W : WX} {Y : DW} {f : Fr} {g : Gs} {σ : L2.St} {H : Hp} {ρ : Rho} {Q : Rv → Rho → Prop} {R : V → Hp → Prop} (hK : f.K = K) (hR : Rel f g σ H ρ) (l : LkW mg f g H Y W) (hd : da Y ρ Q)
    (k : ∀ (v : V) (H' : Hp) (g' : Gs) (ρ' : Rho) (r : Rv), Rel f g' σ H' ρ' → Gro g H g' H' → Opd f g' σ H' v r → Q r ρ' → R v H') : ta W σ H R :=
  h W Y f g σ H ρ Q R hK hR l hd fun v H' g' ρ' r R' G' V' q => by
    obtain ⟨g2, R2, G2, O⟩ := V'.opd R'
    exact k v H' g2 ρ' r R2 (G'.trans G2) O q
theorem ltw_test (h : LEw K mg ta da) : LTw K mg (fun W => tTest (ta W)) (fun Y => dTest (da Y)) := by
  intro W Y f g σ H ρ Q R hK hR l hd k
  refine h.opd hK hR l hd fun v H1 g1 ρ1 r1 R1 G1 O1 q1 => ?_
  obtain ⟨b, e1, q1⟩ := wB_some q1
  exact ⟨b, (O1.rn R1 e1).bool, k b H1 g1 ρ1 R1 G1 q1⟩
theorem lew_isN (h : LEw K mg ta da) : LEw K mg (fun W => tIsN (ta W)) (fun Y => dIsN false (da Y)) := by
  intro W Y f g σ H ρ Q R hK hR l hd k
  refine h.opd hK hR l hd fun v H1 g1 ρ1 r1 R1 G1 O1 q1 => ?_
  obtain ⟨x, e1, q1⟩ := wD_some q1
  exact k _ H1 g1 ρ1 (.fz (.bool (isNone x))) R1 G1 (by rw [rn_isN (O1.rn R1 e1)]; exact Rp.bl _) (by simpa using q1)
theorem lew_notN (h : LEw K mg ta da) : LEw K mg (fun W => tNotN (ta W)) (fun Y => dIsN true (da Y)) := by
  intro W Y f g σ H ρ Q R hK hR l hd k
  refine h.opd hK hR l hd fun v H1 g1 ρ1 r1 R1 G1 O1 q1 => ?_
  obtain ⟨x, e1, q1⟩ := wD_some q1
  exact k _ H1 g1 ρ1 (.fz (.bool (!isNone x))) R1 G1 (by rw [rn_isN (O1.rn R1 e1)]; exact Rp.bl _) (by simpa using q1)
theorem lew_if (h : LTw K mg tt dt) (h1 : LEw K mg ta da) (h2 : LEw K mg tb db) : LEw K mg (fun W => tIf (tt W) (ta W) (tb W)) (fun Y => dIf (dt Y) (da Y) (db Y)) := by
  intro W Y f g σ H ρ Q R hK hR l hd k
  refine h W Y f g σ H ρ _ _ hK hR l hd fun b H1 g1 ρ1 R1 G1 q1 => ?_
  cases b with
  | true => replace q1 := useB_t q1; exact h1 W Y f g1 σ H1 ρ1 Q R hK R1 (l.mono G1) q1 fun v H2 g2 ρ2 r2 R2 G2 V2 q2 => k v H2 g2 ρ2 r2 R2 (G1.trans G2) V2 q2
  | false => replace q1 := useB_f q1; exact h2 W Y f g1 σ H1 ρ1 Q R hK R1 (l.mono G1) q1 fun v H2 g2 ρ2 r2 R2 G2 V2 q2 => k v H2 g2 ρ2 r2 R2 (G1.trans G2) V2 q2
theorem lsw_seq (h : LSw K mg t d) (h' : LSw K mg u e) : LSw K mg (fun W => tSeq (t W) (u W)) (fun Y => dSeq (d Y) (e Y)) := fun W Y f g σ H ρ DD E hK R lw hd l =>
  h W Y f g σ H ρ _ _ hK R lw hd ⟨fun g' σ' H' ρ' R' G' q => h' W Y f g' σ' H' ρ' DD E hK R' (lw.mono G') q (l.mono G'), l.rt, l.bk, l.ct⟩
theorem lsw_if (hc : LTw K mg tt dt) (h : LSw K mg t d) (h' : LSw K mg u e) : LSw K mg (fun W => tIfS (tt W) (t W) (u W)) (fun Y => dIfS (dt Y) (d Y) (e Y)) := by
  intro W Y f g σ H ρ DD E hK R lw hd l
  refine hc W Y f g σ H ρ _ _ hK R lw hd fun b H1 g1 ρ1 R1 G1 q1 => ?_
  cases b with
  | true => replace q1 := useB_t q1; exact h W Y f g1 σ H1 ρ1 DD E hK R1 (lw.mono G1) q1 (l.mono G1)
  | false => replace q1 := useB_f q1; exact h' W Y f g1 σ H1 ρ1 DD E hK R1 (lw.mono G1) q1 (l.mono G1)
theorem lsw_ret (h : LEw K mg ta da) : LSw K mg (fun W => tRet (ta W)) (fun Y => dRet (da Y)) := fun W Y f g σ H ρ DD E hK R lw hd l =>
  h W Y f g σ H ρ _ _ hK R lw hd fun v H1 g1 ρ1 r R1 G1 V1 q1 => l.rt g1 σ H1 ρ1 v r R1 G1 V1 q1
theorem lsw_drop (h : LEw K mg ta da) : LSw K mg (fun W => tDrop (ta W)) (fun Y => dDrop (da Y)) := fun W Y f g σ H ρ DD E hK R lw hd l =>
  h W Y f g σ H ρ _ _ hK R lw hd fun v H1 g1 ρ1 r R1 G1 V1 q1 => l.nx g1 σ H1 ρ1 R1 G1 q1
theorem lsw_asg (h : LEw K mg ta da) (hg : LG K tg dg) : LSw K mg (fun W => tAsg (ta W) tg) (fun Y => dAsg (da Y) dg) := fun W Y f g σ H ρ DD E hK R lw hd l =>
  h W Y f g σ H ρ _ _ hK R lw hd fun v H1 g1 ρ1 r R1 G1 V1 q1 => hg f g1 σ H1 ρ1 v r _ _ hK R1 V1 q1 fun g2 σ2 H2 ρ2 R2 G2 q2 => l.nx g2 σ2 H2 ρ2 R2 (G1.trans G2) q2
end
section
variable {K : PySem.W.Frag} {mg : Str → Option Value} {wi : TI} {dI : DI} {tg : TG} {dg : DG} {tb : WX → TS} {db : DW → DS} {tt : WX → TT} {dt : DW → DT}
theorem lsw_for (hi : LI K wi dI) (hg : LG K tg dg) (hb : LSw K mg tb db) : LSw K mg (fun W => tFor wi tg (tb W)) (fun Y => dFor dI dg (db Y)) := by
  intro W Y f g σ H ρ DD E hK R lw hd l
  refine hi f g σ H ρ _ _ hK R hd fun J H1 g1 ρ1 G Z ds R1 G1 w io q => ?_
  refine for_it w (fun i σ' H' => ∃ g' ρ', Rel f g' σ' H' ρ' ∧ Gro g1 H1 g' H' ∧ dLoop dg (db Y) DD (ds.drop i) ρ') ⟨g1, ρ1, R1, Gro.refl, by simpa using q⟩ (fun i σ' H' _ ⟨g', ρ', R', G', _⟩ => io.st g' σ' H' ρ' R' G'.fz) ?_ ?_
  · rintro i x σ' H' H'' hlt ⟨g', ρ', R', G', q'⟩ y
    obtain ⟨g2, R2, G2, hx⟩ := io.yl g' σ' H' ρ' R' G'.fz i x H'' ds[i] (by simp [hlt]) y
    rw [List.drop_eq_getElem_cons hlt] at q'
    refine hg f g2 σ' H'' ρ' x (.fz _) _ _ hK R2 hx q' fun g3 σ3 H3 ρ3 R3 G3 q3 => ?_
    have GG := (G'.trans G2).trans G3
    refine hb W Y f g3 σ3 H3 ρ3 _ _ hK R3 (lw.mono (G1.trans GG)) q3 ⟨fun g4 σ4 H4 ρ4 R4 G4 q4 => ⟨g4, ρ4, R4, GG.trans G4, q4⟩, fun g4 σ4 H4 ρ4 v r R4 G4 V4 q4 => l.rt g4 σ4 H4 ρ4 v r R4 ((G1.trans GG).trans G4) V4 q4,
      fun g4 σ4 H4 ρ4 R4 G4 q4 => l.nx g4 σ4 H4 ρ4 R4 ((G1.trans GG).trans G4) q4, fun g4 σ4 H4 ρ4 R4 G4 q4 => ⟨g4, ρ4, R4, GG.trans G4, q4⟩⟩
  · rintro σ' H' ⟨g', ρ', R', G', q'⟩
    rw [List.drop_length] at q'
    exact l.nx g' σ' H' ρ' R' (G1.trans G') q'
theorem lsw_while (hc : LTw K mg tt dt) (hb : LSw K mg tb db) : LSw K mg (fun W => tWhile (tt W) (tb W)) (fun Y => dWhile (dt Y) (db Y)) := by
  intro W Y f g σ H ρ DD E hK R lw hd l
  obtain ⟨P, ⟨m0, p0⟩, hs⟩ := hd
  refine ⟨fun m σ' H' => ∃ g' ρ', Rel f g' σ' H' ρ' ∧ Gro g H g' H' ∧ P m ρ', ⟨m0, g, ρ, R, Gro.refl, p0⟩, ?_⟩
  rintro m σ' H' ⟨g', ρ', R', G', p'⟩
  refine hc W Y f g' σ' H' ρ' _ _ hK R' (lw.mono G') (hs m ρ' p') fun b H1 g1 ρ1 R1 G1 q1 => ?_
  cases b with
  | true =>
    replace q1 := useB_t q1
    rw [if_pos rfl]
    refine ⟨fun σ3 H3 => ∃ m', m' < m ∧ ∃ g3 ρ3, Rel f g3 σ3 H3 ρ3 ∧ Gro g H g3 H3 ∧ P m' ρ3, fun _ _ q => q, ?_⟩
    have GG := G'.trans G1
    exact hb W Y f g1 σ' H1 ρ1 _ _ hK R1 (lw.mono GG) q1 ⟨fun g4 σ4 H4 ρ4 R4 G4 ⟨m', hm, p⟩ => ⟨m', hm, g4, ρ4, R4, GG.trans G4, p⟩, fun g4 σ4 H4 ρ4 v r R4 G4 V4 q4 => l.rt g4 σ4 H4 ρ4 v r R4 (GG.trans G4) V4 q4,
      fun g4 σ4 H4 ρ4 R4 G4 q4 => l.nx g4 σ4 H4 ρ4 R4 (GG.trans G4) q4, fun g4 σ4 H4 ρ4 R4 G4 ⟨m', hm, p⟩ => ⟨m', hm, g4, ρ4, R4, GG.trans G4, p⟩⟩
  | false =>
    replace q1 := useB_f q1
    rw [if_neg Bool.false_ne_true]
    exact l.nx g1 σ' H1 ρ1 R1 (G'.trans G1) q1
end
end DL

set_option Elab.async false
set_option linter.all false
set_option maxRecDepth 100000
set_option maxHeartbeats 4000000
set_option autoImplicit false
namespace DL
open PySem PySem.Spec PyProof.Rows L2
/-! ### defs that may raise -/
abbrev ConX := List D → (Re → Prop) → (XD → Prop) → Prop
def spX (K : PySem.W.Frag) (mg : Str → Option Value) (ks : List Kd) (C : ConX) : Sp := fun vs H Q E => ∃ (M0 : AP) (src : Option (Addr × Addr)) (ds : List D), PreC K M0 src [] (.fl []) H ks vs ds ∧ ∃ (Qc : Re → Prop) (Xc : XD → Prop), C ds Qc Xc ∧
  (∀ r, Qc r → ∀ v H', PostC K M0 src [] (.fl []) H H' v r → Q v H') ∧ ∀ x, Xc x → ∀ cls d H', PostC K M0 src [] (.fl []) H H' .non (.fz .none) → XR K mg (Fz H' M0) x cls d → E cls d H'
def dCallX (ks : List Kd) (C : ConX) (da : DA) (Y : DW) : DE := fun ρ Q => da ρ fun rs ρ1 => wFA (argA ρ1 ks rs) fun ds ρ2 => C ds (fun re => Q (ofRe re) ρ2) (fun x => Y x ρ2)
section
variable {K : PySem.W.Frag} {mg : Str → Option Value} {ks : List Kd} {C : ConX}
theorem lew_call {tr : TA} {dr : DA} (h : LA K tr dr) (hk : noMu ks = true := by rfl) : LEw K mg (fun W => tCallS (spX K mg ks C) (WE W) tr) (dCallX ks C dr) := by
  intro W Y f g σ H ρ Q R hK hR lw hd k
  refine h f g σ H ρ _ _ hK hR hd fun vs H1 g1 ρ1 rs R1 G1 O1 q1 => ?_
  obtain ⟨ds, ρ2, e1, q1⟩ := wFA_some q1
  obtain ⟨g2, R2, G2, s2, A⟩ := O1.arg (fp := []) (.inl rfl) (fun z => by
    have := List.all_eq_true.mp hk _ z
    cases this) R1 e1
  subst hK
  refine ⟨g2.M, g2.src, ds, ⟨fun a m => R2.mU a m, fun p c e => ?_, by rw [s2]; exact A, (fun _ h => nomatch h), List.nodup_nil, (fun _ _ h => nomatch h)⟩, _, _, q1, fun re q v H' P => ?_, fun x q cls d H' P hx => ?_⟩
  · obtain ⟨h1, h2, h3, _, _, h6⟩ := R2.src p c e
    exact ⟨h1, h2, h3, h6⟩
  · obtain ⟨g3, R3, G3, V3⟩ := P.fin R2
    exact k v H' g3 ρ2 _ R3 ((G1.trans G2).trans G3) V3 q
  · obtain ⟨R3, G3⟩ := R2.step (g' := g2) (fun _ => Iff.rfl) rfl rfl (fun a o e n => P.keep a o e n List.not_mem_nil) P.dom P.sok
    exact lw g2 σ H' ρ2 x cls d R3 ((G1.trans G2).trans G3) hx q
theorem def_endX {N : List Str} {t : WX → TS} {d : DW → DS} {vs : List V} {H : Hp} {Q : VK} {E : XK} (h : spX K mg ks C vs H Q E) (hk : noMu ks = true) (hl : LSw K mg t d)
    (hd : ∀ ds Qc Xc, C ds Qc Xc → d (fun x _ => Xc x) { nx := fun _ => Qc (.fz .none), rt := retC Qc } (startR N.length ks ds)) : t (fun cls d _ H' => E cls d H') { nx := fun _ H' => Q .non H', rt := Q } (L2.start N vs) H := by
  obtain ⟨M0, src, ds, P, Qc, Xc, hC, hQ, hX⟩ := h
  refine hl _ _ ⟨K, H, M0, srcSet src []⟩ ⟨M0, src, [], []⟩ (L2.start N vs) H _ _ _ rfl (rel_start P (oneMu_of hk)) (fun g' σ' H' ρ' x cls d R' G' hx q => ?_) (hd ds _ _ hC) ⟨fun g' σ' H' ρ' R' G' q => ?_, fun g' σ' H' ρ' v r R' G' V' q => ret_end R' G'.src V' q (fun _ _ h => nomatch h) hQ, fun _ _ _ _ _ _ q => q.elim, fun _ _ _ _ _ _ q => q.elim⟩
  · refine hX x q cls d H' (ret_end (Qc := fun re => re = .fz .none) (Q := fun v H'' => PostC K M0 src [] (.fl []) H H'' v (.fz .none)) (r := .fz .none) R' G'.src Rp.non rfl (fun _ _ h => nomatch h) fun re e v H'' P => by rw [e] at P; exact P) (hx.mono (fz_mono fun a o e n => ⟨e, fun m => n (R'.m0 a m)⟩))
  · exact ret_end (r := .fz .none) R' G'.src Rp.non (Qc := Qc) q (fun _ _ h => nomatch h) hQ
end
section
variable {P : Program} {w : World} {K : PySem.W.Frag} {mg : Str → Option Value} {base : Heap}
structure CalX (P : Program) (w : World) (K : PySem.W.Frag) (mg : Str → Option Value) (base : Heap) (k : Nat) (x : Str) (sp : Sp) : Prop where
  ex : ∃ (f : Addr) (fd : FuncData) (ps : List Str), FnG P w K mg base (L2.CX P w) k f fd ps sp ∧ mg x = some (.ref f) ∧ PySem.W.keepIn K (.ref f) = true ∧ Binds K fd ps []
theorem calX {x : Str} {st : Stmt} {f : Addr} {fd : FuncData} {N ps : List Str} {k : Nat} {ks : List Kd} {C : ConX} (F : C8.Def K mg x st f fd) (b : Binds K fd ps []) (S : FnScope N ps (C8.fnScope st)) (hl : ks.length = ps.length)
    (hb : ∀ (cdv : Value) (A : Around) (outer : List Env) (s : Shared) (H : Hp) (E : XK), (A.deeper (envOfC x (C8.fnScope st) s.heap.objs.size f cdv)).guards = some [] → Room k (A.deeper (envOfC x (C8.fnScope st) s.heap.objs.size f cdv)) →
      ∃ (t : WX → TS) (d : DW → DS), (∀ W, L2.Takes (cxOf (L2.CX P w) P w K mg base N x (C8.fnScope st) f cdv A outer s H E) W → PSs (cxOf (L2.CX P w) P w K mg base N x (C8.fnScope st) f cdv A outer s H E) (C8.fnBody st) (t W)) ∧ LSw K mg t d ∧
        ∀ ds Qc Xc, C ds Qc Xc → d (fun x _ => Xc x) { nx := fun _ => Qc (.fz .none), rt := retC Qc } (startR N.length ks ds)) (hk : noMu ks = true := by rfl) :
    CalX P w K mg base (k + 1) x (spX K mg ks C) := by
  refine ⟨f, fd, ps, fnG_of F.fn S (fun vs H Q E h => ?_) (fun cdv A outer s H vs Q E hg hr h => ?_), F.mgf, F.kp, b⟩
  · obtain ⟨M0, src, ds, P, _⟩ := h
    rw [← hl, P.args.length.1]
  · obtain ⟨t, d, h1, h2, h3⟩ := hb cdv A outer s H E hg hr
    exact ⟨_, h1 _ (takes_of rfl rfl rfl rfl), def_endX h hk h2 h3⟩
end
section
variable {X : Cx} {k j : Nat} {x : Str} {sp : Sp} {p pos : Pos} {e : Expr} {es : List Expr} {t : TA} {W : WX}
theorem pe_cX (c : CalX X.prog X.w X.K X.mg X.base k x sp) (hA : X.A.guards = some []) (hr : Room j X.A) (hk : k ≤ j) (tk : L2.Takes X W) (hg : Gl X x) (ha : PA X (e :: es) t)
    (hdb : (x == ("__debug__" : Str)) = false := by decide) (he : starEach (e :: es) X.env = (false, eval e X.env) :: starEach es X.env := by rfl) (hpl : (backTo pos (starEach es X.env)).any (·.1) = false := by rfl) :
    PE X (.Call (.Name x p) (e :: es) [] pos) (tCallS sp (WE W) t) := by
  obtain ⟨f, fd, ps, F, hm, kp, b⟩ := c.ex
  constructor
  intro pins s σ H Q I h
  refine wpAny_Call_Name_kw (ld_glob I hg hm (PySem.W.callWith_K (h₀ := X.base) I.ok.mod.kin kp (thn (ha.run pos pins s σ H _ I h) ?_) he hpl) hdb)
  rintro us s1 ⟨vs, H1, I1, r, q⟩
  refine ⟨I1.kIn, ?_⟩
  have hl : (us ++ []).length = ps.length := by rw [List.append_nil, ← r.length]; exact F.len _ _ _ _ q
  have hb := b s1 us I1.kIn hl
  rw [List.append_nil] at hb
  refine wpAny_call (codeAny_mono (F.go X.A hA (hr.mono hk) X.stack s1 H1 I1.env0 ⟨us, []⟩ us vs Q (WE W σ) hb r q) ?_)
  intro rr s' hq
  cases rr with
  | error e => exact passAt tk σ pins H1 s1 e s' I1 hq
  | ok fl =>
    cases fl with
    | ret u => exact I1.after hq
    | next => exact False.elim hq
    | brk => exact False.elim hq
    | cont => exact False.elim hq
end
end DL

set_option Elab.async false
set_option linter.all false
set_option maxRecDepth 100000
set_option maxHeartbeats 4000000
set_option autoImplicit false
namespace DL
open PySem PySem.Spec PyProof.Rows L2
/-! ### what a class asks -/
section
variable {K : PySem.W.Frag} {C : Addr}
theorem exm_of {c : Addr} (hc : (PySem.W.clsIn K c).isSome = true) (h1 : PySem.W.subIn K (.ref c) (.type "BaseException") = some true) (h2 : PySem.W.typeIn K (.ref c) = some (.type "type")) {b : Bool} (h3 : PySem.W.subIn K (.ref C) (.ref c) = some b) : PySem.W.exmOne K (.ref C) (.ref c) = some b := by
  simp only [PySem.W.exmOne, PySem.W.kitCls, h1, hc, h2, h3]
  rfl
theorem ini_of {L : Addr} {o : Option Addr} {oc : Value} {cd cdL : ClassData} {sl slL : Array (Option Value)} {odL : Option Addr} {ocL : Value} {rest : List Value} (h1 : K.lookup C = some ⟨oc, o, .cls cd, sl⟩) (h2 : cd.mro = .ref C :: .ref L :: rest) (h3 : K.lookup L = some ⟨ocL, odL, .cls cdL, slL⟩) (h4 : cdL.mro = .ref L :: rest)
    {v : Value} (h5 : PySem.W.findIn K (.ref L) "__init__" = some (some v)) : PySem.W.ks_superIn K C C "__init__" = some (some v) := by
  have e : PySem.W.clsIn K C = some cd := by unfold PySem.W.clsIn; rw [h1] <;> rfl
  unfold PySem.W.ks_superIn
  rw [e, Option.bind_some, h2]
  have z : PySem.W.findIn K (.ref L) "__init__" = PySem.W.alongIn K "__init__" cdL.mro := by simp only [PySem.W.findIn, h3]
  rw [z, h4] at h5
  simpa [List.dropWhile_cons] using h5
end
/-! ### raise -/
section
variable {K : PySem.W.Frag} {mg : Str → Option Value} {ta : TE} {da : DE} {C : Addr} {x fl : Str} {tup : Bool}
def dRaise1 (x fl : Str) (tup : Bool) (da : DE) (Y : DW) : DS := fun DD ρ => da ρ fun r ρ1 => wF (frz ρ1 r) fun d ρ2 => (tup = true → ∃ xs, d = .tuple xs) ∧ Y ⟨x, [(fl, d)]⟩ ρ2
theorem lsw_raise1 (h : LE K ta da) (hm : mg x = some (.ref C)) : LSw K mg (fun W => fun _ σ H => tMkO C (spI1 K C fl tup) [] (tCons ta tNil) σ H fun cls d H' => W cls d σ H') (dRaise1 x fl tup da) := by
  intro W Y f g σ H ρ DD E hK hR lw hd l
  refine h.opd hK hR hd fun v H1 g1 ρ1 r1 R1 G1 O1 q1 => ?_
  obtain ⟨d, ρ2, e1, ht, q1⟩ := wF_some q1
  obtain ⟨g2, R2, G2, hv⟩ := O1.frz R1 e1
  subst hK
  refine ⟨by simp, fun a ha => ⟨a, v, rfl, upd_same, fun e => ?_, fun dx hd hne => ?_⟩⟩
  · obtain ⟨xs, rfl⟩ := ht e
    cases hv with
    | tup hh _ =>
      have ho := fz_sub _ _ hh
      exact ⟨_, _, rfl, .inl (.inl (by rw [upd_ne (fun z => by rw [z, ha] at ho; cases ho)]; exact ho))⟩
  · have hd1 : H1 dx = none := by rw [upd_ne hne] at hd; exact hd
    have keep : ∀ (c : Addr) (o : HO), H1 c = some o → upd H1 dx (.xd [(fl, v)]) c = some o := fun c o e => by
      rw [upd_ne (fun z => by rw [z, hd1] at e; cases e)]
      exact e
    refine ⟨rfl, dx, [(fl, v)], upd_same, by rw [upd_ne hne, upd_same], hd1, ?_⟩
    rw [upd_made2 ha hne]
    obtain ⟨R3, G3⟩ := R2.step (g' := g2) (H' := upd H1 dx (.xd [(fl, v)])) (fun _ => Iff.rfl) rfl rfl (fun c o e _ => keep c o e) (fun c e => by
      by_cases z : c = dx
      · rw [z, upd_same] at e; cases e
      · rw [upd_ne z] at e; exact e) (fun p c e => by
        obtain ⟨_, _, _, _, _, ok⟩ := R2.src p c e
        obtain ⟨ns, l', m, t, more, e1, e2, e3⟩ := ok
        exact ⟨ns, l', m, t, more, keep _ _ e1, keep _ _ e2, e3⟩)
    exact lw g2 σ _ ρ2 ⟨x, [(fl, d)]⟩ (.ref C) (some dx) R3 ((G1.trans G2).trans G3) ⟨C, hm, rfl, .inr ⟨dx, _, rfl, fz_of upd_same (R2.mH dx hd1), .cons (hv.mono G3.fz) .nil⟩⟩ q1
/-- a class without __init__, without arguments -/
def dRaise0 (x : Str) (Y : DW) : DS := fun _ ρ => Y ⟨x, []⟩ ρ
theorem lsw_raise0 (hm : mg x = some (.ref C)) : LSw K mg (fun W => fun _ σ H => W (.ref C) none σ H) (dRaise0 x) := fun W Y f g σ H ρ DD E hK hR lw hd l =>
  lw g σ H ρ ⟨x, []⟩ (.ref C) none hR Gro.refl ⟨C, hm, rfl, .inl rfl⟩ hd
end
/-! ### try: .. except X as n: .. -/
section
variable {f : Fr} {g : Gs} {σ : L2.St} {H : Hp} {ρ : Rho} {i : Nat}
/-- a slot of which nothing is known -/
theorem Rel.blank (R : Rel f g σ H ρ) (x : Option V) : Rel f g (σ.set i x) H (ρ.set i none) := by
  have off : ∀ {j : Nat} {s : Sl}, (ρ.set i none)[j]? = some (some s) → i ≠ j ∧ ρ[j]? = some (some s) := fun {j s} e => by
    rcases getset e with ⟨_, q⟩ | h
    · cases q
    · exact h
  refine ⟨R.keep, R.dom, R.m0, R.m00, R.mU, R.src, by rw [List.length_set, List.length_set]; exact R.len, fun j t e => ?_, fun j k l d e h1 h2 h3 h4 => ?_, fun b hb => ⟨(R.tmp b hb).1, (R.tmp b hb).2.1, fun j e h1 h2 => ?_⟩, R.fpM, R.fpn, fun j k d e h1 h2 => R.mq j k d e (off h1).2 (off h2).2⟩
  · obtain ⟨n, q⟩ := off e
    obtain ⟨w, e1, q1⟩ := R.slot j t q
    exact ⟨w, by rw [List.getElem?_set_ne n]; exact e1, q1⟩
  · obtain ⟨n1, q1⟩ := off h1
    obtain ⟨n2, q2⟩ := off h2
    rw [List.getElem?_set_ne n1] at h3
    rw [List.getElem?_set_ne n2] at h4
    exact R.uq j k l d e q1 q2 h3 h4
  · obtain ⟨n, q⟩ := off h1
    rw [List.getElem?_set_ne n] at h2
    exact (R.tmp b hb).2.2 j e q h2
end
section
variable (K : PySem.W.Frag) (mg : Str → Option Value) (C : Addr) (i : Nat)
def LEx (t : Addr → Value → Option Addr → TE) (d : XD → DE) : Prop := ∀ (a : Addr) (dd : Option Addr) (x : XD) (f : Fr) (g : Gs) (σ : L2.St) (H : Hp) (ρ : Rho) (Q : Rv → Rho → Prop) (R : V → Hp → Prop), f.K = K → Rel f g σ H ρ → σ[i]? = some (some (.ref a)) → XR K mg (Fz H g.M) x (.ref C) dd → d x ρ Q →
  (∀ (v : V) (H' : Hp) (g' : Gs) (ρ' : Rho) (r : Rv), Rel f g' σ H' ρ' → Gro g H g' H' → VR f g' σ H' ρ' v r → Q r ρ' → R v H') → t a (.ref C) dd σ H R
def LAx (t : Addr → Value → Option Addr → TA) (d : XD → DA) : Prop := ∀ (a : Addr) (dd : Option Addr) (x : XD) (f : Fr) (g : Gs) (σ : L2.St) (H : Hp) (ρ : Rho) (Q : List Rv → Rho → Prop) (R : List V → Hp → Prop), f.K = K → Rel f g σ H ρ → σ[i]? = some (some (.ref a)) → XR K mg (Fz H g.M) x (.ref C) dd → d x ρ Q →
  (∀ (vs : List V) (H' : Hp) (g' : Gs) (ρ' : Rho) (rs : List Rv), Rel f g' σ H' ρ' → Gro g H g' H' → OpdA f g' σ H' vs rs → Q rs ρ' → R vs H') → t a (.ref C) dd σ H R
def LSx (t : Addr → Value → Option Addr → TS) (d : XD → DS) : Prop := ∀ (a : Addr) (dd : Option Addr) (x : XD) (f : Fr) (g : Gs) (σ : L2.St) (H : Hp) (ρ : Rho) (DD : DEnds) (E : Ends), f.K = K → Rel f g σ H ρ → σ[i]? = some (some (.ref a)) → XR K mg (Fz H g.M) x (.ref C) dd → d x DD ρ → LkE f g H DD E → t a (.ref C) dd E σ H
end
section
variable {K : PySem.W.Frag} {mg : Str → Option Value} {C : Addr} {i : Nat}
theorem lex_of {t : TE} {d : DE} (h : LE K t d) : LEx K mg C i (fun _ _ _ => t) (fun _ => d) := fun a dd x f g σ H ρ Q R hK hR _ _ hd k => h f g σ H ρ Q R hK hR hd k
def dXf (n : Str) (x : XD) : DE := fun ρ Q => ∃ d, x.fs.lookup n = some d ∧ Q (.fz d) ρ
theorem lex_field {n : Str} : LEx K mg C i (fun a cls d => tXf a cls d C n (tVar i)) (dXf n) := by
  intro a dd x f g σ H ρ Q R hK hR hs hx hd k
  obtain ⟨d, e, q⟩ := hd
  obtain ⟨C', _, _, h3⟩ := hx
  subst hK
  rcases h3 with h3 | ⟨dx, vs, rfl, e2, e3⟩
  · rw [h3] at e; cases e
  · obtain ⟨v, e4, hv⟩ := e3.look e
    exact ⟨.ref a, hs, rfl, rfl, dx, vs, v, rfl, fz_sub _ _ e2, e4, k v H g ρ (.fz d) hR Gro.refl hv q⟩
theorem lax_nil : LAx K mg C i (fun _ _ _ => tNil) (fun _ => dNil) := fun a dd x f g σ H ρ Q R hK hR _ _ hd k => k [] H g ρ [] hR Gro.refl .nil hd
theorem lax_cons {ta : Addr → Value → Option Addr → TE} {tr : Addr → Value → Option Addr → TA} {da : XD → DE} {dr : XD → DA} (h : LEx K mg C i ta da) (h' : LAx K mg C i tr dr) : LAx K mg C i (fun a c d => tCons (ta a c d) (tr a c d)) (fun x => dCons (da x) (dr x)) := by
  intro a dd x f g σ H ρ Q R hK hR hs hx hd k
  refine h a dd x f g σ H ρ _ _ hK hR hs hx hd fun v H1 g1 ρ1 r R1 G1 V1 q1 => ?_
  obtain ⟨g2, R2, G2, O2⟩ := V1.opd R1
  exact h' a dd x f g2 σ H1 ρ1 _ _ hK R2 hs (hx.mono (G1.trans G2).fz) q1 fun vs H3 g3 ρ3 rs R3 G3 O3 q3 => k (v :: vs) H3 g3 ρ3 (r :: rs) R3 ((G1.trans G2).trans G3) (.cons (O2.mono G3) O3) q3
theorem lex_tup {tr : Addr → Value → Option Addr → TA} {dr : XD → DA} (h : LAx K mg C i tr dr) : LEx K mg C i (fun a c d => tTup (tr a c d)) (fun x => dTup (dr x)) := by
  intro a dd x f g σ H ρ Q R hK hR hs hx hd k
  refine h a dd x f g σ H ρ _ _ hK hR hs hx hd fun vs H1 g1 ρ1 rs R1 G1 O1 q1 => ?_
  obtain ⟨ds, ρ2, e1, hl, q1⟩ := wFA_some q1
  obtain ⟨g2, R2, G2, q2⟩ := O1.frz R1 e1
  refine ⟨by rw [q2.length]; exact hl, fun p hp => ?_⟩
  obtain ⟨R3, G3, e3⟩ := R2.new (o := .tup vs) hp
  exact k _ _ g2 ρ2 (.fz (.tuple ds)) R3 ((G1.trans G2).trans G3) (Rp.tup e3 (q2.mono G3.fz)) q1
theorem lex_lst {tr : Addr → Value → Option Addr → TA} {dr : XD → DA} (h : LAx K mg C i tr dr) : LEx K mg C i (fun a c d => tLst (tr a c d)) (fun x => dLst (dr x)) := by
  intro a dd x f g σ H ρ Q R hK hR hs hx hd k
  refine h a dd x f g σ H ρ _ _ hK hR hs hx hd fun vs H1 g1 ρ1 rs R1 G1 O1 q1 => ?_
  obtain ⟨ds, ρ2, e1, hl, q1⟩ := wFA_some q1
  obtain ⟨g2, R2, G2, q2⟩ := O1.frz R1 e1
  refine ⟨by rw [q2.length]; exact hl, fun p hp => ?_⟩
  obtain ⟨R3, G3, V3⟩ := R2.own (o := .lst vs) (d := .list ds) hp (.lst upd_same q2)
  exact k _ _ _ ρ2 _ R3 ((G1.trans G2).trans G3) V3 q1
theorem lsx_ret {t : Addr → Value → Option Addr → TE} {d : XD → DE} (h : LEx K mg C i t d) : LSx K mg C i (fun a c dd => tRet (t a c dd)) (fun x => dRet (d x)) := fun a dd x f g σ H ρ DD E hK R hs hx hd l =>
  h a dd x f g σ H ρ _ _ hK R hs hx hd fun v H1 g1 ρ1 r R1 G1 V1 q1 => l.rt g1 σ H1 ρ1 v r R1 G1 V1 q1
theorem lsx_of {t : TS} {d : DS} (h : LS K t d) : LSx K mg C i (fun _ _ _ => t) (fun _ => d) := fun a dd x f g σ H ρ DD E hK R _ _ hd l => h f g σ H ρ DD E hK R hd l
def dTry (n : Str) (i : Nat) (db : DW → DS) (dh : XD → DS) : DS := fun DD ρ => db (fun x ρ' => x.name = n ∧ i < ρ'.length ∧ dh x { nx := fun ρ2 => DD.nx (ρ2.set i none), rt := DD.rt, bk := fun ρ2 => DD.bk (ρ2.set i none), ct := fun ρ2 => DD.ct (ρ2.set i none) } (ρ'.set i none)) DD ρ
theorem ls_try {tb : WX → TS} {db : DW → DS} {ts : Addr → Value → Option Addr → TS} {dh : XD → DS} {n : Str} (hb : LSw K mg tb db) (hs : LSx K mg C i ts dh) (hx : PySem.W.exmOne K (.ref C) (.ref C) = some true) (hm : mg n = some (.ref C)) :
    LS K (fun D σ H => tb (wAs K (.ref C) i ts (fun _ _ _ _ => False) D) D σ H) (dTry n i db dh) := by
  intro f g σ H ρ DD E hK R hd l
  refine hb _ _ f g σ H ρ DD E hK R (fun g' σ' H' ρ' x cls d R' G' hx' q => ?_) hd l
  obtain ⟨hn, hi, q⟩ := q
  obtain ⟨C', h1, rfl, h3⟩ := hx'
  rw [hn, hm] at h1
  cases h1
  refine ⟨true, hx, fun _ a ha => ?_, fun z => nomatch z⟩
  subst hK
  exact hs a d x f g' (σ'.set i (some (.ref a))) H' (ρ'.set i none) _ _ rfl (R'.blank _) (List.getElem?_set_self (by rw [← R'.len]; exact hi)) ⟨C, by rw [hn]; exact hm, rfl, h3⟩ q
    ⟨fun g2 σ2 H2 ρ2 R2 G2 q2 => l.nx g2 _ H2 _ (R2.blank none) (G'.trans G2) q2, fun g2 σ2 H2 ρ2 v r R2 G2 V2 q2 => l.rt g2 σ2 H2 ρ2 v r R2 (G'.trans G2) V2 q2,
      fun g2 σ2 H2 ρ2 R2 G2 q2 => l.bk g2 _ H2 _ (R2.blank none) (G'.trans G2) q2, fun g2 σ2 H2 ρ2 R2 G2 q2 => l.ct g2 _ H2 _ (R2.blank none) (G'.trans G2) q2⟩
/-- .. without a name -/
def dTry0 (n : Str) (db : DW → DS) (dh : DS) : DS := fun DD ρ => db (fun x ρ' => x.name = n ∧ dh DD ρ') DD ρ
theorem ls_try0 {tb : WX → TS} {db : DW → DS} {ts : TS} {dh : DS} {n : Str} (hb : LSw K mg tb db) (hs : LS K ts dh) (hx : PySem.W.exmOne K (.ref C) (.ref C) = some true) (hm : mg n = some (.ref C)) :
    LS K (fun D σ H => tb (wOnly K (.ref C) (fun _ _ _ => ts) (fun _ _ _ _ => False) D) D σ H) (dTry0 n db dh) := by
  intro f g σ H ρ DD E hK R hd l
  refine hb _ _ f g σ H ρ DD E hK R (fun g' σ' H' ρ' x cls d R' G' hx' q => ?_) hd l
  obtain ⟨hn, q⟩ := q
  obtain ⟨C', h1, rfl, h3⟩ := hx'
  rw [hn, hm] at h1
  cases h1
  exact ⟨true, hx, fun _ a ha => hs f g' σ' H' ρ' DD E hK R' q (l.mono G'), fun z => nomatch z⟩
end
end DL

set_option Elab.async false
set_option linter.all false
set_option maxRecDepth 100000
set_option maxHeartbeats 4000000
set_option autoImplicit false
namespace DL
open PySem PySem.Spec PyProof.Rows L2
abbrev veB : List Value := [.type "ValueError", .type "Exception", .type "BaseException", .type "object"]
/-- C() -/
theorem pmk_own0 {X : Cx} {C : Addr} {bmB : List Value} {B newId initId : String} {x : Str} {p pos : Pos} (F : ExcBaseFacts B newId initId bmB) (q : PySem.W.excIn X.K C bmB newId = true) (gC : X.mg x = some (.ref C)) (kC : PySem.W.keepIn X.K (.ref C) = true) (r : Raises X (.ref C)) (hg : Gl X x)
    (hdb : (x == ("__debug__" : Str)) = false := by decide) : PMk X (.Call (.Name x p) [] [] pos) (fun _ H Q => Q (.ref C) none H) := by
  intro pins s σ H Q I h
  refine wpAny_Call_Name_kw (ld_glob I hg gC (PySem.W.callWith_K0 I.kIn kC ?_) hdb)
  obtain ⟨bm, N, nm, qn, bs, hdct, sn, sub, ab, col, dd, k0, k1, k2, k3, k5, mN, hC, hN, hni, T⟩ := exc_obj I.kIn q
  exact wpAny_call_exc_subT F T hC hN hni (fun h' e hm => mk_of I hm r h (I.hok.gone hm.new)) (by rw [sizeLine_eq]; decide)
/-- a class without __init__ -/
structure ExC0 (K : PySem.W.Frag) (mg : Str → Option Value) (x : Str) (C : Addr) : Prop where
  q : PySem.W.excIn K C veB "ValueError.__new__" = true
  mgC : mg x = some (.ref C)
  kC : PySem.W.keepIn K (.ref C) = true
  exC : PySem.W.subIn K (.ref C) (.type "BaseException") = some true
  tyC : PySem.W.typeIn K (.ref C) = some (.type "type")
  exm : PySem.W.exmOne K (.ref C) (.ref C) = some true
/-- a class with an __init__ of one field -/
structure ExC1 (P : Program) (w : World) (K : PySem.W.Frag) (mg : Str → Option Value) (base : Heap) (x fl : Str) (tup : Bool) (C : Addr) : Prop where
  T : OexC K C
  ini : ∃ (fI : Addr) (fd : FuncData) (ps : List Str), PySem.W.findIn K (.ref C) "__init__" = some (some (.ref fI)) ∧ PySem.W.typeIn K (.ref fI) = some (.type "function") ∧ FnOk P w K mg base C8.CX0 1 fI fd ps (spI1 K C fl tup) ∧ Binds K fd ps []
  mgC : mg x = some (.ref C)
  xf : XfC K C
  hno : PySem.W.findIn K (.ref C) fl = some none
  exm : PySem.W.exmOne K (.ref C) (.ref C) = some true
theorem exm0 {K : PySem.W.Frag} {C : Addr} {o : Option Addr} {oc : Value} {cd : ClassData} {sl : Array (Option Value)} (h0 : K.lookup C = some ⟨oc, o, .cls cd, sl⟩) (h1 : PySem.W.subIn K (.ref C) (.type "BaseException") = some true) (h2 : PySem.W.typeIn K (.ref C) = some (.type "type")) (h3 : PySem.W.subIn K (.ref C) (.ref C) = some true) :
    PySem.W.exmOne K (.ref C) (.ref C) = some true := exm_of (by unfold PySem.W.clsIn; rw [h0]; rfl) h1 h2 h3
/-- the class's facts, from what the written part says -/
theorem supC_of {P : Program} {K : PySem.W.Frag} {mg : Str → Option Value} {C L fI cc c1 : Addr} {oc1 oc2 oc3 ocL : Value} {od1 od2 od3 odL : Option Addr} {sl1 sl2 sl3 slL : Array (Option Value)} {cdL : ClassData} {vs : Array Value} {file : Str} {tf : Tok} {doc pm ct : Value} {F : NdefX.NF}
    {nm q : Str} {N : Addr} {bs rest sub : List Value} {sn : List Str} {ab : Bool} {col : Option Bool} {dd : Option Addr} {k0 k1 k2 k3 k5 : Option Value}
    (p2 : K.lookup C = some (excClassObj nm q C N bs (.ref L :: rest) true sn sub ab col dd k0 k1 k2 k3 k5 "ValueError.__new__")) (p3 : PySem.HandSPX.refsVE (.ref L :: rest) = true) (pL : K.lookup L = some ⟨ocL, odL, .cls cdL, slL⟩) (pM : cdL.mro = .ref L :: rest)
    (p4 : PySem.W.findIn K (.ref C) "__setattr__" = some (some (.builtin "object.__setattr__"))) (p5 : PySem.W.subIn K (.ref C) (.type "BaseException") = some true) (p6 : PySem.W.typeIn K (.ref C) = some (.type "type")) (p7 : PySem.W.keepIn K (.ref C) = true)
    (pF : F.cl = [(("__class__" : Str), cc)]) (pc : F.c = c1) (p10 : K.lookup fI = some ⟨oc1, od1, .func (F.fd doc pm ct), sl1⟩) (p11 : K.lookup cc = some ⟨oc2, od2, .cell (some (.ref C)), sl2⟩)
    (p12 : K.lookup c1 = some ⟨oc3, od3, .fields vs, sl3⟩) (p13 : vs[2]? = some (.str file tf)) (p14 : ((P.main.file : Str) == file) = true) (p15 : PySem.W.mroIn K C (.ref C) = some true) (p16 : (P.main.scope.names.lookup ("super" : Str)).isSome = false)
    (p17 : mg "super" = none) (p18 : PySem.W.nsIn K cStatics "thirdparty.any" = some none) (p19 : PySem.W.findIn K (.ref L) "__init__" = some (some (.builtin "ValueError.__init__"))) (p20 : PySem.W.subIn K (.ref C) (.type "ValueError") = some true)
    (s1 : F.scope.names.lookup ("super" : Str) = some .globalImplicit) (s2 : F.scope.names.lookup ("__class__" : Str) = some .free) (sk : F.scope.kind = .function) : SupC P K mg C fI F cc :=
  ⟨⟨⟨_, _, _, _, _, _, _, _, _, _, _, _, _, _, _, p2, p3⟩, p4, p5, p6, p7⟩, pF, ⟨_, _, _, p11⟩, ⟨_, _, _, _, _, _, by rw [pc]; exact p12, p13, p14⟩, ⟨_, _, _, _, _, _, p10⟩, p15, p16, p17, p18, ini_of p2 rfl pL pM p19, p20, s1, s2, sk⟩
/-- a module's constant: an int -/
def KI (mg : Str → Option Value) (x : Str) (n : Int) : Prop := ∃ t, mg x = some (.int n t)
/-- where it does not raise -/
theorem CalX.quiet {P : Program} {w : World} {K : PySem.W.Frag} {mg : Str → Option Value} {base : Heap} {k : Nat} {x : Str} {ks : List Kd} {C : ConX} (c : CalX P w K mg base k x (spX K mg ks C)) : CalG P w K mg base k x (spD K ks fun ds Q => C ds Q fun _ => False) := by
  obtain ⟨f, fd, ps, F, a, b, d⟩ := c.ex
  have key : ∀ {vs : List V} {H : Hp} {Q : VK} {E : XK}, spD K ks (fun ds Q => C ds Q fun _ => False) vs H Q E → spX K mg ks C vs H Q (fun _ _ _ => False) := fun {vs H Q E} h => by
    obtain ⟨M0, src, ds, P, Qc, hC, hQ⟩ := h
    exact ⟨M0, src, ds, P, Qc, _, hC, hQ, fun x z => z.elim⟩
  refine ⟨f, fd, ps, ⟨fun vs H Q E h => F.len vs H Q _ (key h), fun A hg hr outer s H e0 args us vs Q E hb r h => codeAny_mono (F.go A hg hr outer s H e0 args us vs Q _ hb r (key h)) fun rr s' q => ?_⟩, a, b, d⟩
  cases rr with
  | ok fl => cases fl <;> exact q
  | error e =>
    obtain ⟨_, _, _, _, _, _, _, _, _, _, _, _, z⟩ := q
    exact z.elim
end DL

set_option Elab.async false
set_option linter.all false
set_option maxRecDepth 100000
set_option maxHeartbeats 4000000
set_option autoImplicit false
namespace DL
open PySem L2 PySem.Spec PyProof.Rows
/-! ### a def that gives a tuple of a list of its own and something else -/
abbrev ConP := List D → (List D → D → Prop) → Prop
structure PostP (K : PySem.W.Frag) (M0 : AP) (src : Option (Addr × Addr)) (H H' : Hp) (v : V) (xs : List D) (d : D) : Prop where
  keep : ∀ a o, H a = some o → NoS src a → H' a = some o
  dom : ∀ a, H' a = none → H a = none
  sok : ∀ p c, src = some (p, c) → SrcOk H' p c
  ret : ∃ (p l : Addr) (vs : List V) (u : V), v = .ref p ∧ H l = none ∧ H p = none ∧ p ≠ l ∧ H' l = some (.lst vs) ∧ RpA K (Fz H' (fun b => M0 b ∨ b = l)) vs xs ∧ H' p = some (.tup [.ref l, u]) ∧ Rp K (Fz H' (fun b => M0 b ∨ b = l)) u d
def spP (K : PySem.W.Frag) (ks : List Kd) (C : ConP) : Sp := fun vs H Q _ => ∃ (M0 : AP) (src : Option (Addr × Addr)) (ds : List D), PreC K M0 src [] (.fl []) H ks vs ds ∧ ∃ Qc : List D → D → Prop, C ds Qc ∧ ∀ xs d, Qc xs d → ∀ v H', PostP K M0 src H H' v xs d → Q v H'
def shD : Option (Option Sl) → D → Prop
  | some (some (.sh d)), e => d = e
  | some (some (.bo d)), e => d = e ∧ flatD d = true
  | _, _ => False
abbrev tPair (i j : Nat) : TS := tRet (tTup (tCons (tVar i) (tCons (tVar j) tNil)))
section
variable {K : PySem.W.Frag} {H : Hp} {M0 : AP} {src : Option (Addr × Addr)}
theorem ret_endP {g' : Gs} {σ' : L2.St} {H' : Hp} {ρ' : Rho} {i j : Nat} {xs : List D} {d : D} {Qc : List D → D → Prop} {Q : V → Hp → Prop} {E : Ends}
    (R : Rel ⟨K, H, M0, srcSet src []⟩ g' σ' H' ρ') (hs : ∀ pc, src = some pc → g'.src = some pc) (hi : ρ'[i]? = some (some (.ow (.list xs)))) (hj : shD ρ'[j]? d) (q : Qc xs d)
    (hQ : ∀ xs d, Qc xs d → ∀ v H', PostP K M0 src H H' v xs d → Q v H') (hE : E.rt = Q) : tPair i j E σ' H' := by
  obtain ⟨v, e1, l, rfl, m, h0, ns, t⟩ := R.slot i _ hi
  obtain ⟨vs, b1, c1⟩ := t.lstOf
  have hju : ∃ u, σ'[j]? = some (some u) ∧ Rp K (Fz H' g'.M) u d := by
    unfold shD at hj
    split at hj
    · rename_i e
      subst hj
      exact R.slot j _ e
    · rename_i e
      obtain ⟨rfl, hf⟩ := hj
      obtain ⟨u, e2, h⟩ := R.slot j _ e
      exact ⟨u, e2, BoV.flat h hf⟩
    · exact hj.elim
  obtain ⟨u, e2, hu⟩ := hju
  refine ⟨_, e1, u, e2, by show 2 ≤ sizeLine; rw [sizeLine_eq]; omega, fun p hp => ?_⟩
  obtain ⟨R3, G3, _⟩ := R.new (o := .tup [.ref l, u]) hp
  have npl : p ≠ l := fun z => by rw [z, b1] at hp; cases hp
  have sub : Same (Fz H' g'.M) (Fz (upd H' p (.tup [.ref l, u])) (fun b => M0 b ∨ b = l)) := fz_mono fun b o e n => ⟨by
    rw [upd_ne (fun z => by rw [z, hp] at e; cases e)]; exact e, fun z => z.elim (fun z => n (R.m0 b z)) fun z => n (z ▸ m)⟩
  rw [hE]
  refine hQ xs d q _ _ ⟨fun a o e n => R3.keep a o e (n.set List.not_mem_nil), R3.dom, fun p c e => (R3.src p c (hs _ e)).2.2.2.2.2, p, l, vs, u, rfl, h0, R.dom p hp, npl, ?_, c1.mono sub, upd_same, hu.mono sub⟩
  rw [upd_ne (Ne.symm npl)]
  exact b1
end
theorem def_endP {K : PySem.W.Frag} {ks : List Kd} {C : ConP} {N : List Str} {t : TS} {d : DS} {vs : List V} {H : Hp} {Q : VK} {E : XK} {i j : Nat} (h : spP K ks C vs H Q E) (hk : noMu ks = true) (hl : LS K t d)
    (hd : ∀ ds Qc, C ds Qc → d { nx := fun ρ => ∃ xs e, ρ[i]? = some (some (.ow (.list xs))) ∧ shD ρ[j]? e ∧ Qc xs e, rt := fun _ _ => False } (startR N.length ks ds)) : tSeq t (tPair i j) { nx := fun _ H' => Q .non H', rt := Q } (L2.start N vs) H := by
  obtain ⟨M0, src, ds, P, Qc, hC, hQ⟩ := h
  refine hl ⟨K, H, M0, srcSet src []⟩ ⟨M0, src, [], []⟩ (L2.start N vs) H _ _ _ rfl (rel_start P (oneMu_of hk)) (hd ds _ hC) ⟨fun g' σ' H' ρ' R' G' q => ?_, fun _ _ _ _ _ _ _ _ _ q => q.elim, fun _ _ _ _ _ _ q => q.elim, fun _ _ _ _ _ _ q => q.elim⟩
  obtain ⟨xs, e, h1, h2, q⟩ := q
  exact ret_endP R' G'.src h1 h2 q hQ rfl
section
variable {P : Program} {w : World} {K : PySem.W.Frag} {mg : Str → Option Value} {base : Heap}
theorem calGP {x : Str} {st : Stmt} {f : Addr} {fd : FuncData} {N ps : List Str} {k : Nat} {ks : List Kd} {C : ConP} (i j : Nat) (F : C8.Def K mg x st f fd) (b : Binds K fd ps []) (S : FnScope N ps (C8.fnScope st)) (hl : ks.length = ps.length)
    (hb : ∀ (cdv : Value) (A : Around) (outer : List Env) (s : Shared) (H : Hp) (E : XK), (A.deeper (envOfC x (C8.fnScope st) s.heap.objs.size f cdv)).guards = some [] → Room k (A.deeper (envOfC x (C8.fnScope st) s.heap.objs.size f cdv)) →
      ∃ t t1 d, PSs (cxOf C8.CX0 P w K mg base N x (C8.fnScope st) f cdv A outer s H E).nox (C8.fnBody st) t ∧ LS K t1 d ∧ t = tSeq t1 (tPair i j) ∧
        ∀ ds Qc, C ds Qc → d { nx := fun ρ => ∃ xs e, ρ[i]? = some (some (.ow (.list xs))) ∧ shD ρ[j]? e ∧ Qc xs e, rt := fun _ _ => False } (startR N.length ks ds)) (hk : noMu ks = true := by rfl) :
    CalG P w K mg base (k + 1) x (spP K ks C) := by
  refine ⟨f, fd, ps, fnG_of F.fn S (fun vs H Q E h => ?_) (fun cdv A outer s H vs Q E hg hr h => ?_), F.mgf, F.kp, b⟩
  · obtain ⟨M0, src, ds, P, _⟩ := h
    rw [← hl, P.args.length.1]
  · obtain ⟨t, t1, d, h1, h2, rfl, h3⟩ := hb cdv A outer s H E hg hr
    exact ⟨_, h1.nox, def_endP h hk h2 h3⟩
end
/-! ### .. called -/
section
variable {f : Fr} {g : Gs} {σ : L2.St} {H H' : Hp} {ρ : Rho} {v : V} {xs : List D} {d : D}
theorem PostP.fin (R : Rel f g σ H ρ) (P : PostP f.K g.M g.src H H' v xs d) : ∃ (p l : Addr) (u : V), v = .ref p ∧ Rel f (g.add l) σ H' ρ ∧ Gro g H (g.add l) H' ∧ VR f (g.add l) σ H' ρ (.ref l) (.nw (.list xs)) ∧ Fz H' (g.add l).M p = some (.tup [.ref l, u]) ∧ Rp f.K (Fz H' (g.add l).M) u d := by
  obtain ⟨p, l, vs, u, rfl, hl, hp, npl, b1, c1, b2, hu⟩ := P.ret
  obtain ⟨R1, G1, V1⟩ := R.ownC hl P.keep P.dom P.sok (.lst b1 c1)
  exact ⟨p, l, u, rfl, R1, G1, V1, fz_of b2 (fun z => z.elim (R.mH p hp) npl), hu⟩
end
section
variable {K : PySem.W.Frag} {ks : List Kd} {C : ConP} {E : XK} {tr : TA} {dr : DA}
theorem preC {f : Fr} {g1 g2 : Gs} {σ : L2.St} {H : Hp} {ρ2 : Rho} {vs : List V} {ds : List D} (R2 : Rel f g2 σ H ρ2) (s2 : g2.src = g1.src) (A : ArgsOk f.K (Fz H g2.M) H g1.src [] ks vs ds) : PreC f.K g2.M g2.src [] (.fl []) H ks vs ds :=
  ⟨fun a m => R2.mU a m, fun p c e => by
    obtain ⟨h1, h2, h3, _, _, h6⟩ := R2.src p c e
    exact ⟨h1, h2, h3, h6⟩, by rw [s2]; exact A, (fun _ h => nomatch h), List.nodup_nil, (fun _ _ h => nomatch h)⟩
/-- f(..)[0] -/
def dPair0 (ks : List Kd) (C : ConP) (dr : DA) : DE := fun ρ Q => dr ρ fun rs ρ1 => wFA (argA ρ1 ks rs) fun ds ρ2 => C ds fun xs _ => Q (.nw (.list xs)) ρ2
theorem le_pair0 (h : LA K tr dr) (hk : noMu ks = true := by rfl) : LE K (tOp (rIx K) (tCall (spP K ks C) [] E tr) (tC (.int 0))) (dPair0 ks C dr) := by
  intro f g σ H ρ Q R hK hR hd k
  refine h f g σ H ρ _ _ hK hR hd fun vs H1 g1 ρ1 rs R1 G1 O1 q1 => ?_
  obtain ⟨ds, ρ2, e1, q1⟩ := wFA_some q1
  obtain ⟨g2, R2, G2, s2, A⟩ := O1.arg (fp := []) (.inl rfl) (fun z => by
    have := List.all_eq_true.mp hk _ z
    cases this) R1 e1
  subst hK
  rw [List.append_nil]
  refine ⟨g2.M, g2.src, ds, preC R2 s2 A, _, q1, fun xs d q v H' P => ?_⟩
  obtain ⟨p, l, u, rfl, R3, G3, V3, hp, _⟩ := P.fin R2
  refine .inr (.inl ⟨p, [.ref l, u], 0, .ref l, rfl, rfl, .inl (.inl (of_fz hp).1), rfl, ?_⟩)
  exact k _ H' _ ρ2 _ R3 ((G1.trans G2).trans G3) V3 q
/-- x = f(..), compared, then its list changed -/
def dPairT (i : Nat) (ks : List Kd) (C : ConP) (dr : DA) (de dt : DE) : DS := fun DD ρ => dr ρ fun rs ρ1 => wFA (argA ρ1 ks rs) fun ds ρ2 => C ds fun xs d =>
  i < ρ2.length ∧ reprOkP (.tuple [.list xs, d]) ∧ de (ρ2.set i none) fun r ρ4 => wD (res ρ4 r) fun y =>
    eqOk2 (.str (PyData.shown (.tuple [.list xs, d]))) y = true ∧ useB (true != PyData.eqv (.str (PyData.shown (.tuple [.list xs, d]))) y) (dt ρ4 DD.rt) (xs.length < sizeLine ∧ DD.nx (ρ4.set i (some (.sh (.tuple [.list (xs ++ [.none]), d])))))
theorem ls_pairT {i : Nat} {te t : TE} {de dt : DE} (h1 : LA K tr dr) (h4 : LE K te de) (h5 : LE K t dt) (hk : noMu ks = true := by rfl) :
    LS K (tSeq (tAsg (tCall (spP K ks C) [] E tr) (gName i)) (tSeq (tIfS (tTest (tOp (fun x y H Q => rNe x y H Q ∨ rNeD K x y H Q) (tCB (rReprP K) (tCons (tVar i) tNil)) te)) (tRet t) tNext)
      (tDrop (tBM K "list" rAppend (tOp (rIx K) (tVar i) (tC (.int 0))) (tCons (tC .non) tNil))))) (dPairT i ks C dr de dt) := by
  intro f g σ H ρ DD E' hK hR hd l
  subst hK
  refine h1 f g σ H ρ _ _ rfl hR hd fun vs H1 g1 ρ1 rs R1 G1 O1 q1 => ?_
  obtain ⟨ds, ρ2, e1, q1⟩ := wFA_some q1
  obtain ⟨g2, R2, G2, s2, A⟩ := O1.arg (fp := []) (.inl rfl) (fun z => by
    have := List.all_eq_true.mp hk _ z
    cases this) R1 e1
  rw [List.append_nil]
  refine ⟨g2.M, g2.src, ds, preC R2 s2 A, _, q1, fun xs d q v H' P => ?_⟩
  obtain ⟨hi, hr, q⟩ := q
  obtain ⟨p, a, u, rfl, R3, G3, V3, hp3, hu3⟩ := P.fin R2
  obtain ⟨a', ea, m1, z1, n1, t1, nt1, u1⟩ := V3
  cases ea
  have P3 := R3.push m1 n1 u1
  have R5 := P3.hide (i := i) (v := .ref p)
  have hi' : i < σ.length := by rw [← R3.len]; exact hi
  have hσ : (σ.set i (some (.ref p)))[i]? = some (some (.ref p)) := List.getElem?_set_self hi'
  have rp : Rp f.K H' (.ref p) (.tuple [.list xs, d]) := .tup (of_fz hp3).1 (.cons (t1.rp fz_sub fun o e => e) (.cons (hu3.mono fz_sub) .nil))
  obtain ⟨s1, s2', s3, s4⟩ := hr
  refine ⟨.ref p, hσ, .ref p, .tuple [.list xs, d], rfl, ⟨_, Same.refl _, .inl rp⟩, s1, s2', s3, s4, ?_⟩
  refine h4.opd rfl R5 q fun v6 H6 g6 ρ6 r6 R6 G6 O6 q6 => ?_
  obtain ⟨y, e6, hq, q6⟩ := wD_some q6
  refine ol_ne f g6 _ H6 ρ6 _ v6 _ y (fun r => r = .fz (.bool (true != PyData.eqv (.str (PyData.shown (.tuple [.list xs, d]))) y))) _ rfl R6 (.inl (.str _)) (O6.rn R6 e6) ⟨hq, rfl⟩ ?_
  rintro z H7 g7 _ R7 G7 V7 rfl
  obtain rfl := RN.bool (K := f.K) (F := Fz H7 g7.M) (H := H7) (.inl V7)
  refine ⟨_, rfl, ?_⟩
  have G67 := G6.trans G7
  obtain ⟨R9, G9⟩ := R7.pop2 G67
  have l9 := l.mono (((G1.trans G2).trans G3).trans G9)
  cases hb : (true != PyData.eqv (.str (PyData.shown (.tuple [.list xs, d]))) y) with
  | true =>
    rw [hb] at q6
    exact h5 f _ _ H7 ρ6 _ _ rfl R9 (useB_t q6) fun v8 H8 g8 ρ8 r8 R8 G8 V8 q8 => l9.rt g8 _ H8 ρ8 v8 r8 R8 G8 V8 q8
  | false =>
    rw [hb] at q6
    obtain ⟨hl1, q6⟩ := useB_f q6
    obtain ⟨xs1, b1, c1⟩ := t1.lstOf
    have k1 : H7 a = some (.lst xs1) := (G67.th a List.mem_cons_self).trans b1
    have hp7 : H7 p = some (.tup [.ref a, u]) := (of_fz (G67.fz _ _ hp3)).1
    have tm1 := R7.tmp a (by rw [G67.tm]; exact List.mem_cons_self)
    obtain ⟨RA, GA⟩ := R9.mutFree (a := a) (o := .lst (xs1 ++ [.non])) tm1.1 z1 tm1.2.1 nt1 tm1.2.2 trivial
    refine ⟨.ref p, hσ, ?_⟩
    refine .inr (.inl ⟨p, [.ref a, u], 0, .ref a, rfl, rfl, .inl (.inl hp7), rfl, ?_⟩)
    refine ⟨.inl ⟨rfl, _, .inl (.inl k1)⟩, a, xs1, .non, rfl, rfl, k1, by rw [c1.length]; exact hl1, ?_⟩
    have r7 : Rt f.K (Fz (upd H7 a (.lst (xs1 ++ [.non]))) g7.M) (upd H7 a (.lst (xs1 ++ [.non]))) a (.list (xs ++ [.none])) := .lst upd_same (RpA.append (c1.mono (G67.fz.trans GA.fz)) (.cons .non .nil))
    obtain ⟨g10, R10, G10, O10⟩ := VR.opd (v := .ref a) (r := .nw (.list (xs ++ [.none]))) RA ⟨a, rfl, tm1.1, z1, tm1.2.1, r7, nt1, tm1.2.2⟩
    obtain ⟨g11, R11, G11, hv⟩ := O10.frz R10 (show frz ρ6 (.nw (.list (xs ++ [.none]))) = some (_, ρ6) from rfl)
    have ch : Same (Fz H' (g2.add a).M) (Fz (upd H7 a (.lst (xs1 ++ [.non]))) g11.M) := ((G67.fz.trans GA.fz).trans G10.fz).trans G11.fz
    have R12 := R11.set (i := i) (s := .sh (.tuple [.list (xs ++ [.none]), d])) (v := .ref p) (.tup (ch _ _ hp3) (.cons hv (.cons (hu3.mono ch) .nil))) (fun d z => nomatch z)
    rw [List.set_set] at R12
    exact l9.nx _ _ _ _ R12 (GA.trans (G10.trans G11)) q6
end
theorem ls_seq3 {K : PySem.W.Frag} {a b c r : TS} {d e : DS} (h1 : LS K (tSeq a (tSeq b c)) d) (h2 : LS K r e) : LS K (tSeq a (tSeq b (tSeq c r))) (dSeq d e) := by
  have h := ls_seq h1 h2
  exact h
end DL

set_option Elab.async false
set_option linter.all false
set_option maxRecDepth 100000
set_option maxHeartbeats 4000000
set_option autoImplicit false
namespace DL
open PySem L2
/-! ### a module's constant: a tuple of texts -/
def KC (K : PySem.W.Frag) (mg : Str → Option Value) (x : Str) (xs : List Str) : Prop := ∃ (a : Addr) (o : Obj) (its : Array Value) (n : Nat), mg x = some (.ref a) ∧ K.lookup a = some o ∧ o.cls = .type "tuple" ∧ o.data = .seq its n ∧ its.size ≤ sizeLine ∧ Vals (xs.map V.str) its.toList
def KT (K : PySem.W.Frag) (a : Addr) (xs : List Str) : Prop := ∀ H, SqT K H a (xs.map V.str)
theorem KC.use {K : PySem.W.Frag} {mg : Str → Option Value} {x : Str} {xs : List Str} (h : KC K mg x xs) : ∃ a, mg x = some (.ref a) ∧ KT K a xs := by
  obtain ⟨a, o, its, n, h1, h2, h3, h4, h5, h6⟩ := h
  exact ⟨a, h1, fun H => .inr ⟨o, its, n, h2, h3, h4, h5, h6⟩⟩
def dInK (xs : List Str) (da : DE) : DE := fun ρ Q => da ρ fun r ρ1 => wD (res ρ1 r) fun x => ∃ s, x = .str s ∧ Q (.fz (.bool (xs.any fun z => decide (z = s)))) ρ1
theorem le_inK {K : PySem.W.Frag} {a : Addr} {xs : List Str} {ta : TE} {da : DE} (hk : KT K a xs) (h : LE K ta da) : LE K (tOp (rIn K false) ta (tC (.ref a))) (dInK xs da) := by
  intro f g σ H ρ Q R hK hR hd k
  refine h.opd hK hR hd fun v H1 g1 ρ1 r1 R1 G1 O1 q1 => ?_
  obtain ⟨x, e1, s, rfl, q⟩ := wD_some q1
  subst hK
  obtain rfl := (O1.rn R1 e1).str
  refine ⟨a, xs.map V.str, rfl, .inr (hk H1), rfl, ?_, ?_⟩
  · rw [List.all_map]; exact List.all_eq_true.mpr fun _ _ => rfl
  · have e : inV (.str s) (xs.map V.str) = xs.any fun z => decide (z = s) := by
      unfold inV
      rw [List.any_map]
      congr 1
    show R (.bl (inV (.str s) (xs.map V.str))) H1
    rw [e]
    exact k _ H1 g1 ρ1 (.fz (.bool _)) R1 G1 (.bl _) q
/-! ### rows -/
inductive UO where | not | all | any | odd
inductive MO where | pick | shl | shr
inductive BO where | and | or | xor | add | sub | mul | eq | lt
inductive Row where
  | inp (k : Nat) | reg (k : Nat) | word (w : Nat) (n : Int) | un (o : UO) (a : Nat) | cut (a lo sz : Nat) | join (a b : Nat) | mv (o : MO) (a b : Nat) | bin (o : BO) (a b : Nat) | mux (a b c : Nat)
def UO.s : UO → Str | .not => "not" | .all => "all" | .any => "any" | .odd => "odd"
def MO.s : MO → Str | .pick => "pick" | .shl => "shl" | .shr => "shr"
def BO.s : BO → Str | .and => "and" | .or => "or" | .xor => "xor" | .add => "add" | .sub => "sub" | .mul => "mul" | .eq => "eq" | .lt => "lt"
def Row.toD : Row → D
  | .inp k => .tuple [.str "in", .int k]
  | .reg k => .tuple [.str "reg", .int k]
  | .word w n => .tuple [.str "word", .int w, .int n]
  | .un o a => .tuple [.str o.s, .int a]
  | .cut a lo sz => .tuple [.str "cut", .int a, .int lo, .int sz]
  | .join a b => .tuple [.str "join", .int a, .int b]
  | .mv o a b => .tuple [.str o.s, .int a, .int b]
  | .bin o a b => .tuple [.str o.s, .int a, .int b]
  | .mux a b c => .tuple [.str "mux", .int a, .int b, .int c]
def Row.mem : Row → List Nat
  | .inp _ => []
  | .reg _ => []
  | .word _ _ => []
  | .un _ a => [a]
  | .cut a _ _ => [a]
  | .join a b => [a, b]
  | .mv _ a b => [a, b]
  | .bin _ a b => [a, b]
  | .mux a b c => [a, b, c]
def BO.cmp : BO → Bool | .eq => true | .lt => true | _ => false
/-- a row that is right: its width -/
def RowOk (ins regs ws : List Nat) : Row → Nat → Prop
  | .inp k, w => ins[k]? = some w
  | .reg k, w => regs[k]? = some w
  | .word x n, w => x = w ∧ 0 ≤ n ∧ n < 2 ^ w
  | .un .not a, w => ws[a]? = some w
  | .un _ a, w => w = 1 ∧ ∃ x, ws[a]? = some x
  | .cut a lo sz, w => w = sz ∧ ∃ x, ws[a]? = some x ∧ lo + sz ≤ x
  | .join a b, w => ∃ x y, ws[a]? = some x ∧ ws[b]? = some y ∧ w = x + y
  | .mv .pick a b, w => w = 1 ∧ (∃ x, ws[a]? = some x) ∧ ∃ y, ws[b]? = some y
  | .mv _ a b, w => ws[a]? = some w ∧ ∃ y, ws[b]? = some y
  | .bin o a b, w => ∃ x, ws[a]? = some x ∧ ws[b]? = some x ∧ w = if o.cmp = true then 1 else x
  | .mux a b c, w => ws[a]? = some 1 ∧ ws[b]? = some w ∧ ws[c]? = some w
def wOk (w : Nat) : Prop := 1 ≤ w ∧ w ≤ 64
inductive Rows (ins regs : List Nat) : List Row → List Nat → Prop
  | nil : Rows ins regs [] []
  | snoc {rs : List Row} {ws : List Nat} {r : Row} {w : Nat} : Rows ins regs rs ws → RowOk ins regs ws r w → wOk w → Rows ins regs (rs ++ [r]) (ws ++ [w])
theorem Rows.len {ins regs ws : List Nat} {rs : List Row} (h : Rows ins regs rs ws) : rs.length = ws.length := by
  induction h with
  | nil => rfl
  | snoc _ _ _ ih => simp [ih]
theorem Rows.ok {ins regs ws : List Nat} {rs : List Row} (h : Rows ins regs rs ws) : ∀ w ∈ ws, wOk w := by
  induction h with
  | nil => intro w h; cases h
  | snoc _ _ hw ih =>
    intro w h
    rcases List.mem_append.mp h with h | h
    · exact ih w h
    · rw [List.mem_singleton.mp h]; exact hw
theorem Rows.get {ins regs ws : List Nat} {rs : List Row} (h : Rows ins regs rs ws) : ∀ (k : Nat) (hk : k < rs.length), ∃ (hw : k < ws.length), RowOk ins regs (ws.take k) rs[k] ws[k] ∧ wOk ws[k] := by
  induction h with
  | nil => intro k hk; simp at hk
  | @snoc rs ws r w h ho hw ih =>
    intro k hk
    have hl := h.len
    rcases Nat.lt_or_ge k rs.length with h1 | h1
    · obtain ⟨h2, h3, h4⟩ := ih k h1
      refine ⟨by simp; omega, ?_⟩
      rw [List.getElem_append_left h1, List.getElem_append_left h2, List.take_append_of_le_length (by omega)]
      exact ⟨h3, h4⟩
    · have e : k = rs.length := by simp at hk; omega
      subst e
      refine ⟨by simp; omega, ?_⟩
      rw [List.getElem_append_right (by omega), List.getElem_append_right (by omega)]
      simp only [hl, Nat.sub_self, List.getElem_cons_zero]
      rw [← hl, List.take_append_of_le_length (by omega), List.take_of_length_le (by omega)]
      exact ⟨ho, hw⟩
def nI (n : Nat) : D := .int (n : Int)
abbrev nL (ns : List Nat) : List D := ns.map nI
def CrowM : Con := fun ds Q => ∃ r : Row, ds = [r.toD] ∧ Q (.fz (.tuple (nL r.mem)))
def CrowW : Con := fun ds Q => ∃ (ins regs ws : List Nat) (r : Row) (w : Nat), ds = [r.toD, .list (nL ws), .list (nL ins), .list (nL regs)] ∧ RowOk ins regs ws r w ∧ wOk w ∧ ws.length ≤ 10000 ∧ Q (.fz (.int (w : Int)))
theorem atI_nL {ns : List Nat} {k n : Nat} (h : ns[k]? = some n) : L2.atI (nL ns) (k : Int) = some (.int (n : Int)) := by
  have : (nL ns)[k]? = some (nI n) := by rw [List.getElem?_map, h]; rfl
  unfold L2.atI ixN
  have hk := (List.getElem?_eq_some_iff.mp this).1
  rw [if_pos (by omega), if_pos (by omega)]
  show (nL ns)[((k : Int)).toNat]? = _
  rw [Int.toNat_natCast]
  exact this
theorem RowOk.mem {ins regs ws : List Nat} {r : Row} {w : Nat} (h : RowOk ins regs ws r w) : ∀ a ∈ r.mem, ∃ x, ws[a]? = some x := by
  intro c hc
  cases r with
  | inp k => cases hc
  | reg k => cases hc
  | word x n => cases hc
  | un o a =>
    rw [List.mem_singleton.mp hc]
    cases o with
    | not => exact ⟨_, h⟩
    | _ => exact h.2
  | cut a lo sz =>
    rw [List.mem_singleton.mp hc]
    obtain ⟨_, x, h, _⟩ := h
    exact ⟨x, h⟩
  | join a b =>
    obtain ⟨x, y, h1, h2, _⟩ := h
    simp only [Row.mem, List.mem_cons, List.mem_nil_iff, or_false] at hc
    rcases hc with rfl | rfl
    · exact ⟨x, h1⟩
    · exact ⟨y, h2⟩
  | mv o a b =>
    simp only [Row.mem, List.mem_cons, List.mem_nil_iff, or_false] at hc
    cases o with
    | pick => exact hc.elim (fun z => z ▸ h.2.1) fun z => z ▸ h.2.2
    | _ => exact hc.elim (fun z => z ▸ ⟨_, h.1⟩) fun z => z ▸ h.2
  | bin o a b =>
    obtain ⟨x, h1, h2, _⟩ := h
    simp only [Row.mem, List.mem_cons, List.mem_nil_iff, or_false] at hc
    rcases hc with rfl | rfl
    · exact ⟨x, h1⟩
    · exact ⟨x, h2⟩
  | mux a b c =>
    obtain ⟨h1, h2, h3⟩ := h
    simp only [Row.mem, List.mem_cons, List.mem_nil_iff, or_false] at hc
    rcases hc with rfl | rfl | rfl
    · exact ⟨_, h1⟩
    · exact ⟨_, h2⟩
    · exact ⟨_, h3⟩
def ofW (ws : List Nat) : D → D
  | .int i => .int ((ws.getD i.toNat 0 : Nat) : Int)
  | _ => .none
theorem map_ofW (ws ms : List Nat) : (nL ms).map (ofW ws) = nL (ms.map fun a => ws.getD a 0) := by
  show (ms.map nI).map (ofW ws) = (ms.map fun a => ws.getD a 0).map nI
  rw [List.map_map, List.map_map]
  rfl
theorem getD_of {ws : List Nat} {a x : Nat} (h : ws[a]? = some x) : ws.getD a 0 = x := by rw [List.getD_eq_getElem?_getD, h]; rfl
theorem mem_nL {ms : List Nat} {x : D} (h : x ∈ nL ms) : ∃ a ∈ ms, x = .int (a : Int) := by
  obtain ⟨a, ha, rfl⟩ := List.mem_map.mp h
  exact ⟨a, ha, rfl⟩
theorem Row.mem_len (r : Row) : r.mem.length ≤ 3 := by cases r <;> simp [Row.mem]
theorem atI3 {x y z w : D} {xs : List D} : L2.atI (x :: y :: z :: w :: xs) 3 = some w := by simp [L2.atI, ixN, show (3 : Int) < (xs.length : Int) + 1 + 1 + 1 + 1 by omega]
/-! ### flats -/
structure Fl where
  ins : List (Str × Nat)
  outs : List (Str × Nat)
  regs : List (Str × Nat × Int × Nat)
  rows : List Row
  ws : List Nat
def inD (p : Str × Nat) : D := .tuple [.str p.1, .int (p.2 : Int)]
def regD (p : Str × Nat × Int × Nat) : D := .tuple [.str p.1, .int (p.2.1 : Int), .int p.2.2.1, .int (p.2.2.2 : Int)]
def Fl.toD (f : Fl) : D := .tuple [.tuple (f.ins.map inD), .tuple (f.outs.map inD), .tuple (f.regs.map regD), .tuple (f.rows.map Row.toD)]
def Fl.iw (f : Fl) : List Nat := f.ins.map (·.2)
def Fl.rw (f : Fl) : List Nat := f.regs.map (·.2.1)
structure Fl.ok (f : Fl) : Prop where
  rows : Rows f.iw f.rw f.rows f.ws
  rl : f.rows.length ≤ 10000
  il : f.ins.length ≤ 100
  gl : f.regs.length ≤ 100
  iw : ∀ p ∈ f.ins, wOk p.2
  rw : ∀ p ∈ f.regs, wOk p.2.1
def Cwid : Con := fun ds Q => ∃ f : Fl, ds = [f.toD] ∧ f.ok ∧ Q (.nw (.list (nL f.ws)))
def in1 : D → D
  | .tuple (_ :: d :: _) => d
  | _ => .none
theorem map_in1 (f : Fl) : (f.ins.map inD).map in1 = nL f.iw := by unfold Fl.iw nL; rw [List.map_map, List.map_map]; rfl
theorem map_reg1 (f : Fl) : (f.regs.map regD).map in1 = nL f.rw := by unfold Fl.rw nL; rw [List.map_map, List.map_map]; rfl
/-! ### values -/
def iL (ns : List Int) : List D := ns.map PyData.int
def bitsum (x : Int) (s : Nat) : Int := ((List.range s).map fun (k : Nat) => x / 2 ^ k % 2).sum
def BO.v (o : BO) (w : Nat) (a b : Int) : Int := match o with
  | .and => Builtin.bitAnd a b
  | .or => Builtin.bitOr a b
  | .xor => Builtin.bitXor a b
  | .add => (a + b) % 2 ^ w
  | .sub => (a - b) % 2 ^ w
  | .mul => (a * b) % 2 ^ w
  | .eq => if a = b then 1 else 0
  | .lt => if a < b then 1 else 0
def MO.v (o : MO) (w : Nat) (a b : Int) : Int := if (w : Int) ≤ b then 0 else match o with
  | .pick => a / 2 ^ b.toNat % 2
  | .shl => a * 2 ^ b.toNat % 2 ^ w
  | .shr => a / 2 ^ b.toNat
def UO.v (o : UO) (w : Nat) (a : Int) : Int := match o with
  | .not => 2 ^ w - 1 - a
  | .all => if a = 2 ^ w - 1 then 1 else 0
  | .any => if a = 0 then 0 else 1
  | .odd => bitsum a 64 % 2
def Row.val (ws : List Nat) (vs lot st : List Int) : Row → Int
  | .inp k => lot.getD k 0
  | .reg k => st.getD k 0
  | .word _ n => n
  | .un o a => o.v (ws.getD a 0) (vs.getD a 0)
  | .cut a lo sz => vs.getD a 0 / 2 ^ lo % 2 ^ sz
  | .join a b => vs.getD a 0 * 2 ^ (ws.getD b 0) + vs.getD b 0
  | .mv o a b => o.v (ws.getD a 0) (vs.getD a 0) (vs.getD b 0)
  | .bin o a b => o.v (ws.getD a 0) (vs.getD a 0) (vs.getD b 0)
  | .mux a b c => if vs.getD a 0 = 1 then vs.getD b 0 else vs.getD c 0
def rng (w : Nat) (v : Int) : Prop := 0 ≤ v ∧ v < 2 ^ w
def vOk (ws : List Nat) (vs : List Int) : Prop := vs.length = ws.length ∧ ∀ (k : Nat) (v : Int) (w : Nat), vs[k]? = some v → ws[k]? = some w → rng w v
theorem two_cast (k : Nat) : (2 : Int) ^ k = ((2 ^ k : Nat) : Int) := by simp
theorem two_pos (k : Nat) : (0 : Int) < 2 ^ k := by rw [two_cast]; exact Int.natCast_pos.mpr (Nat.two_pow_pos k)
theorem two_le {j k : Nat} (h : j ≤ k) : (2 : Int) ^ j ≤ 2 ^ k := by
  rw [two_cast, two_cast]
  exact Int.ofNat_le.mpr (Nat.pow_le_pow_right (by decide) h)
theorem sh1 (w : Nat) : (1 : Int) * 2 ^ ((w : Nat) : Int).toNat = 2 ^ w := by rw [Int.one_mul, Int.toNat_natCast]
theorem mask_all (x : Int) (k : Nat) : Builtin.bitAnd x (2 ^ k - 1) = x % 2 ^ k := by
  have hp : 0 < 2 ^ k := Nat.two_pow_pos k
  by_cases hx : 0 ≤ x
  · exact Bits.bitAnd_mask k hx
  · have e : (2 : Int) ^ k - 1 = ((2 ^ k - 1 : Nat) : Int) := by
      rw [two_cast]
      generalize (2 : Nat) ^ k = m at hp
      omega
    rw [e, PyProof.Rows.bitAnd_np hx (by omega), Int.toNat_natCast]
    have h : (2 ^ k - 1) &&& (Builtin.bitNot x).toNat = (Builtin.bitNot x).toNat % 2 ^ k := by
      rw [Nat.and_comm]; exact Nat.and_two_pow_sub_one_eq_mod _ k
    rw [h, two_cast]
    unfold Builtin.bitNot
    generalize (2 : Nat) ^ k = m at hp
    have h1 : ((-x - 1).toNat : Int) = -x - 1 := Int.toNat_of_nonneg (by omega)
    have h2 : (((-x - 1).toNat % m : Nat) : Int) = (-x - 1) % (m : Int) := by rw [Int.natCast_emod, h1]
    have hm : (0 : Int) < m := by omega
    have h3 : (((-x - 1).toNat % m : Nat)) < m := Nat.mod_lt _ hp
    have h4 : ((m - 1 : Nat) : Int) = (m : Int) - 1 := by omega
    rw [h4, h2]
    have h5 := Int.emod_add_mul_ediv (-x - 1) (m : Int)
    have h6 : (-x - 1) % (m : Int) < m := Int.emod_lt_of_pos _ hm
    have h7 : 0 ≤ (-x - 1) % (m : Int) := Int.emod_nonneg _ (by omega)
    generalize (-x - 1) % (m : Int) = r at h5 h6 h7 ⊢
    generalize (-x - 1) / (m : Int) = q at h5
    have e2 : x = ((m : Int) - 1 - r) + (m : Int) * (-q - 1) := by
      have e3 : (m : Int) * (-q - 1) = -((m : Int) * q) - m := by rw [Int.mul_sub, Int.mul_neg, Int.mul_one]
      rw [e3]
      omega
    rw [e2, Int.add_mul_emod_self_left, Int.emod_eq_of_lt (by omega) (by omega)]
theorem not_mask {a : Int} {w : Nat} (h : rng w a) : Builtin.bitXor a (2 ^ w - 1) = 2 ^ w - 1 - a := by
  rw [PyProof.Rows.bitXor_and, mask_all, Int.emod_eq_of_lt h.1 h.2]
  omega
theorem and_rng {w : Nat} {a b : Int} (ha : rng w a) (hb : rng w b) : rng w (Builtin.bitAnd a b) := by
  have h := PyProof.Rows.bitAnd_range a hb.1
  exact ⟨h.1, Int.lt_of_le_of_lt h.2 hb.2⟩
theorem nat_of_rng {w : Nat} {a : Int} (ha : rng w a) : a.toNat < 2 ^ w := by
  have := ha.2
  rw [two_cast] at this
  have := ha.1
  omega
theorem or_rng {w : Nat} {a b : Int} (ha : rng w a) (hb : rng w b) : rng w (Builtin.bitOr a b) := by
  rw [Bits.bitOr_pp ha.1 hb.1]
  refine ⟨Int.natCast_nonneg _, ?_⟩
  rw [two_cast]
  exact Int.ofNat_lt.mpr (Nat.or_lt_two_pow (nat_of_rng ha) (nat_of_rng hb))
theorem xor_rng {w : Nat} {a b : Int} (ha : rng w a) (hb : rng w b) : rng w (Builtin.bitXor a b) := by
  rw [Bits.bitXor_pp ha.1 hb.1]
  refine ⟨Int.natCast_nonneg _, ?_⟩
  rw [two_cast]
  exact Int.ofNat_lt.mpr (Nat.xor_lt_two_pow (nat_of_rng ha) (nat_of_rng hb))
theorem mod_rng (w : Nat) (a : Int) : rng w (a % 2 ^ w) := ⟨Int.emod_nonneg _ (Int.ne_of_gt (two_pos w)), Int.emod_lt_of_pos _ (two_pos w)⟩
theorem rng1 {c : Prop} [Decidable c] : rng 1 (if c then 1 else 0) := by
  by_cases h : c
  · rw [if_pos h]; exact ⟨by decide, by decide⟩
  · rw [if_neg h]; exact ⟨by decide, by decide⟩
theorem rng1' {c : Prop} [Decidable c] : rng 1 (if c then 0 else 1) := by
  by_cases h : c
  · rw [if_pos h]; exact ⟨by decide, by decide⟩
  · rw [if_neg h]; exact ⟨by decide, by decide⟩
theorem rng.mono {w v : Nat} {a : Int} (h : rng w a) (e : w ≤ v) : rng v a := ⟨h.1, Int.lt_of_lt_of_le h.2 (two_le e)⟩
theorem rng0 (w : Nat) : rng w 0 := ⟨Int.le_refl _, two_pos w⟩
theorem div_rng {w j : Nat} {a : Int} (h : rng w a) : rng w (a / 2 ^ j) := by
  refine ⟨Int.ediv_nonneg h.1 (Int.le_of_lt (two_pos j)), Int.lt_of_le_of_lt (Int.ediv_le_self _ h.1) h.2⟩
theorem BO.v_rng {o : BO} {w : Nat} {a b : Int} (ha : rng w a) (hb : rng w b) : rng (if o.cmp = true then 1 else w) (o.v w a b) := by
  cases o with
  | and => exact and_rng ha hb
  | or => exact or_rng ha hb
  | xor => exact xor_rng ha hb
  | add => exact mod_rng w _
  | sub => exact mod_rng w _
  | mul => exact mod_rng w _
  | eq => exact rng1
  | lt => exact rng1
theorem join_rng {w v : Nat} {a b : Int} (ha : rng w a) (hb : rng v b) : rng (w + v) (a * 2 ^ v + b) := by
  have hp := two_pos v
  have h1 := ha.1
  have h2 := hb.1
  refine ⟨Int.add_nonneg (Int.mul_nonneg h1 (Int.le_of_lt hp)) h2, ?_⟩
  have h3 : (a + 1) * 2 ^ v ≤ 2 ^ w * 2 ^ v := Int.mul_le_mul_of_nonneg_right (by have := ha.2; omega) (Int.le_of_lt hp)
  have h4 := hb.2
  rw [Int.add_mul, Int.one_mul] at h3
  rw [Int.pow_add]
  omega
def Cjoined : Con := fun ds Q => ∃ (o : BO) (w : Nat) (a b : Int), ds = [.str o.s, .int a, .int b, .int (w : Int)] ∧ wOk w ∧ rng w a ∧ rng w b ∧ Q (.fz (.int (o.v w a b)))
def Cmoved : Con := fun ds Q => ∃ (o : MO) (w : Nat) (a b : Int), ds = [.str o.s, .int a, .int b, .int (w : Int)] ∧ wOk w ∧ rng w a ∧ rng 64 b ∧ Q (.fz (.int (o.v w a b)))
def Codd : Con := fun ds Q => ∃ a : Int, ds = [.int a] ∧ rng 64 a ∧ Q (.fz (.int (bitsum a 64 % 2)))
theorem bitsum_succ (x : Int) (s : Nat) : bitsum x (s + 1) = bitsum x s + x / 2 ^ s % 2 := by
  unfold bitsum
  rw [List.range_succ, List.map_append, List.sum_append]
  simp
theorem bitsum_hi {x : Int} {s : Nat} (h : rng s x) : ∀ t, s ≤ t → bitsum x t = bitsum x s := by
  intro t
  induction t with
  | zero => intro e; have : s = 0 := by omega
            rw [this]
  | succ t ih =>
    intro e
    rcases Nat.lt_or_ge t s with h1 | h1
    · rw [show s = t + 1 by omega]
    · rw [bitsum_succ, ih h1, Int.ediv_eq_zero_of_lt h.1 (Int.lt_of_lt_of_le h.2 (two_le h1))]
      simp
theorem sml {w : Nat} {a : Int} (hw : w ≤ 64) (h : rng w a) : a.natAbs < 2 ^ 64 := by
  have h1 := h.1
  have h2 := (h.mono hw).2
  have e : (2 : Int) ^ 64 = 18446744073709551616 := by decide
  have e2 : (2 : Nat) ^ 64 = 18446744073709551616 := by decide
  omega
theorem cmul_l {a b : Int} (h : a.natAbs < 2 ^ 64) : CMul a b := by
  have e : (2 : Int) ^ 64 = 18446744073709551616 := by decide
  have e2 : (2 : Nat) ^ 64 = 18446744073709551616 := by decide
  refine .inl ⟨?_, ?_⟩ <;> omega
theorem xor_par (x y : Int) : Builtin.bitXor (x % 2) (y % 2) = (x + y % 2) % 2 := by
  have h1 : x % 2 = 0 ∨ x % 2 = 1 := by omega
  have h2 : y % 2 = 0 ∨ y % 2 = 1 := by omega
  rcases h1 with h1 | h1 <;> rcases h2 with h2 | h2 <;> rw [h1, h2]
  · rw [show (x + 0) % 2 = 0 by omega]; decide
  · rw [show (x + 1) % 2 = 1 by omega]; decide
  · rw [show (x + 0) % 2 = 1 by omega]; decide
  · rw [show (x + 1) % 2 = 0 by omega]; decide
theorem ediv_two_succ (x : Int) (t : Nat) : x / 2 ^ t / 2 ^ (1 : Int).toNat = x / 2 ^ (t + 1) := by
  rw [show ((1 : Int).toNat) = 1 from rfl, Int.pow_succ, Int.ediv_ediv_of_nonneg (Int.le_of_lt (two_pos t))]
  rfl
theorem lt_of_ediv {x : Int} {t : Nat} (h0 : 0 ≤ x) (h : ¬ 0 < x / 2 ^ t) : rng t x := by
  refine ⟨h0, ?_⟩
  have hp := two_pos t
  have h1 : 0 ≤ x / 2 ^ t := Int.ediv_nonneg h0 (Int.le_of_lt hp)
  have h2 : x / 2 ^ t = 0 := by omega
  have h3 := Int.emod_add_mul_ediv x (2 ^ t)
  rw [h2, Int.mul_zero, Int.add_zero] at h3
  rw [← h3]
  exact Int.emod_lt_of_pos _ hp
theorem ediv_hi {x : Int} {t : Nat} (h : rng 64 x) (ht : 64 ≤ t) : x / 2 ^ t = 0 := Int.ediv_eq_zero_of_lt h.1 (Int.lt_of_lt_of_le h.2 (two_le ht))
theorem par_at {x : Int} {t : Nat} (h : rng 64 x) (ht : t ≤ 64) (he : ¬ 0 < x / 2 ^ t) : bitsum x t % 2 = bitsum x 64 % 2 := by rw [bitsum_hi (lt_of_ediv h.1 he) 64 ht]
structure VIn (ins regs ws : List Nat) (vs lot st : List Int) : Prop where
  le : vs.length ≤ ws.length
  ok : ∀ w ∈ ws, wOk w
  vs : vOk (ws.take vs.length) vs
  lot : vOk ins lot
  st : vOk regs st
def Cval : Con := fun ds Q => ∃ (ins regs ws : List Nat) (r : Row) (w : Nat) (vs lot st : List Int), ds = [r.toD, .list (nL ws), .list (iL vs), .tuple (iL lot), .tuple (iL st)] ∧ RowOk ins regs (ws.take vs.length) r w ∧ wOk w ∧ VIn ins regs ws vs lot st ∧ Q (.fz (.int (r.val ws vs lot st)))
theorem atI_iL {vs : List Int} {k : Nat} {v : Int} (h : vs[k]? = some v) : L2.atI (iL vs) (k : Int) = some (.int v) := by
  have : (iL vs)[k]? = some (.int v) := by unfold iL; rw [List.getElem?_map, h]; rfl
  unfold L2.atI ixN
  have hk := (List.getElem?_eq_some_iff.mp this).1
  rw [if_pos (by omega), if_pos (by omega)]
  show (iL vs)[((k : Int)).toNat]? = _
  rw [Int.toNat_natCast]
  exact this
theorem getV {vs : List Int} {a : Nat} {x : Int} (h : vs[a]? = some x) : vs.getD a 0 = x := by rw [List.getD_eq_getElem?_getD, h]; rfl
theorem take_at {ws : List Nat} {n a x : Nat} (h : (ws.take n)[a]? = some x) : ws[a]? = some x ∧ a < n := by
  rw [List.getElem?_take] at h
  split at h
  · exact ⟨h, by assumption⟩
  · cases h
theorem VIn.at {ins regs ws : List Nat} {vs lot st : List Int} (h : VIn ins regs ws vs lot st) {a x : Nat} (ha : (ws.take vs.length)[a]? = some x) : ws[a]? = some x ∧ wOk x ∧ ∃ v, vs[a]? = some v ∧ rng x v := by
  obtain ⟨h1, h2⟩ := take_at ha
  exact ⟨h1, h.ok x (List.mem_of_getElem? h1), vs[a], List.getElem?_eq_getElem h2, h.vs.2 a _ x (List.getElem?_eq_getElem h2) ha⟩
theorem vOk.at {ws : List Nat} {vs : List Int} (h : vOk ws vs) {a x : Nat} (ha : ws[a]? = some x) : ∃ v, vs[a]? = some v ∧ rng x v := by
  have hk := (List.getElem?_eq_some_iff.mp ha).1
  have hk2 : a < vs.length := by rw [h.1]; exact hk
  exact ⟨vs[a], List.getElem?_eq_getElem hk2, h.2 a _ x (List.getElem?_eq_getElem hk2) ha⟩
theorem or_join {a b : Int} {k : Nat} (ha : 0 ≤ a) (hb : rng k b) : Builtin.bitOr (a * 2 ^ k) b = a * 2 ^ k + b := L2.or_low ha hb.1 hb.2
theorem pw1 {w : Nat} (h : w ≤ 64) : CPow 1 (w : Int) := ⟨by omega, by omega, by decide⟩
theorem bne_false (b : Bool) : (false != b) = b := by cases b <;> rfl
theorem bne_true (b : Bool) : (true != b) = !b := by cases b <;> rfl
end DL

set_option Elab.async false
set_option linter.all false
set_option maxRecDepth 100000
set_option maxHeartbeats 4000000
set_option autoImplicit false
namespace DL
open PySem L2
theorem Row.val_rng {ins regs ws : List Nat} {r : Row} {w : Nat} {vs lot st : List Int} (hr : RowOk ins regs (ws.take vs.length) r w) (hw : wOk w) (hV : VIn ins regs ws vs lot st) : rng w (r.val ws vs lot st) := by
  cases r with
  | inp k =>
    obtain ⟨v, h1, h2⟩ := hV.lot.at hr
    show rng w (lot.getD k 0)
    rw [getV h1]; exact h2
  | reg k =>
    obtain ⟨v, h1, h2⟩ := hV.st.at hr
    show rng w (st.getD k 0)
    rw [getV h1]; exact h2
  | word x n =>
    obtain ⟨_, h1, h2⟩ := hr
    exact ⟨h1, h2⟩
  | un o a =>
    obtain ⟨x, ha⟩ := hr.mem a (by simp [Row.mem])
    obtain ⟨ha1, _, va, hva, ra⟩ := hV.at ha
    show rng w (o.v (ws.getD a 0) (vs.getD a 0))
    rw [getD_of ha1, getV hva]
    cases o with
    | not =>
      have hr : (ws.take vs.length)[a]? = some w := hr
      rw [ha] at hr; cases hr
      have h1 := ra.1
      have h2 := ra.2
      show rng _ (2 ^ _ - 1 - va)
      unfold rng
      omega
    | all => obtain ⟨rfl, _⟩ := hr; exact rng1
    | any => obtain ⟨rfl, _⟩ := hr; exact rng1'
    | odd => obtain ⟨rfl, _⟩ := hr; exact mod_rng 1 _
  | cut a lo sz =>
    obtain ⟨rfl, _⟩ := hr
    exact mod_rng w _
  | join a b =>
    obtain ⟨x, y, ha, hb, rfl⟩ := hr
    obtain ⟨ha1, _, va, hva, ra⟩ := hV.at ha
    obtain ⟨hb1, _, vb, hvb, rb⟩ := hV.at hb
    show rng (x + y) (vs.getD a 0 * 2 ^ (ws.getD b 0) + vs.getD b 0)
    rw [getD_of hb1, getV hva, getV hvb]
    exact join_rng ra rb
  | mv o a b =>
    obtain ⟨x, ha⟩ := hr.mem a (by simp [Row.mem])
    obtain ⟨ha1, _, va, hva, ra⟩ := hV.at ha
    show rng w (o.v (ws.getD a 0) (vs.getD a 0) (vs.getD b 0))
    rw [getD_of ha1, getV hva]
    unfold MO.v
    by_cases h : (x : Int) ≤ vs.getD b 0
    · rw [if_pos h]; exact rng0 w
    · rw [if_neg h]
      cases o with
      | pick => obtain ⟨rfl, _⟩ := hr; exact mod_rng 1 _
      | shl =>
        have hr : (ws.take vs.length)[a]? = some w := hr.1
        rw [ha] at hr; cases hr
        exact mod_rng _ _
      | shr =>
        have hr : (ws.take vs.length)[a]? = some w := hr.1
        rw [ha] at hr; cases hr
        exact div_rng ra
  | bin o a b =>
    obtain ⟨x, ha, hb, rfl⟩ := hr
    obtain ⟨ha1, _, va, hva, ra⟩ := hV.at ha
    obtain ⟨hb1, _, vb, hvb, rb⟩ := hV.at hb
    show rng _ (o.v (ws.getD a 0) (vs.getD a 0) (vs.getD b 0))
    rw [getD_of ha1, getV hva, getV hvb]
    exact BO.v_rng ra rb
  | mux a b c =>
    obtain ⟨ha, hb, hc⟩ := hr
    obtain ⟨hb1, _, vb, hvb, rb⟩ := hV.at hb
    obtain ⟨hc1, _, vc, hvc, rc⟩ := hV.at hc
    show rng w (if vs.getD a 0 = 1 then vs.getD b 0 else vs.getD c 0)
    rw [getV hvb, getV hvc]
    split
    · exact rb
    · exact rc
def valsR (ws : List Nat) (lot st : List Int) (rows : List Row) : List Int := rows.foldl (fun acc r => acc ++ [r.val ws acc lot st]) []
theorem valsR_succ (ws : List Nat) (lot st : List Int) (rows : List Row) (i : Nat) (h : i < rows.length) : valsR ws lot st (rows.take (i + 1)) = valsR ws lot st (rows.take i) ++ [(rows[i]).val ws (valsR ws lot st (rows.take i)) lot st] := by
  unfold valsR
  rw [List.take_succ, List.getElem?_eq_getElem h]
  show List.foldl _ _ (_ ++ [_]) = _
  rw [List.foldl_append]
  rfl
theorem vOk.snoc {ws : List Nat} {vs : List Int} {w : Nat} {v : Int} (h : vOk ws vs) (hv : rng w v) : vOk (ws ++ [w]) (vs ++ [v]) := by
  refine ⟨by simp [h.1], fun k x y h1 h2 => ?_⟩
  rcases Nat.lt_or_ge k vs.length with hk | hk
  · rw [List.getElem?_append_left hk] at h1
    rw [List.getElem?_append_left (by rw [← h.1]; exact hk)] at h2
    exact h.2 k x y h1 h2
  · have hk2 : k < (vs ++ [v]).length := (List.getElem?_eq_some_iff.mp h1).1
    have e : k = vs.length := by simp at hk2; omega
    subst e
    rw [List.getElem?_append_right (Nat.le_refl _)] at h1
    rw [h.1, List.getElem?_append_right (Nat.le_refl _)] at h2
    simp at h1 h2
    rw [← h1, ← h2]
    exact hv
theorem vOk.nil : vOk [] [] := ⟨rfl, fun k v w h => by simp at h⟩
structure Fl.at (f : Fl) (lot st : List Int) (i : Nat) (hi : i < f.rows.length) : Prop where
  hi2 : i < f.ws.length
  row : RowOk f.iw f.rw (f.ws.take (valsR f.ws lot st (f.rows.take i)).length) f.rows[i] f.ws[i]
  w : wOk f.ws[i]
  v : VIn f.iw f.rw f.ws (valsR f.ws lot st (f.rows.take i)) lot st
theorem Fl.vals_ok {f : Fl} (hf : f.ok) {lot st : List Int} (hl : vOk f.iw lot) (hs : vOk f.rw st) : ∀ i, i ≤ f.rows.length → vOk (f.ws.take i) (valsR f.ws lot st (f.rows.take i)) := by
  intro i
  induction i with
  | zero => intro _; exact vOk.nil
  | succ i ih =>
    intro hi
    have h := ih (by omega)
    obtain ⟨h2, h3, h4⟩ := hf.rows.get i (by omega)
    have hlen : (valsR f.ws lot st (f.rows.take i)).length = i := by rw [h.1, List.length_take]; omega
    have hV : VIn f.iw f.rw f.ws (valsR f.ws lot st (f.rows.take i)) lot st := ⟨by rw [hlen]; omega, hf.rows.ok, by rw [hlen]; exact h, hl, hs⟩
    have hR := Row.val_rng (r := f.rows[i]) (by rw [hlen]; exact h3) h4 hV
    rw [valsR_succ _ _ _ _ i (by omega), List.take_succ, List.getElem?_eq_getElem h2]
    exact h.snoc hR
theorem Fl.ok.at {f : Fl} (hf : f.ok) {lot st : List Int} (hl : vOk f.iw lot) (hs : vOk f.rw st) {i : Nat} (hi : i < f.rows.length) : f.at lot st i hi := by
  have h := Fl.vals_ok hf hl hs i (Nat.le_of_lt hi)
  obtain ⟨h2, h3, h4⟩ := hf.rows.get i hi
  have hlen : (valsR f.ws lot st (f.rows.take i)).length = i := by rw [h.1, List.length_take]; omega
  exact ⟨h2, by rw [hlen]; exact h3, h4, by rw [hlen]; omega, hf.rows.ok, by rw [hlen]; exact h, hl, hs⟩
def Cvals : Con := fun ds Q => ∃ (f : Fl) (lot st : List Int), ds = [f.toD, .list (nL f.ws), .tuple (iL lot), .tuple (iL st)] ∧ f.ok ∧ vOk f.iw lot ∧ vOk f.rw st ∧ Q (.nw (.list (iL (valsR f.ws lot st f.rows))))
def Crows : Con := fun ds Q => ∃ (f : Fl) (lot st : List Int), ds = [f.toD, .tuple (iL lot), .tuple (iL st)] ∧ f.ok ∧ vOk f.iw lot ∧ vOk f.rw st ∧ Q (.nw (.list (iL (valsR f.ws lot st f.rows))))
theorem iL_snoc (a : List Int) (v : Int) : iL a ++ [.int v] = iL (a ++ [v]) := by simp [iL]
theorem nL_take_succ {ws : List Nat} {i : Nat} (h : i < ws.length) : nL (ws.take i) ++ [.int ((ws[i] : Nat) : Int)] = nL (ws.take (i + 1)) := by
  unfold nL
  rw [List.take_succ, List.getElem?_eq_getElem h, List.map_append]
  rfl
theorem iL_len (a : List Int) : (iL a).length = a.length := List.length_map ..
theorem mem_inD {ps : List (Str × Nat)} {x : D} (h : x ∈ ps.map inD) : ∃ p ∈ ps, x = inD p := by
  obtain ⟨p, hp, rfl⟩ := List.mem_map.mp h
  exact ⟨p, hp, rfl⟩
theorem mem_regD {ps : List (Str × Nat × Int × Nat)} {x : D} (h : x ∈ ps.map regD) : ∃ p ∈ ps, x = regD p := by
  obtain ⟨p, hp, rfl⟩ := List.mem_map.mp h
  exact ⟨p, hp, rfl⟩
theorem get_rows {rs : List Row} {i : Nat} {x : D} (h : (rs.map Row.toD)[i]? = some x) : ∃ (hi : i < rs.length), x = (rs[i]).toD := by
  rw [List.getElem?_map] at h
  obtain ⟨r, h1, rfl⟩ := Option.map_eq_some_iff.mp h
  obtain ⟨hi, e⟩ := List.getElem?_eq_some_iff.mp h1
  exact ⟨hi, by rw [e]⟩
end DL

set_option Elab.async false
set_option linter.all false
set_option maxRecDepth 100000
set_option maxHeartbeats 4000000
set_option autoImplicit false
namespace DL
open PySem L2
/-! ### the law's own values -/
def CrowN : Con := fun ds Q => ∃ r : Row, ds = [r.toD] ∧ Q (.nw (.list (nL r.mem)))
def ClrV : Con := fun ds Q => ∃ (ins regs ws : List Nat) (r : Row) (w : Nat) (vs lot st : List Int), ds = [r.toD, .list (iL (r.mem.map fun a => vs.getD a 0)), .list (nL (r.mem.map fun a => ws.getD a 0)), .int (w : Int), .tuple (iL lot), .tuple (iL st)] ∧ RowOk ins regs (ws.take vs.length) r w ∧ wOk w ∧ VIn ins regs ws vs lot st ∧ Q (.fz (.int (r.val ws vs lot st)))
theorem atIm1 {x : D} : L2.atI [x] (-1) = some x := rfl
theorem atIm2 {x y : D} : L2.atI [x, y] (-1) = some y := rfl
theorem atIm3 {x y z : D} : L2.atI [x, y, z] (-1) = some z := rfl
theorem dis3a {a b c : D} {x y z : Str} (h1 : x ≠ y) (h2 : x ≠ z) (h3 : y ≠ z) : lookE (mergeE [] [(keyD (.inr x), a), (keyD (.inr y), b), (keyD (.inr z), c)]) (.inr x) = some a := by
  simp [mergeE, putE, lookE, hasE, keyOf, keyD, h1, h2, h3, h1.symm, h2.symm, h3.symm]
theorem dis3b {a b c : D} {x y z : Str} (h1 : x ≠ y) (h2 : x ≠ z) (h3 : y ≠ z) : lookE (mergeE [] [(keyD (.inr x), a), (keyD (.inr y), b), (keyD (.inr z), c)]) (.inr y) = some b := by
  simp [mergeE, putE, lookE, hasE, keyOf, keyD, h1, h2, h3, h1.symm, h2.symm, h3.symm]
theorem dis3c {a b c : D} {x y z : Str} (h1 : x ≠ y) (h2 : x ≠ z) (h3 : y ≠ z) : lookE (mergeE [] [(keyD (.inr x), a), (keyD (.inr y), b), (keyD (.inr z), c)]) (.inr z) = some c := by
  simp [mergeE, putE, lookE, hasE, keyOf, keyD, h1, h2, h3, h1.symm, h2.symm, h3.symm]
theorem dis3i {a b c : D} {x y z : Str} (h1 : x ≠ y) (h2 : x ≠ z) (h3 : y ≠ z) : isT (mergeE [] [(keyD (.inr x), a), (keyD (.inr y), b), (keyD (.inr z), c)]) = false := by
  simp [mergeE, putE, hasE, keyOf, keyD, isT, h1, h2, h3, h1.symm, h2.symm, h3.symm]
theorem emod_of {a b : Int} {w : Nat} (h : a % 2 ^ w = b) : a.fmod (1 * 2 ^ ((w : Nat) : Int).toNat) = b := by
  rw [sh1, Int.fmod_eq_emod_of_nonneg _ (Int.le_of_lt (two_pos w))]; exact h
theorem pw_ne (w : Nat) : ¬ (1 : Int) * 2 ^ ((w : Nat) : Int).toNat = 0 := by rw [sh1]; exact Int.ne_of_gt (two_pos w)
theorem rng_mod {w : Nat} {a : Int} (h : rng w a) : a % 2 ^ w = a := Int.emod_eq_of_lt h.1 h.2
theorem bits_map (a : Int) (n : Nat) : ((List.range n).map fun k : Nat => PyData.int (Builtin.bitAnd (a / 2 ^ k) 1)) = iL ((List.range n).map fun k : Nat => a / 2 ^ k % 2) := by
  unfold iL
  rw [List.map_map]
  congr 1
  funext k
  show PyData.int _ = PyData.int _
  rw [PyProof.Rows.bitAnd_m1]
/-! ### drawing flats -/
def dz (rows : List Row) (ws : List Nat) : MD := .dl [(Sum.inr "rows", rows.map Row.toD), (Sum.inr "widths", nL ws)]
theorem pre_at {ws ws' : List Nat} {a x : Nat} (h : ws <+: ws') (e : ws[a]? = some x) : ws'[a]? = some x := by
  obtain ⟨t, rfl⟩ := h
  rw [List.getElem?_append_left (List.getElem?_eq_some_iff.mp e).1]; exact e
theorem at_last (ws : List Nat) (w : Nat) : (ws ++ [w])[ws.length]? = some w := by simp
theorem pre_snoc (ws : List Nat) (w : Nat) : ws <+: ws ++ [w] := ⟨[w], rfl⟩
theorem nums_of {ws : List Nat} : ∀ {acc : List D}, acc.length = ws.length → (∀ (i : Nat) (d : D), acc[i]? = some d → ∃ (w : Nat) (v : Int), ws[i]? = some w ∧ rng w v ∧ d = PyData.int v) → ∃ vs : List Int, acc = iL vs ∧ vOk ws vs := by
  intro acc hl h
  obtain ⟨vs, rfl⟩ : ∃ vs, acc = iL vs := by
    clear hl
    induction acc generalizing ws with
    | nil => exact ⟨[], rfl⟩
    | cons d acc ih =>
      obtain ⟨w, v, h1, _, rfl⟩ := h 0 d rfl
      obtain ⟨vs, rfl⟩ := ih (ws := ws.tail) fun i e he => by
        obtain ⟨w', v', h2, h3, h4⟩ := h (i + 1) e (by simpa using he)
        exact ⟨w', v', by rw [List.getElem?_tail]; exact h2, h3, h4⟩
      exact ⟨v :: vs, rfl⟩
  refine ⟨vs, rfl, by rw [← hl, iL_len], fun k v w h1 h2 => ?_⟩
  obtain ⟨w', v', h3, h4, h5⟩ := h k (.int v) (by unfold iL; rw [List.getElem?_map, h1]; rfl)
  rw [h2] at h3; cases h3; cases h5
  exact h4
def seqD (d : D) (xs : List D) : Prop := d = .list xs ∨ d = .tuple xs
def Cmixed : Con := fun ds Q => ∃ (xs : List D) (d : D), ds = [.none, d] ∧ seqD d xs ∧ xs.length ≤ 10000 ∧ ∀ ys : List D, ys.length = xs.length → (∀ y ∈ ys, y ∈ xs) → Q (.nw (.list ys))
def Claid : ConM := fun ds m Q => ∃ (rows : List Row) (ws : List Nat) (r : Row) (w : Nat), ds = [.none, r.toD, .int (w : Int)] ∧ m = dz rows ws ∧ rows.length ≤ 10000 ∧ rows.length = ws.length ∧ Q (.fz (.int (ws.length : Int))) (dz (rows ++ [r]) (ws ++ [w]))
def Cnumw : Con := fun ds Q => ∃ w : Nat, ds = [.none, .int (w : Int)] ∧ wOk w ∧ ∀ v : Int, rng w v → Q (.fz (.int v))
def Canyr : ConM := fun ds m Q => ∃ (ins regs : List Nat) (rows : List Row) (ws : List Nat) (w : Nat), ds = [.none, .none, .int (w : Int)] ∧ m = dz rows ws ∧ Rows ins regs rows ws ∧ wOk w ∧ rows.length ≤ 9990 ∧
  ∀ (rows' : List Row) (ws' : List Nat) (k : Nat), Rows ins regs rows' ws' → ws <+: ws' → rows'.length ≤ rows.length + 2 → ws'[k]? = some w → Q (.fz (.int (k : Int))) (dz rows' ws')
def Cdrow : ConM := fun ds m Q => ∃ (ins regs : List Nat) (rows : List Row) (ws : List Nat) (wide : Nat), ds = [.none, .none, .int (wide : Int)] ∧ m = dz rows ws ∧ Rows ins regs rows ws ∧ (1 ≤ wide ∧ wide ≤ 32) ∧ rows.length ≤ 9900 ∧
  ∀ (rows' : List Row) (ws' : List Nat) (k : Nat), Rows ins regs rows' ws' → ws <+: ws' → rows'.length ≤ rows.length + 7 → Q (.fz (.int (k : Int))) (dz rows' ws')
def Cnam : Con := fun ds Q => ∃ (n : Nat) (l : Str), ds = [.none, .int (n : Int), .str l] ∧ n ≤ 12 ∧ ∀ ss : List Str, ss.length = n → Q (.nw (.list (ss.map PyData.str)))
structure Fl.fine (f : Fl) : Prop where
  outs : ∀ p ∈ f.outs, p.2 < f.rows.length
  regs : ∀ p ∈ f.regs, rng p.2.1 p.2.2.1 ∧ f.ws[p.2.2.2]? = some p.2.1
  o1 : 1 ≤ f.outs.length
  o3 : f.outs.length ≤ 3
def Cflat : Con := fun ds Q => ∃ many wide most : Nat, ds = [.none, .int (many : Int), .int (wide : Int), .int (most : Int)] ∧ many ≤ 100 ∧ (1 ≤ wide ∧ wide ≤ 32) ∧ most ≤ 5 ∧ ∀ f : Fl, f.ok → f.fine → f.ins.length ≤ most → f.regs.length ≤ most → f.rows.length ≤ 7 * many + 4 * most + 1 → Q (.fz f.toD)
def Clots : Con := fun ds Q => ∃ (f : Fl) (n : Nat), ds = [.none, f.toD, .int (n : Int)] ∧ f.ok ∧ n ≤ 10000 ∧ ∀ lots : List (List Int), lots.length = n → (∀ l ∈ lots, vOk f.iw l) → Q (.nw (.list (lots.map fun l => .tuple (iL l))))
def Cmom : Con := fun ds Q => ∃ many wide : Nat, ds = [.none, .int (many : Int), .int (wide : Int)] ∧ many ≤ 100 ∧ (1 ≤ wide ∧ wide ≤ 32) ∧ ∀ (f : Fl) (sd lot st : List Int), f.ok → f.fine → f.ins.length ≤ 3 → f.regs.length ≤ 3 → f.rows.length ≤ 7 * many + 13 → vOk f.ws sd → vOk f.iw lot → vOk f.rw st → Q (.fz (.tuple [f.toD, .list (nL f.ws), .tuple (iL sd), .tuple (iL lot), .tuple (iL st)]))
def Cvlaw : Con := fun ds Q => ∃ (f : Fl) (lot st : List Int), ds = [f.toD, .list (nL f.ws), .tuple (iL lot), .tuple (iL st)] ∧ f.ok ∧ vOk f.iw lot ∧ vOk f.rw st ∧ Q (.nw (.list (iL (valsR f.ws lot st f.rows))))
end DL

set_option Elab.async false
set_option linter.all false
set_option maxRecDepth 100000
set_option maxHeartbeats 4000000
set_option autoImplicit false
namespace DL
open PySem L2
/-! ### a choice of three -/
theorem dis_bit {ρ : Rho} {Q : Rv → Rho → Prop} {o : Str} {va vb : Int} {d : D} (h6 : ρ[6]? = some (some (.sh (.str o)))) (h8 : ρ[8]? = some (some (.sh (.int va)))) (h9 : ρ[9]? = some (some (.sh (.int vb))))
    (hl : lookE (mergeE [] [(keyD (.inr "and"), .int (Builtin.bitAnd va vb)), (keyD (.inr "or"), .int (Builtin.bitOr va vb)), (keyD (.inr "xor"), .int (Builtin.bitXor va vb))]) (.inr o) = some d) (q : Q (.fz d) ρ) :
    dDGet (dDisp (dPCons (dC (.str "and")) (dOp fAnd (dVar 8) (dVar 9)) (dPCons (dC (.str "or")) (dOp fOr (dVar 8) (dVar 9)) (dPCons (dC (.str "xor")) (dOp fXor (dVar 8) (dVar 9)) dPNil)))) (dVar 6) ρ Q := by
  simp only [dDGet, dDisp, dPCons, dPNil, dC, dOp, dVar, h6, h8, h9, res, wD, fII0, frz, wF, wK]
  exact ⟨Nat.le_of_ble_eq_true rfl, dis3i (by decide) (by decide) (by decide), d, hl, q⟩
theorem dis_seq {ρ : Rho} {DD : DEnds} {rest : DS} {o : Str} {va vb : Int} {d : D} (h6 : ρ[6]? = some (some (.sh (.str o)))) (h8 : ρ[8]? = some (some (.sh (.int va)))) (h9 : ρ[9]? = some (some (.sh (.int vb))))
    (hi : (false != ([PyData.str "and", .str "or", .str "xor"].any fun z => PyData.eqv z (.str o))) = true)
    (hl : lookE (mergeE [] [(keyD (.inr "and"), .int (Builtin.bitAnd va vb)), (keyD (.inr "or"), .int (Builtin.bitOr va vb)), (keyD (.inr "xor"), .int (Builtin.bitXor va vb))]) (.inr o) = some d) (q : DD.rt (.fz d) ρ) :
    dSeq (dIfS (dTest (dOp (fIn false) (dVar 6) (dTup (dCons (dC (.str "and")) (dCons (dC (.str "or")) (dCons (dC (.str "xor")) dNil)))))) (dRet (dDGet (dDisp (dPCons (dC (.str "and")) (dOp fAnd (dVar 8) (dVar 9)) (dPCons (dC (.str "or")) (dOp fOr (dVar 8) (dVar 9)) (dPCons (dC (.str "xor")) (dOp fXor (dVar 8) (dVar 9)) dPNil)))) (dVar 6))) dNext) rest DD ρ := by
  have key := dis_bit (Q := DD.rt) h6 h8 h9 hl q
  generalize hX : dDGet (dDisp (dPCons (dC (.str "and")) (dOp fAnd (dVar 8) (dVar 9)) (dPCons (dC (.str "or")) (dOp fOr (dVar 8) (dVar 9)) (dPCons (dC (.str "xor")) (dOp fXor (dVar 8) (dVar 9)) dPNil)))) (dVar 6) = X at key ⊢
  have e : dVar 6 ρ = fun Q => Q (.fz (.str o)) ρ := by
    funext Q
    unfold dVar
    rw [h6]
  unfold dSeq dIfS dTest dOp
  rw [e]
  exact ⟨Nat.le_of_ble_eq_true rfl, ⟨rfl, rfl⟩, useB_y hi key⟩
def bitOf (a : Int) : D → D
  | .int i => .int (a / 2 ^ i.toNat % 2)
  | _ => .none
theorem mem_rng0 {n : Nat} {x : D} (h : x ∈ rngD 0 n) : ∃ k : Nat, k < n ∧ x = .int (k : Int) := by
  obtain ⟨i, hi, rfl⟩ := List.mem_iff_getElem.mp h
  have hi2 := hi
  rw [rngD_length] at hi2
  refine ⟨i, hi2, ?_⟩
  simp [rngD]
theorem bits_rng (a : Int) (n : Nat) : (rngD 0 n).map (bitOf a) = (((List.range n).map fun k : Nat => a / 2 ^ k % 2).map PyData.int) := by
  apply List.ext_getElem?
  intro i
  by_cases hi : i < n
  · simp [rngD, bitOf, hi]
  · simp [rngD, bitOf, hi]
theorem atI_n {xs : List D} {k : Nat} {d : D} (h : xs[k]? = some d) : L2.atI xs (k : Int) = some d := by
  unfold L2.atI ixN
  have hk := (List.getElem?_eq_some_iff.mp h).1
  rw [if_pos (by omega), if_pos (by omega)]
  show xs[((k : Int)).toNat]? = _
  rw [Int.toNat_natCast]
  exact h
theorem ins_at {f : Fl} {k w : Nat} (h : f.iw[k]? = some w) : ∃ p : Str × Nat, p.2 = w ∧ L2.atI (f.ins.map inD) (k : Int) = some (inD p) := by
  unfold Fl.iw at h
  rw [List.getElem?_map] at h
  obtain ⟨p, h1, h2⟩ := Option.map_eq_some_iff.mp h
  exact ⟨p, h2, atI_n (by rw [List.getElem?_map, h1]; rfl)⟩
theorem regs_at {f : Fl} {k w : Nat} (h : f.rw[k]? = some w) : ∃ p : Str × Nat × Int × Nat, p.2.1 = w ∧ L2.atI (f.regs.map regD) (k : Int) = some (regD p) := by
  unfold Fl.rw at h
  rw [List.getElem?_map] at h
  obtain ⟨p, h1, h2⟩ := Option.map_eq_some_iff.mp h
  exact ⟨p, h2, atI_n (by rw [List.getElem?_map, h1]; rfl)⟩
def ofV (vs : List Int) : D → D
  | .int i => .int (vs.getD i.toNat 0)
  | _ => .none
theorem map_ofV (vs : List Int) (ms : List Nat) : (nL ms).map (ofV vs) = iL (ms.map fun a => vs.getD a 0) := by
  show (ms.map nI).map (ofV vs) = (ms.map fun a => vs.getD a 0).map PyData.int
  rw [List.map_map, List.map_map]
  rfl
theorem get_enumR {rs : List Row} {i : Nat} {x : D} (h : (enumD (rs.map Row.toD))[i]? = some x) : ∃ (hi : i < rs.length), x = .tuple [.int i, (rs[i]).toD] := by
  unfold enumD at h
  rw [List.getElem?_mapIdx, List.getElem?_map] at h
  cases e : rs[i]? with
  | none => rw [e] at h; cases h
  | some p =>
    rw [e] at h
    obtain ⟨hi, e⟩ := List.getElem?_eq_some_iff.mp e
    refine ⟨hi, ?_⟩
    cases h
    rw [e]
/-! ### flats by hand -/
def RowsF (ins regs : List Nat) : List Nat → List Row → List Nat → Prop
  | _, [], [] => True
  | acc, r :: rs, w :: ws => RowOk ins regs acc r w ∧ wOk w ∧ RowsF ins regs (acc ++ [w]) rs ws
  | _, _, _ => False
theorem Rows.ofF {ins regs : List Nat} : ∀ {rs : List Row} {ws : List Nat} {rs0 : List Row} {acc : List Nat}, Rows ins regs rs0 acc → RowsF ins regs acc rs ws → Rows ins regs (rs0 ++ rs) (acc ++ ws) := by
  intro rs
  induction rs with
  | nil =>
    intro ws rs0 acc h h2
    cases ws with
    | nil => rw [List.append_nil, List.append_nil]; exact h
    | cons w ws => exact h2.elim
  | cons r rs ih =>
    intro ws rs0 acc h h2
    cases ws with
    | nil => exact h2.elim
    | cons w ws =>
      have := ih (h.snoc h2.1 h2.2.1) h2.2.2
      simpa using this
def fEx : Fl := ⟨[("on", 1)], [("sum", 4)], [("count", 3, 6, 4)], [.inp 0, .reg 0, .word 2 0, .join 2 0, .bin .add 1 3], [1, 3, 2, 3, 3]⟩
def fBig : Fl := ⟨[], [], [], [.word 64 18446744073709551615, .word 64 2, .bin .add 0 1, .bin .mul 0 0, .bin .sub 1 0, .mv .shl 0 1, .mv .shr 0 1, .word 7 64, .mv .shl 0 7, .mv .shr 0 7, .mv .pick 0 7, .word 6 63,
  .mv .pick 0 11, .mv .shl 0 11, .mv .shr 0 11, .cut 0 1 63, .un .odd 0, .un .all 0, .un .not 0, .un .any 18, .bin .lt 1 0, .bin .lt 0 0, .bin .eq 0 0, .join 20 15, .mux 20 0 1, .mux 21 0 1, .word 64 9223372036854775808, .mv .shl 0 26, .mv .shr 0 26, .mv .pick 0 26, .mv .shl 26 1],
  [64, 64, 64, 64, 64, 64, 64, 7, 64, 64, 1, 6, 1, 64, 64, 63, 1, 1, 64, 1, 1, 1, 1, 64, 64, 64, 64, 64, 64, 1, 64]⟩
theorem fEx_rows : Rows fEx.iw fEx.rw fEx.rows fEx.ws := by
  have h : RowsF fEx.iw fEx.rw [] fEx.rows fEx.ws := by
    unfold fEx RowsF
    repeat (first | exact trivial | refine ⟨by first | exact rfl | exact ⟨rfl, by decide, by decide⟩ | exact ⟨_, rfl, rfl, rfl⟩ | exact ⟨rfl, _, rfl⟩ | exact ⟨rfl, _, rfl, by decide⟩ | exact ⟨_, _, rfl, rfl, rfl⟩ | exact ⟨rfl, ⟨_, rfl⟩, _, rfl⟩ | exact ⟨rfl, rfl, rfl⟩, ⟨by decide, by decide⟩, ?_⟩)
  exact Rows.ofF .nil h
theorem fBig_rows : Rows fBig.iw fBig.rw fBig.rows fBig.ws := by
  have h : RowsF fBig.iw fBig.rw [] fBig.rows fBig.ws := by
    unfold fBig
    repeat (first | exact trivial | refine ⟨by first | exact rfl | exact ⟨rfl, by decide, by decide⟩ | exact ⟨_, rfl, rfl, rfl⟩ | exact ⟨rfl, _, rfl⟩ | exact ⟨rfl, _, rfl, by decide⟩ | exact ⟨_, _, rfl, rfl, rfl⟩ | exact ⟨rfl, ⟨_, rfl⟩, _, rfl⟩ | exact ⟨rfl, rfl, rfl⟩, ⟨by decide, by decide⟩, ?_⟩)
  exact Rows.ofF .nil h
theorem fEx_ok : fEx.ok := ⟨fEx_rows, by decide, by decide, by decide, fun p h => by rw [List.mem_singleton.mp h]; exact ⟨by decide, by decide⟩, fun p h => by rw [List.mem_singleton.mp h]; exact ⟨by decide, by decide⟩⟩
theorem fBig_ok : fBig.ok := ⟨fBig_rows, by decide, by decide, by decide, (fun p h => nomatch h), (fun p h => nomatch h)⟩
theorem vOk.one {w : Nat} {v : Int} (h : rng w v) : vOk [w] [v] := vOk.nil.snoc h
def Cex : Con := fun ds Q => ds = [] ∧ Q (.fz fEx.toD)
theorem fEx_vals : valsR fEx.ws [1] [6] fEx.rows = [1, 6, 0, 1, 7] := by decide +kernel
theorem fBig_vals : valsR fBig.ws [] [] fBig.rows = [18446744073709551615, 2, 1, 1, 3, 18446744073709551612, 4611686018427387903, 64, 0, 0, 0, 63, 1, 9223372036854775808, 1, 9223372036854775807, 0, 1, 0, 0, 1, 0, 1, 18446744073709551615, 18446744073709551615, 2, 9223372036854775808, 0, 0, 0, 0] := by decide +kernel
theorem vals_small {f : Fl} (hf : f.ok) {lot st : List Int} (hl : vOk f.iw lot) (hs : vOk f.rw st) : ∀ v ∈ valsR f.ws lot st f.rows, rng 64 v := by
  have h := Fl.vals_ok hf hl hs f.rows.length (Nat.le_refl _)
  rw [List.take_length, List.take_of_length_le (by rw [hf.rows.len]; exact Nat.le_refl _)] at h
  intro v hv
  obtain ⟨k, hk, rfl⟩ := List.mem_iff_getElem.mp hv
  have hk2 : k < f.ws.length := by rw [← h.1]; exact hk
  have := h.2 k _ f.ws[k] (List.getElem?_eq_getElem hk) (List.getElem?_eq_getElem hk2)
  exact this.mono (hf.rows.ok _ (List.getElem_mem _)).2
theorem vals_len {f : Fl} (hf : f.ok) {lot st : List Int} (hl : vOk f.iw lot) (hs : vOk f.rw st) : (valsR f.ws lot st f.rows).length = f.rows.length := by
  have h := Fl.vals_ok hf hl hs f.rows.length (Nat.le_refl _)
  rw [List.take_length, List.take_of_length_le (by rw [hf.rows.len]; exact Nat.le_refl _)] at h
  rw [h.1, hf.rows.len]
end DL

set_option Elab.async false
set_option linter.all false
set_option maxRecDepth 100000
set_option maxHeartbeats 4000000
set_option autoImplicit false
namespace DL
open PySem L2
/-! ### drawing: lemmas -/
theorem rw_ne : Str.ofString "rows" ≠ Str.ofString "widths" := by decide
theorem dzR (A B : List D) : keyAt [((Sum.inr "rows" : Key), A), (Sum.inr "widths", B)] (.inr "rows") = some 0 := by simp [keyAt, rw_ne]
theorem dzW (A B : List D) : keyAt [((Sum.inr "rows" : Key), A), (Sum.inr "widths", B)] (.inr "widths") = some 1 := by simp [keyAt, rw_ne]
theorem dzLW (A B : D) : lookE [(keyD (.inr "rows"), A), (keyD (.inr "widths"), B)] (.inr "widths") = some B := by simp [lookE, keyOf, keyD, rw_ne]
theorem dz_snoc (rows : List Row) (ws : List Nat) (r : Row) (w : Nat) : MD.dl [(Sum.inr "rows", rows.map Row.toD ++ [r.toD]), (Sum.inr "widths", nL ws ++ [.int (w : Int)])] = dz (rows ++ [r]) (ws ++ [w]) := by
  unfold dz
  rw [List.map_append, show nL (ws ++ [w]) = nL ws ++ [.int (w : Int)] from List.map_append ..]
  rfl
theorem SH.str {s : Str} (h : PyData.canLay0 (.str s) = true) : SH 0 (.str s) := ⟨rfl, h, Nat.le_refl _⟩
theorem SHs.nL (ns : List Nat) : SHs 0 (nL ns) := .all fun d hd => by
  obtain ⟨n, _, rfl⟩ := mem_nL hd
  exact .int _
theorem SH.row (r : Row) : SH 1 r.toD := by
  cases r with
  | un o a => cases o <;> exact SH.tuple (by repeat (first | exact SHs.nil | refine SHs.cons (by first | exact SH.int _ | exact SH.str (by decide +kernel)) ?_))
  | mv o a b => cases o <;> exact SH.tuple (by repeat (first | exact SHs.nil | refine SHs.cons (by first | exact SH.int _ | exact SH.str (by decide +kernel)) ?_))
  | bin o a b => cases o <;> exact SH.tuple (by repeat (first | exact SHs.nil | refine SHs.cons (by first | exact SH.int _ | exact SH.str (by decide +kernel)) ?_))
  | _ => exact SH.tuple (by repeat (first | exact SHs.nil | refine SHs.cons (by first | exact SH.int _ | exact SH.str (by decide +kernel)) ?_))
theorem SHs.rows (rs : List Row) : SHs 1 (rs.map Row.toD) := .all fun d hd => by
  obtain ⟨r, _, rfl⟩ := List.mem_map.mp hd
  exact .row r
theorem ne_nilL (ds : List D) : (true != PyData.eqv (.list ds) (.list [])) = !ds.isEmpty := by
  cases ds <;> simp [PyData.eqv, PyData.eqvAll]
theorem eq_nilL (ds : List D) : (false != PyData.eqv (.list ds) (.list [])) = ds.isEmpty := by
  cases ds <;> simp [PyData.eqv, PyData.eqvAll]
theorem cut_to (xs : List D) (n : Nat) : cutD xs none (some (n : Int)) = xs.take n := by
  unfold cutD HT.sIx
  dsimp only
  rw [if_neg (by omega), Int.toNat_natCast, List.drop_zero, Nat.sub_zero]
  rcases Nat.le_total n xs.length with h | h
  · rw [Nat.min_eq_left h]
  · rw [Nat.min_eq_right h, List.take_of_length_le (Nat.le_refl _), List.take_of_length_le h]
theorem cut_back (xs : List D) (n : Nat) (h : xs ≠ []) (hn : 1 ≤ n) : 1 ≤ (cutD xs (some (-(n : Int))) none).length := by
  have : 1 ≤ xs.length := by
    cases xs with
    | nil => exact absurd rfl h
    | cons => simp
  unfold cutD HT.sIx
  dsimp only
  rw [if_pos (by omega), List.length_take, List.length_drop]
  omega
theorem cutD_mem {xs : List D} {lo hi : Option Int} {x : D} (h : x ∈ cutD xs lo hi) : x ∈ xs := List.mem_of_mem_drop (List.mem_of_mem_take h)
theorem cutD_le (xs : List D) (lo hi : Option Int) : (cutD xs lo hi).length ≤ xs.length := by
  unfold cutD
  rw [List.length_take, List.length_drop]
  omega
theorem scal_nL (ns : List Nat) : (nL ns).all scalP = true := by
  rw [List.all_eq_true]
  intro x hx
  obtain ⟨n, _, rfl⟩ := mem_nL hx
  rfl
theorem get_enumW {ws : List Nat} {i : Nat} {x : D} (h : (enumD (nL ws))[i]? = some x) : ∃ (hi : i < ws.length), x = .tuple [.int i, .int ((ws[i] : Nat) : Int)] := by
  unfold enumD at h
  rw [List.getElem?_mapIdx, List.getElem?_map] at h
  cases e : ws[i]? with
  | none => rw [e] at h; cases h
  | some p =>
    rw [e] at h
    obtain ⟨hi, e⟩ := List.getElem?_eq_some_iff.mp e
    refine ⟨hi, ?_⟩
    cases h
    rw [e]
    rfl
theorem nL_snoc (ns : List Nat) (k : Nat) : nL ns ++ [.int (k : Int)] = nL (ns ++ [k]) := by
  show _ = (ns ++ [k]).map nI
  rw [List.map_append]
  rfl
def Cnam2 : Con := fun ds Q => ∃ (n : Nat) (l : Str), ds = [.none, .int (n : Int), .str l] ∧ n ≤ 12 ∧ l.length ≤ 100 ∧ ∀ ss : List Str, ss.length = n → Q (.nw (.list (ss.map PyData.str)))
def catS (l : Str) : D → D
  | .str s => .str (l ++ s)
  | _ => .none
end DL

set_option Elab.async false
set_option linter.all false
set_option maxRecDepth 100000
set_option maxHeartbeats 4000000
set_option autoImplicit false
namespace DL
open PySem L2
theorem words_in {x : D} (hx : x ∈ [PyData.str "and", .str "or", .str "xor", .str "add", .str "sub", .str "mul", .str "not", .str "eq", .str "lt", .str "mux", .str "mux", .str "join", .str "cut"] ++ [PyData.str "pick", .str "shl", .str "shr", .str "all", .str "any", .str "odd", .str "add", .str "xor"]) :
    (∃ o : UO, x = .str o.s) ∨ x = .str "cut" ∨ (∃ o : MO, x = .str o.s) ∨ x = .str "join" ∨ x = .str "mux" ∨ ∃ o : BO, x = .str o.s := by
  simp only [List.cons_append, List.nil_append, List.mem_cons, List.mem_nil_iff, or_false] at hx
  rcases hx with h | h | h | h | h | h | h | h | h | h | h | h | h | h | h | h | h | h | h | h | h
  · exact .inr (.inr (.inr (.inr (.inr ⟨.and, h⟩))))
  · exact .inr (.inr (.inr (.inr (.inr ⟨.or, h⟩))))
  · exact .inr (.inr (.inr (.inr (.inr ⟨.xor, h⟩))))
  · exact .inr (.inr (.inr (.inr (.inr ⟨.add, h⟩))))
  · exact .inr (.inr (.inr (.inr (.inr ⟨.sub, h⟩))))
  · exact .inr (.inr (.inr (.inr (.inr ⟨.mul, h⟩))))
  · exact .inl ⟨.not, h⟩
  · exact .inr (.inr (.inr (.inr (.inr ⟨.eq, h⟩))))
  · exact .inr (.inr (.inr (.inr (.inr ⟨.lt, h⟩))))
  · exact .inr (.inr (.inr (.inr (.inl h))))
  · exact .inr (.inr (.inr (.inr (.inl h))))
  · exact .inr (.inr (.inr (.inl h)))
  · exact .inr (.inl h)
  · exact .inr (.inr (.inl ⟨.pick, h⟩))
  · exact .inr (.inr (.inl ⟨.shl, h⟩))
  · exact .inr (.inr (.inl ⟨.shr, h⟩))
  · exact .inl ⟨.all, h⟩
  · exact .inl ⟨.any, h⟩
  · exact .inl ⟨.odd, h⟩
  · exact .inr (.inr (.inr (.inr (.inr ⟨.add, h⟩))))
  · exact .inr (.inr (.inr (.inr (.inr ⟨.xor, h⟩))))
theorem wOk1 : wOk 1 := ⟨by decide, by decide⟩
end DL

set_option Elab.async false
set_option linter.all false
set_option maxRecDepth 100000
set_option maxHeartbeats 4000000
set_option autoImplicit false
namespace DL
open PySem L2
def reg3 (p : Str × Nat × Int) : D := .tuple [.str p.1, .int (p.2.1 : Int), .int p.2.2]
def rg3 (g : Str × Nat × Int × Nat) : Str × Nat × Int := (g.1, g.2.1, g.2.2.1)
theorem get_strs {ss : List Str} {i : Nat} {x : D} (h : (ss.map PyData.str)[i]? = some x) : ∃ (hi : i < ss.length), x = .str ss[i] := by
  rw [List.getElem?_map] at h
  obtain ⟨r, h1, rfl⟩ := Option.map_eq_some_iff.mp h
  obtain ⟨hi, e⟩ := List.getElem?_eq_some_iff.mp h1
  exact ⟨hi, by rw [e]⟩
theorem get_enumM {α : Type} {f : α → D} {xs : List α} {i : Nat} {x : D} (h : (enumD (xs.map f))[i]? = some x) : ∃ (hi : i < xs.length), x = .tuple [.int i, f xs[i]] := by
  unfold enumD at h
  rw [List.getElem?_mapIdx, List.getElem?_map] at h
  cases e : xs[i]? with
  | none => rw [e] at h; cases h
  | some p =>
    rw [e] at h
    obtain ⟨hi, e⟩ := List.getElem?_eq_some_iff.mp e
    refine ⟨hi, ?_⟩
    cases h
    rw [e]
theorem get_reg3 {rs : List (Str × Nat × Int)} {i : Nat} {x : D} (h : (rs.map reg3)[i]? = some x) : ∃ (hi : i < rs.length), x = reg3 rs[i] := by
  rw [List.getElem?_map] at h
  obtain ⟨r, h1, rfl⟩ := Option.map_eq_some_iff.mp h
  obtain ⟨hi, e⟩ := List.getElem?_eq_some_iff.mp h1
  exact ⟨hi, by rw [e]⟩
/-- the rows so far, and how many at most -/
structure Dg (iw rw : List Nat) (rows : List Row) (ws : List Nat) (n : Nat) : Prop where
  r : Rows iw rw rows ws
  le : rows.length ≤ n
theorem Dg.mono {iw rw : List Nat} {rows : List Row} {ws : List Nat} {n m : Nat} (h : Dg iw rw rows ws n) (e : n ≤ m) : Dg iw rw rows ws m := ⟨h.r, Nat.le_trans h.le e⟩
/-- the registers, each with its next row -/
structure Nx (rs : List (Str × Nat × Int)) (gs : List (Str × Nat × Int × Nat)) (ws : List Nat) (j : Nat) : Prop where
  eq : gs.map rg3 = rs.take j
  at_ : ∀ g ∈ gs, ws[g.2.2.2]? = some g.2.1
theorem Nx.nil {rs : List (Str × Nat × Int)} {ws : List Nat} : Nx rs [] ws 0 := ⟨rfl, fun _ h => nomatch h⟩
theorem Nx.snoc {rs : List (Str × Nat × Int)} {gs : List (Str × Nat × Int × Nat)} {ws ws' : List Nat} {j k : Nat} (h : Nx rs gs ws j) (hp : ws <+: ws') (hj : j < rs.length) (hk : ws'[k]? = some (rs[j]).2.1) : Nx rs (gs ++ [((rs[j]).1, (rs[j]).2.1, (rs[j]).2.2, k)]) ws' (j + 1) := by
  refine ⟨?_, fun g hg => ?_⟩
  · rw [List.map_append, h.eq, List.take_succ, List.getElem?_eq_getElem hj]
    rfl
  · rcases List.mem_append.mp hg with hg | hg
    · exact pre_at hp (h.at_ g hg)
    · rw [List.mem_singleton.mp hg]; exact hk
theorem Nx.mono {rs : List (Str × Nat × Int)} {gs : List (Str × Nat × Int × Nat)} {ws ws' : List Nat} {j : Nat} (h : Nx rs gs ws j) (hp : ws <+: ws') : Nx rs gs ws' j := ⟨h.eq, fun g hg => pre_at hp (h.at_ g hg)⟩
/-- the flat design is right -/
theorem fl_ok {is os : List (Str × Nat)} {rs : List (Str × Nat × Int)} {gs : List (Str × Nat × Int × Nat)} {rows : List Row} {ws : List Nat} {n : Nat} (hi : ∀ p ∈ is, wOk p.2) (hr : ∀ p ∈ rs, wOk p.2.1 ∧ rng p.2.1 p.2.2) (hn : Nx rs gs ws rs.length) (hD : Dg (is.map (·.2)) (rs.map (·.2.1)) rows ws n) (h1 : n ≤ 10000) (h2 : is.length ≤ 100) (h3 : rs.length ≤ 100) (ho : ∀ p ∈ os, p.2 < rows.length) (o1 : 1 ≤ os.length) (o3 : os.length ≤ 3) :
    (Fl.mk is os gs rows ws).ok ∧ (Fl.mk is os gs rows ws).fine ∧ gs.length = rs.length := by
  have e : gs.map rg3 = rs := by rw [hn.eq, List.take_length]
  have el : gs.length = rs.length := by rw [← e, List.length_map]
  have ew : gs.map (·.2.1) = rs.map (·.2.1) := by rw [← e, List.map_map]; rfl
  have hg : ∀ g ∈ gs, wOk g.2.1 ∧ rng g.2.1 g.2.2.1 := fun g h => hr (rg3 g) (by rw [← e]; exact List.mem_map_of_mem h)
  refine ⟨⟨?_, Nat.le_trans hD.le h1, h2, by show gs.length ≤ 100; omega, hi, fun g h => (hg g h).1⟩, ⟨ho, fun g h => ⟨(hg g h).2, hn.at_ g h⟩, o1, o3⟩, el⟩
  show Rows (is.map (·.2)) (gs.map (·.2.1)) rows ws
  rw [ew]
  exact hD.r
def Cflat2 : Con := fun ds Q => ∃ many wide most : Nat, ds = [.none, .int (many : Int), .int (wide : Int), .int (most : Int)] ∧ many ≤ 100 ∧ (1 ≤ wide ∧ wide ≤ 32) ∧ most ≤ 5 ∧ ∀ f : Fl, f.ok → f.fine → f.ins.length ≤ most → f.regs.length ≤ most → f.rows.length ≤ 7 * many + 6 * most + 1 → Q (.fz f.toD)
def Cmom2 : Con := fun ds Q => ∃ many wide : Nat, ds = [.none, .int (many : Int), .int (wide : Int)] ∧ many ≤ 100 ∧ (1 ≤ wide ∧ wide ≤ 32) ∧ ∀ (f : Fl) (sd lot st : List Int), f.ok → f.fine → f.ins.length ≤ 3 → f.regs.length ≤ 3 → f.rows.length ≤ 7 * many + 19 → vOk f.ws sd → vOk f.iw lot → vOk f.rw st → Q (.fz (.tuple [f.toD, .list (nL f.ws), .tuple (iL sd), .tuple (iL lot), .tuple (iL st)]))
end DL

set_option Elab.async false
set_option linter.all false
set_option maxRecDepth 100000
set_option maxHeartbeats 4000000
namespace DL
open PySem L2 PyProof.Rows
section
variable {X : Cx} {k j : Nat} {x : Str} {sp : Sp} {p pos : Pos}
theorem pe_cG0 (c : CalG X.prog X.w X.K X.mg X.base k x sp) (hA : X.A.guards = some []) (hr : Room j X.A) (hk : k ≤ j) (hg : Gl X x)
    (hdb : (x == ("__debug__" : Str)) = false := by decide) : PE X (.Call (.Name x p) [] [] pos) (tCall sp [] C8.E0 tNil) := by
  obtain ⟨f, fd, ps, F, hm, kp, b⟩ := c.ex
  constructor
  intro pins s σ H Q I h
  refine wpAny_Call_Name_kw (ld_glob I hg hm (PySem.W.callWith_K0 I.kIn kp ?_) hdb)
  have q : sp [] H Q C8.E0 := h
  have hl : (([] : List Value) ++ []).length = ps.length := F.len _ _ _ _ q
  have hb := b s [] I.kIn hl
  refine wpAny_call (codeAny_mono (F.go X.A hA (hr.mono hk) X.stack s H I.env0 ⟨[], []⟩ [] [] Q C8.E0 hb .nil q) ?_)
  intro rr s' hq
  cases rr with
  | error e => exact hq.elim
  | ok fl =>
    cases fl with
    | ret u => exact I.after hq
    | next => exact False.elim hq
    | brk => exact False.elim hq
    | cont => exact False.elim hq
end
end DL

set_option Elab.async false
set_option linter.all false
set_option maxRecDepth 100000
set_option maxHeartbeats 4000000
set_option autoImplicit false
namespace DL
open PySem L2
def bigL : List D := [PyData.int 18446744073709551615, PyData.int 2, PyData.int 1, PyData.int 1, PyData.int 3, PyData.int 18446744073709551612, PyData.int 4611686018427387903, PyData.int 64, PyData.int 0, PyData.int 0, PyData.int 0, PyData.int 63, PyData.int 1, PyData.int 9223372036854775808, PyData.int 1, PyData.int 9223372036854775807, PyData.int 0, PyData.int 1, PyData.int 0, PyData.int 0, PyData.int 1, PyData.int 0, PyData.int 1, PyData.int 18446744073709551615, PyData.int 18446744073709551615, PyData.int 2, PyData.int 9223372036854775808, PyData.int 0, PyData.int 0, PyData.int 0, PyData.int 0]
theorem big_eq : iL (valsR fBig.ws [] [] fBig.rows) = bigL := by rw [fBig_vals]; rfl
theorem Crows_big {Q : Re → Prop} (h : Q (.nw (.list bigL))) : Crows [fBig.toD, .tuple [], .tuple []] Q := ⟨fBig, [], [], rfl, fBig_ok, vOk.nil, vOk.nil, by rw [big_eq]; exact h⟩
theorem big_ok : reprOkP (.list bigL) := by
  rw [← big_eq]
  exact (RB.list (RBs.ints (k := 40) (fun n h => Nat.lt_of_lt_of_le (sml (Nat.le_refl 64) (vals_small fBig_ok (lot := []) (st := []) vOk.nil vOk.nil n h)) (by decide)) (by rw [vals_len fBig_ok (lot := []) (st := []) vOk.nil vOk.nil]; decide))).ok (by decide) (by decide)
end DL

set_option Elab.async false
set_option linter.all false
set_option maxRecDepth 100000
set_option maxHeartbeats 4000000
set_option autoImplicit false
namespace DL
open PySem L2
/-! ### a tuple again and again -/
def fRepT : F2 := fun x y Q => match x, y with
  | .tuple xs, .int k => (xs ≠ [] ∧ 2 ≤ k ∧ k ≤ 1000 ∧ xs.length ≤ 1000) ∧ Q (.fz (.tuple (List.replicate k.toNat xs).flatten))
  | _, _ => False
theorem ol_repT {K : PySem.W.Frag} : OpL K (rRepT K) fRepT := by
  intro f g σ H ρ v u x y Q R hK hR h1 h2 hF k
  subst hK
  unfold fRepT at hF
  split at hF
  · obtain ⟨a, xs, rfl, e1, r1, z1⟩ := h1.tuple fz_sub
    obtain rfl := h2.int
    obtain ⟨⟨b0, b1, b2, b3⟩, q⟩ := hF
    exact ⟨a, _, xs, rfl, rfl, e1, (by intro e; subst e; cases r1; exact b0 rfl), b1, b2, by rw [r1.length]; exact b3, OEnd.tup k hR (r1.rep _) q⟩
  · exact hF.elim
/-! ### at least so many rows -/
def Cdrow2 : ConM := fun ds m Q => ∃ (ins regs : List Nat) (rows : List Row) (ws : List Nat) (wide : Nat), ds = [.none, .none, .int (wide : Int)] ∧ m = dz rows ws ∧ Rows ins regs rows ws ∧ (1 ≤ wide ∧ wide ≤ 32) ∧ rows.length ≤ 9900 ∧
  ∀ (rows' : List Row) (ws' : List Nat) (k : Nat), Rows ins regs rows' ws' → ws <+: ws' → rows'.length ≤ rows.length + 7 → rows.length + 1 ≤ rows'.length → Q (.fz (.int (k : Int))) (dz rows' ws')
def Cflat3 : Con := fun ds Q => ∃ many wide most : Nat, ds = [.none, .int (many : Int), .int (wide : Int), .int (most : Int)] ∧ many ≤ 100 ∧ (1 ≤ wide ∧ wide ≤ 32) ∧ most ≤ 5 ∧ ∀ f : Fl, f.ok → f.fine → f.ins.length ≤ most → f.regs.length ≤ most → f.rows.length ≤ 7 * many + 6 * most + 1 → many ≤ f.rows.length → Q (.fz f.toD)
def Cmom3 : Con := fun ds Q => ∃ many wide : Nat, ds = [.none, .int (many : Int), .int (wide : Int)] ∧ many ≤ 100 ∧ (1 ≤ wide ∧ wide ≤ 32) ∧ ∀ (f : Fl) (sd lot st : List Int), f.ok → f.fine → f.ins.length ≤ 3 → f.regs.length ≤ 3 → f.rows.length ≤ 7 * many + 19 → many ≤ f.rows.length → vOk f.ws sd → vOk f.iw lot → vOk f.rw st → Q (.fz (.tuple [f.toD, .list (nL f.ws), .tuple (iL sd), .tuple (iL lot), .tuple (iL st)]))
/-! ### what rows come to at a standing -/
theorem RowOk.mono {ins regs ws ws' : List Nat} {r : Row} {w : Nat} (h : RowOk ins regs ws r w) (hp : ws <+: ws') : RowOk ins regs ws' r w := by
  have at_ : ∀ {a x : Nat}, ws[a]? = some x → ws'[a]? = some x := fun e => pre_at hp e
  cases r with
  | inp k => exact h
  | reg k => exact h
  | word x n => exact h
  | un o a =>
    cases o with
    | not => exact at_ h
    | _ => exact ⟨h.1, h.2.choose, at_ h.2.choose_spec⟩
  | cut a lo sz => exact ⟨h.1, h.2.choose, at_ h.2.choose_spec.1, h.2.choose_spec.2⟩
  | join a b =>
    obtain ⟨x, y, h1, h2, h3⟩ := h
    exact ⟨x, y, at_ h1, at_ h2, h3⟩
  | mv o a b =>
    cases o with
    | pick => exact ⟨h.1, ⟨h.2.1.choose, at_ h.2.1.choose_spec⟩, h.2.2.choose, at_ h.2.2.choose_spec⟩
    | _ => exact ⟨at_ h.1, h.2.choose, at_ h.2.choose_spec⟩
  | bin o a b =>
    obtain ⟨x, h1, h2, h3⟩ := h
    exact ⟨x, at_ h1, at_ h2, h3⟩
  | mux a b c => exact ⟨at_ h.1, at_ h.2.1, at_ h.2.2⟩
def Fl.come (f : Fl) (sd lot st : List Int) : List Int := f.rows.map fun r => r.val f.ws sd lot st
structure Fl.stand (f : Fl) (sd lot st : List Int) : Prop where
  sd : vOk f.ws sd
  lot : vOk f.iw lot
  st : vOk f.rw st
theorem Fl.ok.vin {f : Fl} (hf : f.ok) {sd lot st : List Int} (h : f.stand sd lot st) : VIn f.iw f.rw f.ws sd lot st := ⟨by rw [h.sd.1]; exact Nat.le_refl _, hf.rows.ok, by rw [h.sd.1, List.take_length]; exact h.sd, h.lot, h.st⟩
theorem Fl.ok.row {f : Fl} (hf : f.ok) {sd lot st : List Int} (h : f.stand sd lot st) {i : Nat} (hi : i < f.rows.length) : ∃ hw : i < f.ws.length, RowOk f.iw f.rw (f.ws.take sd.length) f.rows[i] f.ws[i] ∧ wOk f.ws[i] := by
  obtain ⟨hw, h1, h2⟩ := hf.rows.get i hi
  refine ⟨hw, ?_, h2⟩
  rw [h.sd.1, List.take_length]
  exact h1.mono (List.take_prefix _ _)
theorem Fl.come_at {f : Fl} {sd lot st : List Int} {i : Nat} (hi : i < f.rows.length) : (f.come sd lot st)[i]? = some ((f.rows[i]).val f.ws sd lot st) := by
  unfold Fl.come
  rw [List.getElem?_map, List.getElem?_eq_getElem hi]
  rfl
theorem Fl.come_len (f : Fl) (sd lot st : List Int) : (f.come sd lot st).length = f.rows.length := List.length_map ..
theorem Fl.come_ok {f : Fl} (hf : f.ok) {sd lot st : List Int} (h : f.stand sd lot st) : f.stand (f.come sd lot st) lot st := by
  refine ⟨⟨by rw [Fl.come_len, hf.rows.len], fun k v w h1 h2 => ?_⟩, h.lot, h.st⟩
  have hk : k < f.rows.length := by
    have := (List.getElem?_eq_some_iff.mp h1).1
    rwa [Fl.come_len] at this
  rw [Fl.come_at hk] at h1
  cases h1
  obtain ⟨hw, h3, h4⟩ := hf.row h hk
  rw [List.getElem?_eq_getElem hw] at h2
  cases h2
  exact Row.val_rng h3 h4 (hf.vin h)
/-- the values of all rows are at rest -/
theorem Row.val_congr {ws : List Nat} {vs vs' lot st : List Int} {r : Row} (h : ∀ a ∈ r.mem, vs.getD a 0 = vs'.getD a 0) : r.val ws vs lot st = r.val ws vs' lot st := by
  cases r <;> simp only [Row.mem, List.mem_cons, List.mem_nil_iff, or_false, forall_eq_or_imp, forall_eq] at h <;> simp only [Row.val, h]
theorem valsR_pre (ws : List Nat) (lot st : List Int) (rows : List Row) : ∀ i, i ≤ rows.length → (valsR ws lot st (rows.take i)).length = i ∧ valsR ws lot st (rows.take i) <+: valsR ws lot st rows := by
  have len : ∀ i, i ≤ rows.length → (valsR ws lot st (rows.take i)).length = i := by
    intro i
    induction i with
    | zero => intro _; rfl
    | succ i ih =>
      intro hi
      rw [valsR_succ _ _ _ _ i (by omega), List.length_append, ih (by omega)]
      rfl
  have pre : ∀ n i, i + n = rows.length → valsR ws lot st (rows.take i) <+: valsR ws lot st rows := by
    intro n
    induction n with
    | zero =>
      intro i e
      rw [List.take_of_length_le (by omega)]
      exact List.prefix_refl _
    | succ n ih =>
      intro i e
      have h := ih (i + 1) (by omega)
      rw [valsR_succ _ _ _ _ i (by omega)] at h
      exact (List.prefix_append _ _).trans h
  exact fun i hi => ⟨len i hi, pre (rows.length - i) i (by omega)⟩
theorem pre_eq {vs vs' : List Int} (h : vs <+: vs') {i : Nat} (hi : i < vs.length) : vs'[i]? = vs[i]? := by
  obtain ⟨t, rfl⟩ := h
  exact List.getElem?_append_left hi
theorem Fl.rest {f : Fl} (hf : f.ok) {lot st : List Int} (hl : vOk f.iw lot) (hs : vOk f.rw st) : f.come (valsR f.ws lot st f.rows) lot st = valsR f.ws lot st f.rows := by
  have hlen := (valsR_pre f.ws lot st f.rows f.rows.length (Nat.le_refl _)).1
  rw [List.take_length] at hlen
  apply List.ext_getElem?
  intro i
  by_cases hi : i < f.rows.length
  · rw [Fl.come_at hi]
    obtain ⟨h1, h2⟩ := valsR_pre f.ws lot st f.rows (i + 1) hi
    rw [pre_eq h2 (i := i) (by rw [h1]; omega), valsR_succ _ _ _ _ i hi]
    obtain ⟨h3, h4⟩ := valsR_pre f.ws lot st f.rows i (Nat.le_of_lt hi)
    rw [List.getElem?_append_right (by rw [h3]; exact Nat.le_refl _), h3, Nat.sub_self]
    congr 1
    refine Row.val_congr fun a ha => ?_
    obtain ⟨hw, hr, _⟩ := hf.rows.get i hi
    obtain ⟨x, hx⟩ := hr.mem a ha
    have hai : a < i := (take_at hx).2
    rw [List.getD_eq_getElem?_getD, List.getD_eq_getElem?_getD]
    rw [pre_eq h4 (i := a) (by rw [h3]; exact hai)]
  · rw [List.getElem?_eq_none (by rw [Fl.come_len]; omega), List.getElem?_eq_none (by omega)]
theorem Fl.rest_stand {f : Fl} (hf : f.ok) {lot st : List Int} (hl : vOk f.iw lot) (hs : vOk f.rw st) : f.stand (valsR f.ws lot st f.rows) lot st := by
  have h := Fl.vals_ok hf hl hs f.rows.length (Nat.le_refl _)
  rw [List.take_length, List.take_of_length_le (by rw [hf.rows.len]; exact Nat.le_refl _)] at h
  exact ⟨h, hl, hs⟩
end DL

set_option Elab.async false
set_option linter.all false
set_option maxRecDepth 100000
set_option maxHeartbeats 4000000
set_option autoImplicit false
namespace DL
open PySem L2
def Cvalt : Con := fun ds Q => ∃ (ins regs ws : List Nat) (r : Row) (w : Nat) (vs lot st : List Int), ds = [r.toD, .list (nL ws), .tuple (iL vs), .tuple (iL lot), .tuple (iL st)] ∧ RowOk ins regs (ws.take vs.length) r w ∧ wOk w ∧ VIn ins regs ws vs lot st ∧ Q (.fz (.int (r.val ws vs lot st)))
def Ccomes : Con := fun ds Q => ∃ (f : Fl) (sd lot st : List Int) (n : Nat), ds = [f.toD, .tuple (iL sd), .tuple (iL lot), .tuple (iL st), .int (n : Int)] ∧ n < f.rows.length ∧ f.ok ∧ f.stand sd lot st ∧ Q (.fz (.int ((f.come sd lot st).getD n 0)))
def Ccoming : Con := fun ds Q => ∃ (f : Fl) (sd lot st : List Int), ds = [f.toD, .list (nL f.ws), .tuple (iL sd), .tuple (iL lot), .tuple (iL st)] ∧ f.ok ∧ f.stand sd lot st ∧ Q (.fz (.tuple (iL (f.come sd lot st))))
def unl (a b : List Int) : List Nat := (List.range a.length).filter fun n => !decide (a.getD n 0 = b.getD n 0)
def Cunl : Con := fun ds Q => ∃ a b : List Int, ds = [.tuple (iL a), .tuple (iL b)] ∧ a.length = b.length ∧ a.length ≤ 10000 ∧ Q (.nw (.list (nL (unl a b))))
def Cuneasy : Con := fun ds Q => ∃ (f : Fl) (sd lot st : List Int), ds = [f.toD, .tuple (iL sd), .tuple (iL lot), .tuple (iL st)] ∧ f.ok ∧ f.stand sd lot st ∧ Q (.nw (.list (nL (unl sd (f.come sd lot st)))))
def Cround : Con := fun ds Q => ∃ (f : Fl) (sd lot st : List Int), ds = [f.toD, .tuple (iL sd), .tuple (iL lot), .tuple (iL st)] ∧ f.ok ∧ f.stand sd lot st ∧ Q (.fz (.tuple (iL (f.come sd lot st))))
theorem filt_y {p : Nat → Bool} {i : Nat} (h : p i = true) : nL ((List.range i).filter p) ++ [.int (i : Int)] = nL ((List.range (i + 1)).filter p) := by
  rw [List.range_succ, List.filter_append, nL_snoc]
  simp [h]
theorem filt_n {p : Nat → Bool} {i : Nat} (h : p i = false) : (List.range i).filter p = (List.range (i + 1)).filter p := by
  rw [List.range_succ, List.filter_append]
  simp [h]
theorem filt_len (p : Nat → Bool) (i : Nat) : ((List.range i).filter p).length ≤ i := Nat.le_trans (List.length_filter_le ..) (by simp)
theorem ne_int (x y : Int) : (true != PyData.eqv (.int x) (.int y)) = !decide (x = y) := by rw [eqv_int, bne_true]
theorem at_getD {vs : List Int} {i : Nat} (h : i < vs.length) : vs[i]? = some (vs.getD i 0) := by
  rw [List.getD_eq_getElem?_getD, List.getElem?_eq_getElem h]
  rfl
theorem get_rng0 {n i : Nat} {x : D} (h : (rngD 0 n)[i]? = some x) : i < n ∧ x = .int (i : Int) := by
  have hi := (List.getElem?_eq_some_iff.mp h).1
  rw [rngD_length] at hi
  refine ⟨hi, ?_⟩
  unfold rngD at h
  rw [List.getElem?_map, List.getElem?_range hi] at h
  cases h
  simp
theorem unl_comm (a b : List Int) (h : a.length = b.length) : unl a b = unl b a := by
  unfold unl
  rw [h]
  congr 1
  funext n
  by_cases e : a.getD n 0 = b.getD n 0
  · rw [decide_eq_true e, decide_eq_true e.symm]
  · rw [decide_eq_false e, decide_eq_false fun z => e z.symm]
end DL

set_option Elab.async false
set_option linter.all false
set_option maxRecDepth 100000
set_option maxHeartbeats 4000000
set_option autoImplicit false
namespace DL
open PySem L2
theorem cutD_drop (xs : List D) (n : Nat) : cutD xs (some (n : Int)) none = xs.drop n := by
  unfold cutD
  rw [HT.sIx_nat, HT.sIx_none]
  rcases Nat.le_total n xs.length with h | h
  · rw [Nat.min_eq_left h, List.take_of_length_le (by rw [List.length_drop]; exact Nat.le_refl _)]
  · rw [Nat.min_eq_right h, List.drop_of_length_le (Nat.le_refl _), List.drop_of_length_le h, List.take_nil]
theorem near_eq (V : List Int) (k : Nat) (v : Int) (hk : k < V.length) : (cutD (iL V) none (some (k : Int)) ++ [PyData.int v]) ++ cutD (iL V) (some ((k : Int) + 1)) none = iL (V.set k v) := by
  rw [cut_to, show ((k : Int) + 1) = ((k + 1 : Nat) : Int) by omega, cutD_drop]
  unfold iL
  rw [← List.map_take, ← List.map_drop, List.set_eq_take_append_cons_drop, if_pos hk]
  simp
theorem vOk.set {ws : List Nat} {vs : List Int} {k w : Nat} {v : Int} (h : vOk ws vs) (hk : ws[k]? = some w) (hv : rng w v) : vOk ws (vs.set k v) := by
  refine ⟨by rw [List.length_set]; exact h.1, fun j x y h1 h2 => ?_⟩
  rcases getset h1 with ⟨rfl, e⟩ | ⟨ne, e⟩
  · rw [hk] at h2
    cases h2
    subst e
    exact hv
  · exact h.2 j x y e h2
theorem rep_eq (n : Nat) : (List.replicate n [PyData.int 0]).flatten = iL (List.replicate n 0) := by
  unfold iL
  induction n with
  | zero => rfl
  | succ n ih => rw [List.replicate_succ, List.flatten_cons, ih, List.replicate_succ]; rfl
theorem vOk.zero (ws : List Nat) : vOk ws (List.replicate ws.length 0) := by
  refine ⟨List.length_replicate, fun k v w h1 h2 => ?_⟩
  have hv := List.eq_of_mem_replicate (List.mem_of_getElem? h1)
  subst hv
  exact rng0 w
theorem eqvAll_iL (a : List Int) : PyData.eqvAll (iL a) (iL a) = true := by
  induction a with
  | nil => simp [iL, PyData.eqvAll]
  | cons x a ih =>
    have : iL (x :: a) = .int x :: iL a := rfl
    rw [this]
    simp [PyData.eqvAll, ih, eqv_int]
theorem eqv_tupI (a : List Int) : PyData.eqv (.tuple (iL a)) (.tuple (iL a)) = true := by
  simp [PyData.eqv, eqvAll_iL]
theorem unl_self (a : List Int) : unl a a = [] := by
  unfold unl
  rw [List.filter_eq_nil_iff]
  intro n _
  simp
theorem iOkL {vs : List Int} (h : ∀ v ∈ vs, rng 64 v) (hl : vs.length ≤ 1000) : reprOkP (.list (iL vs)) := (RB.list (RBs.ints (k := 1000) (fun n hn => Nat.lt_of_lt_of_le (sml (Nat.le_refl 64) (h n hn)) (by decide)) hl)).ok (by decide) (by decide)
theorem iOkT {vs : List Int} (h : ∀ v ∈ vs, rng 64 v) (hl : vs.length ≤ 1000) : reprOkP (.tuple (iL vs)) := (RB.tuple (RBs.ints (k := 1000) (fun n hn => Nat.lt_of_lt_of_le (sml (Nat.le_refl 64) (h n hn)) (by decide)) hl)).ok (by decide) (by decide)
theorem nL_iL (ns : List Nat) : nL ns = iL (ns.map fun n : Nat => (n : Int)) := by
  unfold iL
  rw [List.map_map]
  rfl
theorem nOkL {ns : List Nat} (h : ∀ n ∈ ns, n < 100000) (hl : ns.length ≤ 1000) : reprOkP (.list (nL ns)) := by
  rw [nL_iL]
  refine iOkL (fun v hv => ?_) (by rw [List.length_map]; exact hl)
  obtain ⟨n, hn, rfl⟩ := List.mem_map.mp hv
  have := h n hn
  have e : (2 : Int) ^ 64 = 18446744073709551616 := by decide
  exact ⟨by omega, by rw [e]; omega⟩
theorem vOk.all {ws : List Nat} {vs : List Int} (h : vOk ws vs) (hw : ∀ w ∈ ws, wOk w) : ∀ v ∈ vs, rng 64 v := by
  intro v hv
  obtain ⟨k, hk, rfl⟩ := List.mem_iff_getElem.mp hv
  have hk2 : k < ws.length := by rw [← h.1]; exact hk
  exact (h.2 k _ ws[k] (List.getElem?_eq_getElem hk) (List.getElem?_eq_getElem hk2)).mono (hw _ (List.getElem_mem _)).2
theorem Fl.come_take {f : Fl} {sd lot st : List Int} {i : Nat} (hi : i < f.rows.length) : iL ((f.come sd lot st).take (i + 1)) = iL ((f.come sd lot st).take i) ++ [.int ((f.rows[i]).val f.ws sd lot st)] := by
  rw [List.take_succ, Fl.come_at hi, iL_snoc]
  rfl
end DL

set_option Elab.async false
set_option linter.all false
set_option maxRecDepth 100000
set_option maxHeartbeats 4000000
set_option autoImplicit false
namespace DL
open PySem L2
/-! ### rounds -/
def Fl.rnd (f : Fl) (lot st : List Int) (sd : List Int) : Nat → List Int
  | 0 => sd
  | t + 1 => f.come (f.rnd lot st sd t) lot st
theorem Fl.rnd_add (f : Fl) (lot st sd : List Int) (i : Nat) : ∀ j, f.rnd lot st sd (i + j) = f.rnd lot st (f.rnd lot st sd i) j := by
  intro j
  induction j with
  | zero => rfl
  | succ j ih => show f.come (f.rnd lot st sd (i + j)) lot st = _; rw [ih]; rfl
theorem Fl.rnd_stand {f : Fl} (hf : f.ok) {sd lot st : List Int} (h : f.stand sd lot st) : ∀ t, f.stand (f.rnd lot st sd t) lot st := by
  intro t
  induction t with
  | zero => exact h
  | succ t ih => exact Fl.come_ok hf ih
/-! levels -/
def lvl1 (ls : List Nat) (r : Row) : Nat := (r.mem.map fun a => ls.getD a 0 + 1).foldl max 0
def lvR (rows : List Row) : List Nat := rows.foldl (fun acc r => acc ++ [lvl1 acc r]) []
theorem lvR_succ (rows : List Row) (i : Nat) (h : i < rows.length) : lvR (rows.take (i + 1)) = lvR (rows.take i) ++ [lvl1 (lvR (rows.take i)) rows[i]] := by
  unfold lvR
  rw [List.take_succ, List.getElem?_eq_getElem h]
  show List.foldl _ _ (_ ++ [_]) = _
  rw [List.foldl_append]
  rfl
theorem lvR_len (rows : List Row) : ∀ i, i ≤ rows.length → (lvR (rows.take i)).length = i := by
  intro i
  induction i with
  | zero => intro _; rfl
  | succ i ih =>
    intro hi
    rw [lvR_succ _ i (by omega), List.length_append, ih (by omega)]
    rfl
theorem lvR_pre (rows : List Row) (i : Nat) (hi : i ≤ rows.length) : lvR (rows.take i) <+: lvR rows := by
  have pre : ∀ n i, i + n = rows.length → lvR (rows.take i) <+: lvR rows := by
    intro n
    induction n with
    | zero =>
      intro i e
      rw [List.take_of_length_le (by omega)]
      exact List.prefix_refl _
    | succ n ih =>
      intro i e
      have h := ih (i + 1) (by omega)
      rw [lvR_succ _ i (by omega)] at h
      exact (List.prefix_append _ _).trans h
  exact pre (rows.length - i) i (by omega)
theorem pre_getD {vs vs' : List Nat} (h : vs <+: vs') {i : Nat} (hi : i < vs.length) : vs'.getD i 0 = vs.getD i 0 := by
  obtain ⟨t, rfl⟩ := h
  rw [List.getD_eq_getElem?_getD, List.getD_eq_getElem?_getD, List.getElem?_append_left hi]
theorem lv_at {rows : List Row} {i : Nat} (hi : i < rows.length) : (lvR rows).getD i 0 = lvl1 (lvR (rows.take i)) rows[i] := by
  have h1 := lvR_len rows (i + 1) hi
  have h2 := lvR_len rows i (Nat.le_of_lt hi)
  rw [pre_getD (lvR_pre rows (i + 1) hi) (by rw [h1]; omega), lvR_succ _ i hi, List.getD_eq_getElem?_getD, List.getElem?_append_right (by rw [h2]; exact Nat.le_refl _), h2, Nat.sub_self]
  rfl
theorem foldl_max_ge (l : List Nat) : ∀ (m : Nat), m ≤ l.foldl max m ∧ ∀ x ∈ l, x ≤ l.foldl max m := by
  induction l with
  | nil => intro m; exact ⟨Nat.le_refl _, fun _ h => nomatch h⟩
  | cons y l ih =>
    intro m
    obtain ⟨h1, h2⟩ := ih (max m y)
    refine ⟨Nat.le_trans (Nat.le_max_left _ _) h1, fun x hx => ?_⟩
    rcases List.mem_cons.mp hx with rfl | hx
    · exact Nat.le_trans (Nat.le_max_right _ _) h1
    · exact h2 x hx
theorem foldl_max_le (l : List Nat) : ∀ (m b : Nat), m ≤ b → (∀ x ∈ l, x ≤ b) → l.foldl max m ≤ b := by
  induction l with
  | nil => intro m b h _; exact h
  | cons y l ih => intro m b h h2; exact ih _ _ (Nat.max_le.mpr ⟨h, h2 y List.mem_cons_self⟩) fun x hx => h2 x (List.mem_cons_of_mem _ hx)
/-- a member of a row stands before it and lower -/
theorem Fl.ok.memlt {f : Fl} (hf : f.ok) {i : Nat} (hi : i < f.rows.length) {a : Nat} (ha : a ∈ (f.rows[i]).mem) : a < i := by
  obtain ⟨hw, hr, _⟩ := hf.rows.get i hi
  obtain ⟨x, hx⟩ := hr.mem a ha
  exact (take_at hx).2
theorem lv_mem {f : Fl} (hf : f.ok) {i : Nat} (hi : i < f.rows.length) {a : Nat} (ha : a ∈ (f.rows[i]).mem) : (lvR f.rows).getD a 0 < (lvR f.rows).getD i 0 := by
  have hai := hf.memlt hi ha
  rw [lv_at hi]
  have h := (foldl_max_ge ((f.rows[i]).mem.map fun b => (lvR (f.rows.take i)).getD b 0 + 1) 0).2 _ (List.mem_map.mpr ⟨a, ha, rfl⟩)
  rw [pre_getD (lvR_pre f.rows i (Nat.le_of_lt hi)) (by rw [lvR_len _ i (Nat.le_of_lt hi)]; exact hai)]
  exact h
theorem lv_le {f : Fl} (hf : f.ok) : ∀ i, i < f.rows.length → (lvR f.rows).getD i 0 ≤ i := by
  intro i
  induction i using Nat.strongRecOn with
  | ind i ih =>
    intro hi
    rw [lv_at hi]
    refine foldl_max_le _ 0 i (Nat.zero_le _) fun x hx => ?_
    obtain ⟨a, ha, rfl⟩ := List.mem_map.mp hx
    have hai := hf.memlt hi ha
    have h := ih a hai (by omega)
    rw [pre_getD (lvR_pre f.rows i (Nat.le_of_lt hi)) (by rw [lvR_len _ i (Nat.le_of_lt hi)]; exact hai)] at h
    omega
/-- behind t rounds each row of a level less than t has its value -/
theorem Fl.conv {f : Fl} (hf : f.ok) {sd lot st : List Int} (h : f.stand sd lot st) : ∀ (t i : Nat), i < f.rows.length → (lvR f.rows).getD i 0 < t → (f.rnd lot st sd t).getD i 0 = (valsR f.ws lot st f.rows).getD i 0 := by
  intro t
  induction t with
  | zero => intro i _ h; omega
  | succ t ih =>
    intro i hi hl
    have e1 : (f.rnd lot st sd (t + 1)).getD i 0 = (f.rows[i]).val f.ws (f.rnd lot st sd t) lot st := getV (Fl.come_at hi)
    have e2 : (valsR f.ws lot st f.rows).getD i 0 = (f.rows[i]).val f.ws (valsR f.ws lot st f.rows) lot st := by
      have := getV (Fl.come_at (f := f) (sd := valsR f.ws lot st f.rows) (lot := lot) (st := st) hi)
      rw [Fl.rest hf h.lot h.st] at this
      exact this
    rw [e1, e2]
    refine Row.val_congr fun a ha => ih a (by have := hf.memlt hi ha; omega) (by have := lv_mem hf hi ha; omega)
theorem ext_getD {a b : List Int} (hl : a.length = b.length) (h : ∀ i, i < a.length → a.getD i 0 = b.getD i 0) : a = b := by
  apply List.ext_getElem?
  intro i
  by_cases hi : i < a.length
  · rw [at_getD hi, at_getD (hl ▸ hi), h i hi]
  · rw [List.getElem?_eq_none (by omega), List.getElem?_eq_none (by omega)]
theorem Fl.rnd_len {f : Fl} (hf : f.ok) {sd lot st : List Int} (h : f.stand sd lot st) (t : Nat) : (f.rnd lot st sd t).length = f.rows.length := by
  rw [(Fl.rnd_stand hf h t).sd.1, hf.rows.len]
/-- at rest behind one more than the greatest level at the latest -/
theorem Fl.rnd_top {f : Fl} (hf : f.ok) {sd lot st : List Int} (h : f.stand sd lot st) {t : Nat} (ht : ∀ i, i < f.rows.length → (lvR f.rows).getD i 0 < t) : f.rnd lot st sd t = valsR f.ws lot st f.rows := by
  have hl := Fl.rnd_len hf h t
  exact ext_getD (by rw [hl, vals_len hf h.lot h.st]) fun i hi => Fl.conv hf h t i (by omega) (ht i (by omega))
theorem Fl.rnd_many {f : Fl} (hf : f.ok) {sd lot st : List Int} (h : f.stand sd lot st) {t : Nat} (ht : f.rows.length ≤ t) : f.rnd lot st sd t = valsR f.ws lot st f.rows :=
  Fl.rnd_top hf h fun i hi => by have := lv_le hf i hi; omega
/-- what comes to itself is at rest -/
theorem Fl.fix {f : Fl} (hf : f.ok) {sd lot st : List Int} (h : f.stand sd lot st) (e : f.come sd lot st = sd) : sd = valsR f.ws lot st f.rows := by
  have : ∀ t, f.rnd lot st sd t = sd := by
    intro t
    induction t with
    | zero => rfl
    | succ t ih => show f.come (f.rnd lot st sd t) lot st = sd; rw [ih]; exact e
  rw [← Fl.rnd_many hf h (Nat.le_refl _), this]
end DL

set_option Elab.async false
set_option linter.all false
set_option maxRecDepth 100000
set_option maxHeartbeats 4000000
set_option autoImplicit false
namespace DL
open PySem L2
/-- the rounds up to rest -/
structure Fl.stops (f : Fl) (lot st sd : List Int) (T : Nat) : Prop where
  rest : f.rnd lot st sd T = valsR f.ws lot st f.rows
  ahead : ∀ t, t < T → f.rnd lot st sd t ≠ valsR f.ws lot st f.rows
theorem Fl.stops.unique {f : Fl} {lot st sd : List Int} {T T' : Nat} (h : f.stops lot st sd T) (h' : f.stops lot st sd T') : T = T' := by
  rcases Nat.lt_trichotomy T T' with e | e | e
  · exact absurd h.rest (h'.ahead T e)
  · exact e
  · exact absurd h'.rest (h.ahead T' e)
theorem Fl.stops.le {f : Fl} (hf : f.ok) {lot st sd : List Int} (hs : f.stand sd lot st) {T t : Nat} (h : f.stops lot st sd T) (ht : ∀ i, i < f.rows.length → (lvR f.rows).getD i 0 < t) : T ≤ t := by
  rcases Nat.lt_or_ge t T with e | e
  · exact absurd (Fl.rnd_top hf hs ht) (h.ahead t e)
  · exact e
theorem Fl.moves {f : Fl} (hf : f.ok) {lot st sd : List Int} (hs : f.stand sd lot st) (t : Nat) : f.rnd lot st sd (t + 1) = f.rnd lot st sd t ↔ f.rnd lot st sd t = valsR f.ws lot st f.rows := by
  constructor
  · exact fun e => Fl.fix hf (Fl.rnd_stand hf hs t) e
  · intro e
    show f.come (f.rnd lot st sd t) lot st = _
    rw [e]
    exact Fl.rest hf hs.lot hs.st
theorem Fl.moves_lt {f : Fl} (hf : f.ok) {lot st sd : List Int} (hs : f.stand sd lot st) {t : Nat} (h : f.rnd lot st sd t ≠ valsR f.ws lot st f.rows) : t < f.rows.length := by
  rcases Nat.lt_or_ge t f.rows.length with e | e
  · exact e
  · exact absurd (Fl.rnd_many hf hs e) h
def rndD (f : Fl) (lot st sd : List Int) (T : Nat) : List D := (List.range T).map fun t => PyData.tuple (iL (f.rnd lot st sd (t + 1)))
theorem rndD_succ (f : Fl) (lot st sd : List Int) (T : Nat) : rndD f lot st sd T ++ [.tuple (iL (f.rnd lot st sd (T + 1)))] = rndD f lot st sd (T + 1) := by
  unfold rndD
  rw [List.range_succ, List.map_append]
  rfl
theorem rndD_len (f : Fl) (lot st sd : List Int) (T : Nat) : (rndD f lot st sd T).length = T := by
  unfold rndD
  rw [List.length_map, List.length_range]
def Crw : Con := fun ds Q => ∃ (f : Fl) (sd lot st : List Int), ds = [f.toD, .list (nL f.ws), .tuple (iL sd), .tuple (iL lot), .tuple (iL st)] ∧ f.ok ∧ f.stand sd lot st ∧ ∀ T, f.stops lot st sd T → Q (.nw (.list (rndD f lot st sd T)))
def Crof : Con := fun ds Q => ∃ (f : Fl) (sd lot st : List Int), ds = [f.toD, .tuple (iL sd), .tuple (iL lot), .tuple (iL st)] ∧ f.ok ∧ f.stand sd lot st ∧ ∀ T, f.stops lot st sd T → Q (.nw (.list (rndD f lot st sd T)))
def Clev : Con := fun ds Q => ∃ f : Fl, ds = [f.toD] ∧ f.ok ∧ Q (.nw (.list (nL (lvR f.rows))))
/-- two tuples of ints alike -/
theorem iL_inj {a b : List Int} (h : iL a = iL b) : a = b := by
  induction a generalizing b with
  | nil =>
    cases b with
    | nil => rfl
    | cons y b => cases h
  | cons x a ih =>
    cases b with
    | nil => cases h
    | cons y b =>
      have h1 : PyData.int x = .int y ∧ iL a = iL b := by
        have : PyData.int x :: iL a = PyData.int y :: iL b := h
        injection this with h1 h2
        exact ⟨h1, h2⟩
      obtain ⟨h1, h2⟩ := h1
      cases h1
      rw [ih h2]
theorem eqvAll_dec (a b : List Int) : PyData.eqvAll (iL a) (iL b) = decide (a = b) := by
  induction a generalizing b with
  | nil =>
    cases b with
    | nil => simp [iL, PyData.eqvAll]
    | cons y b => simp [iL, PyData.eqvAll]
  | cons x a ih =>
    cases b with
    | nil => simp [iL, PyData.eqvAll]
    | cons y b =>
      have e1 : iL (x :: a) = .int x :: iL a := rfl
      have e2 : iL (y :: b) = .int y :: iL b := rfl
      rw [e1, e2]
      simp only [PyData.eqvAll, ih, eqv_int]
      by_cases h : x = y
      · by_cases h2 : a = b
        · simp [h, h2]
        · simp [h, h2]
      · simp [h]
theorem eqv_tup (a b : List Int) : PyData.eqv (.tuple (iL a)) (.tuple (iL b)) = decide (a = b) := by
  simp only [PyData.eqv, eqvAll_dec]
theorem eqv_lst (a b : List Int) : PyData.eqv (.list (iL a)) (.list (iL b)) = decide (a = b) := by
  simp only [PyData.eqv, eqvAll_dec]
end DL

set_option Elab.async false
set_option linter.all false
set_option maxRecDepth 100000
set_option maxHeartbeats 4000000
set_option autoImplicit false
namespace DL
open PySem L2
/-! ### levels, as lists of data -/
def lvF (ls : List Nat) : D → D
  | .int i => .int (((ls.getD i.toNat 0 : Nat) : Int) + 1)
  | _ => .none
theorem map_lvF (ls ms : List Nat) : (nL ms).map (lvF ls) = nL (ms.map fun a => ls.getD a 0 + 1) := by
  show (ms.map nI).map (lvF ls) = (ms.map fun a => ls.getD a 0 + 1).map nI
  rw [List.map_map, List.map_map]
  apply List.map_congr_left
  intro a _
  show PyData.int (((ls.getD (((a : Nat) : Int)).toNat 0 : Nat) : Int) + 1) = PyData.int (((ls.getD a 0 + 1 : Nat)) : Int)
  rw [Int.toNat_natCast, Int.natCast_add]
  rfl
theorem max_nat {xs : List Nat} {m : Int} (hm : m ∈ (0 :: xs).map fun n : Nat => (n : Int)) (hle : ∀ y ∈ (0 :: xs).map fun n : Nat => (n : Int), y ≤ m) : m = ((xs.foldl max 0 : Nat) : Int) := by
  obtain ⟨n, hn, rfl⟩ := List.mem_map.mp hm
  have h1 : n ≤ xs.foldl max 0 := by
    rcases List.mem_cons.mp hn with rfl | hn
    · exact Nat.zero_le _
    · exact (foldl_max_ge xs 0).2 n hn
  have h2 : xs.foldl max 0 ≤ n := foldl_max_le xs 0 n (Nat.zero_le _) fun x hx => by
    have := hle (x : Int) (List.mem_map.mpr ⟨x, List.mem_cons_of_mem _ hx, rfl⟩)
    omega
  omega
theorem levK {xs : List Nat} {P : Int → Prop} (q : P ((xs.foldl max 0 : Nat) : Int)) : wN (intsOf ([PyData.int 0] ++ nL xs)) fun ns => 0 < ns.length ∧ ∀ m, m ∈ ns → (∀ y ∈ ns, y ≤ m) → P m := by
  have e : [PyData.int 0] ++ nL xs = ((0 :: xs).map fun n : Nat => (n : Int)).map PyData.int := by
    rw [List.map_map]
    rfl
  rw [e, intsOf_map]
  refine ⟨by simp, fun m hm hle => ?_⟩
  rw [max_nat hm hle]
  exact q
theorem lvR_at {rows : List Row} {i a : Nat} (hi : i ≤ rows.length) (ha : a < i) : (lvR (rows.take i))[a]? = some ((lvR (rows.take i)).getD a 0) := by
  have h := lvR_len rows i hi
  rw [List.getD_eq_getElem?_getD, List.getElem?_eq_getElem (by omega)]
  rfl
theorem lvR_take {rows : List Row} {i : Nat} (hi : i < rows.length) : nL (lvR (rows.take (i + 1))) = nL (lvR (rows.take i)) ++ [.int ((lvl1 (lvR (rows.take i)) rows[i] : Nat) : Int)] := by
  rw [lvR_succ _ i hi, nL_snoc]
end DL

set_option Elab.async false
set_option linter.all false
set_option maxRecDepth 100000
set_option maxHeartbeats 4000000
set_option autoImplicit false
namespace DL
open PySem L2
/-! ### repr of long lists of tuples -/
theorem bulk_ints (vs : List Int) : PyData.bulkAll (iL vs) ≤ 2 * vs.length := by
  induction vs with
  | nil => simp [iL, PyData.bulkAll]
  | cons x vs ih =>
    have e : iL (x :: vs) = .int x :: iL vs := rfl
    rw [e]
    simp only [PyData.bulkAll, PyData.bulk, List.length_cons]
    omega
theorem rounds_repr {vss : List (List Int)} {n : Nat} (h : ∀ vs ∈ vss, vs.length ≤ n ∧ ∀ v ∈ vs, rng 64 v) (hl : vss.length ≤ 1000) (hn : n ≤ 250) : reprOkP (.list (vss.map fun vs => PyData.tuple (iL vs))) := by
  have hs : ∀ v : Int, rng 64 v → small v := fun v hv => Nat.lt_of_lt_of_le (sml (Nat.le_refl 64) hv) (by decide)
  have key : PyData.showableAll (vss.map fun vs => PyData.tuple (iL vs)) = true ∧ PyData.leavesShortAll 25 (vss.map fun vs => PyData.tuple (iL vs)) = true ∧ PyData.bulkAll (vss.map fun vs => PyData.tuple (iL vs)) ≤ (2 * n + 2) * vss.length ∧ PyData.depthAll (vss.map fun vs => PyData.tuple (iL vs)) ≤ 10 ∧ PyData.hasDictAll (vss.map fun vs => PyData.tuple (iL vs)) = false := by
    clear hl
    induction vss with
    | nil => simp [PyData.showableAll, PyData.leavesShortAll, PyData.bulkAll, PyData.depthAll, PyData.hasDictAll]
    | cons vs vss ih =>
      obtain ⟨i1, i2, i3, i4, i5⟩ := ih fun v hv => h v (List.mem_cons_of_mem _ hv)
      obtain ⟨hvl, hv⟩ := h vs List.mem_cons_self
      obtain ⟨j1, j2, j3, j4, j5⟩ := small_ints (ns := vs) fun v hv2 => hs v (hv v hv2)
      have j6 := bulk_ints vs
      have e : iL vs = vs.map PyData.int := rfl
      rw [List.map_cons]
      refine ⟨?_, ?_, ?_, ?_, ?_⟩
      · simp only [PyData.showableAll, PyData.showable, e, j1, i1, Bool.and_self]
      · simp only [PyData.leavesShortAll, PyData.leavesShort, e, j2, i2, Bool.and_self]
      · simp only [PyData.bulkAll, PyData.bulk, List.length_cons]
        rw [Nat.mul_add]
        omega
      · simp only [PyData.depthAll, PyData.depth, e]
        omega
      · simp only [PyData.hasDictAll, PyData.hasDict, e, j5, i5, Bool.or_self]
  obtain ⟨k1, k2, k3, k4, k5⟩ := key
  refine ⟨by simp only [PyData.showable]; exact k1, .inl (by simp only [PyData.hasDict]; exact k5), by simp only [PyData.depth]; omega, ?_⟩
  have := PyData.shown_le_bulk 25 (by decide) (.list (vss.map fun vs => PyData.tuple (iL vs))) (by simp only [PyData.leavesShort]; exact k2)
  simp only [PyData.bulk] at this
  rw [sizeLine_eq]
  have h2 : (2 * n + 2) * vss.length ≤ 502 * 1000 := Nat.mul_le_mul (by omega) hl
  omega
end DL

set_option Elab.async false
set_option linter.all false
set_option maxRecDepth 100000
set_option maxHeartbeats 4000000
set_option autoImplicit false
namespace DL
open PySem L2
/-- the greatest of some levels -/
theorem maxK {ls : List Nat} {P : Int → Prop} (hne : 0 < ls.length) (q : ∀ m : Nat, (∀ i, i < ls.length → ls.getD i 0 ≤ m) → P (m : Int)) : wN (intsOf (nL ls)) fun ns => 0 < ns.length ∧ ∀ m, m ∈ ns → (∀ y ∈ ns, y ≤ m) → P m := by
  have e : nL ls = (ls.map fun n : Nat => (n : Int)).map PyData.int := nL_iL ls
  rw [e, intsOf_map]
  refine ⟨by rw [List.length_map]; exact hne, fun m hm hle => ?_⟩
  obtain ⟨n, hn, rfl⟩ := List.mem_map.mp hm
  refine q n fun i hi => ?_
  have h := hle ((ls.getD i 0 : Nat) : Int) (List.mem_map.mpr ⟨ls.getD i 0, ?_, rfl⟩)
  · omega
  · rw [List.getD_eq_getElem?_getD, List.getElem?_eq_getElem hi]
    exact List.getElem_mem hi
theorem eqvAll_rnd (f : Fl) (lot st sd : List Int) (T : Nat) : PyData.eqvAll (rndD f lot st sd T) (rndD f lot st sd T) = true := by
  unfold rndD
  generalize List.range T = l
  induction l with
  | nil => simp [PyData.eqvAll]
  | cons t l ih =>
    rw [List.map_cons]
    simp only [PyData.eqvAll, eqv_tupI, ih, Bool.and_self]
theorem eqv_rnd (f : Fl) (lot st sd : List Int) (T : Nat) : PyData.eqv (.list (rndD f lot st sd T)) (.list (rndD f lot st sd T)) = true := by
  simp only [PyData.eqv, eqvAll_rnd]
theorem SH.rnd (f : Fl) (lot st sd : List Int) (T : Nat) : SH 2 (.list (rndD f lot st sd T)) := .list (.all fun d hd => by
  obtain ⟨t, _, rfl⟩ := List.mem_map.mp hd
  exact .tuple (.ints _))
theorem rnd_repr {f : Fl} (hf : f.ok) {lot st sd : List Int} (h : f.stand sd lot st) {T : Nat} (hT : T ≤ 1000) (hn : f.rows.length ≤ 250) : reprOkP (.list (rndD f lot st sd T)) := by
  have e : rndD f lot st sd T = ((List.range T).map fun t => f.rnd lot st sd (t + 1)).map fun vs => PyData.tuple (iL vs) := by
    unfold rndD
    rw [List.map_map]
    rfl
  rw [e]
  refine rounds_repr (n := 250) (fun vs hv => ?_) (by rw [List.length_map, List.length_range]; exact hT) (Nat.le_refl _)
  obtain ⟨t, _, rfl⟩ := List.mem_map.mp hv
  exact ⟨by rw [Fl.rnd_len hf h]; exact hn, (Fl.rnd_stand hf h (t + 1)).sd.all hf.rows.ok⟩
theorem rnd_at {f : Fl} {lot st sd : List Int} {T i : Nat} (h : i < T) : L2.atI (rndD f lot st sd T) (i : Int) = some (.tuple (iL (f.rnd lot st sd (i + 1)))) := atI_n (by
  unfold rndD
  rw [List.getElem?_map, List.getElem?_range h]
  rfl)
theorem lv_ok {f : Fl} (hf : f.ok) (hn : f.rows.length ≤ 1000) : reprOkP (.list (nL (lvR f.rows))) := by
  have hl := lvR_len f.rows f.rows.length (Nat.le_refl _)
  rw [List.take_length] at hl
  refine nOkL (fun n h => ?_) (by omega)
  obtain ⟨i, hi, rfl⟩ := List.mem_iff_getElem.mp h
  have := lv_le hf i (by omega)
  rw [List.getD_eq_getElem?_getD, List.getElem?_eq_getElem hi] at this
  show (lvR f.rows)[i] < 100000
  have h2 : (lvR f.rows)[i] ≤ i := this
  omega
theorem eqv_nLs (a : List Nat) : PyData.eqv (.list (nL a)) (.list (nL a)) = true := by rw [nL_iL, eqv_lst]; simp
theorem stopsD {f : Fl} {lot st sd : List Int} {T : Nat} (h1 : f.rnd lot st sd T = valsR f.ws lot st f.rows) (h2 : (List.range T).all (fun t => !decide (f.rnd lot st sd t = valsR f.ws lot st f.rows)) = true) : f.stops lot st sd T := by
  refine ⟨h1, fun t ht e => ?_⟩
  have := List.all_eq_true.mp h2 t (List.mem_range.mpr ht)
  rw [decide_eq_true e] at this
  cases this
theorem ex1 : fEx.stops [1] [6] [0, 0, 0, 0, 0] 3 := stopsD (by decide +kernel) (by decide +kernel)
theorem ex2 : fEx.stops [0] [7] [1, 6, 0, 1, 7] 3 := stopsD (by decide +kernel) (by decide +kernel)
theorem ex1D : rndD fEx [1] [6] [0, 0, 0, 0, 0] 3 = [.tuple (iL [1, 6, 0, 0, 0]), .tuple (iL [1, 6, 0, 1, 6]), .tuple (iL [1, 6, 0, 1, 7])] := by
  have e : (List.range 3).map (fun t => fEx.rnd [1] [6] [0, 0, 0, 0, 0] (t + 1)) = [[1, 6, 0, 0, 0], [1, 6, 0, 1, 6], [1, 6, 0, 1, 7]] := by decide +kernel
  have := congrArg (List.map fun vs => PyData.tuple (iL vs)) e
  rw [List.map_map] at this
  exact this
theorem ex2D : rndD fEx [0] [7] [1, 6, 0, 1, 7] 3 = [.tuple (iL [0, 7, 0, 1, 7]), .tuple (iL [0, 7, 0, 0, 0]), .tuple (iL [0, 7, 0, 0, 7])] := by
  have e : (List.range 3).map (fun t => fEx.rnd [0] [7] [1, 6, 0, 1, 7] (t + 1)) = [[0, 7, 0, 1, 7], [0, 7, 0, 0, 0], [0, 7, 0, 0, 7]] := by decide +kernel
  have := congrArg (List.map fun vs => PyData.tuple (iL vs)) e
  rw [List.map_map] at this
  exact this
theorem exL : lvR fEx.rows = [0, 0, 0, 1, 2] := by decide +kernel
end DL

set_option Elab.async false
set_option linter.all false
set_option maxRecDepth 100000
set_option maxHeartbeats 4000000
set_option autoImplicit false
namespace DL
open PySem L2
/-! ### changes, clock by clock -/
/-- outs and registers stand for rows -/
structure Fl.good (f : Fl) : Prop where
  outs : ∀ p ∈ f.outs, p.2 < f.rows.length
  regs : ∀ p ∈ f.regs, rng p.2.1 p.2.2.1 ∧ f.ws[p.2.2.2]? = some p.2.1
  few : f.outs.length ≤ 100
theorem Fl.fine.good {f : Fl} (h : f.fine) : f.good := ⟨h.outs, h.regs, by have := h.o3; omega⟩
/-- the registers behind a clock -/
def Fl.nxt (f : Fl) (vs : List Int) : List Int := f.regs.map fun p => vs.getD p.2.2.2 0
def Fl.tell (f : Fl) (vs : List Int) : List Int := f.outs.map fun p => vs.getD p.2 0
def Fl.begin (f : Fl) : List Int := f.regs.map fun p => p.2.2.1
theorem Fl.begin_ok {f : Fl} (h : f.good) : vOk f.rw f.begin := by
  refine ⟨by unfold Fl.begin Fl.rw; rw [List.length_map, List.length_map], fun k v w h1 h2 => ?_⟩
  unfold Fl.begin at h1
  unfold Fl.rw at h2
  rw [List.getElem?_map] at h1 h2
  cases e : f.regs[k]? with
  | none => rw [e] at h1; cases h1
  | some p =>
    rw [e] at h1 h2
    cases h1
    cases h2
    exact (h.regs p (List.mem_of_getElem? e)).1
theorem Fl.nxt_ok {f : Fl} (h : f.good) {vs : List Int} (hv : vOk f.ws vs) : vOk f.rw (f.nxt vs) := by
  refine ⟨by unfold Fl.nxt Fl.rw; rw [List.length_map, List.length_map], fun k v w h1 h2 => ?_⟩
  unfold Fl.nxt at h1
  unfold Fl.rw at h2
  rw [List.getElem?_map] at h1 h2
  cases e : f.regs[k]? with
  | none => rw [e] at h1; cases h1
  | some p =>
    rw [e] at h1 h2
    cases h1
    cases h2
    obtain ⟨x, hx, hr⟩ := hv.at (h.regs p (List.mem_of_getElem? e)).2
    show rng p.2.1 (vs.getD p.2.2.2 0)
    rw [getV hx]
    exact hr
/-- how many rounds there are up to rest -/
def Fl.stT (f : Fl) (lot st sd : List Int) : Nat := ((List.range (f.rows.length + 1)).find? fun t => decide (f.rnd lot st sd t = valsR f.ws lot st f.rows)).getD 0
theorem Fl.stT_ok {f : Fl} (hf : f.ok) {lot st sd : List Int} (h : f.stand sd lot st) {T : Nat} (hT : f.stops lot st sd T) : f.stT lot st sd = T := by
  have hle : T ≤ f.rows.length := hT.le hf h fun i hi => by have := lv_le hf i hi; omega
  unfold Fl.stT
  have e : (List.range (f.rows.length + 1)).find? (fun t => decide (f.rnd lot st sd t = valsR f.ws lot st f.rows)) = some T := by
    rw [List.find?_range_eq_some]
    refine ⟨decide_eq_true hT.rest, List.mem_range.mpr (by omega), fun j hj => ?_⟩
    simpa using hT.ahead j hj
  rw [e]
  rfl
def Fl.cost (f : Fl) (lot st sd : List Int) (T : Nat) : Nat := ((List.range T).map fun t => (unl (f.rnd lot st sd t) (f.rnd lot st sd (t + 1))).length).sum
theorem Fl.cost_succ (f : Fl) (lot st sd : List Int) (T : Nat) : f.cost lot st sd (T + 1) = f.cost lot st sd T + (unl (f.rnd lot st sd T) (f.rnd lot st sd (T + 1))).length := by
  unfold Fl.cost
  rw [List.range_succ, List.map_append, List.sum_append]
  simp
/-- the run: registers, standing, changes -/
structure ChS where
  st : List Int
  sd : List Int
  found : List Nat
def Fl.chStep (f : Fl) (c : ChS) (lot : List Int) : ChS := ⟨f.nxt (valsR f.ws lot c.st f.rows), valsR f.ws lot c.st f.rows, c.found ++ [f.cost lot c.st c.sd (f.stT lot c.st c.sd)]⟩
def Fl.ch (f : Fl) (lots : List (List Int)) : ChS := lots.foldl f.chStep ⟨f.begin, List.replicate f.ws.length 0, []⟩
theorem Fl.ch_succ (f : Fl) (lots : List (List Int)) (i : Nat) (h : i < lots.length) : f.ch (lots.take (i + 1)) = f.chStep (f.ch (lots.take i)) lots[i] := by
  unfold Fl.ch
  rw [List.take_succ, List.getElem?_eq_getElem h]
  show List.foldl _ _ (_ ++ [_]) = _
  rw [List.foldl_append]
  rfl
theorem Fl.ch_ok {f : Fl} (hf : f.ok) (hx : f.good) {lots : List (List Int)} (hl : ∀ l ∈ lots, vOk f.iw l) : ∀ i, i ≤ lots.length → vOk f.rw (f.ch (lots.take i)).st ∧ vOk f.ws (f.ch (lots.take i)).sd ∧ (f.ch (lots.take i)).found.length = i := by
  intro i
  induction i with
  | zero => intro _; exact ⟨Fl.begin_ok hx, vOk.zero _, rfl⟩
  | succ i ih =>
    intro hi
    obtain ⟨h1, h2, h3⟩ := ih (by omega)
    rw [Fl.ch_succ f lots i (by omega)]
    have hV := Fl.rest_stand hf (hl _ (List.getElem_mem (show i < lots.length by omega))) h1
    exact ⟨Fl.nxt_ok hx hV.sd, hV.sd, by show (_ ++ [_]).length = _; rw [List.length_append, h3]; rfl⟩
end DL

set_option Elab.async false
set_option linter.all false
set_option maxRecDepth 100000
set_option maxHeartbeats 4000000
set_option autoImplicit false
namespace DL
open PySem L2
def lotT (l : List Int) : D := .tuple (iL l)
def Cstart : Con := fun ds Q => ∃ f : Fl, ds = [f.toD] ∧ f.ok ∧ Q (.fz (.tuple (iL f.begin)))
def Ctold : Con := fun ds Q => ∃ (f : Fl) (vs : List Int) (d : D), ds = [f.toD, d] ∧ seqD d (iL vs) ∧ f.ok ∧ f.good ∧ vs.length = f.rows.length ∧ Q (.fz (.tuple [.tuple (iL (f.tell vs)), .tuple (iL (f.nxt vs))]))
structure FLots (f : Fl) (lots : List (List Int)) : Prop where
  ok : ∀ l ∈ lots, vOk f.iw l
  le : lots.length ≤ 1000
def Cchg : Con := fun ds Q => ∃ (f : Fl) (lots : List (List Int)) (d : D), ds = [f.toD, d] ∧ seqD d (lots.map lotT) ∧ f.ok ∧ f.good ∧ (2 ≤ f.rows.length ∧ f.rows.length ≤ 1000) ∧ FLots f lots ∧ Q (.nw (.list (nL (f.ch lots).found)))
theorem begin_map (f : Fl) : (f.regs.map regD).map (fun d => match d with | .tuple [_, _, .int v, _] => .int v | _ => .none) = iL f.begin := by
  unfold Fl.begin iL
  rw [List.map_map, List.map_map]
  rfl
theorem Fl.good.next_lt {f : Fl} (h : f.good) {p : Str × Nat × Int × Nat} (hp : p ∈ f.regs) : p.2.2.2 < f.ws.length := (List.getElem?_eq_some_iff.mp (h.regs p hp).2).1
end DL

set_option Elab.async false
set_option linter.all false
set_option maxRecDepth 100000
set_option maxHeartbeats 4000000
set_option autoImplicit false
namespace DL
open PySem L2
def tellF (vs : List Int) : D → D
  | .tuple [_, .int k] => .int (vs.getD k.toNat 0)
  | _ => .none
def nxtF (vs : List Int) : D → D
  | .tuple [_, _, _, .int k] => .int (vs.getD k.toNat 0)
  | _ => .none
theorem tell_map (f : Fl) (vs : List Int) : (f.outs.map inD).map (tellF vs) = iL (f.tell vs) := by
  unfold Fl.tell iL
  rw [List.map_map, List.map_map]
  rfl
theorem nxt_map (f : Fl) (vs : List Int) : (f.regs.map regD).map (nxtF vs) = iL (f.nxt vs) := by
  unfold Fl.nxt iL
  rw [List.map_map, List.map_map]
  rfl
theorem Fl.cost_le (f : Fl) (lot st sd : List Int) (n : Nat) : ∀ T, (∀ t, t < T → (f.rnd lot st sd t).length ≤ n) → f.cost lot st sd T ≤ T * n := by
  intro T
  induction T with
  | zero => intro _; exact Nat.le_of_eq (by unfold Fl.cost; rw [Nat.zero_mul]; rfl)
  | succ T ih =>
    intro h
    have h1 := ih fun t ht => h t (by omega)
    have h2 : (unl (f.rnd lot st sd T) (f.rnd lot st sd (T + 1))).length ≤ (f.rnd lot st sd T).length := filt_len _ _
    have h3 := h T (by omega)
    rw [Fl.cost_succ, Nat.add_mul]
    omega
theorem Fl.stT_le (f : Fl) (lot st sd : List Int) : f.stT lot st sd ≤ f.rows.length := by
  unfold Fl.stT
  cases e : (List.range (f.rows.length + 1)).find? (fun t => decide (f.rnd lot st sd t = valsR f.ws lot st f.rows)) with
  | none => exact Nat.zero_le _
  | some t =>
    have := List.mem_range.mp (List.mem_of_find?_eq_some e)
    show t ≤ _
    omega
theorem Fl.ch_small {f : Fl} (hf : f.ok) (hx : f.good) (hn : f.rows.length ≤ 300) {lots : List (List Int)} (hl : ∀ l ∈ lots, vOk f.iw l) : ∀ i, i ≤ lots.length → ∀ n ∈ (f.ch (lots.take i)).found, n < 100000 := by
  intro i
  induction i with
  | zero => intro _ n hn; cases hn
  | succ i ih =>
    intro hi n hm
    obtain ⟨h1, h2, h3⟩ := Fl.ch_ok hf hx hl i (by omega)
    rw [Fl.ch_succ f lots i (by omega)] at hm
    have hm : n ∈ (f.ch (lots.take i)).found ++ [f.cost lots[i] (f.ch (lots.take i)).st (f.ch (lots.take i)).sd (f.stT lots[i] (f.ch (lots.take i)).st (f.ch (lots.take i)).sd)] := hm
    rcases List.mem_append.mp hm with hm | hm
    · exact ih (by omega) n hm
    · rw [List.mem_singleton.mp hm]
      have hs : f.stand (f.ch (lots.take i)).sd lots[i] (f.ch (lots.take i)).st := ⟨h2, hl _ (List.getElem_mem _), h1⟩
      have hc := Fl.cost_le f lots[i] (f.ch (lots.take i)).st (f.ch (lots.take i)).sd f.rows.length (f.stT lots[i] (f.ch (lots.take i)).st (f.ch (lots.take i)).sd) fun t _ => Nat.le_of_eq (Fl.rnd_len hf hs t)
      have ht := Fl.stT_le f lots[i] (f.ch (lots.take i)).st (f.ch (lots.take i)).sd
      have := Nat.mul_le_mul (Nat.le_trans ht hn) hn
      omega
theorem Fl.ch_okL {f : Fl} (hf : f.ok) (hx : f.good) (hn : f.rows.length ≤ 300) {lots : List (List Int)} (hl : ∀ l ∈ lots, vOk f.iw l) (hle : lots.length ≤ 1000) : reprOkP (.list (nL (f.ch lots).found)) := by
  have h1 := Fl.ch_small hf hx hn hl lots.length (Nat.le_refl _)
  have h2 := (Fl.ch_ok hf hx hl lots.length (Nat.le_refl _)).2.2
  rw [List.take_length] at h1 h2
  exact nOkL h1 (by omega)
theorem get_lotT {lots : List (List Int)} {i : Nat} {x : D} (h : (lots.map lotT)[i]? = some x) : ∃ (hi : i < lots.length), x = .tuple (iL lots[i]) := by
  rw [List.getElem?_map] at h
  obtain ⟨r, h1, rfl⟩ := Option.map_eq_some_iff.mp h
  obtain ⟨hi, e⟩ := List.getElem?_eq_some_iff.mp h1
  exact ⟨hi, by rw [e]; rfl⟩
theorem get_rndD {f : Fl} {lot st sd : List Int} {T i : Nat} {x : D} (h : (rndD f lot st sd T)[i]? = some x) : i < T ∧ x = .tuple (iL (f.rnd lot st sd (i + 1))) := by
  have hi := (List.getElem?_eq_some_iff.mp h).1
  rw [rndD_len] at hi
  unfold rndD at h
  rw [List.getElem?_map, List.getElem?_range hi] at h
  cases h
  exact ⟨hi, rfl⟩
def startF : D → D
  | .tuple [_, _, .int v, _] => .int v
  | _ => .none
theorem start_map (f : Fl) : (f.regs.map regD).map startF = iL f.begin := by
  unfold Fl.begin iL
  rw [List.map_map, List.map_map]
  rfl
theorem zero_sd (f : Fl) : (List.replicate ((((f.rows.map Row.toD).length : Nat) : Int)).toNat [PyData.int 0]).flatten = iL (List.replicate f.rows.length 0) := by
  rw [Int.toNat_natCast, List.length_map, rep_eq]
theorem cost0 (f : Fl) (lot st sd : List Int) : f.cost lot st sd 0 = 0 := rfl
theorem fEx_fine : fEx.fine := ⟨fun p h => by rw [List.mem_singleton.mp h]; decide, fun p h => by rw [List.mem_singleton.mp h]; exact ⟨⟨by decide, by decide⟩, rfl⟩, by decide, by decide⟩
theorem exCh : (fEx.ch [[1], [0], [0]]).found = [5, 5, 0] := by decide +kernel
theorem cut2 (lots : List (List Int)) : cutD (lots.map lotT) none (some 2) = (lots.take 2).map lotT := by
  rw [show (2 : Int) = ((2 : Nat) : Int) from rfl, cut_to, List.map_take]
end DL

set_option Elab.async false
set_option linter.all false
set_option maxRecDepth 100000
set_option maxHeartbeats 4000000
set_option autoImplicit false
namespace DL
open PySem L2
/-! ### runs, clock by clock -/
structure RunS where
  found : List (List Int)
  ahead : List (List Int)
  st : List Int
def Fl.runStep (f : Fl) (c : RunS) (lot : List Int) : RunS := ⟨c.found ++ [f.tell (valsR f.ws lot c.st f.rows)], c.ahead ++ [f.nxt (valsR f.ws lot c.st f.rows)], f.nxt (valsR f.ws lot c.st f.rows)⟩
def Fl.run (f : Fl) (st : List Int) (lots : List (List Int)) : RunS := lots.foldl f.runStep ⟨[], [st], st⟩
theorem Fl.run_succ (f : Fl) (st : List Int) (lots : List (List Int)) (i : Nat) (h : i < lots.length) : f.run st (lots.take (i + 1)) = f.runStep (f.run st (lots.take i)) lots[i] := by
  unfold Fl.run
  rw [List.take_succ, List.getElem?_eq_getElem h]
  show List.foldl _ _ (_ ++ [_]) = _
  rw [List.foldl_append]
  rfl
theorem Fl.run_ok {f : Fl} (hf : f.ok) (hx : f.good) {st : List Int} (hs : vOk f.rw st) {lots : List (List Int)} (hl : ∀ l ∈ lots, vOk f.iw l) : ∀ i, i ≤ lots.length → vOk f.rw (f.run st (lots.take i)).st ∧ (f.run st (lots.take i)).found.length = i ∧ ∃ ys, ys.length = i ∧ (f.run st (lots.take i)).ahead = ys ++ [(f.run st (lots.take i)).st] := by
  intro i
  induction i with
  | zero => intro _; exact ⟨hs, rfl, [], rfl, rfl⟩
  | succ i ih =>
    intro hi
    obtain ⟨h1, h2, ys, h3, h4⟩ := ih (by omega)
    rw [Fl.run_succ f st lots i (by omega)]
    have hV := Fl.rest_stand hf (hl _ (List.getElem_mem (show i < lots.length by omega))) h1
    refine ⟨Fl.nxt_ok hx hV.sd, by show (_ ++ [_]).length = _; rw [List.length_append, h2]; rfl, (f.run st (lots.take i)).ahead, ?_, rfl⟩
    rw [h4, List.length_append, h3]
    rfl
theorem Fl.run_found_len {f : Fl} (hf : f.ok) (hx : f.good) {st : List Int} (hs : vOk f.rw st) {lots : List (List Int)} (hl : ∀ l ∈ lots, vOk f.iw l) : (f.run st lots).found.length = lots.length := by
  have h := (Fl.run_ok hf hx hs hl lots.length (Nat.le_refl _)).2.1
  rwa [List.take_length] at h
def runD (c : RunS) : D := .tuple [.list (c.found.map lotT), .tuple (iL c.st)]
def runL (c : RunS) : D := .tuple [.list (c.found.map lotT), .list (c.ahead.map lotT)]
def Crunf : Con := fun ds Q => ∃ (f : Fl) (st : List Int) (lots : List (List Int)) (d : D), ds = [f.toD, .tuple (iL st), d] ∧ seqD d (lots.map lotT) ∧ f.ok ∧ f.good ∧ vOk f.rw st ∧ FLots f lots ∧ Q (.fz (runD (f.run st lots)))
def Coutp : Con := fun ds Q => ∃ (f : Fl) (lots : List (List Int)) (d : D), ds = [f.toD, d] ∧ seqD d (lots.map lotT) ∧ f.ok ∧ f.good ∧ FLots f lots ∧ Q (.fz (.list ((f.run f.begin lots).found.map lotT)))
def Clrun : Con := fun ds Q => ∃ (f : Fl) (lots : List (List Int)), ds = [f.toD, .list (lots.map lotT)] ∧ f.ok ∧ f.good ∧ FLots f lots ∧ Q (.fz (runL (f.run f.begin lots)))
/-- the first place at which two lists are unlike -/
def fuN (a b : List (List Int)) (n : Nat) : Option Nat := (List.range n).find? fun k => !decide (a.getD k [] = b.getD k [])
def onD : Option Nat → D
  | none => .none
  | some k => .int (k : Int)
def Cfirst : Con := fun ds Q => ∃ (f g : Fl) (lots : List (List Int)) (d : D), ds = [f.toD, g.toD, d] ∧ seqD d (lots.map lotT) ∧ f.ok ∧ f.good ∧ g.ok ∧ g.good ∧ FLots f lots ∧ FLots g lots ∧ Q (.fz (onD (fuN (f.run f.begin lots).found (g.run g.begin lots).found lots.length)))
theorem fu_none {a b : List (List Int)} {n : Nat} (h : ∀ j, j < n → a.getD j [] = b.getD j []) : fuN a b n = none := by
  unfold fuN
  rw [List.find?_eq_none]
  intro k hk
  simpa using h k (List.mem_range.mp hk)
theorem fu_some {a b : List (List Int)} {n i : Nat} (hi : i < n) (h : ∀ j, j < i → a.getD j [] = b.getD j []) (hn : a.getD i [] ≠ b.getD i []) : fuN a b n = some i := by
  unfold fuN
  rw [List.find?_range_eq_some]
  exact ⟨by simpa using hn, List.mem_range.mpr hi, fun j hj => by simpa using h j hj⟩
theorem fu_comm (a b : List (List Int)) (n : Nat) : fuN a b n = fuN b a n := by
  unfold fuN
  congr 1
  funext k
  congr 1
  exact decide_eq_decide.mpr ⟨Eq.symm, Eq.symm⟩
theorem atL {xs : List (List Int)} {k : Nat} (h : k < xs.length) : L2.atI (xs.map lotT) (k : Int) = some (.tuple (iL (xs.getD k []))) := atI_n (by
  rw [List.getElem?_map, List.getElem?_eq_getElem h, List.getD_eq_getElem?_getD, List.getElem?_eq_getElem h]
  rfl)
theorem at_back {xs : List D} {x : D} : L2.atI (xs ++ [x]) (-1) = some x := by
  unfold L2.atI ixN
  rw [if_neg (by omega), if_pos (by rw [List.length_append]; simp; omega)]
  show (xs ++ [x])[_]? = _
  rw [show ((-1 : Int) + ((xs ++ [x]).length : Int)).toNat = xs.length by rw [List.length_append]; simp; omega, List.getElem?_append_right (Nat.le_refl _), Nat.sub_self]
  rfl
theorem ne_tupI (a b : List Int) : (true != PyData.eqv (.tuple (iL a)) (.tuple (iL b))) = !decide (a = b) := by rw [eqv_tup, bne_true]
theorem fil_head (p : Nat → Bool) (n : Nat) : L2.atI (nL ((List.range n).filter p) ++ [PyData.none]) 0 = some (onD ((List.range n).find? p)) := by
  rw [← List.head?_filter]
  cases (List.range n).filter p with
  | nil => rfl
  | cons a l => exact atI0
theorem lotT_snoc (a : List (List Int)) (v : List Int) : a.map lotT ++ [.tuple (iL v)] = (a ++ [v]).map lotT := by
  rw [List.map_append]
  rfl
/-! ### the design with something otherwise -/
/-- names are right texts -/
def Fl.named (f : Fl) : Prop := (∀ p ∈ f.outs, PyData.strOk p.1 = true) ∧ ∀ p ∈ f.regs, PyData.strOk p.1 = true
theorem strOk_app {a b : Str} (h1 : PyData.strOk a = true) (h2 : PyData.strOk b = true) : PyData.strOk (a ++ b) = true := by
  unfold PyData.strOk at h1 h2 ⊢
  show (a.cps ++ b.cps).all _ = true
  rw [Array.all_append, h1, h2]
  rfl
theorem nx_named {rs : List (Str × Nat × Int)} {gs : List (Str × Nat × Int × Nat)} {ws : List Nat} (hn : Nx rs gs ws rs.length) (h : ∀ p ∈ rs, PyData.strOk p.1 = true) : ∀ g ∈ gs, PyData.strOk g.1 = true := fun g hg => by
  have e : gs.map rg3 = rs := by rw [hn.eq, List.take_length]
  exact h (rg3 g) (by rw [← e]; exact List.mem_map_of_mem hg)
def Cnam3 : Con := fun ds Q => ∃ (n : Nat) (l : Str), ds = [.none, .int (n : Int), .str l] ∧ n ≤ 12 ∧ l.length ≤ 100 ∧ PyData.strOk l = true ∧ ∀ ss : List Str, ss.length = n → (∀ s ∈ ss, PyData.strOk s = true) → Q (.nw (.list (ss.map PyData.str)))
def Cflat4 : Con := fun ds Q => ∃ many wide most : Nat, ds = [.none, .int (many : Int), .int (wide : Int), .int (most : Int)] ∧ many ≤ 100 ∧ (1 ≤ wide ∧ wide ≤ 32) ∧ most ≤ 5 ∧ ∀ f : Fl, f.ok → f.fine → f.ins.length ≤ most → f.regs.length ≤ most → f.rows.length ≤ 7 * many + 6 * most + 1 → many ≤ f.rows.length → f.named → Q (.fz f.toD)
structure Nr (f g : Fl) : Prop where
  ok : g.ok
  good : g.good
  named : g.named
  ins : g.ins = f.ins
  rows : g.rows.length = f.rows.length
  outs : g.outs.length ≤ f.outs.length + 1
def Cnear : Con := fun ds Q => ∃ f : Fl, ds = [.none, f.toD] ∧ f.ok ∧ f.good ∧ f.named ∧ (1 ≤ f.rows.length ∧ f.rows.length ≤ 1000) ∧ f.outs.length ≤ 50 ∧ ∀ g : Fl, Nr f g → Q (.fz g.toD)
theorem Nr.iw {f g : Fl} (h : Nr f g) : g.iw = f.iw := by unfold Fl.iw; rw [h.ins]
theorem cutD_set {xs : List D} {k : Nat} {y : D} (hk : k < xs.length) : (cutD xs none (some (k : Int)) ++ [y]) ++ cutD xs (some ((k : Int) + 1)) none = xs.set k y := by
  rw [cut_to, show ((k : Int) + 1) = ((k + 1 : Nat) : Int) by omega, cutD_drop, List.set_eq_take_append_cons_drop, if_pos hk]
  simp
theorem cutD_init (xs : List D) : cutD xs none (some (-1)) = xs.dropLast := by
  unfold cutD
  rw [HT.sIx_none, List.dropLast_eq_take]
  cases xs with
  | nil => rfl
  | cons x xs =>
    have e : HT.sIx (x :: xs).length (x :: xs).length (some (-1)) = xs.length := by
      simp [HT.sIx]
      omega
    rw [e]
    simp
/-- outs otherwise -/
theorem Nr.outs' {f : Fl} (hf : f.ok) (hx : f.good) (hm : f.named) {os : List (Str × Nat)} (h : ∀ p ∈ os, p.2 < f.rows.length ∧ PyData.strOk p.1 = true) (hl : os.length ≤ f.outs.length + 1) (hn : f.outs.length ≤ 50) : Nr f ⟨f.ins, os, f.regs, f.rows, f.ws⟩ :=
  ⟨⟨hf.rows, hf.rl, hf.il, hf.gl, hf.iw, hf.rw⟩, ⟨fun p hp => (h p hp).1, hx.regs, by show os.length ≤ 100; omega⟩, ⟨fun p hp => (h p hp).2, hm.2⟩, rfl, rfl, hl⟩
/-- a register otherwise -/
theorem Nr.reg {f : Fl} (hf : f.ok) (hx : f.good) (hm : f.named) {k : Nat} (hk : k < f.regs.length) {p : Str × Nat × Int × Nat} (hnm : p.1 = (f.regs[k]).1) (hw : p.2.1 = (f.regs[k]).2.1) (hv : rng p.2.1 p.2.2.1) (ha : f.ws[p.2.2.2]? = some p.2.1) : Nr f ⟨f.ins, f.outs, f.regs.set k p, f.rows, f.ws⟩ := by
  have erw : (f.regs.set k p).map (·.2.1) = f.regs.map (·.2.1) := by
    rw [List.map_set]
    apply List.ext_getElem?
    intro i
    rw [List.getElem?_set]
    by_cases e : k = i
    · subst e
      rw [if_pos rfl, if_pos (by rw [List.length_map]; exact hk), List.getElem?_map, List.getElem?_eq_getElem hk]
      show some p.2.1 = some (f.regs[k]).2.1
      rw [hw]
    · rw [if_neg e]
  have hmem : ∀ q ∈ f.regs.set k p, q = p ∨ q ∈ f.regs := fun q hq => by
    rcases List.mem_or_eq_of_mem_set hq with h | h
    · exact .inr h
    · exact .inl h
  refine ⟨⟨?_, hf.rl, hf.il, by show (f.regs.set k p).length ≤ _; rw [List.length_set]; exact hf.gl, hf.iw, fun q hq => ?_⟩, ⟨hx.outs, fun q hq => ?_, hx.few⟩, ⟨hm.1, fun q hq => ?_⟩, rfl, rfl, Nat.le_succ _⟩
  · show Rows _ ((f.regs.set k p).map (·.2.1)) _ _
    rw [erw]
    exact hf.rows
  · rcases hmem q hq with rfl | h
    · rw [hw]
      exact hf.rw _ (List.getElem_mem hk)
    · exact hf.rw q h
  · rcases hmem q hq with rfl | h
    · exact ⟨hv, ha⟩
    · exact hx.regs q h
  · rcases hmem q hq with rfl | h
    · rw [hnm]
      exact hm.2 _ (List.getElem_mem hk)
    · exact hm.2 q h
/-- a row otherwise, of the same width -/
theorem Rows.set {ins regs ws : List Nat} {rs : List Row} (h : Rows ins regs rs ws) : ∀ {k : Nat} {r : Row}, (hk : k < rs.length) → (∀ ws' w, RowOk ins regs ws' rs[k] w → RowOk ins regs ws' r w) → Rows ins regs (rs.set k r) ws := by
  induction h with
  | nil => intro k r hk; simp at hk
  | @snoc rs ws r0 w h ho hw ih =>
    intro k r hk hr
    have hl := h.len
    rcases Nat.lt_or_ge k rs.length with h1 | h1
    · rw [List.set_append_left _ _ h1]
      refine .snoc (ih h1 fun ws' w' h2 => hr ws' w' ?_) ho hw
      rw [List.getElem_append_left h1]
      exact h2
    · have e : k = rs.length := by simp at hk; omega
      subst e
      rw [List.set_append_right _ _ (Nat.le_refl _), Nat.sub_self]
      refine .snoc h (hr _ _ ?_) hw
      rw [List.getElem_append_right (Nat.le_refl _)]
      simpa using ho
theorem Nr.row {f : Fl} (hf : f.ok) (hx : f.good) (hm : f.named) {k : Nat} (hk : k < f.rows.length) {r : Row} (hr : ∀ ws' w, RowOk f.iw f.rw ws' f.rows[k] w → RowOk f.iw f.rw ws' r w) : Nr f ⟨f.ins, f.outs, f.regs, f.rows.set k r, f.ws⟩ :=
  ⟨⟨hf.rows.set hk hr, by show (f.rows.set k r).length ≤ _; rw [List.length_set]; exact hf.rl, hf.il, hf.gl, hf.iw, hf.rw⟩, ⟨fun p hp => by show p.2 < (f.rows.set k r).length; rw [List.length_set]; exact hx.outs p hp, hx.regs, hx.few⟩, hm, rfl, List.length_set .., Nat.le_succ _⟩
/-- and, or, xor, add, sub: the next word -/
def Row.chg : Row → Row
  | .bin .and a b => .bin .or a b
  | .bin .or a b => .bin .xor a b
  | .bin .xor a b => .bin .add a b
  | .bin .add a b => .bin .sub a b
  | .bin .sub a b => .bin .mul a b
  | .bin .eq a b => .bin .lt a b
  | .un .all a => .un .any a
  | r => r
theorem Row.chg_ok {ins regs ws : List Nat} {r : Row} {w : Nat} (h : RowOk ins regs ws r w) : RowOk ins regs ws r.chg w := by
  cases r with
  | bin o a b => cases o <;> exact h
  | un o a => cases o <;> exact h
  | _ => exact h
end DL

set_option Elab.async false
set_option linter.all false
set_option maxRecDepth 100000
set_option maxHeartbeats 4000000
set_option autoImplicit false
namespace DL
open PySem L2
theorem useB_and {b c : Bool} {ok A R : Prop} (hok : ok) (ha : b = true → c = true → A) (hr : R) : useB b (ok ∧ useB c A R) (useB false A R) := useB_b (fun h => ⟨hok, useB_b (ha h) fun _ => hr⟩) fun _ => useB_n rfl hr
theorem useB_and3 {b c : Bool} {l ok A R : Prop} (hl : l) (hok : ok) (ha : b = true → c = true → A) (hr : R) : useB b (l ∧ ok ∧ useB c A R) (useB false A R) := useB_b (fun h => ⟨hl, hok, useB_b (ha h) fun _ => hr⟩) fun _ => useB_n rfl hr
theorem shown_int {i : Int} (h : small i) : (PyData.shown (.int i)).length ≤ 100000 := by
  obtain ⟨b1, b2, b3, b4, b5⟩ := small_int h
  have := PyData.shown_le 25 (by decide) (.int i) b2
  omega
theorem ne_nilT (ds : List D) : (true != PyData.eqv (.tuple ds) (.tuple [])) = !ds.isEmpty := by
  cases ds <;> simp [PyData.eqv, PyData.eqvAll]
theorem pos_of_ne {ds : List D} (h : (true != PyData.eqv (.tuple ds) (.tuple [])) = true) : 1 ≤ ds.length := by
  rw [ne_nilT] at h
  cases ds with
  | nil => cases h
  | cons => simp
theorem SHs.regs (gs : List (Str × Nat × Int × Nat)) (h : ∀ p ∈ gs, PyData.canLay0 (.str p.1) = true) : SHs 1 (gs.map regD) := .all fun d hd => by
  obtain ⟨p, hp, rfl⟩ := mem_regD hd
  exact .tuple (.cons (.str (h p hp)) (.cons (.int _) (.cons (.int _) (.cons (.int _) .nil))))
theorem at_reg {f : Fl} {k : Nat} (h : k < f.regs.length) : L2.atI (f.regs.map regD) (k : Int) = some (regD f.regs[k]) := atI_n (by rw [List.getElem?_map, List.getElem?_eq_getElem h]; rfl)
theorem at_out {f : Fl} {k : Nat} (h : k < f.outs.length) : L2.atI (f.outs.map inD) (k : Int) = some (inD f.outs[k]) := atI_n (by rw [List.getElem?_map, List.getElem?_eq_getElem h]; rfl)
theorem at_row {f : Fl} {k : Nat} (h : k < f.rows.length) : L2.atI (f.rows.map Row.toD) (k : Int) = some (f.rows[k]).toD := atI_n (by rw [List.getElem?_map, List.getElem?_eq_getElem h]; rfl)
theorem SHs.outs (gs : List (Str × Nat)) (h : ∀ p ∈ gs, PyData.strOk p.1 = true) : SHs 1 (gs.map inD) := .all fun d hd => by
  obtain ⟨p, hp, rfl⟩ := mem_inD hd
  exact .tuple (.cons (.str (h p hp)) (.cons (.int _) .nil))
theorem set_reg (f : Fl) (k : Nat) (p : Str × Nat × Int × Nat) : (f.regs.map regD).set k (regD p) = (f.regs.set k p).map regD := List.map_set.symm
theorem set_out (f : Fl) (k : Nat) (p : Str × Nat) : (f.outs.map inD).set k (inD p) = (f.outs.set k p).map inD := List.map_set.symm
theorem set_row (f : Fl) (k : Nat) (p : Row) : (f.rows.map Row.toD).set k p.toD = (f.rows.set k p).map Row.toD := List.map_set.symm
theorem more_ok : ∀ n : Nat, n ≤ 50 → PyData.strOk ("more" ++ PyData.shown (.int (n : Int))) = true := by
  have h : (List.range 51).all (fun n : Nat => PyData.strOk ("more" ++ PyData.shown (.int (n : Int)))) = true := by decide +kernel
  intro n hn
  exact List.all_eq_true.mp h n (List.mem_range.mpr (by omega))
theorem small_nat {n : Nat} (h : n ≤ 1000000) : small (n : Int) := Nat.lt_of_le_of_lt (by omega : (n : Int).natAbs ≤ 1000000) (by decide)
/-- rows of a width -/
def wide (ws : List Nat) (w n : Nat) : List Nat := (List.range n).filter fun k => decide (ws.getD k 0 = w)
theorem wide_ne {ws : List Nat} {w n k : Nat} (hk : k < n) (h : ws[k]? = some w) : 1 ≤ (wide ws w n).length := by
  have : k ∈ wide ws w n := List.mem_filter.mpr ⟨List.mem_range.mpr hk, decide_eq_true (getD_of h)⟩
  cases e : wide ws w n with
  | nil => rw [e] at this; cases this
  | cons => simp
theorem wide_mem {ws : List Nat} {w n k : Nat} (hn : n ≤ ws.length) (h : k ∈ wide ws w n) : ws[k]? = some w ∧ k < n := by
  obtain ⟨h1, h2⟩ := List.mem_filter.mp h
  have h1 := List.mem_range.mp h1
  refine ⟨?_, h1⟩
  rw [List.getElem?_eq_getElem (by omega)]
  have := of_decide_eq_true h2
  rw [List.getD_eq_getElem?_getD, List.getElem?_eq_getElem (by omega)] at this
  rw [← this]
  rfl
theorem eq_nat (a b : Nat) : (false != PyData.eqv (.int (a : Int)) (.int (b : Int))) = decide (a = b) := by
  rw [eqv_int, bne_false]
  exact decide_eq_decide.mpr ⟨fun h => by omega, fun h => by omega⟩
def CHG : List (D × D) := mergeE [] [(keyD (.inr "and"), .str "or"), (keyD (.inr "or"), .str "xor"), (keyD (.inr "xor"), .str "add"), (keyD (.inr "add"), .str "sub"), (keyD (.inr "sub"), .str "mul"), (keyD (.inr "eq"), .str "lt"), (keyD (.inr "all"), .str "any")]
def isTxt (d : D) (s : Str) : Bool := match d with
  | .str t => decide (t = s)
  | _ => false
theorem isTxt_eq {d : D} {s : Str} (h : isTxt d s = true) : d = .str s := by
  cases d <;> first | cases h | (have h := of_decide_eq_true h; rw [h])
theorem Row.chg_at (r : Row) : ∃ (s s' : Str) (xs : List D), r.toD = .tuple (.str s :: xs) ∧ r.chg.toD = .tuple (.str s' :: xs) ∧ (lookE CHG (Sum.inr s)).getD (.str s) = .str s' ∧ xs.length ≤ 3 ∧ ((∃ x n, r = .word x n ∧ s' = "word") ∨ decide (s' = "word") = false) := by
  cases r with
  | un o a => cases o <;> exact ⟨_, _, _, rfl, rfl, isTxt_eq (by decide +kernel), by simp, .inr (by decide +kernel)⟩
  | mv o a b => cases o <;> exact ⟨_, _, _, rfl, rfl, isTxt_eq (by decide +kernel), by simp, .inr (by decide +kernel)⟩
  | bin o a b => cases o <;> exact ⟨_, _, _, rfl, rfl, isTxt_eq (by decide +kernel), by simp, .inr (by decide +kernel)⟩
  | word x n => exact ⟨_, _, _, rfl, rfl, isTxt_eq (by decide +kernel), by simp, .inl ⟨x, n, rfl, rfl⟩⟩
  | _ => exact ⟨_, _, _, rfl, rfl, isTxt_eq (by decide +kernel), by simp, .inr (by decide +kernel)⟩
theorem cutD_one (x : D) (xs : List D) : cutD (x :: xs) (some 1) none = xs := by
  rw [show (1 : Int) = ((1 : Nat) : Int) from rfl, cutD_drop]
  rfl
theorem chg_isT : isT CHG = false := by decide +kernel
theorem fu_lt (a b : List (List Int)) (n : Nat) : ∀ k, fuN a b n = some k → k < n := fun k h => List.mem_range.mp (List.mem_of_find?_eq_some h)
theorem on_repr {o : Option Nat} {n : Nat} (h : ∀ k, o = some k → k < n) (hn : n ≤ 10000) : reprOkP (.list [onD o, onD o]) := by
  cases o with
  | none => exact reprOk_of (by decide) (.inl (by decide)) (by decide) (by decide) (by decide)
  | some k =>
    have hk := h k rfl
    exact (repr_ints (ns := [(k : Int), (k : Int)]) (fun x hx => by
      simp only [List.mem_cons, List.mem_nil_iff, or_false, or_self] at hx
      rw [hx]
      exact small_nat (by omega)) (by simp)).2
end DL

set_option Elab.async false
set_option linter.all false
set_option maxRecDepth 100000
set_option maxHeartbeats 4000000
set_option autoImplicit false
namespace DL
open PySem L2
/-! ### laps -/
def keyI (st : List Int) : List Key := st.map Sum.inl
theorem keyI_D (st : List Int) : (keyI st).map keyD = iL st := by
  unfold keyI iL
  rw [List.map_map]
  rfl
theorem keyI_inj {a b : List Int} (h : keyI a = keyI b) : a = b := iL_inj (by rw [← keyI_D, ← keyI_D, h])
def seenD (s : Nat → List Int) (k : Nat) : List (D × D) := (List.range k).map fun i => (PyData.tuple (iL (s i)), PyData.int (i : Int))
def rep (s : Nat → List Int) (k : Nat) : Option Nat := (List.range k).find? fun i => decide (s i = s k)
theorem tk_st (st : List Int) : tkOf (.tuple (iL st)) = some (keyI st) := by rw [← keyI_D]; exact tkOf_key _
theorem look_map (s : Nat → List Int) (st : List Int) : ∀ l : List Nat, lookT (l.map fun i => (PyData.tuple (iL (s i)), PyData.int (i : Int))) (keyI st) = (l.find? fun i => decide (s i = st)).map fun i => PyData.int (i : Int) := by
  intro l
  induction l with
  | nil => rfl
  | cons i l ih =>
    show (if tkOf (.tuple (iL (s i))) = some (keyI st) then some (PyData.int (i : Int)) else lookT _ (keyI st)) = _
    rw [tk_st, List.find?_cons]
    by_cases h : s i = st
    · rw [if_pos (by rw [h]), h, decide_eq_true rfl]
      rfl
    · rw [if_neg (fun e => h (keyI_inj (Option.some.inj e))), decide_eq_false h]
      exact ih
theorem look_seen (s : Nat → List Int) (k : Nat) : lookT (seenD s k) (keyI (s k)) = (rep s k).map fun i => PyData.int (i : Int) := look_map s (s k) _
theorem has_map (s : Nat → List Int) (st : List Int) (l : List Nat) : hasT (l.map fun i => (PyData.tuple (iL (s i)), PyData.int (i : Int))) (keyI st) = l.any fun i => decide (s i = st) := by
  unfold hasT
  rw [List.any_map]
  congr 1
  funext i
  show decide (tkOf (.tuple (iL (s i))) = some (keyI st)) = _
  rw [tk_st]
  exact decide_eq_decide.mpr ⟨fun e => keyI_inj (Option.some.inj e), fun e => by rw [e]⟩
theorem put_seen {s : Nat → List Int} {k : Nat} (h : rep s k = none) : putT (seenD s k) (keyI (s k)) (.int (k : Int)) = seenD s (k + 1) := by
  have hn : hasT (seenD s k) (keyI (s k)) = false := by
    unfold seenD
    rw [has_map]
    unfold rep at h
    rw [List.find?_eq_none] at h
    rw [List.any_eq_false]
    exact h
  unfold putT
  rw [hn, if_neg (by decide), keyI_D]
  unfold seenD
  rw [List.range_succ, List.map_append]
  rfl
theorem seen_len (s : Nat → List Int) (k : Nat) : (seenD s k).length = k := by
  unfold seenD
  rw [List.length_map, List.length_range]
/-- which lap comes again, and how many there are -/
def lapR (s : Nat → List Int) : Option (Nat × Nat) := ((List.range 501).find? fun k => (rep s k).isSome).bind fun k => (rep s k).map fun i => (i, k - i)
theorem lapR_some {s : Nat → List Int} {k i : Nat} (hk : k ≤ 500) (h : ∀ j, j < k → rep s j = none) (hr : rep s k = some i) : lapR s = some (i, k - i) := by
  have e : (List.range 501).find? (fun k => (rep s k).isSome) = some k := by
    rw [List.find?_range_eq_some]
    exact ⟨by rw [hr]; rfl, List.mem_range.mpr (by omega), fun j hj => by rw [h j hj]; rfl⟩
  unfold lapR
  rw [e, Option.bind_some, hr]
  rfl
theorem lapR_none {s : Nat → List Int} (h : ∀ j, j ≤ 500 → rep s j = none) : lapR s = none := by
  have e : (List.range 501).find? (fun k => (rep s k).isSome) = none := by
    rw [List.find?_eq_none]
    intro k hk
    rw [h k (by have := List.mem_range.mp hk; omega)]
    decide
  unfold lapR
  rw [e]
  rfl
def lapD : Option (Nat × Nat) → D
  | some p => .tuple [.int (p.1 : Int), .int (p.2 : Int)]
  | none => .none
theorem lap_lt {s : Nat → List Int} {i n : Nat} (h : lapR s = some (i, n)) : i ≤ 500 ∧ n ≤ 500 := by
  unfold lapR at h
  cases e : (List.range 501).find? (fun k => (rep s k).isSome) with
  | none => rw [e] at h; cases h
  | some k =>
    rw [e, Option.bind_some] at h
    have hk := List.mem_range.mp (List.mem_of_find?_eq_some e)
    cases e2 : rep s k with
    | none => rw [e2] at h; cases h
    | some j =>
      rw [e2] at h
      have hj := List.mem_range.mp (List.mem_of_find?_eq_some e2)
      have h : (j, k - j) = (i, n) := Option.some.inj h
      injection h with h1 h2
      omega
theorem lap_repr (s : Nat → List Int) : reprOkP (lapD (lapR s)) := by
  cases e : lapR s with
  | none => exact reprOk_of (by decide) (.inl (by decide)) (by decide) (by decide) (by decide)
  | some p =>
    obtain ⟨i, n⟩ := p
    have h := lap_lt e
    exact (repr_ints (ns := [(i : Int), (n : Int)]) (fun x hx => by
      simp only [List.mem_cons, List.mem_nil_iff, or_false] at hx
      rcases hx with rfl | rfl
      · exact small_nat (by omega)
      · exact small_nat (by omega)) (by simp)).1
/-- by unlike states up to k, the last of which is that of i -/
theorem rep_none {s : Nat → List Int} {k : Nat} (h : ∀ i j, i < j → j < k → s i ≠ s j) : ∀ j, j < k → rep s j = none := by
  intro j hj
  unfold rep
  rw [List.find?_eq_none]
  intro i hi
  simpa using h i j (List.mem_range.mp hi) hj
theorem rep_some {s : Nat → List Int} {k i : Nat} (h : ∀ i j, i < j → j < k → s i ≠ s j) (hi : i < k) (e : s i = s k) : rep s k = some i := by
  unfold rep
  rw [List.find?_range_eq_some]
  exact ⟨by simpa using e, List.mem_range.mpr hi, fun j hj => by
    have := h j i hj hi
    simpa using fun z => this (z.trans e.symm)⟩
theorem lap_of {s : Nat → List Int} {k i : Nat} (hk : k ≤ 500) (h : ∀ i j, i < j → j < k → s i ≠ s j) (hi : i < k) (e : s i = s k) : lapR s = some (i, k - i) := lapR_some hk (rep_none h) (rep_some h hi e)
theorem lap_no {s : Nat → List Int} (h : ∀ i j, i < j → j < 501 → s i ≠ s j) : lapR s = none := lapR_none fun j hj => rep_none h j (by omega)
/-! ### laps of a design -/
def Fl.laps (f : Fl) (lots : List (List Int)) : Nat → List Int
  | 0 => f.begin
  | n + 1 => (f.run (f.laps lots n) lots).st
theorem Fl.laps_ok {f : Fl} (hf : f.ok) (hx : f.good) {lots : List (List Int)} (hl : ∀ l ∈ lots, vOk f.iw l) : ∀ n, vOk f.rw (f.laps lots n) := by
  intro n
  induction n with
  | zero => exact Fl.begin_ok hx
  | succ n ih =>
    have h := (Fl.run_ok hf hx ih hl lots.length (Nat.le_refl _)).1
    rw [List.take_length] at h
    exact h
def Cfe : ConX := fun ds Qc Xc => ∃ (f : Fl) (lots : List (List Int)) (d : D), ds = [f.toD, d] ∧ seqD d (lots.map lotT) ∧ f.ok ∧ f.good ∧ FLots f lots ∧ (∀ i n, lapR (f.laps lots) = some (i, n) → Qc (.fz (lapD (some (i, n))))) ∧ (lapR (f.laps lots) = none → Xc ⟨"TooGreat", []⟩)
def Clt : Con := fun ds Q => ∃ (f : Fl) (lots : List (List Int)) (d : D), ds = [f.toD, d] ∧ seqD d (lots.map lotT) ∧ f.ok ∧ f.good ∧ FLots f lots ∧ Q (.fz (lapD (lapR (f.laps lots))))
/-! ### by hand: a counter -/
def fCnt (w : Nat) (v : Int) : Fl := ⟨[], [], [("n", w, v, 2)], [.reg 0, .word w 1, .bin .add 0 1], [w, w, w]⟩
theorem fCnt_ok {w : Nat} {v : Int} (hw : wOk w) : (fCnt w v).ok := by
  have h1 : (1 : Int) < 2 ^ w := by
    have h2 : (2 : Int) ^ 1 ≤ 2 ^ w := two_le hw.1
    omega
  refine ⟨?_, Nat.le_of_ble_eq_true rfl, Nat.le_of_ble_eq_true rfl, Nat.le_of_ble_eq_true rfl, (fun p h => nomatch h), fun p h => by rw [List.mem_singleton.mp h]; exact hw⟩
  have a1 : Rows [] [w] [.reg 0] [w] := Rows.nil.snoc (r := .reg 0) (w := w) (show ([w] : List Nat)[0]? = some w from rfl) hw
  have a2 : Rows [] [w] [.reg 0, .word w 1] [w, w] := a1.snoc (r := .word w 1) (w := w) ⟨rfl, by decide, h1⟩ hw
  exact a2.snoc (r := .bin .add 0 1) (w := w) ⟨w, rfl, rfl, rfl⟩ hw
theorem fCnt_good {w : Nat} {v : Int} (hv : rng w v) : (fCnt w v).good := ⟨(fun p h => nomatch h), fun p h => by rw [List.mem_singleton.mp h]; exact ⟨hv, rfl⟩, Nat.le_of_ble_eq_true rfl⟩
theorem fCnt_step (w : Nat) (v x : Int) : ((fCnt w v).run [x] [[]]).st = [(x + 1) % 2 ^ w] := rfl
theorem fCnt_step2 (w : Nat) (v x : Int) : ((fCnt w v).run [x] [[], []]).st = [((x + 1) % 2 ^ w + 1) % 2 ^ w] := rfl
theorem fCnt_laps {w : Nat} {v : Int} (hv : rng w v) : ∀ n : Nat, (fCnt w v).laps [[]] n = [(v + n) % 2 ^ w] := by
  intro n
  induction n with
  | zero => show [v] = _; rw [show v + ((0 : Nat) : Int) = v by omega, Int.emod_eq_of_lt hv.1 hv.2]
  | succ n ih =>
    show ((fCnt w v).run ((fCnt w v).laps [[]] n) [[]]).st = _
    rw [ih, fCnt_step, Int.emod_add_emod]
    congr 2
    omega
theorem fCnt_laps2 {w : Nat} {v : Int} (hv : rng w v) : ∀ n : Nat, (fCnt w v).laps [[], []] n = [(v + 2 * n) % 2 ^ w] := by
  intro n
  induction n with
  | zero => show [v] = _; rw [show v + 2 * ((0 : Nat) : Int) = v by omega, Int.emod_eq_of_lt hv.1 hv.2]
  | succ n ih =>
    show ((fCnt w v).run ((fCnt w v).laps [[], []] n) [[], []]).st = _
    rw [ih, fCnt_step2, Int.emod_add_emod, Int.add_assoc, Int.emod_add_emod]
    congr 2
    omega
theorem emod_ne {v a b m : Int} (hm : 0 < m) (h : 0 < b - a) (h2 : b - a < m) : (v + a) % m ≠ (v + b) % m := by
  intro e
  have h3 : (b - a) % m = 0 := by
    have := Int.emod_emod_of_dvd (v + b - (v + a)) (Int.dvd_refl m)
    rw [show b - a = (v + b) - (v + a) by omega, Int.sub_emod, e, Int.sub_self]
    exact Int.zero_emod m
  rw [Int.emod_eq_of_lt (by omega) h2] at h3
  omega
theorem fCnt_lap {w : Nat} {v : Int} (hv : rng w v) (hw : 2 ^ w ≤ 500) : lapR ((fCnt w v).laps [[]]) = some (0, 2 ^ w) := by
  have hp : ((2 ^ w : Nat) : Int) = 2 ^ w := by rw [Int.natCast_pow]; rfl
  have h0 := two_pos w
  refine lap_of (k := 2 ^ w) (i := 0) hw (fun i j hi hj => ?_) (by omega) ?_
  · rw [fCnt_laps hv, fCnt_laps hv]
    intro e
    injection e with e
    exact emod_ne h0 (by omega) (by omega) e
  · rw [fCnt_laps hv, fCnt_laps hv, hp, show v + ((0 : Nat) : Int) = v by omega, Int.add_emod_right]
theorem fCnt_lap2 {w : Nat} {v : Int} (hv : rng (w + 1) v) (hw : 2 ^ w ≤ 500) : lapR ((fCnt (w + 1) v).laps [[], []]) = some (0, 2 ^ w) := by
  have hp : ((2 ^ w : Nat) : Int) = 2 ^ w := by rw [Int.natCast_pow]; rfl
  have h0 := two_pos (w + 1)
  have h1 : (2 : Int) ^ (w + 1) = 2 * 2 ^ w := by rw [Int.pow_succ]; omega
  refine lap_of (k := 2 ^ w) (i := 0) hw (fun i j hi hj => ?_) (by have := two_pos w; omega) ?_
  · rw [fCnt_laps2 hv, fCnt_laps2 hv]
    intro e
    injection e with e
    exact emod_ne h0 (by omega) (by omega) e
  · rw [fCnt_laps2 hv, fCnt_laps2 hv, hp, show v + 2 * ((0 : Nat) : Int) = v by omega, ← h1, Int.add_emod_right]
theorem fCnt_no {v : Int} (hv : rng 9 v) : lapR ((fCnt 9 v).laps [[]]) = none := by
  refine lap_no fun i j hi hj => ?_
  rw [fCnt_laps hv, fCnt_laps hv]
  intro e
  injection e with e
  exact emod_ne (two_pos 9) (by omega) (by rw [show (2 : Int) ^ 9 = 512 by decide]; omega) e
/-! ### .. that stops -/
def fStop (v : Int) : Fl := ⟨[], [], [("n", 9, v, 5)], [.reg 0, .word 9 500, .bin .lt 0 1, .word 9 1, .bin .add 0 3, .mux 2 4 0], [9, 9, 1, 9, 9, 9]⟩
theorem fStop_ok (v : Int) : (fStop v).ok := by
  have w9 : wOk 9 := ⟨by decide, by decide⟩
  refine ⟨?_, Nat.le_of_ble_eq_true rfl, Nat.le_of_ble_eq_true rfl, Nat.le_of_ble_eq_true rfl, (fun p h => nomatch h), fun p h => by rw [List.mem_singleton.mp h]; exact w9⟩
  have a1 : Rows [] [9] [.reg 0] [9] := Rows.nil.snoc (r := .reg 0) (w := 9) (show ([9] : List Nat)[0]? = some 9 from rfl) w9
  have a2 : Rows [] [9] [.reg 0, .word 9 500] [9, 9] := a1.snoc (r := .word 9 500) (w := 9) ⟨rfl, by decide, by decide⟩ w9
  have a3 : Rows [] [9] [.reg 0, .word 9 500, .bin .lt 0 1] [9, 9, 1] := a2.snoc (r := .bin .lt 0 1) (w := 1) ⟨9, rfl, rfl, rfl⟩ wOk1
  have a4 : Rows [] [9] [.reg 0, .word 9 500, .bin .lt 0 1, .word 9 1] [9, 9, 1, 9] := a3.snoc (r := .word 9 1) (w := 9) ⟨rfl, by decide, by decide⟩ w9
  have a5 : Rows [] [9] [.reg 0, .word 9 500, .bin .lt 0 1, .word 9 1, .bin .add 0 3] [9, 9, 1, 9, 9] := a4.snoc (r := .bin .add 0 3) (w := 9) ⟨9, rfl, rfl, rfl⟩ w9
  exact a5.snoc (r := .mux 2 4 0) (w := 9) ⟨rfl, rfl, rfl⟩ w9
theorem fStop_good {v : Int} (hv : rng 9 v) : (fStop v).good := ⟨(fun p h => nomatch h), fun p h => by rw [List.mem_singleton.mp h]; exact ⟨hv, rfl⟩, Nat.le_of_ble_eq_true rfl⟩
theorem fStop_step (v x : Int) : ((fStop v).run [x] [[]]).st = [if (if x < 500 then (1 : Int) else 0) = 1 then (x + 1) % 2 ^ 9 else x] := rfl
theorem fStop_laps {v : Int} (h0 : 0 ≤ v) (h1 : v ≤ 500) : ∀ n : Nat, (fStop v).laps [[]] n = [min (v + n) 500] := by
  intro n
  have e9 : (2 : Int) ^ 9 = 512 := by decide
  induction n with
  | zero => show [v] = _; congr 1; omega
  | succ n ih =>
    show ((fStop v).run ((fStop v).laps [[]] n) [[]]).st = _
    rw [ih, fStop_step, e9]
    congr 1
    by_cases h : min (v + (n : Int)) 500 < 500
    · rw [if_pos h, if_pos rfl, Int.emod_eq_of_lt (by omega) (by omega)]
      omega
    · rw [if_neg h, if_neg (by decide)]
      omega
theorem fStop_lap {v : Nat} (h0 : 1 ≤ v) (h1 : v ≤ 500) : lapR ((fStop (v : Int)).laps [[]]) = some (500 - v, 1) := by
  have h := lap_of (s := (fStop (v : Int)).laps [[]]) (k := 501 - v) (i := 500 - v) (by omega) (fun i j hi hj => ?_) (by omega) ?_
  · rw [h]
    congr 2
    omega
  · rw [fStop_laps (by omega) (by omega), fStop_laps (by omega) (by omega)]
    intro e
    injection e with e
    omega
  · rw [fStop_laps (by omega) (by omega), fStop_laps (by omega) (by omega)]
    congr 1
    omega
theorem fStop_no : lapR ((fStop 0).laps [[]]) = none := by
  refine lap_no fun i j hi hj => ?_
  rw [fStop_laps (by decide) (by decide), fStop_laps (by decide) (by decide)]
  intro e
  injection e with e
  omega
theorem ex_lap : lapR (fEx.laps [[1]]) = some (0, 8) := by decide +kernel
def stopF : D → D
  | .int b => lapD (lapR ((fStop b).laps [[]]))
  | _ => .none
end DL

set_option Elab.async false
set_option linter.all false
set_option maxRecDepth 100000
set_option maxHeartbeats 4000000
set_option autoImplicit false
namespace DL
open PySem L2
/-! ### small data, what repr asks -/
structure Sm (n m : Nat) (d : D) : Prop where
  sh : d.showable = true
  nd : d.hasDict = false
  lv : d.leavesShort 25 = true
  wt : d.weight ≤ n
  dp : d.depth ≤ m
structure SmA (n m : Nat) (ds : List D) : Prop where
  sh : PyData.showableAll ds = true
  nd : PyData.hasDictAll ds = false
  lv : PyData.leavesShortAll 25 ds = true
  wt : PyData.weightAll ds ≤ n
  dp : PyData.depthAll ds ≤ m
theorem Sm.ok {n m : Nat} {d : D} (t : Sm n m d) (hn : n ≤ 500000) (hm : m ≤ 60) : reprOkP d := reprOk_of t.sh (.inl t.nd) t.lv (Nat.le_trans t.wt hn) (Nat.le_trans t.dp hm)
theorem Sm.mono {n m n' m' : Nat} {d : D} (t : Sm n m d) (hn : n ≤ n') (hm : m ≤ m') : Sm n' m' d := ⟨t.sh, t.nd, t.lv, Nat.le_trans t.wt hn, Nat.le_trans t.dp hm⟩
theorem SmA.mono {n m n' m' : Nat} {d : List D} (t : SmA n m d) (hn : n ≤ n') (hm : m ≤ m') : SmA n' m' d := ⟨t.sh, t.nd, t.lv, Nat.le_trans t.wt hn, Nat.le_trans t.dp hm⟩
theorem SmA.nil {n m : Nat} : SmA n m [] := ⟨rfl, rfl, rfl, Nat.zero_le _, by simp [PyData.depthAll]⟩
theorem SmA.cons {n n' m : Nat} {d : D} {ds : List D} (t : Sm n m d) (u : SmA n' m ds) : SmA (n + 1 + n') m (d :: ds) := by
  refine ⟨?_, ?_, ?_, ?_, ?_⟩
  · simp only [PyData.showableAll, t.sh, u.sh, Bool.and_true]
  · simp only [PyData.hasDictAll, t.nd, u.nd, Bool.or_false]
  · simp only [PyData.leavesShortAll, t.lv, u.lv, Bool.and_true]
  · have := t.wt; have := u.wt; simp only [PyData.weightAll]; omega
  · have := t.dp; have := u.dp; simp only [PyData.depthAll]; omega
theorem SmA.all {n m k : Nat} : ∀ {ds : List D}, (∀ d ∈ ds, Sm n m d) → (n + 1) * ds.length ≤ k → SmA k m ds
  | [], _, _ => .nil
  | d :: ds, h, hk => by
    rw [List.length_cons, Nat.mul_succ] at hk
    exact (SmA.cons (h d List.mem_cons_self) (SmA.all (k := (n + 1) * ds.length) (fun x hx => h x (List.mem_cons_of_mem _ hx)) (Nat.le_refl _))).mono (by omega) (Nat.le_refl _)
theorem SmA.tup {n m : Nat} {ds : List D} (t : SmA n m ds) : Sm n (m + 1) (.tuple ds) := by
  have := t.wt; have := t.dp
  refine ⟨?_, ?_, ?_, ?_, ?_⟩
  · simp only [PyData.showable]; exact t.sh
  · simp only [PyData.hasDict]; exact t.nd
  · simp only [PyData.leavesShort]; exact t.lv
  · simp only [PyData.weight]; omega
  · simp only [PyData.depth]; omega
theorem SmA.lst {n m : Nat} {ds : List D} (t : SmA n m ds) : Sm n (m + 1) (.list ds) := by
  have := t.wt; have := t.dp
  refine ⟨?_, ?_, ?_, ?_, ?_⟩
  · simp only [PyData.showable]; exact t.sh
  · simp only [PyData.hasDict]; exact t.nd
  · simp only [PyData.leavesShort]; exact t.lv
  · simp only [PyData.weight]; omega
  · simp only [PyData.depth]; omega
theorem Sm.int {i : Int} (h : small i) : Sm 65 1 (.int i) := by
  obtain ⟨h1, h2, h3, h4, h5⟩ := small_int h
  exact ⟨h1, h5, h2, h3, h4⟩
theorem Sm.lot {l : List Int} {n : Nat} (h : ∀ v ∈ l, rng 64 v) (hl : l.length ≤ n) : Sm (66 * n) 2 (lotT l) := SmA.tup (SmA.all (n := 65) (fun d hd => by
  obtain ⟨v, hv, rfl⟩ := List.mem_map.mp hd
  exact Sm.int (Nat.lt_of_lt_of_le (sml (Nat.le_refl 64) (h v hv)) (by decide))) (by unfold iL; rw [List.length_map]; exact Nat.mul_le_mul_left _ hl))
theorem Sm.lots {ls : List (List Int)} {n k : Nat} (h : ∀ l ∈ ls, (∀ v ∈ l, rng 64 v) ∧ l.length ≤ n) (hl : ls.length ≤ k) : SmA ((66 * n + 1) * k) 2 (ls.map lotT) := SmA.all (n := 66 * n) (fun d hd => by
  obtain ⟨l, h1, rfl⟩ := List.mem_map.mp hd
  exact Sm.lot (h l h1).1 (h l h1).2) (by rw [List.length_map]; exact Nat.mul_le_mul_left _ hl)
/-! ### runs cut in two -/
section
variable (f : Fl)
theorem run_from (lots : List (List Int)) : ∀ (A B : List (List Int)) (s : List Int), lots.foldl f.runStep ⟨A, B, s⟩ = ⟨A ++ (f.run s lots).found, B ++ (f.run s lots).ahead.tail, (f.run s lots).st⟩ := by
  induction lots with
  | nil => intro A B s; simp [Fl.run]
  | cons l lots ih =>
    intro A B s
    have e : f.run s (l :: lots) = lots.foldl f.runStep ⟨[f.tell (valsR f.ws l s f.rows)], [s, f.nxt (valsR f.ws l s f.rows)], f.nxt (valsR f.ws l s f.rows)⟩ := rfl
    have e3 : (l :: lots).foldl f.runStep ⟨A, B, s⟩ = lots.foldl f.runStep ⟨A ++ [f.tell (valsR f.ws l s f.rows)], B ++ [f.nxt (valsR f.ws l s f.rows)], f.nxt (valsR f.ws l s f.rows)⟩ := rfl
    rw [e, e3, ih, ih]
    simp
theorem run_app (s : List Int) (a b : List (List Int)) : (f.run s (a ++ b)).found = (f.run s a).found ++ (f.run (f.run s a).st b).found ∧ (f.run s (a ++ b)).st = (f.run (f.run s a).st b).st ∧ (f.run s (a ++ b)).ahead = (f.run s a).ahead ++ (f.run (f.run s a).st b).ahead.tail := by
  have e : f.run s (a ++ b) = b.foldl f.runStep (f.run s a) := by unfold Fl.run; rw [List.foldl_append]
  rw [e]
  have := run_from f b (f.run s a).found (f.run s a).ahead (f.run s a).st
  rw [show (⟨(f.run s a).found, (f.run s a).ahead, (f.run s a).st⟩ : RunS) = f.run s a from rfl] at this
  rw [this]
  exact ⟨rfl, rfl, rfl⟩
end
/-- a run's lots, clock by clock -/
theorem run_len {f : Fl} (hf : f.ok) (hx : f.good) {st : List Int} (hs : vOk f.rw st) {lots : List (List Int)} (hl : FLots f lots) : (f.run st lots).found.length = lots.length ∧ (f.run st lots).ahead.length = lots.length + 1 := by
  obtain ⟨_, h2, ys, h3, h4⟩ := Fl.run_ok hf hx hs hl.ok lots.length (Nat.le_refl _)
  rw [List.take_length] at h2 h4
  refine ⟨h2, ?_⟩
  rw [h4, List.length_append, h3]; rfl
theorem FLots.take {f : Fl} {lots : List (List Int)} (h : FLots f lots) (k : Nat) : FLots f (lots.take k) := ⟨fun l hl => h.ok l (List.mem_of_mem_take hl), by have := h.le; rw [List.length_take]; omega⟩
theorem FLots.drop {f : Fl} {lots : List (List Int)} (h : FLots f lots) (k : Nat) : FLots f (lots.drop k) := ⟨fun l hl => h.ok l (List.mem_of_mem_drop hl), by have := h.le; rw [List.length_drop]; omega⟩
theorem FLots.app {f : Fl} {a b : List (List Int)} (h : FLots f a) (h' : FLots f b) (hl : a.length + b.length ≤ 1000) : FLots f (a ++ b) := ⟨fun l hl => (List.mem_append.mp hl).elim (h.ok l) (h'.ok l), by rw [List.length_append]; exact hl⟩
section
variable {f : Fl} (hf : f.ok) (hx : f.good) {st : List Int} (hs : vOk f.rw st) {lots : List (List Int)} (hl : FLots f lots)
include hf hx hs hl
theorem run_st_ok : vOk f.rw (f.run st lots).st := by
  have := (Fl.run_ok hf hx hs hl.ok lots.length (Nat.le_refl _)).1
  rwa [List.take_length] at this
theorem run_take (k : Nat) (hk : k ≤ lots.length) : (f.run st (lots.take k)).found = (f.run st lots).found.take k ∧ (f.run st lots).ahead[k]? = some (f.run st (lots.take k)).st ∧ (f.run (f.run st (lots.take k)).st (lots.drop k)).found = (f.run st lots).found.drop k ∧ (f.run (f.run st (lots.take k)).st (lots.drop k)).st = (f.run st lots).st := by
  obtain ⟨e1, e2, e3⟩ := run_app f st (lots.take k) (lots.drop k)
  rw [List.take_append_drop] at e1 e2 e3
  obtain ⟨_, h2, ys, h3, h4⟩ := Fl.run_ok hf hx hs hl.ok k hk
  refine ⟨?_, ?_, ?_, e2.symm⟩
  · rw [e1]; exact (List.take_left' h2).symm
  · rw [e3, h4, List.append_assoc, List.getElem?_append_right (by omega), h3, Nat.sub_self]; rfl
  · rw [e1]; exact (List.drop_left' h2).symm
theorem run_last : (f.run st lots).ahead.getLast? = some (f.run st lots).st := by
  have h := (run_take hf hx hs hl lots.length (Nat.le_refl _)).2.1
  rw [List.take_length] at h
  have hn := (run_len hf hx hs hl).2
  rw [List.getLast?_eq_getElem?, hn]
  exact h
theorem run_at (k : Nat) (hk : k < lots.length) : (f.run st lots).found[k]? = some (f.tell (valsR f.ws lots[k] (f.run st (lots.take k)).st f.rows)) ∧ (f.run st lots).ahead[k + 1]? = some (f.nxt (valsR f.ws lots[k] (f.run st (lots.take k)).st f.rows)) := by
  have h1 := run_take hf hx hs hl (k + 1) hk
  have e := Fl.run_succ f st lots k hk
  obtain ⟨_, h2, _⟩ := Fl.run_ok hf hx hs hl.ok k (by omega)
  refine ⟨?_, ?_⟩
  · have : ((f.run st lots).found.take (k + 1))[k]? = some (f.tell (valsR f.ws lots[k] (f.run st (lots.take k)).st f.rows)) := by
      rw [← h1.1, e]
      show (_ ++ [_])[k]? = _
      rw [List.getElem?_append_right (by omega), h2, Nat.sub_self]; rfl
    rw [List.getElem?_take_of_lt (by omega)] at this
    exact this
  · rw [h1.2.1, e]; rfl
end
/-! ### how great they are -/
theorem getD_rng {ws : List Nat} {vs : List Int} (hw : ∀ w ∈ ws, wOk w) (h : vOk ws vs) (k : Nat) : rng 64 (vs.getD k 0) := by
  rw [List.getD_eq_getElem?_getD]
  cases e : vs[k]? with
  | none => exact ⟨by decide, by decide⟩
  | some v =>
    have hk := (List.getElem?_eq_some_iff.mp e).1
    have hk2 : k < ws.length := h.1 ▸ hk
    have hr := h.2 k v ws[k] e (List.getElem?_eq_getElem hk2)
    have hwk := hw _ (List.getElem_mem hk2)
    refine ⟨hr.1, Int.lt_of_lt_of_le hr.2 ?_⟩
    have : (2 : Nat) ^ ws[k] ≤ 2 ^ 64 := Nat.pow_le_pow_right (by decide) hwk.2
    exact_mod_cast this
section
variable {f : Fl} (hf : f.ok) (hx : f.good)
include hf
theorem tell_rng {vs : List Int} (h : vOk f.ws vs) : (∀ v ∈ f.tell vs, rng 64 v) ∧ (f.tell vs).length ≤ f.outs.length := by
  refine ⟨fun v hv => ?_, by unfold Fl.tell; rw [List.length_map]; exact Nat.le_refl _⟩
  obtain ⟨p, _, rfl⟩ := List.mem_map.mp hv
  exact getD_rng hf.rows.ok h _
theorem st_rng {vs : List Int} (h : vOk f.rw vs) : (∀ v ∈ vs, rng 64 v) ∧ vs.length ≤ f.regs.length := by
  refine ⟨h.all fun w hw => ?_, by rw [h.1]; unfold Fl.rw; rw [List.length_map]; exact Nat.le_refl _⟩
  obtain ⟨p, hp, rfl⟩ := List.mem_map.mp hw
  exact hf.rw p hp
include hx
theorem run_found_ok {st : List Int} (hs : vOk f.rw st) {lots : List (List Int)} (hl : FLots f lots) : ∀ l ∈ (f.run st lots).found, (∀ v ∈ l, rng 64 v) ∧ l.length ≤ f.outs.length := fun l h => by
  obtain ⟨k, hk, e⟩ := List.mem_iff_getElem.mp h
  have hk2 : k < lots.length := (run_len hf hx hs hl).1 ▸ hk
  have h1 := (run_at hf hx hs hl k hk2).1
  rw [List.getElem?_eq_getElem hk, e] at h1
  cases h1
  exact tell_rng hf (Fl.rest_stand hf (hl.ok _ (List.getElem_mem hk2)) (run_st_ok hf hx hs (hl.take k))).sd
theorem run_ahead_ok {st : List Int} (hs : vOk f.rw st) {lots : List (List Int)} (hl : FLots f lots) : ∀ l ∈ (f.run st lots).ahead, (∀ v ∈ l, rng 64 v) ∧ l.length ≤ f.regs.length := fun l h => by
  obtain ⟨k, hk, e⟩ := List.mem_iff_getElem.mp h
  have hk2 : k ≤ lots.length := by have := (run_len hf hx hs hl).2; omega
  have h1 := (run_take hf hx hs hl k hk2).2.1
  rw [List.getElem?_eq_getElem hk, e] at h1
  cases h1
  exact st_rng hf (run_st_ok hf hx hs (hl.take k))
end
/-! ### contracts -/
def CrunP : ConP := fun ds Q => ∃ (f : Fl) (st : List Int) (lots : List (List Int)) (d : D), ds = [f.toD, .tuple (iL st), d] ∧ seqD d (lots.map lotT) ∧ f.ok ∧ f.good ∧ vOk f.rw st ∧ FLots f lots ∧ Q ((f.run st lots).found.map lotT) (.tuple (iL (f.run st lots).st))
def CoutN : Con := fun ds Q => ∃ (f : Fl) (lots : List (List Int)) (d : D), ds = [f.toD, d] ∧ seqD d (lots.map lotT) ∧ f.ok ∧ f.good ∧ FLots f lots ∧ Q (.nw (.list ((f.run f.begin lots).found.map lotT)))
def Cstates : Con := fun ds Q => ∃ (f : Fl) (lots : List (List Int)) (d : D), ds = [f.toD, d] ∧ seqD d (lots.map lotT) ∧ f.ok ∧ f.good ∧ FLots f lots ∧ Q (.nw (.list ((f.run f.begin lots).ahead.map lotT)))
def stepD (f : Fl) (lot st : List Int) : D := .tuple [lotT (f.tell (valsR f.ws lot st f.rows)), lotT (f.nxt (valsR f.ws lot st f.rows))]
def CstepF : Con := fun ds Q => ∃ (f : Fl) (lot st : List Int), ds = [f.toD, .tuple (iL lot), .tuple (iL st)] ∧ f.ok ∧ f.good ∧ vOk f.iw lot ∧ vOk f.rw st ∧ Q (.fz (stepD f lot st))
end DL

set_option Elab.async false
set_option linter.all false
set_option maxRecDepth 100000
set_option maxHeartbeats 4000000
set_option autoImplicit false
namespace DL
open PySem L2
/-! ### the law about runs: plain lemmas -/
theorem cut_take {xs : List D} {j : Nat} : cutD xs none (some (j : Int)) = xs.take j := by
  unfold cutD
  have h0 : HT.sIx xs.length 0 none = 0 := rfl
  have h1 : HT.sIx xs.length xs.length (some (j : Int)) = min j xs.length := by
    unfold HT.sIx
    dsimp only
    rw [if_neg (by omega), Int.toNat_natCast]
  rw [h0, h1, List.drop_zero, Nat.sub_zero]
  apply List.ext_getElem?
  intro i
  rw [List.getElem?_take, List.getElem?_take]
  by_cases hi : i < xs.length
  · by_cases hj : i < j
    · rw [if_pos (by omega), if_pos hj]
    · rw [if_neg (by omega), if_neg hj]
  · rw [List.getElem?_eq_none (by omega)]
    split <;> split <;> rfl
theorem cut_drop {xs : List D} {j : Nat} : cutD xs (some (j : Int)) none = xs.drop j := by
  unfold cutD
  have h0 : HT.sIx xs.length xs.length none = xs.length := rfl
  have h1 : HT.sIx xs.length 0 (some (j : Int)) = min j xs.length := by
    unfold HT.sIx
    dsimp only
    rw [if_neg (by omega), Int.toNat_natCast]
  rw [h0, h1]
  by_cases h : j ≤ xs.length
  · rw [Nat.min_eq_left h, List.take_of_length_le (by rw [List.length_drop]; omega)]
  · rw [Nat.min_eq_right (by omega), List.drop_length, List.drop_of_length_le (by omega)]
    simp
theorem cut_takeL {xs : List (List Int)} {j : Nat} : cutD (xs.map lotT) none (some (j : Int)) = (xs.take j).map lotT := by rw [cut_take, List.map_take]
theorem cut_dropL {xs : List (List Int)} {j : Nat} : cutD (xs.map lotT) (some (j : Int)) none = (xs.drop j).map lotT := by rw [cut_drop, List.map_drop]
theorem at_lots {xs : List (List Int)} {k : Nat} {l : List Int} (h : xs[k]? = some l) : L2.atI (xs.map lotT) (k : Int) = some (lotT l) := atI_n (by rw [List.getElem?_map, h]; rfl)
theorem at_lots1 {xs : List (List Int)} {k : Nat} {l : List Int} (h : xs[k + 1]? = some l) : L2.atI (xs.map lotT) ((k : Int) + 1) = some (lotT l) := by
  have := at_lots h
  rwa [show ((k + 1 : Nat) : Int) = (k : Int) + 1 by push_cast; rfl] at this
theorem eqvAll_lots (a : List (List Int)) : PyData.eqvAll (a.map lotT) (a.map lotT) = true := by
  induction a with
  | nil => simp [PyData.eqvAll]
  | cons l a ih => simp only [List.map_cons, PyData.eqvAll, ih, Bool.and_true]; exact eqv_tupI l
theorem eqv_lots (a : List (List Int)) : PyData.eqv (.list (a.map lotT)) (.list (a.map lotT)) = true := by simp only [PyData.eqv]; exact eqvAll_lots a
theorem neq_lots (a : List (List Int)) : (true != PyData.eqv (.list (a.map lotT)) (.list (a.map lotT))) = false := by rw [eqv_lots]; rfl
theorem yeq_lots (a : List (List Int)) : (false != PyData.eqv (.list (a.map lotT)) (.list (a.map lotT))) = true := by rw [eqv_lots]; rfl
theorem ex3_eq : eqOk2 (.tuple [.list [], .tuple [.int 3]]) (.tuple [.list [], .tuple [.int 3]]) = true := by decide +kernel
theorem ex3_is : PyData.eqv (.tuple [.list [], .tuple [.int 3]]) (.tuple [.list [], .tuple [.int 3]]) = true := by decide +kernel
theorem SH.lots (a : List (List Int)) : SH 2 (.list (a.map lotT)) := .list (.all fun d hd => by
  obtain ⟨l, _, rfl⟩ := List.mem_map.mp hd
  exact .tuple (.ints _))
theorem eq2_lots (a b : List (List Int)) : eqOk2 (.list (a.map lotT)) (.list (b.map lotT)) = true := (SH.lots a).ok2 (SH.lots b) (by decide) (by decide)
section
variable {f : Fl} (hf : f.ok) (hx : f.good) (ho : f.outs.length ≤ 3) (hr : f.regs.length ≤ 4)
include hf hx hr
theorem sAh {st : List Int} (hs : vOk f.rw st) {lots : List (List Int)} (hl : FLots f lots) (hn : lots.length ≤ 20) : Sm 6000 3 (.list ((f.run st lots).ahead.map lotT)) :=
  (SmA.lst (Sm.lots (n := 4) (k := 21) (fun l h => ⟨(run_ahead_ok hf hx hs hl l h).1, by have := (run_ahead_ok hf hx hs hl l h).2; omega⟩) (by have := (run_len hf hx hs hl).2; omega))).mono (by omega) (by omega)
omit hx in
theorem sSt {st : List Int} (hs : vOk f.rw st) : Sm 300 2 (lotT st) := (Sm.lot (n := 4) (st_rng hf hs).1 (by have := (st_rng hf hs).2; omega)).mono (by omega) (by omega)
omit hr
include ho
theorem sFo {st : List Int} (hs : vOk f.rw st) {lots : List (List Int)} (hl : FLots f lots) (hn : lots.length ≤ 20) : Sm 4000 3 (.list ((f.run st lots).found.map lotT)) :=
  (SmA.lst (Sm.lots (n := 3) (k := 20) (fun l h => ⟨(run_found_ok hf hx hs hl l h).1, by have := (run_found_ok hf hx hs hl l h).2; omega⟩) (by have := (run_len hf hx hs hl).1; omega))).mono (by omega) (by omega)
omit hx in
theorem sTell {vs : List Int} (h : vOk f.ws vs) : Sm 300 2 (lotT (f.tell vs)) := (Sm.lot (n := 3) (tell_rng hf h).1 (by have := (tell_rng hf h).2; omega)).mono (by omega) (by omega)
include hr
theorem sStep {lot st : List Int} (hl : vOk f.iw lot) (hs : vOk f.rw st) : Sm 700 3 (stepD f lot st) := by
  have hV := (Fl.rest_stand hf hl hs).sd
  exact (SmA.tup (SmA.cons (sTell hf ho hV) (SmA.cons (sSt hf hr (Fl.nxt_ok hx hV)) (SmA.nil (n := 0))))).mono (by omega) (by omega)
theorem sRun {st : List Int} (hs : vOk f.rw st) {lots : List (List Int)} (hl : FLots f lots) (hn : lots.length ≤ 20) : Sm 5000 4 (runD (f.run st lots)) :=
  (SmA.tup (SmA.cons (sFo hf hx ho hs hl hn) (SmA.cons ((sSt hf hr (run_st_ok hf hx hs hl)).mono (Nat.le_refl _) (by omega)) (SmA.nil (n := 0))))).mono (by omega) (by omega)
end
theorem run_one {f : Fl} {st l : List Int} {lots : List (List Int)} : (f.run st ((l :: lots).take 1)).found = [f.tell (valsR f.ws l st f.rows)] ∧ (f.run st ((l :: lots).take 1)).st = f.nxt (valsR f.ws l st f.rows) := ⟨rfl, rfl⟩
/-! ### the document's design -/
theorem exF1 : (fEx.run fEx.begin [[1], [0], [1]]).found = [[7], [7], [0]] := by decide +kernel
theorem exA1 : (fEx.run fEx.begin [[1], [0], [1]]).ahead = [[6], [7], [7], [0]] := by decide +kernel
theorem exLt : FLots fEx [[1], [0], [1]] := ⟨fun l h => by
  simp only [List.mem_cons, List.mem_nil_iff, or_false] at h
  rcases h with rfl | rfl | rfl <;> exact ⟨rfl, fun k v w h1 h2 => by
    match k with
    | 0 => cases h1; cases h2; exact ⟨by decide, by decide⟩
    | k + 1 => simp at h1⟩, by decide⟩
theorem exN : FLots fEx [] := ⟨(fun _ h => nomatch h), by decide⟩
theorem ex3 : vOk fEx.rw [3] := ⟨rfl, fun k v w h1 h2 => by
  match k with
  | 0 => cases h1; cases h2; exact ⟨by decide, by decide⟩
  | k + 1 => simp at h1⟩
end DL

set_option Elab.async false
set_option linter.all false
set_option maxRecDepth 100000
set_option maxHeartbeats 4000000
set_option autoImplicit false
set_option pp.maxSteps 1000
namespace K22
open PySem L2 DL
def topS (i : Nat) : Stmt := PySem.Challenge.pw_bitloom_k22_whole_runs.main.body.getD i (.Pass ⟨0, 0, 0, 0⟩)
structure Txt (mg : Str → Option Value) : Prop where
  abs : mg "abs" = none
  enumerate : mg "enumerate" = none
  int : mg "int" = none
  len : mg "len" = none
  list : mg "list" = none
  max : mg "max" = none
  min : mg "min" = none
  range : mg "range" = none
  repr : mg "repr" = none
  sum : mg "sum" = none
  tuple : mg "tuple" = none
section
variable {P : Program} {w : World} {K : PySem.W.Frag} {mg : Str → Option Value} {base : Heap}
abbrev s_row_members : Stmt := topS 3
abbrev n_row_members : List Str := ["row"]
theorem sc_row_members : FnScope n_row_members ["row"] (C8.fnScope s_row_members) := C8.fnScope_by (by decide +kernel)
theorem ok_row_members {a : Addr} {fd : FuncData} (F : C8.Def K mg "row_members" s_row_members a fd) (b : Binds K fd ["row"] []) (T : Txt mg) : CalG P w K mg base (1) "row_members" (spD K [.bo] (CrowM)) := by
  refine calG F b sc_row_members rfl (fun cdv A outer s H E hA hr => ?_)
  have hu := huOf hr
  have hu64 := hr.units
  refine ⟨_, _, (pss_cons (ps_if (pt_cmpR (k_in (K := K) rfl) (pe_ix (k_ix (K := K) rfl) (pv 0) pe_int (fun _ _ => rfl)) (pe_tup (pa_cons pe_str (pa_cons pe_str (pa_cons pe_str pa_nil)))) (by with_unfolding_all rfl)) (pss_one (ps_ret (pe_tup pa_nil))) pss_nil)
      (pss_one (ps_ret (pe_ifExp (pt_cmpR (k_eq (K := K) rfl hu64) (pe_ix (k_ix (K := K) rfl) (pv 0) pe_int (fun _ _ => rfl)) pe_str (nomark _)) (pe_slice (k_sl (K := K) rfl) (pv 0) (po_some pe_int) (po_some pe_int)) (pe_slice (k_sl (K := K) rfl) (pv 0) (po_some pe_int) po_none))))),
   (ls_seq (ls_if (lt_test (le_op (le_op le_var le_int ol_ix) (le_tup (la_cons le_str (la_cons le_str (la_cons le_str la_nil)))) ol_in)) (ls_ret (le_tup la_nil)) ls_next)
      (ls_ret (le_if (lt_test (le_op (le_op le_var le_int ol_ix) le_str ol_eq)) (le_sl le_var (lo_some le_int) (lo_some le_int)) (le_sl le_var (lo_some le_int) lo_none)))), ?_⟩
  intro ds Qc h
  obtain ⟨r, rfl, hq⟩ := h
  cases r with
  | un o a => cases o <;> (refine ⟨trivial, _, atI0, Nat.le_of_ble_eq_true rfl, ⟨rfl, rfl⟩, ?_⟩; first
    | exact useB_y (by (try dsimp only); decide +kernel) ⟨Nat.le_of_ble_eq_true rfl, hq⟩
    | exact useB_n (by (try dsimp only); decide +kernel) ⟨trivial, _, atI0, rfl, useB_y (by (try dsimp only); decide +kernel) hq⟩
    | exact useB_n (by (try dsimp only); decide +kernel) ⟨trivial, _, atI0, rfl, useB_n (by (try dsimp only); decide +kernel) hq⟩)
  | mv o a b => cases o <;> (refine ⟨trivial, _, atI0, Nat.le_of_ble_eq_true rfl, ⟨rfl, rfl⟩, ?_⟩; first
    | exact useB_y (by (try dsimp only); decide +kernel) ⟨Nat.le_of_ble_eq_true rfl, hq⟩
    | exact useB_n (by (try dsimp only); decide +kernel) ⟨trivial, _, atI0, rfl, useB_y (by (try dsimp only); decide +kernel) hq⟩
    | exact useB_n (by (try dsimp only); decide +kernel) ⟨trivial, _, atI0, rfl, useB_n (by (try dsimp only); decide +kernel) hq⟩)
  | bin o a b => cases o <;> (refine ⟨trivial, _, atI0, Nat.le_of_ble_eq_true rfl, ⟨rfl, rfl⟩, ?_⟩; first
    | exact useB_y (by (try dsimp only); decide +kernel) ⟨Nat.le_of_ble_eq_true rfl, hq⟩
    | exact useB_n (by (try dsimp only); decide +kernel) ⟨trivial, _, atI0, rfl, useB_y (by (try dsimp only); decide +kernel) hq⟩
    | exact useB_n (by (try dsimp only); decide +kernel) ⟨trivial, _, atI0, rfl, useB_n (by (try dsimp only); decide +kernel) hq⟩)
  | _ => (refine ⟨trivial, _, atI0, Nat.le_of_ble_eq_true rfl, ⟨rfl, rfl⟩, ?_⟩; first
    | exact useB_y (by (try dsimp only); decide +kernel) ⟨Nat.le_of_ble_eq_true rfl, hq⟩
    | exact useB_n (by (try dsimp only); decide +kernel) ⟨trivial, _, atI0, rfl, useB_y (by (try dsimp only); decide +kernel) hq⟩
    | exact useB_n (by (try dsimp only); decide +kernel) ⟨trivial, _, atI0, rfl, useB_n (by (try dsimp only); decide +kernel) hq⟩)
abbrev s_row_width : Stmt := topS 4
abbrev n_row_width : List Str := ["row", "widths", "ins", "regs", "word", "own", "number"]
theorem sc_row_width : FnScope n_row_width ["row", "widths", "ins", "regs"] (C8.fnScope s_row_width) := C8.fnScope_by (by decide +kernel)
theorem ok_row_width {a : Addr} {fd : FuncData} (F : C8.Def K mg "row_width" s_row_width a fd) (b : Binds K fd ["row", "widths", "ins", "regs"] []) (T : Txt mg) (c_row_members : CalG P w K mg base 1 "row_members" (spD K [.bo] (CrowM))) (c_LIKE : KC K mg "LIKE" ["and", "or", "xor", "add", "sub", "mul", "eq", "lt"]) (c_NARROW : KC K mg "NARROW" ["all", "any", "odd", "eq", "lt", "pick"]) : CalG P w K mg base (2) "row_width" (spD K [.bo, .bo, .bo, .bo] (CrowW)) := by
  refine calG F b sc_row_width rfl (fun cdv A outer s H E hA hr => ?_)
  have hu := huOf hr
  have hu64 := hr.units
  obtain ⟨_, g_LIKE, k_LIKE⟩ := c_LIKE.use
  obtain ⟨_, g_NARROW, k_NARROW⟩ := c_NARROW.use
  refine ⟨_, _, (pss_cons (ps_asg (pe_ix (k_ix (K := K) rfl) (pv 0) pe_int (fun _ _ => rfl)) (pg_name (i := 4) sc_row_width.nd rfl (by first | exact Or.inl rfl | exact Or.inr rfl)))
      (pss_cons (ps_if (pt_cmpR (k_in (K := K) rfl) (pv 4) (pe_tup (pa_cons pe_str (pa_cons pe_str pa_nil))) (by with_unfolding_all rfl)) (pss_one (ps_ret (pe_ix (k_ix (K := K) rfl) (pe_ifExp (pt_cmpR (k_eq (K := K) rfl hu64) (pv 4) pe_str (nomark _)) (pv 2) (pv 3)) (pe_ix (k_ix (K := K) rfl) (pv 0) pe_int (fun _ _ => rfl)) (fun _ _ => rfl)))) pss_nil)
      (pss_cons (ps_if (pt_cmpR (k_eq (K := K) rfl hu64) (pv 4) pe_str (nomark _)) (pss_one (ps_ret (pe_ix (k_ix (K := K) rfl) (pv 0) pe_int (fun _ _ => rfl)))) pss_nil)
      (pss_cons (ps_setLc (i := 5) rfl sc_row_width.nd rfl rfl (sw_true rfl rfl rfl (by decide +kernel)) (k_iany (K := K) rfl (pe_cG c_row_members hA hr (by first | decide | omega) rfl (pa_cons (pv 0) pa_nil))) (blkOk_by (own := [("number", 6)]) (N := n_row_width) (sc := C8.fnScope s_row_width) (by decide +kernel)) (fun _ _ _ _ _ => (pg_name (i := 6) sc_row_width.nd rfl (by first | exact Or.inl rfl | exact Or.inr rfl))) (fun _ _ _ _ _ => pts_nil) (fun _ _ _ _ _ => (pe_ix (k_ix (K := K) rfl) (pv 1) (pv 6) (fun _ _ => rfl))))
      (pss_cons (ps_if (pt_cmpR (k_eq (K := K) rfl hu64) (pv 4) pe_str (nomark _)) (pss_one (ps_ret (pe_ifExp (pt_cmpR op_le (pe_op (k_add (K := K) rfl) (pe_ix (k_ix (K := K) rfl) (pv 0) pe_int (fun _ _ => rfl)) (pe_ix (k_ix (K := K) rfl) (pv 0) pe_int (fun _ _ => rfl))) (pe_ix (k_ix (K := K) rfl) (pv 5) pe_int (fun _ _ => rfl)) (nomark _)) (pe_ix (k_ix (K := K) rfl) (pv 0) pe_int (fun _ _ => rfl)) pe_non))) pss_nil)
      (pss_cons (ps_if (pt_cmpR (k_eq (K := K) rfl hu64) (pv 4) pe_str (nomark _)) (pss_one (ps_ret (pe_ifExp (pt_cmpR op_le (pe_op (k_add (K := K) rfl) (pe_ix (k_ix (K := K) rfl) (pv 5) pe_int (fun _ _ => rfl)) (pe_ix (k_ix (K := K) rfl) (pv 5) pe_int (fun _ _ => rfl))) pe_int (nomark _)) (pe_op (k_add (K := K) rfl) (pe_ix (k_ix (K := K) rfl) (pv 5) pe_int (fun _ _ => rfl)) (pe_ix (k_ix (K := K) rfl) (pv 5) pe_int (fun _ _ => rfl))) pe_non))) pss_nil)
      (pss_cons (ps_if (pt_cmpR (k_eq (K := K) rfl hu64) (pv 4) pe_str (nomark _)) (pss_one (ps_ret (pe_ifExp (PW.pt (pw_and (pt_cmpR (k_eq (K := K) rfl hu64) (pe_ix (k_ix (K := K) rfl) (pv 5) pe_int (fun _ _ => rfl)) pe_int (nomark _)) (pw_and1 (pt_cmpR (k_eq (K := K) rfl hu64) (pe_ix (k_ix (K := K) rfl) (pv 5) pe_int (fun _ _ => rfl)) (pe_ix (k_ix (K := K) rfl) (pv 5) pe_int (fun _ _ => rfl)) (nomark _))))) (pe_ix (k_ix (K := K) rfl) (pv 5) pe_int (fun _ _ => rfl)) pe_non))) pss_nil)
      (pss_cons (ps_if (PW.pt (pw_and (pt_cmpR (k_in (K := K) rfl) (pv 4) (pe_glob (v := .ref _) rfl g_LIKE rfl) (by with_unfolding_all rfl)) (pw_and1 (pt_cmpR (k_ne (K := K) rfl hu64) (pe_ix (k_ix (K := K) rfl) (pv 5) pe_int (fun _ _ => rfl)) (pe_ix (k_ix (K := K) rfl) (pv 5) pe_int (fun _ _ => rfl)) (nomark _))))) (pss_one (ps_ret pe_non)) pss_nil)
      (pss_one (ps_ret (pe_ifExp (pt_cmpR (k_in (K := K) rfl) (pv 4) (pe_glob (v := .ref _) rfl g_NARROW rfl) (by with_unfolding_all rfl)) pe_int (pe_ix (k_ix (K := K) rfl) (pv 5) pe_int (fun _ _ => rfl))))))))))))),
   (ls_seq (ls_asg (le_op le_var le_int ol_ix) lg_name)
      (ls_seq (ls_if (lt_test (le_op le_var (le_tup (la_cons le_str (la_cons le_str la_nil))) ol_in)) (ls_ret (le_op (le_if (lt_test (le_op le_var le_str ol_eq)) le_var le_var) (le_op le_var le_int ol_ix) ol_ix)) ls_next)
      (ls_seq (ls_if (lt_test (le_op le_var le_str ol_eq)) (ls_ret (le_op le_var le_int ol_ix)) ls_next)
      (ls_seq (ls_asg (le_lc (li_any (le_call (la_cons le_var la_nil))) lg_name (lgw_name (by decide)) lt_yes (le_op le_var le_var ol_ix)) lg_name)
      (ls_seq (ls_if (lt_test (le_op le_var le_str ol_eq)) (ls_ret (le_if (lt_test (le_op (le_op (le_op le_var le_int ol_ix) (le_op le_var le_int ol_ix) ol_add) (le_op le_var le_int ol_ix) ol_le)) (le_op le_var le_int ol_ix) le_non)) ls_next)
      (ls_seq (ls_if (lt_test (le_op le_var le_str ol_eq)) (ls_ret (le_if (lt_test (le_op (le_op (le_op le_var le_int ol_ix) (le_op le_var le_int ol_ix) ol_add) le_int ol_le)) (le_op (le_op le_var le_int ol_ix) (le_op le_var le_int ol_ix) ol_add) le_non)) ls_next)
      (ls_seq (ls_if (lt_test (le_op le_var le_str ol_eq)) (ls_ret (le_if (lt_and (lt_test (le_op (le_op le_var le_int ol_ix) le_int ol_eq)) (lt_test (le_op (le_op le_var le_int ol_ix) (le_op le_var le_int ol_ix) ol_eq))) (le_op le_var le_int ol_ix) le_non)) ls_next)
      (ls_seq (ls_if (lt_and (lt_test (le_inK k_LIKE le_var)) (lt_test (le_op (le_op le_var le_int ol_ix) (le_op le_var le_int ol_ix) ol_ne))) (ls_ret le_non) ls_next)
      (ls_ret (le_if (lt_test (le_inK k_NARROW le_var)) le_int (le_op le_var le_int ol_ix))))))))))), ?_⟩
  intro ds Qc h
  obtain ⟨ins, regs, ws, r, w, rfl, hr, hw, hl, hq⟩ := h
  cases r with
  | inp k =>
    exact ⟨trivial, _, atI0, Nat.le_of_ble_eq_true rfl, ⟨rfl, rfl⟩, useB_y (by (try dsimp only); decide +kernel) ⟨rfl, useB_y (by (try dsimp only); decide +kernel) ⟨trivial, _, atI1, trivial, _, atI_nL hr, hq⟩⟩⟩
  | reg k =>
    exact ⟨trivial, _, atI0, Nat.le_of_ble_eq_true rfl, ⟨rfl, rfl⟩, useB_y (by (try dsimp only); decide +kernel) ⟨rfl, useB_n (by (try dsimp only); decide +kernel) ⟨trivial, _, atI1, trivial, _, atI_nL hr, hq⟩⟩⟩
  | word x n =>
    obtain ⟨rfl, _⟩ := hr
    exact ⟨trivial, _, atI0, Nat.le_of_ble_eq_true rfl, ⟨rfl, rfl⟩, useB_n (by (try dsimp only); decide +kernel) ⟨rfl, useB_y (by (try dsimp only); decide +kernel) ⟨trivial, _, atI1, hq⟩⟩⟩
  | un o a =>
    cases o with
    | not =>
      have hm := hr.mem
      refine ⟨trivial, _, atI0, Nat.le_of_ble_eq_true rfl, ⟨rfl, rfl⟩, useB_n (by (try dsimp only); decide +kernel) ⟨rfl, useB_n (by (try dsimp only); decide +kernel) ⟨.un .not a, rfl, dLcGo_map _ (ofW ws) (by exact Nat.le_of_ble_eq_true rfl) (fun x k hx q => ?_) ?_⟩⟩⟩
      · obtain ⟨a0, ha, rfl⟩ := mem_nL hx
        obtain ⟨x, hx⟩ := hm a0 ha
        refine ⟨trivial, _, atI_nL hx, ?_⟩
        rw [← getD_of hx]
        exact q
      rw [map_ofW]
      have e := getD_of hr
      refine ⟨rfl, useB_n (by (try dsimp only); decide +kernel) ⟨rfl, useB_n (by (try dsimp only); decide +kernel) ⟨rfl, useB_n (by (try dsimp only); decide +kernel) ⟨_, rfl, useB_n (by (try dsimp only); decide +kernel) (useB_n rfl ⟨_, rfl, useB_n (by (try dsimp only); decide +kernel) ⟨trivial, _, atI0, ?_⟩⟩)⟩⟩⟩⟩
      show Qc (.fz (.int ((ws.getD a 0 : Nat) : Int)))
      rw [e]
      exact hq
    | all =>
      have hm := hr.mem
      refine ⟨trivial, _, atI0, Nat.le_of_ble_eq_true rfl, ⟨rfl, rfl⟩, useB_n (by (try dsimp only); decide +kernel) ⟨rfl, useB_n (by (try dsimp only); decide +kernel) ⟨.un .all a, rfl, dLcGo_map _ (ofW ws) (by exact Nat.le_of_ble_eq_true rfl) (fun x k hx q => ?_) ?_⟩⟩⟩
      · obtain ⟨a0, ha, rfl⟩ := mem_nL hx
        obtain ⟨x, hx⟩ := hm a0 ha
        refine ⟨trivial, _, atI_nL hx, ?_⟩
        rw [← getD_of hx]
        exact q
      rw [map_ofW]
      obtain ⟨rfl, _⟩ := hr
      refine ⟨rfl, useB_n (by (try dsimp only); decide +kernel) ⟨rfl, useB_n (by (try dsimp only); decide +kernel) ⟨rfl, useB_n (by (try dsimp only); decide +kernel) ⟨_, rfl, useB_n (by (try dsimp only); decide +kernel) (useB_n rfl ⟨_, rfl, useB_y (by (try dsimp only); decide +kernel) hq⟩)⟩⟩⟩⟩
    | any =>
      have hm := hr.mem
      refine ⟨trivial, _, atI0, Nat.le_of_ble_eq_true rfl, ⟨rfl, rfl⟩, useB_n (by (try dsimp only); decide +kernel) ⟨rfl, useB_n (by (try dsimp only); decide +kernel) ⟨.un .any a, rfl, dLcGo_map _ (ofW ws) (by exact Nat.le_of_ble_eq_true rfl) (fun x k hx q => ?_) ?_⟩⟩⟩
      · obtain ⟨a0, ha, rfl⟩ := mem_nL hx
        obtain ⟨x, hx⟩ := hm a0 ha
        refine ⟨trivial, _, atI_nL hx, ?_⟩
        rw [← getD_of hx]
        exact q
      rw [map_ofW]
      obtain ⟨rfl, _⟩ := hr
      refine ⟨rfl, useB_n (by (try dsimp only); decide +kernel) ⟨rfl, useB_n (by (try dsimp only); decide +kernel) ⟨rfl, useB_n (by (try dsimp only); decide +kernel) ⟨_, rfl, useB_n (by (try dsimp only); decide +kernel) (useB_n rfl ⟨_, rfl, useB_y (by (try dsimp only); decide +kernel) hq⟩)⟩⟩⟩⟩
    | odd =>
      have hm := hr.mem
      refine ⟨trivial, _, atI0, Nat.le_of_ble_eq_true rfl, ⟨rfl, rfl⟩, useB_n (by (try dsimp only); decide +kernel) ⟨rfl, useB_n (by (try dsimp only); decide +kernel) ⟨.un .odd a, rfl, dLcGo_map _ (ofW ws) (by exact Nat.le_of_ble_eq_true rfl) (fun x k hx q => ?_) ?_⟩⟩⟩
      · obtain ⟨a0, ha, rfl⟩ := mem_nL hx
        obtain ⟨x, hx⟩ := hm a0 ha
        refine ⟨trivial, _, atI_nL hx, ?_⟩
        rw [← getD_of hx]
        exact q
      rw [map_ofW]
      obtain ⟨rfl, _⟩ := hr
      refine ⟨rfl, useB_n (by (try dsimp only); decide +kernel) ⟨rfl, useB_n (by (try dsimp only); decide +kernel) ⟨rfl, useB_n (by (try dsimp only); decide +kernel) ⟨_, rfl, useB_n (by (try dsimp only); decide +kernel) (useB_n rfl ⟨_, rfl, useB_y (by (try dsimp only); decide +kernel) hq⟩)⟩⟩⟩⟩
  | cut a lo sz =>
    have hm := hr.mem
    refine ⟨trivial, _, atI0, Nat.le_of_ble_eq_true rfl, ⟨rfl, rfl⟩, useB_n (by (try dsimp only); decide +kernel) ⟨rfl, useB_n (by (try dsimp only); decide +kernel) ⟨.cut a lo sz, rfl, dLcGo_map _ (ofW ws) (by exact Nat.le_of_ble_eq_true rfl) (fun x k hx q => ?_) ?_⟩⟩⟩
    · obtain ⟨a0, ha, rfl⟩ := mem_nL hx
      obtain ⟨x, hx⟩ := hm a0 ha
      refine ⟨trivial, _, atI_nL hx, ?_⟩
      rw [← getD_of hx]
      exact q
    rw [map_ofW]
    obtain ⟨rfl, x, hx, hle⟩ := hr
    have e := getD_of hx
    exact ⟨rfl, useB_y (by (try dsimp only); decide +kernel) ⟨trivial, _, atI2, trivial, _, atI3, trivial, _, atI0, useB_y (decide_eq_true (by dsimp only; rw [e]; omega)) ⟨trivial, _, atI3, hq⟩⟩⟩
  | join a b =>
    have hm := hr.mem
    refine ⟨trivial, _, atI0, Nat.le_of_ble_eq_true rfl, ⟨rfl, rfl⟩, useB_n (by (try dsimp only); decide +kernel) ⟨rfl, useB_n (by (try dsimp only); decide +kernel) ⟨.join a b, rfl, dLcGo_map _ (ofW ws) (by exact Nat.le_of_ble_eq_true rfl) (fun x k hx q => ?_) ?_⟩⟩⟩
    · obtain ⟨a0, ha, rfl⟩ := mem_nL hx
      obtain ⟨x, hx⟩ := hm a0 ha
      refine ⟨trivial, _, atI_nL hx, ?_⟩
      rw [← getD_of hx]
      exact q
    rw [map_ofW]
    obtain ⟨x, y, hx, hy, rfl⟩ := hr
    have e := getD_of hx
    have e2 := getD_of hy
    have h64 := hw.2
    refine ⟨rfl, useB_n (by (try dsimp only); decide +kernel) ⟨rfl, useB_y (by (try dsimp only); decide +kernel) ⟨trivial, _, atI0, trivial, _, atI1, useB_y (decide_eq_true (by dsimp only; rw [e, e2]; omega)) ⟨trivial, _, atI0, trivial, _, atI1, ?_⟩⟩⟩⟩
    show Qc (.fz (.int (((ws.getD a 0 : Nat) : Int) + ((ws.getD b 0 : Nat) : Int))))
    rw [e, e2]
    simpa using hq
  | mv o a b =>
    cases o with
    | pick =>
      have hm := hr.mem
      refine ⟨trivial, _, atI0, Nat.le_of_ble_eq_true rfl, ⟨rfl, rfl⟩, useB_n (by (try dsimp only); decide +kernel) ⟨rfl, useB_n (by (try dsimp only); decide +kernel) ⟨.mv .pick a b, rfl, dLcGo_map _ (ofW ws) (by exact Nat.le_of_ble_eq_true rfl) (fun x k hx q => ?_) ?_⟩⟩⟩
      · obtain ⟨a0, ha, rfl⟩ := mem_nL hx
        obtain ⟨x, hx⟩ := hm a0 ha
        refine ⟨trivial, _, atI_nL hx, ?_⟩
        rw [← getD_of hx]
        exact q
      rw [map_ofW]
      obtain ⟨rfl, _⟩ := hr
      refine ⟨rfl, useB_n (by (try dsimp only); decide +kernel) ⟨rfl, useB_n (by (try dsimp only); decide +kernel) ⟨rfl, useB_n (by (try dsimp only); decide +kernel) ⟨_, rfl, useB_n (by (try dsimp only); decide +kernel) (useB_n rfl ⟨_, rfl, useB_y (by (try dsimp only); decide +kernel) hq⟩)⟩⟩⟩⟩
    | shl =>
      have hm := hr.mem
      refine ⟨trivial, _, atI0, Nat.le_of_ble_eq_true rfl, ⟨rfl, rfl⟩, useB_n (by (try dsimp only); decide +kernel) ⟨rfl, useB_n (by (try dsimp only); decide +kernel) ⟨.mv .shl a b, rfl, dLcGo_map _ (ofW ws) (by exact Nat.le_of_ble_eq_true rfl) (fun x k hx q => ?_) ?_⟩⟩⟩
      · obtain ⟨a0, ha, rfl⟩ := mem_nL hx
        obtain ⟨x, hx⟩ := hm a0 ha
        refine ⟨trivial, _, atI_nL hx, ?_⟩
        rw [← getD_of hx]
        exact q
      rw [map_ofW]
      have e := getD_of hr.1
      refine ⟨rfl, useB_n (by (try dsimp only); decide +kernel) ⟨rfl, useB_n (by (try dsimp only); decide +kernel) ⟨rfl, useB_n (by (try dsimp only); decide +kernel) ⟨_, rfl, useB_n (by (try dsimp only); decide +kernel) (useB_n rfl ⟨_, rfl, useB_n (by (try dsimp only); decide +kernel) ⟨trivial, _, atI0, ?_⟩⟩)⟩⟩⟩⟩
      show Qc (.fz (.int ((ws.getD a 0 : Nat) : Int)))
      rw [e]
      exact hq
    | shr =>
      have hm := hr.mem
      refine ⟨trivial, _, atI0, Nat.le_of_ble_eq_true rfl, ⟨rfl, rfl⟩, useB_n (by (try dsimp only); decide +kernel) ⟨rfl, useB_n (by (try dsimp only); decide +kernel) ⟨.mv .shr a b, rfl, dLcGo_map _ (ofW ws) (by exact Nat.le_of_ble_eq_true rfl) (fun x k hx q => ?_) ?_⟩⟩⟩
      · obtain ⟨a0, ha, rfl⟩ := mem_nL hx
        obtain ⟨x, hx⟩ := hm a0 ha
        refine ⟨trivial, _, atI_nL hx, ?_⟩
        rw [← getD_of hx]
        exact q
      rw [map_ofW]
      have e := getD_of hr.1
      refine ⟨rfl, useB_n (by (try dsimp only); decide +kernel) ⟨rfl, useB_n (by (try dsimp only); decide +kernel) ⟨rfl, useB_n (by (try dsimp only); decide +kernel) ⟨_, rfl, useB_n (by (try dsimp only); decide +kernel) (useB_n rfl ⟨_, rfl, useB_n (by (try dsimp only); decide +kernel) ⟨trivial, _, atI0, ?_⟩⟩)⟩⟩⟩⟩
      show Qc (.fz (.int ((ws.getD a 0 : Nat) : Int)))
      rw [e]
      exact hq
  | bin o a b =>
    cases o with
    | and =>
      have hm := hr.mem
      refine ⟨trivial, _, atI0, Nat.le_of_ble_eq_true rfl, ⟨rfl, rfl⟩, useB_n (by (try dsimp only); decide +kernel) ⟨rfl, useB_n (by (try dsimp only); decide +kernel) ⟨.bin .and a b, rfl, dLcGo_map _ (ofW ws) (by exact Nat.le_of_ble_eq_true rfl) (fun x k hx q => ?_) ?_⟩⟩⟩
      · obtain ⟨a0, ha, rfl⟩ := mem_nL hx
        obtain ⟨x, hx⟩ := hm a0 ha
        refine ⟨trivial, _, atI_nL hx, ?_⟩
        rw [← getD_of hx]
        exact q
      rw [map_ofW]
      obtain ⟨x, h1, h2, rfl⟩ := hr
      have e := getD_of h1
      have e2 := getD_of h2
      refine ⟨rfl, useB_n (by (try dsimp only); decide +kernel) ⟨rfl, useB_n (by (try dsimp only); decide +kernel) ⟨rfl, useB_n (by (try dsimp only); decide +kernel) ⟨_, rfl, useB_y (by (try dsimp only); decide +kernel) ⟨trivial, _, atI0, trivial, _, atI1, rfl, useB_n (by show (true != PyData.eqv (.int ((ws.getD a 0 : Nat) : Int)) (.int ((ws.getD b 0 : Nat) : Int))) = false; rw [e, e2, eqv_int]; simp) ⟨_, rfl, useB_n (by (try dsimp only); decide +kernel) ⟨trivial, _, atI0, ?_⟩⟩⟩⟩⟩⟩⟩
      show Qc (.fz (.int ((ws.getD a 0 : Nat) : Int)))
      rw [e]
      exact hq
    | or =>
      have hm := hr.mem
      refine ⟨trivial, _, atI0, Nat.le_of_ble_eq_true rfl, ⟨rfl, rfl⟩, useB_n (by (try dsimp only); decide +kernel) ⟨rfl, useB_n (by (try dsimp only); decide +kernel) ⟨.bin .or a b, rfl, dLcGo_map _ (ofW ws) (by exact Nat.le_of_ble_eq_true rfl) (fun x k hx q => ?_) ?_⟩⟩⟩
      · obtain ⟨a0, ha, rfl⟩ := mem_nL hx
        obtain ⟨x, hx⟩ := hm a0 ha
        refine ⟨trivial, _, atI_nL hx, ?_⟩
        rw [← getD_of hx]
        exact q
      rw [map_ofW]
      obtain ⟨x, h1, h2, rfl⟩ := hr
      have e := getD_of h1
      have e2 := getD_of h2
      refine ⟨rfl, useB_n (by (try dsimp only); decide +kernel) ⟨rfl, useB_n (by (try dsimp only); decide +kernel) ⟨rfl, useB_n (by (try dsimp only); decide +kernel) ⟨_, rfl, useB_y (by (try dsimp only); decide +kernel) ⟨trivial, _, atI0, trivial, _, atI1, rfl, useB_n (by show (true != PyData.eqv (.int ((ws.getD a 0 : Nat) : Int)) (.int ((ws.getD b 0 : Nat) : Int))) = false; rw [e, e2, eqv_int]; simp) ⟨_, rfl, useB_n (by (try dsimp only); decide +kernel) ⟨trivial, _, atI0, ?_⟩⟩⟩⟩⟩⟩⟩
      show Qc (.fz (.int ((ws.getD a 0 : Nat) : Int)))
      rw [e]
      exact hq
    | xor =>
      have hm := hr.mem
      refine ⟨trivial, _, atI0, Nat.le_of_ble_eq_true rfl, ⟨rfl, rfl⟩, useB_n (by (try dsimp only); decide +kernel) ⟨rfl, useB_n (by (try dsimp only); decide +kernel) ⟨.bin .xor a b, rfl, dLcGo_map _ (ofW ws) (by exact Nat.le_of_ble_eq_true rfl) (fun x k hx q => ?_) ?_⟩⟩⟩
      · obtain ⟨a0, ha, rfl⟩ := mem_nL hx
        obtain ⟨x, hx⟩ := hm a0 ha
        refine ⟨trivial, _, atI_nL hx, ?_⟩
        rw [← getD_of hx]
        exact q
      rw [map_ofW]
      obtain ⟨x, h1, h2, rfl⟩ := hr
      have e := getD_of h1
      have e2 := getD_of h2
      refine ⟨rfl, useB_n (by (try dsimp only); decide +kernel) ⟨rfl, useB_n (by (try dsimp only); decide +kernel) ⟨rfl, useB_n (by (try dsimp only); decide +kernel) ⟨_, rfl, useB_y (by (try dsimp only); decide +kernel) ⟨trivial, _, atI0, trivial, _, atI1, rfl, useB_n (by show (true != PyData.eqv (.int ((ws.getD a 0 : Nat) : Int)) (.int ((ws.getD b 0 : Nat) : Int))) = false; rw [e, e2, eqv_int]; simp) ⟨_, rfl, useB_n (by (try dsimp only); decide +kernel) ⟨trivial, _, atI0, ?_⟩⟩⟩⟩⟩⟩⟩
      show Qc (.fz (.int ((ws.getD a 0 : Nat) : Int)))
      rw [e]
      exact hq
    | add =>
      have hm := hr.mem
      refine ⟨trivial, _, atI0, Nat.le_of_ble_eq_true rfl, ⟨rfl, rfl⟩, useB_n (by (try dsimp only); decide +kernel) ⟨rfl, useB_n (by (try dsimp only); decide +kernel) ⟨.bin .add a b, rfl, dLcGo_map _ (ofW ws) (by exact Nat.le_of_ble_eq_true rfl) (fun x k hx q => ?_) ?_⟩⟩⟩
      · obtain ⟨a0, ha, rfl⟩ := mem_nL hx
        obtain ⟨x, hx⟩ := hm a0 ha
        refine ⟨trivial, _, atI_nL hx, ?_⟩
        rw [← getD_of hx]
        exact q
      rw [map_ofW]
      obtain ⟨x, h1, h2, rfl⟩ := hr
      have e := getD_of h1
      have e2 := getD_of h2
      refine ⟨rfl, useB_n (by (try dsimp only); decide +kernel) ⟨rfl, useB_n (by (try dsimp only); decide +kernel) ⟨rfl, useB_n (by (try dsimp only); decide +kernel) ⟨_, rfl, useB_y (by (try dsimp only); decide +kernel) ⟨trivial, _, atI0, trivial, _, atI1, rfl, useB_n (by show (true != PyData.eqv (.int ((ws.getD a 0 : Nat) : Int)) (.int ((ws.getD b 0 : Nat) : Int))) = false; rw [e, e2, eqv_int]; simp) ⟨_, rfl, useB_n (by (try dsimp only); decide +kernel) ⟨trivial, _, atI0, ?_⟩⟩⟩⟩⟩⟩⟩
      show Qc (.fz (.int ((ws.getD a 0 : Nat) : Int)))
      rw [e]
      exact hq
    | sub =>
      have hm := hr.mem
      refine ⟨trivial, _, atI0, Nat.le_of_ble_eq_true rfl, ⟨rfl, rfl⟩, useB_n (by (try dsimp only); decide +kernel) ⟨rfl, useB_n (by (try dsimp only); decide +kernel) ⟨.bin .sub a b, rfl, dLcGo_map _ (ofW ws) (by exact Nat.le_of_ble_eq_true rfl) (fun x k hx q => ?_) ?_⟩⟩⟩
      · obtain ⟨a0, ha, rfl⟩ := mem_nL hx
        obtain ⟨x, hx⟩ := hm a0 ha
        refine ⟨trivial, _, atI_nL hx, ?_⟩
        rw [← getD_of hx]
        exact q
      rw [map_ofW]
      obtain ⟨x, h1, h2, rfl⟩ := hr
      have e := getD_of h1
      have e2 := getD_of h2
      refine ⟨rfl, useB_n (by (try dsimp only); decide +kernel) ⟨rfl, useB_n (by (try dsimp only); decide +kernel) ⟨rfl, useB_n (by (try dsimp only); decide +kernel) ⟨_, rfl, useB_y (by (try dsimp only); decide +kernel) ⟨trivial, _, atI0, trivial, _, atI1, rfl, useB_n (by show (true != PyData.eqv (.int ((ws.getD a 0 : Nat) : Int)) (.int ((ws.getD b 0 : Nat) : Int))) = false; rw [e, e2, eqv_int]; simp) ⟨_, rfl, useB_n (by (try dsimp only); decide +kernel) ⟨trivial, _, atI0, ?_⟩⟩⟩⟩⟩⟩⟩
      show Qc (.fz (.int ((ws.getD a 0 : Nat) : Int)))
      rw [e]
      exact hq
    | mul =>
      have hm := hr.mem
      refine ⟨trivial, _, atI0, Nat.le_of_ble_eq_true rfl, ⟨rfl, rfl⟩, useB_n (by (try dsimp only); decide +kernel) ⟨rfl, useB_n (by (try dsimp only); decide +kernel) ⟨.bin .mul a b, rfl, dLcGo_map _ (ofW ws) (by exact Nat.le_of_ble_eq_true rfl) (fun x k hx q => ?_) ?_⟩⟩⟩
      · obtain ⟨a0, ha, rfl⟩ := mem_nL hx
        obtain ⟨x, hx⟩ := hm a0 ha
        refine ⟨trivial, _, atI_nL hx, ?_⟩
        rw [← getD_of hx]
        exact q
      rw [map_ofW]
      obtain ⟨x, h1, h2, rfl⟩ := hr
      have e := getD_of h1
      have e2 := getD_of h2
      refine ⟨rfl, useB_n (by (try dsimp only); decide +kernel) ⟨rfl, useB_n (by (try dsimp only); decide +kernel) ⟨rfl, useB_n (by (try dsimp only); decide +kernel) ⟨_, rfl, useB_y (by (try dsimp only); decide +kernel) ⟨trivial, _, atI0, trivial, _, atI1, rfl, useB_n (by show (true != PyData.eqv (.int ((ws.getD a 0 : Nat) : Int)) (.int ((ws.getD b 0 : Nat) : Int))) = false; rw [e, e2, eqv_int]; simp) ⟨_, rfl, useB_n (by (try dsimp only); decide +kernel) ⟨trivial, _, atI0, ?_⟩⟩⟩⟩⟩⟩⟩
      show Qc (.fz (.int ((ws.getD a 0 : Nat) : Int)))
      rw [e]
      exact hq
    | eq =>
      have hm := hr.mem
      refine ⟨trivial, _, atI0, Nat.le_of_ble_eq_true rfl, ⟨rfl, rfl⟩, useB_n (by (try dsimp only); decide +kernel) ⟨rfl, useB_n (by (try dsimp only); decide +kernel) ⟨.bin .eq a b, rfl, dLcGo_map _ (ofW ws) (by exact Nat.le_of_ble_eq_true rfl) (fun x k hx q => ?_) ?_⟩⟩⟩
      · obtain ⟨a0, ha, rfl⟩ := mem_nL hx
        obtain ⟨x, hx⟩ := hm a0 ha
        refine ⟨trivial, _, atI_nL hx, ?_⟩
        rw [← getD_of hx]
        exact q
      rw [map_ofW]
      obtain ⟨x, h1, h2, rfl⟩ := hr
      have e := getD_of h1
      have e2 := getD_of h2
      refine ⟨rfl, useB_n (by (try dsimp only); decide +kernel) ⟨rfl, useB_n (by (try dsimp only); decide +kernel) ⟨rfl, useB_n (by (try dsimp only); decide +kernel) ⟨_, rfl, useB_y (by (try dsimp only); decide +kernel) ⟨trivial, _, atI0, trivial, _, atI1, rfl, useB_n (by show (true != PyData.eqv (.int ((ws.getD a 0 : Nat) : Int)) (.int ((ws.getD b 0 : Nat) : Int))) = false; rw [e, e2, eqv_int]; simp) ⟨_, rfl, useB_y (by (try dsimp only); decide +kernel) hq⟩⟩⟩⟩⟩⟩
    | lt =>
      have hm := hr.mem
      refine ⟨trivial, _, atI0, Nat.le_of_ble_eq_true rfl, ⟨rfl, rfl⟩, useB_n (by (try dsimp only); decide +kernel) ⟨rfl, useB_n (by (try dsimp only); decide +kernel) ⟨.bin .lt a b, rfl, dLcGo_map _ (ofW ws) (by exact Nat.le_of_ble_eq_true rfl) (fun x k hx q => ?_) ?_⟩⟩⟩
      · obtain ⟨a0, ha, rfl⟩ := mem_nL hx
        obtain ⟨x, hx⟩ := hm a0 ha
        refine ⟨trivial, _, atI_nL hx, ?_⟩
        rw [← getD_of hx]
        exact q
      rw [map_ofW]
      obtain ⟨x, h1, h2, rfl⟩ := hr
      have e := getD_of h1
      have e2 := getD_of h2
      refine ⟨rfl, useB_n (by (try dsimp only); decide +kernel) ⟨rfl, useB_n (by (try dsimp only); decide +kernel) ⟨rfl, useB_n (by (try dsimp only); decide +kernel) ⟨_, rfl, useB_y (by (try dsimp only); decide +kernel) ⟨trivial, _, atI0, trivial, _, atI1, rfl, useB_n (by show (true != PyData.eqv (.int ((ws.getD a 0 : Nat) : Int)) (.int ((ws.getD b 0 : Nat) : Int))) = false; rw [e, e2, eqv_int]; simp) ⟨_, rfl, useB_y (by (try dsimp only); decide +kernel) hq⟩⟩⟩⟩⟩⟩
  | mux a b c =>
    have hm := hr.mem
    refine ⟨trivial, _, atI0, Nat.le_of_ble_eq_true rfl, ⟨rfl, rfl⟩, useB_n (by (try dsimp only); decide +kernel) ⟨rfl, useB_n (by (try dsimp only); decide +kernel) ⟨.mux a b c, rfl, dLcGo_map _ (ofW ws) (by exact Nat.le_of_ble_eq_true rfl) (fun x k hx q => ?_) ?_⟩⟩⟩
    · obtain ⟨a0, ha, rfl⟩ := mem_nL hx
      obtain ⟨x, hx⟩ := hm a0 ha
      refine ⟨trivial, _, atI_nL hx, ?_⟩
      rw [← getD_of hx]
      exact q
    rw [map_ofW]
    obtain ⟨h1, h2, h3⟩ := hr
    have e := getD_of h1
    have e2 := getD_of h2
    have e3 := getD_of h3
    refine ⟨rfl, useB_n (by (try dsimp only); decide +kernel) ⟨rfl, useB_n (by (try dsimp only); decide +kernel) ⟨rfl, useB_y (by (try dsimp only); decide +kernel) ⟨trivial, _, atI0, rfl, useB_y (by show (false != PyData.eqv (.int ((ws.getD a 0 : Nat) : Int)) (.int 1)) = true; rw [e, eqv_int]; rfl) ⟨trivial, _, atI1, trivial, _, atI2, rfl, useB_y (by show (false != PyData.eqv (.int ((ws.getD b 0 : Nat) : Int)) (.int ((ws.getD c 0 : Nat) : Int))) = true; rw [e2, e3, eqv_int]; simp) ⟨trivial, _, atI1, ?_⟩⟩⟩⟩⟩⟩
    show Qc (.fz (.int ((ws.getD b 0 : Nat) : Int)))
    rw [e2]
    exact hq
end
end K22

set_option Elab.async false
set_option linter.all false
set_option maxRecDepth 100000
set_option maxHeartbeats 4000000
set_option autoImplicit false
set_option pp.maxSteps 1000
namespace K22
open PySem L2 DL
section
variable {P : Program} {w : World} {K : PySem.W.Frag} {mg : Str → Option Value} {base : Heap}
abbrev s_joined_value : Stmt := topS 7
abbrev n_joined_value : List Str := ["word", "a", "b", "width", "found"]
theorem sc_joined_value : FnScope n_joined_value ["word", "a", "b", "width"] (C8.fnScope s_joined_value) := C8.fnScope_by (by decide +kernel)
theorem ok_joined_value {a : Addr} {fd : FuncData} (F : C8.Def K mg "joined_value" s_joined_value a fd) (b : Binds K fd ["word", "a", "b", "width"] []) (T : Txt mg) : CalG P w K mg base (1) "joined_value" (spD K [.bo, .bo, .bo, .bo] (Cjoined)) := by
  refine calG F b sc_joined_value rfl (fun cdv A outer s H E hA hr => ?_)
  have hu := huOf hr
  have hu64 := hr.units
  refine ⟨_, _, (pss_cons (ps_if (pt_cmpR (k_eq (K := K) rfl hu64) (pv 0) pe_str (nomark _)) (pss_one (ps_ret (pe_op op_and (pv 1) (pv 2)))) pss_nil)
      (pss_cons (ps_if (pt_cmpR (k_eq (K := K) rfl hu64) (pv 0) pe_str (nomark _)) (pss_one (ps_ret (pe_op op_or (pv 1) (pv 2)))) pss_nil)
      (pss_cons (ps_if (pt_cmpR (k_eq (K := K) rfl hu64) (pv 0) pe_str (nomark _)) (pss_one (ps_ret (pe_op op_xor (pv 1) (pv 2)))) pss_nil)
      (pss_cons (ps_if (pt_cmpR (k_eq (K := K) rfl hu64) (pv 0) pe_str (nomark _)) (pss_one (ps_ret (pe_callTy call_int1 (by rfl) T.int (by decide +kernel) (pa_cons (pe_cmpR (k_eq (K := K) rfl hu64) (pv 1) (pv 2) (nomark _)) pa_nil)))) pss_nil)
      (pss_cons (ps_if (pt_cmpR (k_eq (K := K) rfl hu64) (pv 0) pe_str (nomark _)) (pss_one (ps_ret (pe_callTy call_int1 (by rfl) T.int (by decide +kernel) (pa_cons (pe_cmpR op_lt (pv 1) (pv 2) (nomark _)) pa_nil)))) pss_nil)
      (pss_cons (ps_asg (pe_ifExp (pt_cmpR (k_eq (K := K) rfl hu64) (pv 0) pe_str (nomark _)) (pe_op (k_add (K := K) rfl) (pv 1) (pv 2)) (pe_ifExp (pt_cmpR (k_eq (K := K) rfl hu64) (pv 0) pe_str (nomark _)) (pe_op op_sub (pv 1) (pv 2)) (pe_op op_mulA (pv 1) (pv 2)))) (pg_name (i := 4) sc_joined_value.nd rfl (by first | exact Or.inl rfl | exact Or.inr rfl)))
      (pss_one (ps_ret (pe_op op_and (pv 4) (pe_op op_sub (pe_op op_shl pe_int (pv 3)) pe_int)))))))))),
   (ls_seq (ls_if (lt_test (le_op le_var le_str ol_eq)) (ls_ret (le_op le_var le_var ol_and)) ls_next)
      (ls_seq (ls_if (lt_test (le_op le_var le_str ol_eq)) (ls_ret (le_op le_var le_var ol_or)) ls_next)
      (ls_seq (ls_if (lt_test (le_op le_var le_str ol_eq)) (ls_ret (le_op le_var le_var ol_xor)) ls_next)
      (ls_seq (ls_if (lt_test (le_op le_var le_str ol_eq)) (ls_ret (le_cb (la_cons (le_op le_var le_var ol_eq) la_nil) cl_int)) ls_next)
      (ls_seq (ls_if (lt_test (le_op le_var le_str ol_eq)) (ls_ret (le_cb (la_cons (le_op le_var le_var ol_lt) la_nil) cl_int)) ls_next)
      (ls_seq (ls_asg (le_if (lt_test (le_op le_var le_str ol_eq)) (le_op le_var le_var ol_add) (le_if (lt_test (le_op le_var le_str ol_eq)) (le_op le_var le_var ol_sub) (le_op le_var le_var ol_mul))) lg_name)
      (ls_ret (le_op le_var (le_op (le_op le_int le_var ol_shl) le_int ol_sub) ol_and)))))))), ?_⟩
  intro ds Qc h
  obtain ⟨o, w, a, b, rfl, hw, ha, hb, hq⟩ := h
  have h64 := hw.2
  have sa := sml h64 ha
  have pw : CPow 1 (w : Int) := ⟨by omega, by omega, by decide⟩
  cases o with
  | and => exact ⟨rfl, useB_y (by (try dsimp only); decide +kernel) hq⟩
  | or => exact ⟨rfl, useB_n (by (try dsimp only); decide +kernel) ⟨rfl, useB_y (by (try dsimp only); decide +kernel) hq⟩⟩
  | xor => exact ⟨rfl, useB_n (by (try dsimp only); decide +kernel) ⟨rfl, useB_n (by (try dsimp only); decide +kernel) ⟨rfl, useB_y (by (try dsimp only); decide +kernel) hq⟩⟩⟩
  | eq =>
    refine ⟨rfl, useB_n (by (try dsimp only); decide +kernel) ⟨rfl, useB_n (by (try dsimp only); decide +kernel) ⟨rfl, useB_n (by (try dsimp only); decide +kernel) ⟨rfl, useB_y (by (try dsimp only); decide +kernel) ⟨rfl, ?_⟩⟩⟩⟩⟩
    show Qc (.fz (.int (if (false != PyData.eqv (.int a) (.int b)) = true then 1 else 0)))
    rw [eqv_int]
    have e : (false != decide (a = b)) = decide (a = b) := by cases decide (a = b) <;> rfl
    rw [e]
    simpa [BO.v] using hq
  | lt =>
    refine ⟨rfl, useB_n (by (try dsimp only); decide +kernel) ⟨rfl, useB_n (by (try dsimp only); decide +kernel) ⟨rfl, useB_n (by (try dsimp only); decide +kernel) ⟨rfl, useB_n (by (try dsimp only); decide +kernel) ⟨rfl, useB_y (by (try dsimp only); decide +kernel) ?_⟩⟩⟩⟩⟩
    show Qc (.fz (.int (if decide (a < b) = true then 1 else 0)))
    simpa [BO.v] using hq
  | add =>
    refine ⟨rfl, useB_n (by (try dsimp only); decide +kernel) ⟨rfl, useB_n (by (try dsimp only); decide +kernel) ⟨rfl, useB_n (by (try dsimp only); decide +kernel) ⟨rfl, useB_n (by (try dsimp only); decide +kernel) ⟨rfl, useB_n (by (try dsimp only); decide +kernel) ⟨rfl, useB_y (by (try dsimp only); decide +kernel) ⟨pw, ?_⟩⟩⟩⟩⟩⟩⟩
    show Qc (.fz (.int (Builtin.bitAnd (a + b) (1 * 2 ^ ((w : Nat) : Int).toNat - 1))))
    rw [sh1, mask_all]
    exact hq
  | sub =>
    refine ⟨rfl, useB_n (by (try dsimp only); decide +kernel) ⟨rfl, useB_n (by (try dsimp only); decide +kernel) ⟨rfl, useB_n (by (try dsimp only); decide +kernel) ⟨rfl, useB_n (by (try dsimp only); decide +kernel) ⟨rfl, useB_n (by (try dsimp only); decide +kernel) ⟨rfl, useB_n (by (try dsimp only); decide +kernel) ⟨rfl, useB_y (by (try dsimp only); decide +kernel) ⟨pw, ?_⟩⟩⟩⟩⟩⟩⟩⟩
    show Qc (.fz (.int (Builtin.bitAnd (a - b) (1 * 2 ^ ((w : Nat) : Int).toNat - 1))))
    rw [sh1, mask_all]
    exact hq
  | mul =>
    refine ⟨rfl, useB_n (by (try dsimp only); decide +kernel) ⟨rfl, useB_n (by (try dsimp only); decide +kernel) ⟨rfl, useB_n (by (try dsimp only); decide +kernel) ⟨rfl, useB_n (by (try dsimp only); decide +kernel) ⟨rfl, useB_n (by (try dsimp only); decide +kernel) ⟨rfl, useB_n (by (try dsimp only); decide +kernel) ⟨rfl, useB_n (by (try dsimp only); decide +kernel) ⟨cmul_l sa, pw, ?_⟩⟩⟩⟩⟩⟩⟩⟩
    show Qc (.fz (.int (Builtin.bitAnd (a * b) (1 * 2 ^ ((w : Nat) : Int).toNat - 1))))
    rw [sh1, mask_all]
    exact hq

abbrev s_moved_value : Stmt := topS 8
abbrev n_moved_value : List Str := ["word", "a", "i", "width"]
theorem sc_moved_value : FnScope n_moved_value ["word", "a", "i", "width"] (C8.fnScope s_moved_value) := C8.fnScope_by (by decide +kernel)
theorem ok_moved_value {a : Addr} {fd : FuncData} (F : C8.Def K mg "moved_value" s_moved_value a fd) (b : Binds K fd ["word", "a", "i", "width"] []) (T : Txt mg) : CalG P w K mg base (1) "moved_value" (spD K [.bo, .bo, .bo, .bo] (Cmoved)) := by
  refine calG F b sc_moved_value rfl (fun cdv A outer s H E hA hr => ?_)
  have hu := huOf hr
  have hu64 := hr.units
  refine ⟨_, _, (pss_cons (ps_if (pt_cmpR op_ge (pv 2) (pv 3) (nomark _)) (pss_one (ps_ret pe_int)) pss_nil)
      (pss_cons (ps_if (pt_cmpR (k_eq (K := K) rfl hu64) (pv 0) pe_str (nomark _)) (pss_one (ps_ret (pe_op op_and (pe_op op_shr (pv 1) (pv 2)) pe_int))) pss_nil)
      (pss_one (ps_ret (pe_ifExp (pt_cmpR (k_eq (K := K) rfl hu64) (pv 0) pe_str (nomark _)) (pe_op op_shr (pv 1) (pv 2)) (pe_op op_and (pe_op op_shl (pv 1) (pv 2)) (pe_op op_sub (pe_op op_shl pe_int (pv 3)) pe_int))))))),
   (ls_seq (ls_if (lt_test (le_op le_var le_var ol_ge)) (ls_ret le_int) ls_next)
      (ls_seq (ls_if (lt_test (le_op le_var le_str ol_eq)) (ls_ret (le_op (le_op le_var le_var ol_shr) le_int ol_and)) ls_next)
      (ls_ret (le_if (lt_test (le_op le_var le_str ol_eq)) (le_op le_var le_var ol_shr) (le_op (le_op le_var le_var ol_shl) (le_op (le_op le_int le_var ol_shl) le_int ol_sub) ol_and))))), ?_⟩
  intro ds Qc h
  obtain ⟨o, w, a, b, rfl, hw, ha, hb, hq⟩ := h
  have h64 := hw.2
  have sa := sml h64 ha
  have pw : CPow 1 (w : Int) := ⟨by omega, by omega, by decide⟩
  refine useB_d (fun h1 => ?_) (fun h1 => ?_)
  · show Qc (.fz (.int 0))
    have e : o.v w a b = 0 := if_pos h1
    rw [e] at hq
    exact hq
  have e : o.v w a b = _ := if_neg h1
  rw [e] at hq
  have hb0 := hb.1
  cases o with
  | pick =>
    refine ⟨rfl, useB_y (by (try dsimp only); decide +kernel) ⟨hb0, ?_⟩⟩
    show Qc (.fz (.int (Builtin.bitAnd (a / 2 ^ b.toNat) 1)))
    rw [PyProof.Rows.bitAnd_m1]
    exact hq
  | shr => exact ⟨rfl, useB_n (by (try dsimp only); decide +kernel) ⟨rfl, useB_y (by (try dsimp only); decide +kernel) ⟨hb0, hq⟩⟩⟩
  | shl =>
    refine ⟨rfl, useB_n (by (try dsimp only); decide +kernel) ⟨rfl, useB_n (by (try dsimp only); decide +kernel) ⟨⟨hb0, by omega, sa⟩, pw, ?_⟩⟩⟩
    show Qc (.fz (.int (Builtin.bitAnd (a * 2 ^ b.toNat) (1 * 2 ^ ((w : Nat) : Int).toNat - 1))))
    rw [sh1, mask_all]
    exact hq
abbrev s_odd_value : Stmt := topS 9
abbrev n_odd_value : List Str := ["a", "found"]
theorem sc_odd_value : FnScope n_odd_value ["a"] (C8.fnScope s_odd_value) := C8.fnScope_by (by decide +kernel)
theorem ok_odd_value {a : Addr} {fd : FuncData} (F : C8.Def K mg "odd_value" s_odd_value a fd) (b : Binds K fd ["a"] []) (T : Txt mg) : CalG P w K mg base (1) "odd_value" (spD K [.bo] (Codd)) := by
  refine calG F b sc_odd_value rfl (fun cdv A outer s H E hA hr => ?_)
  have hu := huOf hr
  have hu64 := hr.units
  refine ⟨_, _, (pss_cons (ps_asg pe_int (pg_name (i := 1) sc_odd_value.nd rfl (by first | exact Or.inl rfl | exact Or.inr rfl)))
      (pss_cons (ps_while PassesOwn.never (pt_cmpR op_gt (pv 0) pe_int (nomark _))
      (pss_cons (ps_asg (pe_op op_xor (pv 1) (pe_op op_and (pv 0) pe_int)) (pg_name (i := 1) sc_odd_value.nd rfl (by first | exact Or.inl rfl | exact Or.inr rfl)))
      (pss_one (ps_asg (pe_op op_shr (pv 0) pe_int) (pg_name (i := 0) sc_odd_value.nd rfl (by first | exact Or.inl rfl | exact Or.inr rfl))))))
      (pss_one (ps_ret (pv 1))))),
   (ls_seq (ls_asg le_int lg_name)
      (ls_seq (ls_while (lt_test (le_op le_var le_int ol_gt))
      (ls_seq (ls_asg (le_op le_var (le_op le_var le_int ol_and) ol_xor) lg_name)
      (ls_asg (le_op le_var le_int ol_shr) lg_name)))
      (ls_ret le_var))), ?_⟩
  intro ds Qc h
  obtain ⟨a, rfl, ha, hq⟩ := h
  refine ⟨fun m ρ => ∃ (t : Nat) (o0 : Option Sl), t ≤ 64 ∧ m = 64 - t ∧ (o0 = some (.bo (.int (a / 2 ^ t))) ∨ o0 = some (.sh (.int (a / 2 ^ t)))) ∧ ρ = [o0, some (.sh (.int (bitsum a t % 2)))], ⟨64, 0, _, by decide, rfl, .inl rfl, ?_⟩, ?_⟩
  · show [some (Sl.bo (.int a)), some (.sh (.int 0))] = _
    rw [show a / 2 ^ 0 = a by simp]
    rfl
  rintro m ρ ⟨t, o0, ht, rfl, h0, rfl⟩
  have st := ediv_two_succ a t
  have sx := xor_par (bitsum a t) (a / 2 ^ t)
  rw [← bitsum_succ] at sx
  rcases h0 with rfl | rfl
  all_goals
    refine useB_d (fun hp => ?_) (fun hp => ?_)
    · have ht2 : t < 64 := by
        rcases Nat.lt_or_ge t 64 with h | h
        · exact h
        · rw [ediv_hi ha h] at hp; exact absurd hp (by decide)
      refine ⟨(show (0 : Int) ≤ 1 by decide), 64 - (t + 1), by omega, t + 1, _, ht2, rfl, .inr rfl, ?_⟩
      show [some (Sl.sh (.int (a / 2 ^ t / 2 ^ (1 : Int).toNat))), some (Sl.sh (.int (Builtin.bitXor (bitsum a t % 2) (Builtin.bitAnd (a / 2 ^ t) 1))))] = _
      rw [st, PyProof.Rows.bitAnd_m1, sx]
    · show Qc (.fz (.int (bitsum a t % 2)))
      rw [par_at ha ht hp]
      exact hq
end
end K22

set_option Elab.async false
set_option linter.all false
set_option maxRecDepth 100000
set_option maxHeartbeats 4000000
set_option autoImplicit false
set_option pp.maxSteps 1000
namespace K22
open PySem L2 DL
section
variable {P : Program} {w : World} {K : PySem.W.Frag} {mg : Str → Option Value} {base : Heap}
abbrev s_value_of_row : Stmt := topS 10
abbrev n_value_of_row : List Str := ["row", "widths", "values", "lot", "state", "word", "a", "width", "b"]
theorem sc_value_of_row : FnScope n_value_of_row ["row", "widths", "values", "lot", "state"] (C8.fnScope s_value_of_row) := C8.fnScope_by (by decide +kernel)
theorem ok_value_of_row {a : Addr} {fd : FuncData} (F : C8.Def K mg "value_of_row" s_value_of_row a fd) (b : Binds K fd ["row", "widths", "values", "lot", "state"] []) (T : Txt mg) (c_joined_value : CalG P w K mg base 1 "joined_value" (spD K [.bo, .bo, .bo, .bo] (Cjoined))) (c_moved_value : CalG P w K mg base 1 "moved_value" (spD K [.bo, .bo, .bo, .bo] (Cmoved))) (c_odd_value : CalG P w K mg base 1 "odd_value" (spD K [.bo] (Codd))) : CalG P w K mg base (2) "value_of_row" (spD K [.bo, .bo, .bo, .bo, .bo] (Cval)) := by
  refine calG F b sc_value_of_row rfl (fun cdv A outer s H E hA hr => ?_)
  have hu := huOf hr
  have hu64 := hr.units
  refine ⟨_, _, (pss_cons (ps_asg (pe_ix (k_ix (K := K) rfl) (pv 0) pe_int (fun _ _ => rfl)) (pg_name (i := 5) sc_value_of_row.nd rfl (by first | exact Or.inl rfl | exact Or.inr rfl)))
      (pss_cons (ps_if (pt_cmpR (k_eq (K := K) rfl hu64) (pv 5) pe_str (nomark _)) (pss_one (ps_ret (pe_ix (k_ix (K := K) rfl) (pv 3) (pe_ix (k_ix (K := K) rfl) (pv 0) pe_int (fun _ _ => rfl)) (fun _ _ => rfl)))) pss_nil)
      (pss_cons (ps_if (pt_cmpR (k_eq (K := K) rfl hu64) (pv 5) pe_str (nomark _)) (pss_one (ps_ret (pe_ix (k_ix (K := K) rfl) (pv 4) (pe_ix (k_ix (K := K) rfl) (pv 0) pe_int (fun _ _ => rfl)) (fun _ _ => rfl)))) pss_nil)
      (pss_cons (ps_if (pt_cmpR (k_eq (K := K) rfl hu64) (pv 5) pe_str (nomark _)) (pss_one (ps_ret (pe_ix (k_ix (K := K) rfl) (pv 0) pe_int (fun _ _ => rfl)))) pss_nil)
      (pss_cons (ps_par (i := 6) (j := 7) (by rfl) sc_value_of_row.nd rfl rfl (by decide) rfl rfl (pa_cons (pe_ix (k_ix (K := K) rfl) (pv 2) (pe_ix (k_ix (K := K) rfl) (pv 0) pe_int (fun _ _ => rfl)) (fun _ _ => rfl)) (pa_cons (pe_ix (k_ix (K := K) rfl) (pv 1) (pe_ix (k_ix (K := K) rfl) (pv 0) pe_int (fun _ _ => rfl)) (fun _ _ => rfl)) pa_nil)) (by rfl))
      (pss_cons (ps_if (pt_cmpR (k_eq (K := K) rfl hu64) (pv 5) pe_str (nomark _)) (pss_one (ps_ret (pe_ifExp (pt_cmpR (k_eq (K := K) rfl hu64) (pv 6) pe_int (nomark _)) (pe_ix (k_ix (K := K) rfl) (pv 2) (pe_ix (k_ix (K := K) rfl) (pv 0) pe_int (fun _ _ => rfl)) (fun _ _ => rfl)) (pe_ix (k_ix (K := K) rfl) (pv 2) (pe_ix (k_ix (K := K) rfl) (pv 0) pe_int (fun _ _ => rfl)) (fun _ _ => rfl))))) pss_nil)
      (pss_cons (ps_if (pt_cmpR (k_eq (K := K) rfl hu64) (pv 5) pe_str (nomark _)) (pss_one (ps_ret (pe_op op_xor (pv 6) (pe_op op_sub (pe_op op_shl pe_int (pv 7)) pe_int)))) pss_nil)
      (pss_cons (ps_if (pt_cmpR (k_eq (K := K) rfl hu64) (pv 5) pe_str (nomark _)) (pss_one (ps_ret (pe_op op_and (pe_op op_shr (pv 6) (pe_ix (k_ix (K := K) rfl) (pv 0) pe_int (fun _ _ => rfl))) (pe_op op_sub (pe_op op_shl pe_int (pe_ix (k_ix (K := K) rfl) (pv 0) pe_int (fun _ _ => rfl))) pe_int)))) pss_nil)
      (pss_cons (ps_if (pt_cmpR (k_eq (K := K) rfl hu64) (pv 5) pe_str (nomark _)) (pss_one (ps_ret (pe_callTy call_int1 (by rfl) T.int (by decide +kernel) (pa_cons (pe_cmpR (k_eq (K := K) rfl hu64) (pv 6) (pe_op op_sub (pe_op op_shl pe_int (pv 7)) pe_int) (nomark _)) pa_nil)))) pss_nil)
      (pss_cons (ps_if (pt_cmpR (k_eq (K := K) rfl hu64) (pv 5) pe_str (nomark _)) (pss_one (ps_ret (pe_callTy call_int1 (by rfl) T.int (by decide +kernel) (pa_cons (pe_cmpR (k_ne (K := K) rfl hu64) (pv 6) pe_int (nomark _)) pa_nil)))) pss_nil)
      (pss_cons (ps_if (pt_cmpR (k_eq (K := K) rfl hu64) (pv 5) pe_str (nomark _)) (pss_one (ps_ret (pe_cG c_odd_value hA hr (by first | decide | omega) rfl (pa_cons (pv 6) pa_nil)))) pss_nil)
      (pss_cons (ps_asg (pe_ix (k_ix (K := K) rfl) (pv 2) (pe_ix (k_ix (K := K) rfl) (pv 0) pe_int (fun _ _ => rfl)) (fun _ _ => rfl)) (pg_name (i := 8) sc_value_of_row.nd rfl (by first | exact Or.inl rfl | exact Or.inr rfl)))
      (pss_cons (ps_if (pt_cmpR (k_eq (K := K) rfl hu64) (pv 5) pe_str (nomark _)) (pss_one (ps_ret (pe_op op_or (pe_op op_shl (pv 6) (pe_ix (k_ix (K := K) rfl) (pv 1) (pe_ix (k_ix (K := K) rfl) (pv 0) pe_int (fun _ _ => rfl)) (fun _ _ => rfl))) (pv 8)))) pss_nil)
      (pss_cons (ps_if (pt_cmpR (k_in (K := K) rfl) (pv 5) (pe_tup (pa_cons pe_str (pa_cons pe_str (pa_cons pe_str pa_nil)))) (by with_unfolding_all rfl)) (pss_one (ps_ret (pe_cG c_moved_value hA hr (by first | decide | omega) rfl (pa_cons (pv 5) (pa_cons (pv 6) (pa_cons (pv 8) (pa_cons (pv 7) pa_nil))))))) pss_nil)
      (pss_one (ps_ret (pe_cG c_joined_value hA hr (by first | decide | omega) rfl (pa_cons (pv 5) (pa_cons (pv 6) (pa_cons (pv 8) (pa_cons (pv 7) pa_nil))))))))))))))))))))),
   (ls_seq (ls_asg (le_op le_var le_int ol_ix) lg_name)
      (ls_seq (ls_if (lt_test (le_op le_var le_str ol_eq)) (ls_ret (le_op le_var (le_op le_var le_int ol_ix) ol_ix)) ls_next)
      (ls_seq (ls_if (lt_test (le_op le_var le_str ol_eq)) (ls_ret (le_op le_var (le_op le_var le_int ol_ix) ol_ix)) ls_next)
      (ls_seq (ls_if (lt_test (le_op le_var le_str ol_eq)) (ls_ret (le_op le_var le_int ol_ix)) ls_next)
      (ls_seq (ls_par (le_op le_var (le_op le_var le_int ol_ix) ol_ix) (le_op le_var (le_op le_var le_int ol_ix) ol_ix))
      (ls_seq (ls_if (lt_test (le_op le_var le_str ol_eq)) (ls_ret (le_if (lt_test (le_op le_var le_int ol_eq)) (le_op le_var (le_op le_var le_int ol_ix) ol_ix) (le_op le_var (le_op le_var le_int ol_ix) ol_ix))) ls_next)
      (ls_seq (ls_if (lt_test (le_op le_var le_str ol_eq)) (ls_ret (le_op le_var (le_op (le_op le_int le_var ol_shl) le_int ol_sub) ol_xor)) ls_next)
      (ls_seq (ls_if (lt_test (le_op le_var le_str ol_eq)) (ls_ret (le_op (le_op le_var (le_op le_var le_int ol_ix) ol_shr) (le_op (le_op le_int (le_op le_var le_int ol_ix) ol_shl) le_int ol_sub) ol_and)) ls_next)
      (ls_seq (ls_if (lt_test (le_op le_var le_str ol_eq)) (ls_ret (le_cb (la_cons (le_op le_var (le_op (le_op le_int le_var ol_shl) le_int ol_sub) ol_eq) la_nil) cl_int)) ls_next)
      (ls_seq (ls_if (lt_test (le_op le_var le_str ol_eq)) (ls_ret (le_cb (la_cons (le_op le_var le_int ol_ne) la_nil) cl_int)) ls_next)
      (ls_seq (ls_if (lt_test (le_op le_var le_str ol_eq)) (ls_ret (le_call (la_cons le_var la_nil))) ls_next)
      (ls_seq (ls_asg (le_op le_var (le_op le_var le_int ol_ix) ol_ix) lg_name)
      (ls_seq (ls_if (lt_test (le_op le_var le_str ol_eq)) (ls_ret (le_op (le_op le_var (le_op le_var (le_op le_var le_int ol_ix) ol_ix) ol_shl) le_var ol_or)) ls_next)
      (ls_seq (ls_if (lt_test (le_op le_var (le_tup (la_cons le_str (la_cons le_str (la_cons le_str la_nil)))) ol_in)) (ls_ret (le_call (la_cons le_var (la_cons le_var (la_cons le_var (la_cons le_var la_nil)))))) ls_next)
      (ls_ret (le_call (la_cons le_var (la_cons le_var (la_cons le_var (la_cons le_var la_nil)))))))))))))))))))), ?_⟩
  intro ds Qc h
  obtain ⟨ins, regs, ws, r, w, vs, lot, st, rfl, hr, hw, hV, hq⟩ := h
  cases r with
  | inp k =>
    obtain ⟨v, hv1, _⟩ := hV.lot.at hr
    have hq2 : Qc (.fz (.int v)) := by have := hq; simp only [Row.val, getV hv1] at this; exact this
    exact ⟨trivial, _, atI0, rfl, useB_y (by (try dsimp only); decide +kernel) ⟨trivial, _, atI1, trivial, _, atI_iL hv1, hq2⟩⟩
  | reg k =>
    obtain ⟨v, hv1, _⟩ := hV.st.at hr
    have hq2 : Qc (.fz (.int v)) := by have := hq; simp only [Row.val, getV hv1] at this; exact this
    exact ⟨trivial, _, atI0, rfl, useB_n (by (try dsimp only); decide +kernel) ⟨rfl, useB_y (by (try dsimp only); decide +kernel) ⟨trivial, _, atI1, trivial, _, atI_iL hv1, hq2⟩⟩⟩
  | word x n =>
    exact ⟨trivial, _, atI0, rfl, useB_n (by (try dsimp only); decide +kernel) ⟨rfl, useB_n (by (try dsimp only); decide +kernel) ⟨rfl, useB_y (by (try dsimp only); decide +kernel) ⟨trivial, _, atI2, hq⟩⟩⟩⟩
  | un o a =>
    cases o with
    | not =>
      obtain ⟨x, ha⟩ := hr.mem a (by simp [Row.mem])
      obtain ⟨ha1, hxw, va, hva, ra⟩ := hV.at ha
      have eva := getV hva
      have ewa := getD_of ha1
      have h64 := hxw.2
      have sa := sml h64 ra
      simp only [Row.val, eva, ewa] at hq
      refine ⟨trivial, _, atI0, rfl, useB_n (by (try dsimp only); decide +kernel) ⟨rfl, useB_n (by (try dsimp only); decide +kernel) ⟨rfl, useB_n (by (try dsimp only); decide +kernel) ⟨trivial, _, atI1, trivial, _, atI_iL hva, trivial, _, atI1, trivial, _, atI_nL ha1, rfl, useB_n (by (try dsimp only); decide +kernel) ⟨rfl, useB_y (by (try dsimp only); decide +kernel) ⟨pw1 h64, ?_⟩⟩⟩⟩⟩⟩
      show Qc (.fz (.int (Builtin.bitXor va (1 * 2 ^ ((x : Nat) : Int).toNat - 1))))
      rw [sh1, not_mask ra]
      exact hq
    | all =>
      obtain ⟨x, ha⟩ := hr.mem a (by simp [Row.mem])
      obtain ⟨ha1, hxw, va, hva, ra⟩ := hV.at ha
      have eva := getV hva
      have ewa := getD_of ha1
      have h64 := hxw.2
      have sa := sml h64 ra
      simp only [Row.val, eva, ewa] at hq
      refine ⟨trivial, _, atI0, rfl, useB_n (by (try dsimp only); decide +kernel) ⟨rfl, useB_n (by (try dsimp only); decide +kernel) ⟨rfl, useB_n (by (try dsimp only); decide +kernel) ⟨trivial, _, atI1, trivial, _, atI_iL hva, trivial, _, atI1, trivial, _, atI_nL ha1, rfl, useB_n (by (try dsimp only); decide +kernel) ⟨rfl, useB_n (by (try dsimp only); decide +kernel) ⟨rfl, useB_n (by (try dsimp only); decide +kernel) ⟨rfl, useB_y (by (try dsimp only); decide +kernel) ⟨pw1 h64, rfl, ?_⟩⟩⟩⟩⟩⟩⟩⟩
      show Qc (.fz (.int (if (false != PyData.eqv (.int va) (.int (1 * 2 ^ ((x : Nat) : Int).toNat - 1))) = true then 1 else 0)))
      rw [sh1, eqv_int, bne_false]
      simpa [UO.v] using hq
    | any =>
      obtain ⟨x, ha⟩ := hr.mem a (by simp [Row.mem])
      obtain ⟨ha1, hxw, va, hva, ra⟩ := hV.at ha
      have eva := getV hva
      have ewa := getD_of ha1
      have h64 := hxw.2
      have sa := sml h64 ra
      simp only [Row.val, eva, ewa] at hq
      refine ⟨trivial, _, atI0, rfl, useB_n (by (try dsimp only); decide +kernel) ⟨rfl, useB_n (by (try dsimp only); decide +kernel) ⟨rfl, useB_n (by (try dsimp only); decide +kernel) ⟨trivial, _, atI1, trivial, _, atI_iL hva, trivial, _, atI1, trivial, _, atI_nL ha1, rfl, useB_n (by (try dsimp only); decide +kernel) ⟨rfl, useB_n (by (try dsimp only); decide +kernel) ⟨rfl, useB_n (by (try dsimp only); decide +kernel) ⟨rfl, useB_n (by (try dsimp only); decide +kernel) ⟨rfl, useB_y (by (try dsimp only); decide +kernel) ⟨rfl, ?_⟩⟩⟩⟩⟩⟩⟩⟩⟩
      show Qc (.fz (.int (if (true != PyData.eqv (.int va) (.int 0)) = true then 1 else 0)))
      rw [eqv_int, bne_true]
      simpa [UO.v] using hq
    | odd =>
      obtain ⟨x, ha⟩ := hr.mem a (by simp [Row.mem])
      obtain ⟨ha1, hxw, va, hva, ra⟩ := hV.at ha
      have eva := getV hva
      have ewa := getD_of ha1
      have h64 := hxw.2
      have sa := sml h64 ra
      simp only [Row.val, eva, ewa] at hq
      refine ⟨trivial, _, atI0, rfl, useB_n (by (try dsimp only); decide +kernel) ⟨rfl, useB_n (by (try dsimp only); decide +kernel) ⟨rfl, useB_n (by (try dsimp only); decide +kernel) ⟨trivial, _, atI1, trivial, _, atI_iL hva, trivial, _, atI1, trivial, _, atI_nL ha1, rfl, useB_n (by (try dsimp only); decide +kernel) ⟨rfl, useB_n (by (try dsimp only); decide +kernel) ⟨rfl, useB_n (by (try dsimp only); decide +kernel) ⟨rfl, useB_n (by (try dsimp only); decide +kernel) ⟨rfl, useB_n (by (try dsimp only); decide +kernel) ⟨rfl, useB_y (by (try dsimp only); decide +kernel) ⟨_, rfl, ra.mono h64, ?_⟩⟩⟩⟩⟩⟩⟩⟩⟩⟩
      exact hq
  | cut a lo sz =>
    obtain ⟨x, ha⟩ := hr.mem a (by simp [Row.mem])
    obtain ⟨ha1, hxw, va, hva, ra⟩ := hV.at ha
    have eva := getV hva
    have ewa := getD_of ha1
    have h64 := hxw.2
    have sa := sml h64 ra
    simp only [Row.val, eva, ewa] at hq
    obtain ⟨rfl, x2, hx2, hle⟩ := hr
    have hw2 := hw.2
    refine ⟨trivial, _, atI0, rfl, useB_n (by (try dsimp only); decide +kernel) ⟨rfl, useB_n (by (try dsimp only); decide +kernel) ⟨rfl, useB_n (by (try dsimp only); decide +kernel) ⟨trivial, _, atI1, trivial, _, atI_iL hva, trivial, _, atI1, trivial, _, atI_nL ha1, rfl, useB_n (by (try dsimp only); decide +kernel) ⟨rfl, useB_n (by (try dsimp only); decide +kernel) ⟨rfl, useB_y (by (try dsimp only); decide +kernel) ⟨trivial, _, atI2, (show (0 : Int) ≤ (lo : Int) by omega), trivial, _, atI3, pw1 hw2, ?_⟩⟩⟩⟩⟩⟩⟩
    show Qc (.fz (.int (Builtin.bitAnd (va / 2 ^ ((lo : Nat) : Int).toNat) (1 * 2 ^ ((w : Nat) : Int).toNat - 1))))
    rw [sh1, mask_all, Int.toNat_natCast]
    exact hq
  | join a b =>
    obtain ⟨x, ha⟩ := hr.mem a (by simp [Row.mem])
    obtain ⟨ha1, hxw, va, hva, ra⟩ := hV.at ha
    have eva := getV hva
    have ewa := getD_of ha1
    obtain ⟨y, hb⟩ := hr.mem b (by simp [Row.mem])
    obtain ⟨hb1, hyw, vb, hvb, rb⟩ := hV.at hb
    have evb := getV hvb
    have ewb := getD_of hb1
    have h64 := hxw.2
    have sa := sml h64 ra
    simp only [Row.val, eva, ewa, evb, ewb] at hq
    have hyy := hyw.2
    refine ⟨trivial, _, atI0, rfl, useB_n (by (try dsimp only); decide +kernel) ⟨rfl, useB_n (by (try dsimp only); decide +kernel) ⟨rfl, useB_n (by (try dsimp only); decide +kernel) ⟨trivial, _, atI1, trivial, _, atI_iL hva, trivial, _, atI1, trivial, _, atI_nL ha1, rfl, useB_n (by (try dsimp only); decide +kernel) ⟨rfl, useB_n (by (try dsimp only); decide +kernel) ⟨rfl, useB_n (by (try dsimp only); decide +kernel) ⟨rfl, useB_n (by (try dsimp only); decide +kernel) ⟨rfl, useB_n (by (try dsimp only); decide +kernel) ⟨rfl, useB_n (by (try dsimp only); decide +kernel) ⟨trivial, _, atI2, trivial, _, atI_iL hvb, rfl, useB_y (by (try dsimp only); decide +kernel) ⟨trivial, _, atI2, trivial, _, atI_nL hb1, ⟨by omega, by omega, sa⟩, ?_⟩⟩⟩⟩⟩⟩⟩⟩⟩⟩⟩
    show Qc (.fz (.int (Builtin.bitOr (va * 2 ^ ((y : Nat) : Int).toNat) vb)))
    rw [Int.toNat_natCast, or_join ra.1 rb]
    exact hq
  | mv o a b =>
    cases o with
    | pick =>
      obtain ⟨x, ha⟩ := hr.mem a (by simp [Row.mem])
      obtain ⟨ha1, hxw, va, hva, ra⟩ := hV.at ha
      have eva := getV hva
      have ewa := getD_of ha1
      obtain ⟨y, hb⟩ := hr.mem b (by simp [Row.mem])
      obtain ⟨hb1, hyw, vb, hvb, rb⟩ := hV.at hb
      have evb := getV hvb
      have ewb := getD_of hb1
      have h64 := hxw.2
      have sa := sml h64 ra
      simp only [Row.val, eva, ewa, evb, ewb] at hq
      have hyy := hyw.2
      refine ⟨trivial, _, atI0, rfl, useB_n (by (try dsimp only); decide +kernel) ⟨rfl, useB_n (by (try dsimp only); decide +kernel) ⟨rfl, useB_n (by (try dsimp only); decide +kernel) ⟨trivial, _, atI1, trivial, _, atI_iL hva, trivial, _, atI1, trivial, _, atI_nL ha1, rfl, useB_n (by (try dsimp only); decide +kernel) ⟨rfl, useB_n (by (try dsimp only); decide +kernel) ⟨rfl, useB_n (by (try dsimp only); decide +kernel) ⟨rfl, useB_n (by (try dsimp only); decide +kernel) ⟨rfl, useB_n (by (try dsimp only); decide +kernel) ⟨rfl, useB_n (by (try dsimp only); decide +kernel) ⟨trivial, _, atI2, trivial, _, atI_iL hvb, rfl, useB_n (by (try dsimp only); decide +kernel) ⟨Nat.le_of_ble_eq_true rfl, ⟨rfl, rfl⟩, useB_y (by (try dsimp only); decide +kernel) ⟨.pick, _, _, _, rfl, hxw, ra, rb.mono hyy, hq⟩⟩⟩⟩⟩⟩⟩⟩⟩⟩⟩⟩
    | shl =>
      obtain ⟨x, ha⟩ := hr.mem a (by simp [Row.mem])
      obtain ⟨ha1, hxw, va, hva, ra⟩ := hV.at ha
      have eva := getV hva
      have ewa := getD_of ha1
      obtain ⟨y, hb⟩ := hr.mem b (by simp [Row.mem])
      obtain ⟨hb1, hyw, vb, hvb, rb⟩ := hV.at hb
      have evb := getV hvb
      have ewb := getD_of hb1
      have h64 := hxw.2
      have sa := sml h64 ra
      simp only [Row.val, eva, ewa, evb, ewb] at hq
      have hyy := hyw.2
      refine ⟨trivial, _, atI0, rfl, useB_n (by (try dsimp only); decide +kernel) ⟨rfl, useB_n (by (try dsimp only); decide +kernel) ⟨rfl, useB_n (by (try dsimp only); decide +kernel) ⟨trivial, _, atI1, trivial, _, atI_iL hva, trivial, _, atI1, trivial, _, atI_nL ha1, rfl, useB_n (by (try dsimp only); decide +kernel) ⟨rfl, useB_n (by (try dsimp only); decide +kernel) ⟨rfl, useB_n (by (try dsimp only); decide +kernel) ⟨rfl, useB_n (by (try dsimp only); decide +kernel) ⟨rfl, useB_n (by (try dsimp only); decide +kernel) ⟨rfl, useB_n (by (try dsimp only); decide +kernel) ⟨trivial, _, atI2, trivial, _, atI_iL hvb, rfl, useB_n (by (try dsimp only); decide +kernel) ⟨Nat.le_of_ble_eq_true rfl, ⟨rfl, rfl⟩, useB_y (by (try dsimp only); decide +kernel) ⟨.shl, _, _, _, rfl, hxw, ra, rb.mono hyy, hq⟩⟩⟩⟩⟩⟩⟩⟩⟩⟩⟩⟩
    | shr =>
      obtain ⟨x, ha⟩ := hr.mem a (by simp [Row.mem])
      obtain ⟨ha1, hxw, va, hva, ra⟩ := hV.at ha
      have eva := getV hva
      have ewa := getD_of ha1
      obtain ⟨y, hb⟩ := hr.mem b (by simp [Row.mem])
      obtain ⟨hb1, hyw, vb, hvb, rb⟩ := hV.at hb
      have evb := getV hvb
      have ewb := getD_of hb1
      have h64 := hxw.2
      have sa := sml h64 ra
      simp only [Row.val, eva, ewa, evb, ewb] at hq
      have hyy := hyw.2
      refine ⟨trivial, _, atI0, rfl, useB_n (by (try dsimp only); decide +kernel) ⟨rfl, useB_n (by (try dsimp only); decide +kernel) ⟨rfl, useB_n (by (try dsimp only); decide +kernel) ⟨trivial, _, atI1, trivial, _, atI_iL hva, trivial, _, atI1, trivial, _, atI_nL ha1, rfl, useB_n (by (try dsimp only); decide +kernel) ⟨rfl, useB_n (by (try dsimp only); decide +kernel) ⟨rfl, useB_n (by (try dsimp only); decide +kernel) ⟨rfl, useB_n (by (try dsimp only); decide +kernel) ⟨rfl, useB_n (by (try dsimp only); decide +kernel) ⟨rfl, useB_n (by (try dsimp only); decide +kernel) ⟨trivial, _, atI2, trivial, _, atI_iL hvb, rfl, useB_n (by (try dsimp only); decide +kernel) ⟨Nat.le_of_ble_eq_true rfl, ⟨rfl, rfl⟩, useB_y (by (try dsimp only); decide +kernel) ⟨.shr, _, _, _, rfl, hxw, ra, rb.mono hyy, hq⟩⟩⟩⟩⟩⟩⟩⟩⟩⟩⟩⟩
  | bin o a b =>
    cases o with
    | and =>
      obtain ⟨x, ha⟩ := hr.mem a (by simp [Row.mem])
      obtain ⟨ha1, hxw, va, hva, ra⟩ := hV.at ha
      have eva := getV hva
      have ewa := getD_of ha1
      obtain ⟨y, hb⟩ := hr.mem b (by simp [Row.mem])
      obtain ⟨hb1, hyw, vb, hvb, rb⟩ := hV.at hb
      have evb := getV hvb
      have ewb := getD_of hb1
      have h64 := hxw.2
      have sa := sml h64 ra
      simp only [Row.val, eva, ewa, evb, ewb] at hq
      obtain ⟨x2, hx2, hx3, _⟩ := hr
      have e1 : x2 = x := Option.some.inj (hx2.symm.trans ha)
      have e2 : x2 = y := Option.some.inj (hx3.symm.trans hb)
      subst e1 e2
      refine ⟨trivial, _, atI0, rfl, useB_n (by (try dsimp only); decide +kernel) ⟨rfl, useB_n (by (try dsimp only); decide +kernel) ⟨rfl, useB_n (by (try dsimp only); decide +kernel) ⟨trivial, _, atI1, trivial, _, atI_iL hva, trivial, _, atI1, trivial, _, atI_nL ha1, rfl, useB_n (by (try dsimp only); decide +kernel) ⟨rfl, useB_n (by (try dsimp only); decide +kernel) ⟨rfl, useB_n (by (try dsimp only); decide +kernel) ⟨rfl, useB_n (by (try dsimp only); decide +kernel) ⟨rfl, useB_n (by (try dsimp only); decide +kernel) ⟨rfl, useB_n (by (try dsimp only); decide +kernel) ⟨trivial, _, atI2, trivial, _, atI_iL hvb, rfl, useB_n (by (try dsimp only); decide +kernel) ⟨Nat.le_of_ble_eq_true rfl, ⟨rfl, rfl⟩, useB_n (by (try dsimp only); decide +kernel) ⟨.and, _, _, _, rfl, hxw, ra, rb, hq⟩⟩⟩⟩⟩⟩⟩⟩⟩⟩⟩⟩
    | or =>
      obtain ⟨x, ha⟩ := hr.mem a (by simp [Row.mem])
      obtain ⟨ha1, hxw, va, hva, ra⟩ := hV.at ha
      have eva := getV hva
      have ewa := getD_of ha1
      obtain ⟨y, hb⟩ := hr.mem b (by simp [Row.mem])
      obtain ⟨hb1, hyw, vb, hvb, rb⟩ := hV.at hb
      have evb := getV hvb
      have ewb := getD_of hb1
      have h64 := hxw.2
      have sa := sml h64 ra
      simp only [Row.val, eva, ewa, evb, ewb] at hq
      obtain ⟨x2, hx2, hx3, _⟩ := hr
      have e1 : x2 = x := Option.some.inj (hx2.symm.trans ha)
      have e2 : x2 = y := Option.some.inj (hx3.symm.trans hb)
      subst e1 e2
      refine ⟨trivial, _, atI0, rfl, useB_n (by (try dsimp only); decide +kernel) ⟨rfl, useB_n (by (try dsimp only); decide +kernel) ⟨rfl, useB_n (by (try dsimp only); decide +kernel) ⟨trivial, _, atI1, trivial, _, atI_iL hva, trivial, _, atI1, trivial, _, atI_nL ha1, rfl, useB_n (by (try dsimp only); decide +kernel) ⟨rfl, useB_n (by (try dsimp only); decide +kernel) ⟨rfl, useB_n (by (try dsimp only); decide +kernel) ⟨rfl, useB_n (by (try dsimp only); decide +kernel) ⟨rfl, useB_n (by (try dsimp only); decide +kernel) ⟨rfl, useB_n (by (try dsimp only); decide +kernel) ⟨trivial, _, atI2, trivial, _, atI_iL hvb, rfl, useB_n (by (try dsimp only); decide +kernel) ⟨Nat.le_of_ble_eq_true rfl, ⟨rfl, rfl⟩, useB_n (by (try dsimp only); decide +kernel) ⟨.or, _, _, _, rfl, hxw, ra, rb, hq⟩⟩⟩⟩⟩⟩⟩⟩⟩⟩⟩⟩
    | xor =>
      obtain ⟨x, ha⟩ := hr.mem a (by simp [Row.mem])
      obtain ⟨ha1, hxw, va, hva, ra⟩ := hV.at ha
      have eva := getV hva
      have ewa := getD_of ha1
      obtain ⟨y, hb⟩ := hr.mem b (by simp [Row.mem])
      obtain ⟨hb1, hyw, vb, hvb, rb⟩ := hV.at hb
      have evb := getV hvb
      have ewb := getD_of hb1
      have h64 := hxw.2
      have sa := sml h64 ra
      simp only [Row.val, eva, ewa, evb, ewb] at hq
      obtain ⟨x2, hx2, hx3, _⟩ := hr
      have e1 : x2 = x := Option.some.inj (hx2.symm.trans ha)
      have e2 : x2 = y := Option.some.inj (hx3.symm.trans hb)
      subst e1 e2
      refine ⟨trivial, _, atI0, rfl, useB_n (by (try dsimp only); decide +kernel) ⟨rfl, useB_n (by (try dsimp only); decide +kernel) ⟨rfl, useB_n (by (try dsimp only); decide +kernel) ⟨trivial, _, atI1, trivial, _, atI_iL hva, trivial, _, atI1, trivial, _, atI_nL ha1, rfl, useB_n (by (try dsimp only); decide +kernel) ⟨rfl, useB_n (by (try dsimp only); decide +kernel) ⟨rfl, useB_n (by (try dsimp only); decide +kernel) ⟨rfl, useB_n (by (try dsimp only); decide +kernel) ⟨rfl, useB_n (by (try dsimp only); decide +kernel) ⟨rfl, useB_n (by (try dsimp only); decide +kernel) ⟨trivial, _, atI2, trivial, _, atI_iL hvb, rfl, useB_n (by (try dsimp only); decide +kernel) ⟨Nat.le_of_ble_eq_true rfl, ⟨rfl, rfl⟩, useB_n (by (try dsimp only); decide +kernel) ⟨.xor, _, _, _, rfl, hxw, ra, rb, hq⟩⟩⟩⟩⟩⟩⟩⟩⟩⟩⟩⟩
    | add =>
      obtain ⟨x, ha⟩ := hr.mem a (by simp [Row.mem])
      obtain ⟨ha1, hxw, va, hva, ra⟩ := hV.at ha
      have eva := getV hva
      have ewa := getD_of ha1
      obtain ⟨y, hb⟩ := hr.mem b (by simp [Row.mem])
      obtain ⟨hb1, hyw, vb, hvb, rb⟩ := hV.at hb
      have evb := getV hvb
      have ewb := getD_of hb1
      have h64 := hxw.2
      have sa := sml h64 ra
      simp only [Row.val, eva, ewa, evb, ewb] at hq
      obtain ⟨x2, hx2, hx3, _⟩ := hr
      have e1 : x2 = x := Option.some.inj (hx2.symm.trans ha)
      have e2 : x2 = y := Option.some.inj (hx3.symm.trans hb)
      subst e1 e2
      refine ⟨trivial, _, atI0, rfl, useB_n (by (try dsimp only); decide +kernel) ⟨rfl, useB_n (by (try dsimp only); decide +kernel) ⟨rfl, useB_n (by (try dsimp only); decide +kernel) ⟨trivial, _, atI1, trivial, _, atI_iL hva, trivial, _, atI1, trivial, _, atI_nL ha1, rfl, useB_n (by (try dsimp only); decide +kernel) ⟨rfl, useB_n (by (try dsimp only); decide +kernel) ⟨rfl, useB_n (by (try dsimp only); decide +kernel) ⟨rfl, useB_n (by (try dsimp only); decide +kernel) ⟨rfl, useB_n (by (try dsimp only); decide +kernel) ⟨rfl, useB_n (by (try dsimp only); decide +kernel) ⟨trivial, _, atI2, trivial, _, atI_iL hvb, rfl, useB_n (by (try dsimp only); decide +kernel) ⟨Nat.le_of_ble_eq_true rfl, ⟨rfl, rfl⟩, useB_n (by (try dsimp only); decide +kernel) ⟨.add, _, _, _, rfl, hxw, ra, rb, hq⟩⟩⟩⟩⟩⟩⟩⟩⟩⟩⟩⟩
    | sub =>
      obtain ⟨x, ha⟩ := hr.mem a (by simp [Row.mem])
      obtain ⟨ha1, hxw, va, hva, ra⟩ := hV.at ha
      have eva := getV hva
      have ewa := getD_of ha1
      obtain ⟨y, hb⟩ := hr.mem b (by simp [Row.mem])
      obtain ⟨hb1, hyw, vb, hvb, rb⟩ := hV.at hb
      have evb := getV hvb
      have ewb := getD_of hb1
      have h64 := hxw.2
      have sa := sml h64 ra
      simp only [Row.val, eva, ewa, evb, ewb] at hq
      obtain ⟨x2, hx2, hx3, _⟩ := hr
      have e1 : x2 = x := Option.some.inj (hx2.symm.trans ha)
      have e2 : x2 = y := Option.some.inj (hx3.symm.trans hb)
      subst e1 e2
      refine ⟨trivial, _, atI0, rfl, useB_n (by (try dsimp only); decide +kernel) ⟨rfl, useB_n (by (try dsimp only); decide +kernel) ⟨rfl, useB_n (by (try dsimp only); decide +kernel) ⟨trivial, _, atI1, trivial, _, atI_iL hva, trivial, _, atI1, trivial, _, atI_nL ha1, rfl, useB_n (by (try dsimp only); decide +kernel) ⟨rfl, useB_n (by (try dsimp only); decide +kernel) ⟨rfl, useB_n (by (try dsimp only); decide +kernel) ⟨rfl, useB_n (by (try dsimp only); decide +kernel) ⟨rfl, useB_n (by (try dsimp only); decide +kernel) ⟨rfl, useB_n (by (try dsimp only); decide +kernel) ⟨trivial, _, atI2, trivial, _, atI_iL hvb, rfl, useB_n (by (try dsimp only); decide +kernel) ⟨Nat.le_of_ble_eq_true rfl, ⟨rfl, rfl⟩, useB_n (by (try dsimp only); decide +kernel) ⟨.sub, _, _, _, rfl, hxw, ra, rb, hq⟩⟩⟩⟩⟩⟩⟩⟩⟩⟩⟩⟩
    | mul =>
      obtain ⟨x, ha⟩ := hr.mem a (by simp [Row.mem])
      obtain ⟨ha1, hxw, va, hva, ra⟩ := hV.at ha
      have eva := getV hva
      have ewa := getD_of ha1
      obtain ⟨y, hb⟩ := hr.mem b (by simp [Row.mem])
      obtain ⟨hb1, hyw, vb, hvb, rb⟩ := hV.at hb
      have evb := getV hvb
      have ewb := getD_of hb1
      have h64 := hxw.2
      have sa := sml h64 ra
      simp only [Row.val, eva, ewa, evb, ewb] at hq
      obtain ⟨x2, hx2, hx3, _⟩ := hr
      have e1 : x2 = x := Option.some.inj (hx2.symm.trans ha)
      have e2 : x2 = y := Option.some.inj (hx3.symm.trans hb)
      subst e1 e2
      refine ⟨trivial, _, atI0, rfl, useB_n (by (try dsimp only); decide +kernel) ⟨rfl, useB_n (by (try dsimp only); decide +kernel) ⟨rfl, useB_n (by (try dsimp only); decide +kernel) ⟨trivial, _, atI1, trivial, _, atI_iL hva, trivial, _, atI1, trivial, _, atI_nL ha1, rfl, useB_n (by (try dsimp only); decide +kernel) ⟨rfl, useB_n (by (try dsimp only); decide +kernel) ⟨rfl, useB_n (by (try dsimp only); decide +kernel) ⟨rfl, useB_n (by (try dsimp only); decide +kernel) ⟨rfl, useB_n (by (try dsimp only); decide +kernel) ⟨rfl, useB_n (by (try dsimp only); decide +kernel) ⟨trivial, _, atI2, trivial, _, atI_iL hvb, rfl, useB_n (by (try dsimp only); decide +kernel) ⟨Nat.le_of_ble_eq_true rfl, ⟨rfl, rfl⟩, useB_n (by (try dsimp only); decide +kernel) ⟨.mul, _, _, _, rfl, hxw, ra, rb, hq⟩⟩⟩⟩⟩⟩⟩⟩⟩⟩⟩⟩
    | eq =>
      obtain ⟨x, ha⟩ := hr.mem a (by simp [Row.mem])
      obtain ⟨ha1, hxw, va, hva, ra⟩ := hV.at ha
      have eva := getV hva
      have ewa := getD_of ha1
      obtain ⟨y, hb⟩ := hr.mem b (by simp [Row.mem])
      obtain ⟨hb1, hyw, vb, hvb, rb⟩ := hV.at hb
      have evb := getV hvb
      have ewb := getD_of hb1
      have h64 := hxw.2
      have sa := sml h64 ra
      simp only [Row.val, eva, ewa, evb, ewb] at hq
      obtain ⟨x2, hx2, hx3, _⟩ := hr
      have e1 : x2 = x := Option.some.inj (hx2.symm.trans ha)
      have e2 : x2 = y := Option.some.inj (hx3.symm.trans hb)
      subst e1 e2
      refine ⟨trivial, _, atI0, rfl, useB_n (by (try dsimp only); decide +kernel) ⟨rfl, useB_n (by (try dsimp only); decide +kernel) ⟨rfl, useB_n (by (try dsimp only); decide +kernel) ⟨trivial, _, atI1, trivial, _, atI_iL hva, trivial, _, atI1, trivial, _, atI_nL ha1, rfl, useB_n (by (try dsimp only); decide +kernel) ⟨rfl, useB_n (by (try dsimp only); decide +kernel) ⟨rfl, useB_n (by (try dsimp only); decide +kernel) ⟨rfl, useB_n (by (try dsimp only); decide +kernel) ⟨rfl, useB_n (by (try dsimp only); decide +kernel) ⟨rfl, useB_n (by (try dsimp only); decide +kernel) ⟨trivial, _, atI2, trivial, _, atI_iL hvb, rfl, useB_n (by (try dsimp only); decide +kernel) ⟨Nat.le_of_ble_eq_true rfl, ⟨rfl, rfl⟩, useB_n (by (try dsimp only); decide +kernel) ⟨.eq, _, _, _, rfl, hxw, ra, rb, hq⟩⟩⟩⟩⟩⟩⟩⟩⟩⟩⟩⟩
    | lt =>
      obtain ⟨x, ha⟩ := hr.mem a (by simp [Row.mem])
      obtain ⟨ha1, hxw, va, hva, ra⟩ := hV.at ha
      have eva := getV hva
      have ewa := getD_of ha1
      obtain ⟨y, hb⟩ := hr.mem b (by simp [Row.mem])
      obtain ⟨hb1, hyw, vb, hvb, rb⟩ := hV.at hb
      have evb := getV hvb
      have ewb := getD_of hb1
      have h64 := hxw.2
      have sa := sml h64 ra
      simp only [Row.val, eva, ewa, evb, ewb] at hq
      obtain ⟨x2, hx2, hx3, _⟩ := hr
      have e1 : x2 = x := Option.some.inj (hx2.symm.trans ha)
      have e2 : x2 = y := Option.some.inj (hx3.symm.trans hb)
      subst e1 e2
      refine ⟨trivial, _, atI0, rfl, useB_n (by (try dsimp only); decide +kernel) ⟨rfl, useB_n (by (try dsimp only); decide +kernel) ⟨rfl, useB_n (by (try dsimp only); decide +kernel) ⟨trivial, _, atI1, trivial, _, atI_iL hva, trivial, _, atI1, trivial, _, atI_nL ha1, rfl, useB_n (by (try dsimp only); decide +kernel) ⟨rfl, useB_n (by (try dsimp only); decide +kernel) ⟨rfl, useB_n (by (try dsimp only); decide +kernel) ⟨rfl, useB_n (by (try dsimp only); decide +kernel) ⟨rfl, useB_n (by (try dsimp only); decide +kernel) ⟨rfl, useB_n (by (try dsimp only); decide +kernel) ⟨trivial, _, atI2, trivial, _, atI_iL hvb, rfl, useB_n (by (try dsimp only); decide +kernel) ⟨Nat.le_of_ble_eq_true rfl, ⟨rfl, rfl⟩, useB_n (by (try dsimp only); decide +kernel) ⟨.lt, _, _, _, rfl, hxw, ra, rb, hq⟩⟩⟩⟩⟩⟩⟩⟩⟩⟩⟩⟩
  | mux a b c =>
    obtain ⟨x, ha⟩ := hr.mem a (by simp [Row.mem])
    obtain ⟨ha1, hxw, va, hva, ra⟩ := hV.at ha
    have eva := getV hva
    have ewa := getD_of ha1
    obtain ⟨y, hb⟩ := hr.mem b (by simp [Row.mem])
    obtain ⟨hb1, hyw, vb, hvb, rb⟩ := hV.at hb
    have evb := getV hvb
    have ewb := getD_of hb1
    obtain ⟨z, hc⟩ := hr.mem c (by simp [Row.mem])
    obtain ⟨hc1, hzw, vc, hvc, rc⟩ := hV.at hc
    have evc := getV hvc
    have h64 := hxw.2
    have sa := sml h64 ra
    simp only [Row.val, eva, ewa, evb, ewb, evc] at hq
    refine ⟨trivial, _, atI0, rfl, useB_n (by (try dsimp only); decide +kernel) ⟨rfl, useB_n (by (try dsimp only); decide +kernel) ⟨rfl, useB_n (by (try dsimp only); decide +kernel) ⟨trivial, _, atI1, trivial, _, atI_iL hva, trivial, _, atI1, trivial, _, atI_nL ha1, rfl, useB_y (by (try dsimp only); decide +kernel) ⟨rfl, useB_b (fun h => ⟨trivial, _, atI2, trivial, _, atI_iL hvb, ?_⟩) (fun h => ⟨trivial, _, atI3, trivial, _, atI_iL hvc, ?_⟩)⟩⟩⟩⟩⟩
    · have h : (false != PyData.eqv (.int va) (.int 1)) = true := h
      rw [eqv_int] at h
      have h : va = 1 := by simpa using h
      rw [if_pos h] at hq
      exact hq
    · have h : (false != PyData.eqv (.int va) (.int 1)) = false := h
      rw [eqv_int] at h
      have h : ¬ va = 1 := by simpa using h
      rw [if_neg h] at hq
      exact hq
end
end K22

set_option Elab.async false
set_option linter.all false
set_option maxRecDepth 100000
set_option maxHeartbeats 4000000
set_option autoImplicit false
set_option pp.maxSteps 1000
namespace K22
open PySem L2 DL
section
variable {P : Program} {w : World} {K : PySem.W.Frag} {mg : Str → Option Value} {base : Heap}
abbrev s_widths_of : Stmt := topS 5
abbrev n_widths_of : List Str := ["flat", "ins", "regs", "found", "row", "own"]
theorem sc_widths_of : FnScope n_widths_of ["flat"] (C8.fnScope s_widths_of) := C8.fnScope_by (by decide +kernel)
theorem ok_widths_of {a : Addr} {fd : FuncData} (F : C8.Def K mg "widths_of" s_widths_of a fd) (b : Binds K fd ["flat"] []) (T : Txt mg) (c_row_width : CalG P w K mg base 2 "row_width" (spD K [.bo, .bo, .bo, .bo] (CrowW))) : CalG P w K mg base (3) "widths_of" (spD K [.bo] (Cwid)) := by
  refine calG F b sc_widths_of rfl (fun cdv A outer s H E hA hr => ?_)
  have hu := huOf hr
  have hu64 := hr.units
  refine ⟨_, _, (pss_cons (ps_par3 (i := 1) (j := 2) (l := 3) (by rfl) sc_widths_of.nd rfl rfl rfl (by decide) (by decide) (by decide) rfl rfl rfl (pa_cons (pe_lc rfl sc_widths_of.nd (k_iany (K := K) rfl (pe_ix (k_ix (K := K) rfl) (pv 0) pe_int (fun _ _ => rfl))) (blkOk_by (own := [("own", 5)]) (N := n_widths_of) (sc := C8.fnScope s_widths_of) (by decide +kernel)) (fun _ _ _ _ _ => (pg_name (i := 5) sc_widths_of.nd rfl (by first | exact Or.inl rfl | exact Or.inr rfl))) (fun _ _ _ _ _ => pts_nil) (fun _ _ _ _ _ => (pe_ix (k_ix (K := K) rfl) (pv 5) pe_int (fun _ _ => rfl)))) (pa_cons (pe_lc rfl sc_widths_of.nd (k_iany (K := K) rfl (pe_ix (k_ix (K := K) rfl) (pv 0) pe_int (fun _ _ => rfl))) (blkOk_by (own := [("own", 5)]) (N := n_widths_of) (sc := C8.fnScope s_widths_of) (by decide +kernel)) (fun _ _ _ _ _ => (pg_name (i := 5) sc_widths_of.nd rfl (by first | exact Or.inl rfl | exact Or.inr rfl))) (fun _ _ _ _ _ => pts_nil) (fun _ _ _ _ _ => (pe_ix (k_ix (K := K) rfl) (pv 5) pe_int (fun _ _ => rfl)))) (pa_cons (pe_lst pa_nil) pa_nil))) (by rfl))
      (pss_cons (ps_for PassesOwn.never rfl (k_iany (K := K) rfl (pe_ix (k_ix (K := K) rfl) (pv 0) pe_int (fun _ _ => rfl))) (pg_name (i := 4) sc_widths_of.nd rfl (by first | exact Or.inl rfl | exact Or.inr rfl))
      (pss_one (ps_expr (pe_bm PySem.F.plainAttrs_list PySem.F.slot_list_append PySem.F.type_list_append mt_append (pv 3) (pa_cons (pe_cG c_row_width hA hr (by first | decide | omega) rfl (pa_cons (pv 4) (pa_cons (pv 3) (pa_cons (pv 1) (pa_cons (pv 2) pa_nil))))) pa_nil)))))
      (pss_one (ps_ret (pv 3))))),
   (ls_seq (ls_par3 (le_lc (li_any (le_op le_var le_int ol_ix)) lg_name (lgw_name (by decide)) lt_yes (le_op le_var le_int ol_ix)) (le_lc (li_any (le_op le_var le_int ol_ix)) lg_name (lgw_name (by decide)) lt_yes (le_op le_var le_int ol_ix)) (le_lst la_nil))
      (ls_seq (ls_for (li_any (le_op le_var le_int ol_ix)) lg_name
      (ls_app (le_call (la_cons le_var (la_cons le_var (la_cons le_var (la_cons le_var la_nil)))))))
      (ls_ret le_var))), ?_⟩
  intro ds Qc h
  obtain ⟨f, rfl, hf, hq⟩ := h
  have hil := hf.il
  have hgl := hf.gl
  have hrl := hf.rl
  refine ⟨trivial, _, rfl, dLcGo_map _ in1 (by rw [List.length_map, sizeLine_eq]; omega) (fun x k hx q => ?_) ?_⟩
  · obtain ⟨p, hp, rfl⟩ := mem_inD hx
    exact ⟨trivial, _, atI1, q⟩
  rw [map_in1]
  refine ⟨trivial, _, rfl, dLcGo_map _ in1 (by rw [List.length_map, sizeLine_eq]; omega) (fun x k hx q => ?_) ?_⟩
  · obtain ⟨p, hp, rfl⟩ := mem_regD hx
    exact ⟨trivial, _, atI1, q⟩
  rw [map_reg1]
  refine ⟨Nat.le_of_ble_eq_true rfl, trivial, _, rfl, dLoop_of (f.rows.map Row.toD) (fun i ρ => ∃ o4, ρ = [some (.bo f.toD), some (.ow (.list (nL f.iw))), some (.ow (.list (nL f.rw))), some (.ow (.list (nL (f.ws.take i)))), o4, none]) ⟨_, rfl⟩ ?_ ?_⟩
  · rintro i x ρ k hx ⟨o4, rfl⟩ next
    obtain ⟨hi, rfl⟩ := get_rows hx
    obtain ⟨h2, h3, h4⟩ := hf.rows.get i hi
    have hl : (f.ws.take i).length ≤ i := by rw [List.length_take]; omega
    exact ⟨_, _, _, _, _, rfl, h3, h4, by omega, by rw [List.length_map, sizeLine_eq]; omega, next _ ⟨_, by rw [← nL_take_succ h2]; rfl⟩⟩
  · rintro ρ ⟨o4, rfl⟩
    rw [List.length_map, hf.rows.len, List.take_length]
    exact hq
abbrev s_values_with : Stmt := topS 11
abbrev n_values_with : List Str := ["flat", "widths", "lot", "state", "values", "row"]
theorem sc_values_with : FnScope n_values_with ["flat", "widths", "lot", "state"] (C8.fnScope s_values_with) := C8.fnScope_by (by decide +kernel)
theorem ok_values_with {a : Addr} {fd : FuncData} (F : C8.Def K mg "values_with" s_values_with a fd) (b : Binds K fd ["flat", "widths", "lot", "state"] []) (T : Txt mg) (c_value_of_row : CalG P w K mg base 2 "value_of_row" (spD K [.bo, .bo, .bo, .bo, .bo] (Cval))) : CalG P w K mg base (3) "values_with" (spD K [.bo, .bo, .bo, .bo] (Cvals)) := by
  refine calG F b sc_values_with rfl (fun cdv A outer s H E hA hr => ?_)
  have hu := huOf hr
  have hu64 := hr.units
  refine ⟨_, _, (pss_cons (ps_asg (pe_lst pa_nil) (pg_name (i := 4) sc_values_with.nd rfl (by first | exact Or.inl rfl | exact Or.inr rfl)))
      (pss_cons (ps_for PassesOwn.never rfl (k_iany (K := K) rfl (pe_ix (k_ix (K := K) rfl) (pv 0) pe_int (fun _ _ => rfl))) (pg_name (i := 5) sc_values_with.nd rfl (by first | exact Or.inl rfl | exact Or.inr rfl))
      (pss_one (ps_expr (pe_bm PySem.F.plainAttrs_list PySem.F.slot_list_append PySem.F.type_list_append mt_append (pv 4) (pa_cons (pe_cG c_value_of_row hA hr (by first | decide | omega) rfl (pa_cons (pv 5) (pa_cons (pv 1) (pa_cons (pv 4) (pa_cons (pv 2) (pa_cons (pv 3) pa_nil)))))) pa_nil)))))
      (pss_one (ps_ret (pv 4))))),
   (ls_seq (ls_asg (le_lst la_nil) lg_name)
      (ls_seq (ls_for (li_any (le_op le_var le_int ol_ix)) lg_name
      (ls_app (le_call (la_cons le_var (la_cons le_var (la_cons le_var (la_cons le_var (la_cons le_var la_nil))))))))
      (ls_ret le_var))), ?_⟩
  intro ds Qc h
  obtain ⟨f, lot, st, rfl, hf, hl, hs, hq⟩ := h
  have hrl := hf.rl
  refine ⟨Nat.le_of_ble_eq_true rfl, trivial, _, rfl, dLoop_of (f.rows.map Row.toD) (fun i ρ => ∃ o5, ρ = [some (.bo f.toD), some (.bo (.list (nL f.ws))), some (.bo (.tuple (iL lot))), some (.bo (.tuple (iL st))), some (.ow (.list (iL (valsR f.ws lot st (f.rows.take i))))), o5]) ⟨_, rfl⟩ ?_ ?_⟩
  · rintro i x ρ k hx ⟨o5, rfl⟩ next
    obtain ⟨hi, rfl⟩ := get_rows hx
    have A := hf.at hl hs hi
    have hle := A.v.le
    have hwl := hf.rows.len
    exact ⟨_, _, _, _, _, _, _, _, rfl, A.row, A.w, A.v, by rw [iL_len, sizeLine_eq]; omega, next _ ⟨_, by rw [valsR_succ _ _ _ _ i hi, ← iL_snoc]; rfl⟩⟩
  · rintro ρ ⟨o5, rfl⟩
    rw [List.length_map, List.take_length]
    exact hq
abbrev s_row_values : Stmt := topS 12
abbrev n_row_values : List Str := ["flat", "lot", "state"]
theorem sc_row_values : FnScope n_row_values ["flat", "lot", "state"] (C8.fnScope s_row_values) := C8.fnScope_by (by decide +kernel)
theorem ok_row_values {a : Addr} {fd : FuncData} (F : C8.Def K mg "row_values" s_row_values a fd) (b : Binds K fd ["flat", "lot", "state"] []) (T : Txt mg) (c_values_with : CalG P w K mg base 3 "values_with" (spD K [.bo, .bo, .bo, .bo] (Cvals))) (c_widths_of : CalG P w K mg base 3 "widths_of" (spD K [.bo] (Cwid))) : CalG P w K mg base (4) "row_values" (spD K [.bo, .bo, .bo] (Crows)) := by
  refine calG F b sc_row_values rfl (fun cdv A outer s H E hA hr => ?_)
  have hu := huOf hr
  have hu64 := hr.units
  refine ⟨_, _, (pss_one (ps_ret (pe_cG c_values_with hA hr (by first | decide | omega) rfl (pa_cons (pv 0) (pa_cons (pe_cG c_widths_of hA hr (by first | decide | omega) rfl (pa_cons (pv 0) pa_nil)) (pa_cons (pv 1) (pa_cons (pv 2) pa_nil))))))),
   (ls_ret (le_call (la_cons le_var (la_cons (le_call (la_cons le_var la_nil)) (la_cons le_var (la_cons le_var la_nil)))))), ?_⟩
  intro ds Qc h
  obtain ⟨f, lot, st, rfl, hf, hl, hs, hq⟩ := h
  exact ⟨f, rfl, hf, f, lot, st, rfl, hf, hl, hs, hq⟩
abbrev s_start : Stmt := topS 13
abbrev n_start : List Str := ["flat", "reg"]
theorem sc_start : FnScope n_start ["flat"] (C8.fnScope s_start) := C8.fnScope_by (by decide +kernel)
theorem ok_start {a : Addr} {fd : FuncData} (F : C8.Def K mg "start" s_start a fd) (b : Binds K fd ["flat"] []) (T : Txt mg) : CalG P w K mg base (1) "start" (spD K [.bo] (Cstart)) := by
  refine calG F b sc_start rfl (fun cdv A outer s H E hA hr => ?_)
  have hu := huOf hr
  have hu64 := hr.units
  refine ⟨_, _, (pss_one (ps_ret (pe_callTy (k_tupleA (K := K) rfl rfl) (by rfl) T.tuple (by decide +kernel) (pa_cons (pe_lc rfl sc_start.nd (k_iany (K := K) rfl (pe_ix (k_ix (K := K) rfl) (pv 0) pe_int (fun _ _ => rfl))) (blkOk_by (own := [("reg", 1)]) (N := n_start) (sc := C8.fnScope s_start) (by decide +kernel)) (fun _ _ _ _ _ => (pg_name (i := 1) sc_start.nd rfl (by first | exact Or.inl rfl | exact Or.inr rfl))) (fun _ _ _ _ _ => pts_nil) (fun _ _ _ _ _ => (pe_ix (k_ix (K := K) rfl) (pv 1) pe_int (fun _ _ => rfl)))) pa_nil)))),
   (ls_ret (le_cb (la_cons (le_lc (li_any (le_op le_var le_int ol_ix)) lg_name (lgw_name (by decide)) lt_yes (le_op le_var le_int ol_ix)) la_nil) cl_tupleA)), ?_⟩
  intro ds Qc h
  obtain ⟨f, rfl, hf, hq⟩ := h
  have hgl := hf.gl
  refine ⟨trivial, _, rfl, dLcGo_map _ startF (by rw [List.length_map, sizeLine_eq]; omega) (fun x k hx q => ?_) ?_⟩
  · obtain ⟨p, hp, rfl⟩ := mem_regD hx
    exact ⟨trivial, _, atI2, q⟩
  rw [start_map]
  exact hq
abbrev s_told_by : Stmt := topS 14
abbrev n_told_by : List Str := ["flat", "values", "out", "reg"]
theorem sc_told_by : FnScope n_told_by ["flat", "values"] (C8.fnScope s_told_by) := C8.fnScope_by (by decide +kernel)
theorem ok_told_by {a : Addr} {fd : FuncData} (F : C8.Def K mg "told_by" s_told_by a fd) (b : Binds K fd ["flat", "values"] []) (T : Txt mg) : CalG P w K mg base (1) "told_by" (spD K [.bo, .bo] (Ctold)) := by
  refine calG F b sc_told_by rfl (fun cdv A outer s H E hA hr => ?_)
  have hu := huOf hr
  have hu64 := hr.units
  refine ⟨_, _, (pss_one (ps_ret (pe_tup (pa_cons (pe_callTy (k_tupleA (K := K) rfl rfl) (by rfl) T.tuple (by decide +kernel) (pa_cons (pe_lc rfl sc_told_by.nd (k_iany (K := K) rfl (pe_ix (k_ix (K := K) rfl) (pv 0) pe_int (fun _ _ => rfl))) (blkOk_by (own := [("out", 2)]) (N := n_told_by) (sc := C8.fnScope s_told_by) (by decide +kernel)) (fun _ _ _ _ _ => (pg_name (i := 2) sc_told_by.nd rfl (by first | exact Or.inl rfl | exact Or.inr rfl))) (fun _ _ _ _ _ => pts_nil) (fun _ _ _ _ _ => (pe_ix (k_ix (K := K) rfl) (pv 1) (pe_ix (k_ix (K := K) rfl) (pv 2) pe_int (fun _ _ => rfl)) (fun _ _ => rfl)))) pa_nil)) (pa_cons (pe_callTy (k_tupleA (K := K) rfl rfl) (by rfl) T.tuple (by decide +kernel) (pa_cons (pe_lc rfl sc_told_by.nd (k_iany (K := K) rfl (pe_ix (k_ix (K := K) rfl) (pv 0) pe_int (fun _ _ => rfl))) (blkOk_by (own := [("reg", 3)]) (N := n_told_by) (sc := C8.fnScope s_told_by) (by decide +kernel)) (fun _ _ _ _ _ => (pg_name (i := 3) sc_told_by.nd rfl (by first | exact Or.inl rfl | exact Or.inr rfl))) (fun _ _ _ _ _ => pts_nil) (fun _ _ _ _ _ => (pe_ix (k_ix (K := K) rfl) (pv 1) (pe_ix (k_ix (K := K) rfl) (pv 3) pe_int (fun _ _ => rfl)) (fun _ _ => rfl)))) pa_nil)) pa_nil))))),
   (ls_ret (le_tup (la_cons (le_cb (la_cons (le_lc (li_any (le_op le_var le_int ol_ix)) lg_name (lgw_name (by decide)) lt_yes (le_op le_var (le_op le_var le_int ol_ix) ol_ix)) la_nil) cl_tupleA) (la_cons (le_cb (la_cons (le_lc (li_any (le_op le_var le_int ol_ix)) lg_name (lgw_name (by decide)) lt_yes (le_op le_var (le_op le_var le_int ol_ix) ol_ix)) la_nil) cl_tupleA) la_nil)))), ?_⟩
  intro ds Qc h
  obtain ⟨f, vs, d, rfl, hd, hf, hx2, hvl, hq⟩ := h
  have hgl := hf.gl
  have ho3 := hx2.few
  rcases hd with rfl | rfl
  · skip
    refine ⟨trivial, _, rfl, dLcGo_map _ (tellF vs) (by rw [List.length_map, sizeLine_eq]; omega) (fun x k hx q => ?_) ?_⟩
    · obtain ⟨p, hp, rfl⟩ := mem_inD hx
      exact ⟨trivial, _, atI1, trivial, _, atI_iL (at_getD (by rw [hvl]; exact hx2.outs p hp)), q⟩
    rw [tell_map]
    refine ⟨trivial, _, rfl, dLcGo_map _ (nxtF vs) (by rw [List.length_map, sizeLine_eq]; omega) (fun x k hx q => ?_) ?_⟩
    · obtain ⟨p, hp, rfl⟩ := mem_regD hx
      exact ⟨trivial, _, atI3, trivial, _, atI_iL (at_getD (by have := hx2.next_lt hp; have := hf.rows.len; omega)), q⟩
    rw [nxt_map]
    exact ⟨Nat.le_of_ble_eq_true rfl, hq⟩
  · skip
    refine ⟨trivial, _, rfl, dLcGo_map _ (tellF vs) (by rw [List.length_map, sizeLine_eq]; omega) (fun x k hx q => ?_) ?_⟩
    · obtain ⟨p, hp, rfl⟩ := mem_inD hx
      exact ⟨trivial, _, atI1, trivial, _, atI_iL (at_getD (by rw [hvl]; exact hx2.outs p hp)), q⟩
    rw [tell_map]
    refine ⟨trivial, _, rfl, dLcGo_map _ (nxtF vs) (by rw [List.length_map, sizeLine_eq]; omega) (fun x k hx q => ?_) ?_⟩
    · obtain ⟨p, hp, rfl⟩ := mem_regD hx
      exact ⟨trivial, _, atI3, trivial, _, atI_iL (at_getD (by have := hx2.next_lt hp; have := hf.rows.len; omega)), q⟩
    rw [nxt_map]
    exact ⟨Nat.le_of_ble_eq_true rfl, hq⟩
abbrev s_run_from : Stmt := topS 16
abbrev n_run_from : List Str := ["flat", "state", "lots", "widths", "found", "lot", "outs"]
theorem sc_run_from : FnScope n_run_from ["flat", "state", "lots"] (C8.fnScope s_run_from) := C8.fnScope_by (by decide +kernel)
theorem ok_run_from {a : Addr} {fd : FuncData} (F : C8.Def K mg "run_from" s_run_from a fd) (b : Binds K fd ["flat", "state", "lots"] []) (T : Txt mg) (c_widths_of : CalG P w K mg base 3 "widths_of" (spD K [.bo] (Cwid))) (c_told_by : CalG P w K mg base 1 "told_by" (spD K [.bo, .bo] (Ctold))) (c_values_with : CalG P w K mg base 3 "values_with" (spD K [.bo, .bo, .bo, .bo] (Cvals))) : CalG P w K mg base (4) "run_from" (spD K [.bo, .bo, .bo] (Crunf)) := by
  refine calG F b sc_run_from rfl (fun cdv A outer s H E hA hr => ?_)
  have hu := huOf hr
  have hu64 := hr.units
  refine ⟨_, _, (pss_cons (ps_par (i := 3) (j := 4) (by rfl) sc_run_from.nd rfl rfl (by decide) rfl rfl (pa_cons (pe_cG c_widths_of hA hr (by first | decide | omega) rfl (pa_cons (pv 0) pa_nil)) (pa_cons (pe_lst pa_nil) pa_nil)) (by rfl))
      (pss_cons (ps_for PassesOwn.never rfl (k_iany (K := K) rfl (pv 2)) (pg_name (i := 5) sc_run_from.nd rfl (by first | exact Or.inl rfl | exact Or.inr rfl))
      (pss_cons (ps_asg (pe_cG c_told_by hA hr (by first | decide | omega) rfl (pa_cons (pv 0) (pa_cons (pe_cG c_values_with hA hr (by first | decide | omega) rfl (pa_cons (pv 0) (pa_cons (pv 3) (pa_cons (pv 5) (pa_cons (pv 1) pa_nil))))) pa_nil))) (k_gtup (n := 2) (K := K) rfl (by rfl) (pgs_cons (pg_name (i := 6) sc_run_from.nd rfl (by first | exact Or.inl rfl | exact Or.inr rfl)) (pgs_cons (pg_name (i := 1) sc_run_from.nd rfl (by first | exact Or.inl rfl | exact Or.inr rfl)) pgs_nil))))
      (pss_one (ps_expr (pe_bm PySem.F.plainAttrs_list PySem.F.slot_list_append PySem.F.type_list_append mt_append (pv 4) (pa_cons (pv 6) pa_nil))))))
      (pss_one (ps_ret (pe_tup (pa_cons (pv 4) (pa_cons (pv 1) pa_nil))))))),
   (ls_seq (ls_par (le_call (la_cons le_var la_nil)) (le_lst la_nil))
      (ls_seq (ls_for (li_any le_var) lg_name
      (ls_seq (ls_asg (le_call (la_cons le_var (la_cons (le_call (la_cons le_var (la_cons le_var (la_cons le_var (la_cons le_var la_nil))))) la_nil))) (lg_tup (lgs_cons lg_name (lgs_cons lg_name lgs_nil))))
      (ls_app le_var)))
      (ls_ret (le_tup (la_cons le_var (la_cons le_var la_nil)))))), ?_⟩
  intro ds Qc h
  obtain ⟨f, st, lots, d, rfl, hd, hf, hx2, hst, hlo, hq⟩ := h
  have hrl := hf.rl
  have hle := hlo.le
  rcases hd with rfl | rfl
  · skip
    refine ⟨f, rfl, hf, Nat.le_of_ble_eq_true rfl, dLoop_of (lots.map lotT) (fun i ρ => ∃ o1 o5 o6, (o1 = some (.bo (.tuple (iL (f.run st (lots.take i)).st))) ∨ o1 = some (.sh (.tuple (iL (f.run st (lots.take i)).st)))) ∧ ρ = [some (.bo f.toD), o1, some (.bo (.list (lots.map lotT))), some (.ow (.list (nL f.ws))), some (.ow (.list ((f.run st (lots.take i)).found.map lotT))), o5, o6]) ⟨_, _, _, .inl rfl, rfl⟩ ?_ ?_⟩
    · rintro i x ρ k hx ⟨o1, o5, o6, ho, rfl⟩ next
      obtain ⟨hi, rfl⟩ := get_lotT hx
      obtain ⟨h1, h2, _⟩ := Fl.run_ok hf hx2 hst hlo.ok i (Nat.le_of_lt hi)
      have hcs := Fl.run_succ f st lots i hi
      generalize f.run st (lots.take i) = c at ho h1 h2 hcs
      have hlt := hlo.ok _ (List.getElem_mem hi)
      have hVl := vals_len hf hlt h1
      rcases ho with rfl | rfl
      all_goals
        refine ⟨f, lots[i], c.st, rfl, hf, hlt, h1, f, _, _, rfl, .inl rfl, hf, hx2, hVl, rfl, rfl, by rw [List.length_map, sizeLine_eq]; omega, next _ ⟨some (.sh (.tuple (iL (f.nxt (valsR f.ws lots[i] c.st f.rows))))), some (.sh (.tuple (iL lots[i]))), some (.sh (.tuple (iL (f.tell (valsR f.ws lots[i] c.st f.rows))))), .inr ?_, ?_⟩⟩
        · rw [hcs]
          rfl
        · rw [hcs]
          unfold Fl.runStep
          rw [← lotT_snoc]
          rfl
    · rintro ρ ⟨o1, o5, o6, ho, rfl⟩
      rw [List.length_map, List.take_length] at ho ⊢
      rcases ho with rfl | rfl
      all_goals exact ⟨Nat.le_of_ble_eq_true rfl, hq⟩
  · skip
    refine ⟨f, rfl, hf, Nat.le_of_ble_eq_true rfl, dLoop_of (lots.map lotT) (fun i ρ => ∃ o1 o5 o6, (o1 = some (.bo (.tuple (iL (f.run st (lots.take i)).st))) ∨ o1 = some (.sh (.tuple (iL (f.run st (lots.take i)).st)))) ∧ ρ = [some (.bo f.toD), o1, some (.bo (.tuple (lots.map lotT))), some (.ow (.list (nL f.ws))), some (.ow (.list ((f.run st (lots.take i)).found.map lotT))), o5, o6]) ⟨_, _, _, .inl rfl, rfl⟩ ?_ ?_⟩
    · rintro i x ρ k hx ⟨o1, o5, o6, ho, rfl⟩ next
      obtain ⟨hi, rfl⟩ := get_lotT hx
      obtain ⟨h1, h2, _⟩ := Fl.run_ok hf hx2 hst hlo.ok i (Nat.le_of_lt hi)
      have hcs := Fl.run_succ f st lots i hi
      generalize f.run st (lots.take i) = c at ho h1 h2 hcs
      have hlt := hlo.ok _ (List.getElem_mem hi)
      have hVl := vals_len hf hlt h1
      rcases ho with rfl | rfl
      all_goals
        refine ⟨f, lots[i], c.st, rfl, hf, hlt, h1, f, _, _, rfl, .inl rfl, hf, hx2, hVl, rfl, rfl, by rw [List.length_map, sizeLine_eq]; omega, next _ ⟨some (.sh (.tuple (iL (f.nxt (valsR f.ws lots[i] c.st f.rows))))), some (.sh (.tuple (iL lots[i]))), some (.sh (.tuple (iL (f.tell (valsR f.ws lots[i] c.st f.rows))))), .inr ?_, ?_⟩⟩
        · rw [hcs]
          rfl
        · rw [hcs]
          unfold Fl.runStep
          rw [← lotT_snoc]
          rfl
    · rintro ρ ⟨o1, o5, o6, ho, rfl⟩
      rw [List.length_map, List.take_length] at ho ⊢
      rcases ho with rfl | rfl
      all_goals exact ⟨Nat.le_of_ble_eq_true rfl, hq⟩
theorem okP_run_from {a : Addr} {fd : FuncData} (F : C8.Def K mg "run_from" s_run_from a fd) (b : Binds K fd ["flat", "state", "lots"] []) (T : Txt mg) (c_widths_of : CalG P w K mg base 3 "widths_of" (spD K [.bo] (Cwid))) (c_told_by : CalG P w K mg base 1 "told_by" (spD K [.bo, .bo] (Ctold))) (c_values_with : CalG P w K mg base 3 "values_with" (spD K [.bo, .bo, .bo, .bo] (Cvals))) : CalG P w K mg base (4) "run_from" (spP K [.bo, .bo, .bo] (CrunP)) := by
  refine calGP 4 1 F b sc_run_from rfl (fun cdv A outer s H E hA hr => ?_)
  have hu := huOf hr
  have hu64 := hr.units
  refine ⟨_, _, _, (pss_cons (ps_par (i := 3) (j := 4) (by rfl) sc_run_from.nd rfl rfl (by decide) rfl rfl (pa_cons (pe_cG c_widths_of hA hr (by first | decide | omega) rfl (pa_cons (pv 0) pa_nil)) (pa_cons (pe_lst pa_nil) pa_nil)) (by rfl))
      (pss_cons (ps_for PassesOwn.never rfl (k_iany (K := K) rfl (pv 2)) (pg_name (i := 5) sc_run_from.nd rfl (by first | exact Or.inl rfl | exact Or.inr rfl))
      (pss_cons (ps_asg (pe_cG c_told_by hA hr (by first | decide | omega) rfl (pa_cons (pv 0) (pa_cons (pe_cG c_values_with hA hr (by first | decide | omega) rfl (pa_cons (pv 0) (pa_cons (pv 3) (pa_cons (pv 5) (pa_cons (pv 1) pa_nil))))) pa_nil))) (k_gtup (n := 2) (K := K) rfl (by rfl) (pgs_cons (pg_name (i := 6) sc_run_from.nd rfl (by first | exact Or.inl rfl | exact Or.inr rfl)) (pgs_cons (pg_name (i := 1) sc_run_from.nd rfl (by first | exact Or.inl rfl | exact Or.inr rfl)) pgs_nil))))
      (pss_one (ps_expr (pe_bm PySem.F.plainAttrs_list PySem.F.slot_list_append PySem.F.type_list_append mt_append (pv 4) (pa_cons (pv 6) pa_nil))))))
      (pss_one (ps_ret (pe_tup (pa_cons (pv 4) (pa_cons (pv 1) pa_nil))))))),
   (ls_seq (ls_par (le_call (la_cons le_var la_nil)) (le_lst la_nil))
      (ls_for (li_any le_var) lg_name
      (ls_seq (ls_asg (le_call (la_cons le_var (la_cons (le_call (la_cons le_var (la_cons le_var (la_cons le_var (la_cons le_var la_nil))))) la_nil))) (lg_tup (lgs_cons lg_name (lgs_cons lg_name lgs_nil))))
      (ls_app le_var)))), rfl, ?_⟩
  intro ds Qc h
  obtain ⟨f, st, lots, d, rfl, hd, hf, hx2, hst, hlo, hq⟩ := h
  have hrl := hf.rl
  have hle := hlo.le
  rcases hd with rfl | rfl
  · skip
    refine ⟨f, rfl, hf, Nat.le_of_ble_eq_true rfl, dLoop_of (lots.map lotT) (fun i ρ => ∃ o1 o5 o6, (o1 = some (.bo (.tuple (iL (f.run st (lots.take i)).st))) ∨ o1 = some (.sh (.tuple (iL (f.run st (lots.take i)).st)))) ∧ ρ = [some (.bo f.toD), o1, some (.bo (.list (lots.map lotT))), some (.ow (.list (nL f.ws))), some (.ow (.list ((f.run st (lots.take i)).found.map lotT))), o5, o6]) ⟨_, _, _, .inl rfl, rfl⟩ ?_ ?_⟩
    · rintro i x ρ k hx ⟨o1, o5, o6, ho, rfl⟩ next
      obtain ⟨hi, rfl⟩ := get_lotT hx
      obtain ⟨h1, h2, _⟩ := Fl.run_ok hf hx2 hst hlo.ok i (Nat.le_of_lt hi)
      have hcs := Fl.run_succ f st lots i hi
      generalize f.run st (lots.take i) = c at ho h1 h2 hcs
      have hlt := hlo.ok _ (List.getElem_mem hi)
      have hVl := vals_len hf hlt h1
      rcases ho with rfl | rfl
      all_goals
        refine ⟨f, lots[i], c.st, rfl, hf, hlt, h1, f, _, _, rfl, .inl rfl, hf, hx2, hVl, rfl, rfl, by rw [List.length_map, sizeLine_eq]; omega, next _ ⟨some (.sh (.tuple (iL (f.nxt (valsR f.ws lots[i] c.st f.rows))))), some (.sh (.tuple (iL lots[i]))), some (.sh (.tuple (iL (f.tell (valsR f.ws lots[i] c.st f.rows))))), .inr ?_, ?_⟩⟩
        · rw [hcs]
          rfl
        · rw [hcs]
          unfold Fl.runStep
          rw [← lotT_snoc]
          rfl
    · rintro ρ ⟨o1, o5, o6, ho, rfl⟩
      rw [List.length_map, List.take_length] at ho ⊢
      rcases ho with rfl | rfl
      all_goals first | exact ⟨_, _, rfl, ⟨rfl, rfl⟩, hq⟩ | exact ⟨_, _, rfl, rfl, hq⟩
  · skip
    refine ⟨f, rfl, hf, Nat.le_of_ble_eq_true rfl, dLoop_of (lots.map lotT) (fun i ρ => ∃ o1 o5 o6, (o1 = some (.bo (.tuple (iL (f.run st (lots.take i)).st))) ∨ o1 = some (.sh (.tuple (iL (f.run st (lots.take i)).st)))) ∧ ρ = [some (.bo f.toD), o1, some (.bo (.tuple (lots.map lotT))), some (.ow (.list (nL f.ws))), some (.ow (.list ((f.run st (lots.take i)).found.map lotT))), o5, o6]) ⟨_, _, _, .inl rfl, rfl⟩ ?_ ?_⟩
    · rintro i x ρ k hx ⟨o1, o5, o6, ho, rfl⟩ next
      obtain ⟨hi, rfl⟩ := get_lotT hx
      obtain ⟨h1, h2, _⟩ := Fl.run_ok hf hx2 hst hlo.ok i (Nat.le_of_lt hi)
      have hcs := Fl.run_succ f st lots i hi
      generalize f.run st (lots.take i) = c at ho h1 h2 hcs
      have hlt := hlo.ok _ (List.getElem_mem hi)
      have hVl := vals_len hf hlt h1
      rcases ho with rfl | rfl
      all_goals
        refine ⟨f, lots[i], c.st, rfl, hf, hlt, h1, f, _, _, rfl, .inl rfl, hf, hx2, hVl, rfl, rfl, by rw [List.length_map, sizeLine_eq]; omega, next _ ⟨some (.sh (.tuple (iL (f.nxt (valsR f.ws lots[i] c.st f.rows))))), some (.sh (.tuple (iL lots[i]))), some (.sh (.tuple (iL (f.tell (valsR f.ws lots[i] c.st f.rows))))), .inr ?_, ?_⟩⟩
        · rw [hcs]
          rfl
        · rw [hcs]
          unfold Fl.runStep
          rw [← lotT_snoc]
          rfl
    · rintro ρ ⟨o1, o5, o6, ho, rfl⟩
      rw [List.length_map, List.take_length] at ho ⊢
      rcases ho with rfl | rfl
      all_goals first | exact ⟨_, _, rfl, ⟨rfl, rfl⟩, hq⟩ | exact ⟨_, _, rfl, rfl, hq⟩
abbrev s_outputs : Stmt := topS 17
abbrev n_outputs : List Str := ["flat", "lots"]
theorem sc_outputs : FnScope n_outputs ["flat", "lots"] (C8.fnScope s_outputs) := C8.fnScope_by (by decide +kernel)
theorem ok_outputs {a : Addr} {fd : FuncData} (F : C8.Def K mg "outputs" s_outputs a fd) (b : Binds K fd ["flat", "lots"] []) (T : Txt mg) (c_start : CalG P w K mg base 1 "start" (spD K [.bo] (Cstart))) (cp_run_from : CalG P w K mg base 4 "run_from" (spP K [.bo, .bo, .bo] (CrunP))) : CalG P w K mg base (5) "outputs" (spD K [.bo, .bo] (CoutN)) := by
  refine calG F b sc_outputs rfl (fun cdv A outer s H E hA hr => ?_)
  have hu := huOf hr
  have hu64 := hr.units
  refine ⟨_, _, (pss_one (ps_ret (pe_ix (k_ix (K := K) rfl) (pe_cG cp_run_from hA hr (by first | decide | omega) rfl (pa_cons (pv 0) (pa_cons (pe_cG c_start hA hr (by first | decide | omega) rfl (pa_cons (pv 0) pa_nil)) (pa_cons (pv 1) pa_nil)))) pe_int (fun _ _ => rfl)))),
   (ls_ret (le_pair0 (la_cons le_var (la_cons (le_call (la_cons le_var la_nil)) (la_cons le_var la_nil))))), ?_⟩
  intro ds Qc h
  obtain ⟨f, lots, d, rfl, hd, hf, hx2, hlo, hq⟩ := h
  rcases hd with rfl | rfl
  · exact ⟨f, rfl, hf, f, f.begin, lots, _, rfl, .inl rfl, hf, hx2, Fl.begin_ok hx2, hlo, hq⟩
  · exact ⟨f, rfl, hf, f, f.begin, lots, _, rfl, .inr rfl, hf, hx2, Fl.begin_ok hx2, hlo, hq⟩
abbrev s_states : Stmt := topS 18
abbrev n_states : List Str := ["flat", "lots", "widths", "found", "lot"]
theorem sc_states : FnScope n_states ["flat", "lots"] (C8.fnScope s_states) := C8.fnScope_by (by decide +kernel)
theorem ok_states {a : Addr} {fd : FuncData} (F : C8.Def K mg "states" s_states a fd) (b : Binds K fd ["flat", "lots"] []) (T : Txt mg) (c_widths_of : CalG P w K mg base 3 "widths_of" (spD K [.bo] (Cwid))) (c_start : CalG P w K mg base 1 "start" (spD K [.bo] (Cstart))) (c_told_by : CalG P w K mg base 1 "told_by" (spD K [.bo, .bo] (Ctold))) (c_values_with : CalG P w K mg base 3 "values_with" (spD K [.bo, .bo, .bo, .bo] (Cvals))) : CalG P w K mg base (4) "states" (spD K [.bo, .bo] (Cstates)) := by
  refine calG F b sc_states rfl (fun cdv A outer s H E hA hr => ?_)
  have hu := huOf hr
  have hu64 := hr.units
  refine ⟨_, _, (pss_cons (ps_par (i := 2) (j := 3) (by rfl) sc_states.nd rfl rfl (by decide) rfl rfl (pa_cons (pe_cG c_widths_of hA hr (by first | decide | omega) rfl (pa_cons (pv 0) pa_nil)) (pa_cons (pe_lst (pa_cons (pe_cG c_start hA hr (by first | decide | omega) rfl (pa_cons (pv 0) pa_nil)) pa_nil)) pa_nil)) (by rfl))
      (pss_cons (ps_for PassesOwn.never rfl (k_iany (K := K) rfl (pv 1)) (pg_name (i := 4) sc_states.nd rfl (by first | exact Or.inl rfl | exact Or.inr rfl))
      (pss_one (ps_expr (pe_bm PySem.F.plainAttrs_list PySem.F.slot_list_append PySem.F.type_list_append mt_append (pv 3) (pa_cons (pe_ix (k_ix (K := K) rfl) (pe_cG c_told_by hA hr (by first | decide | omega) rfl (pa_cons (pv 0) (pa_cons (pe_cG c_values_with hA hr (by first | decide | omega) rfl (pa_cons (pv 0) (pa_cons (pv 2) (pa_cons (pv 4) (pa_cons (pe_ix (k_ix (K := K) rfl) (pv 3) (pe_un un_neg pe_int) (fun _ _ => rfl)) pa_nil))))) pa_nil))) pe_int (fun _ _ => rfl)) pa_nil)))))
      (pss_one (ps_ret (pv 3))))),
   (ls_seq (ls_par (le_call (la_cons le_var la_nil)) (le_lst (la_cons (le_call (la_cons le_var la_nil)) la_nil)))
      (ls_seq (ls_for (li_any le_var) lg_name
      (ls_app (le_op (le_call (la_cons le_var (la_cons (le_call (la_cons le_var (la_cons le_var (la_cons le_var (la_cons (le_op le_var (le_un le_int ul_neg) ol_ix) la_nil))))) la_nil))) le_int ol_ix)))
      (ls_ret le_var))), ?_⟩
  intro ds Qc h
  obtain ⟨f, lots, d, rfl, hd, hf, hx2, hlo, hq⟩ := h
  have hrl := hf.rl
  have hle := hlo.le
  have hb := Fl.begin_ok hx2
  rcases hd with rfl | rfl
  · skip
    refine ⟨f, rfl, hf, f, rfl, hf, Nat.le_of_ble_eq_true rfl, dLoop_of (lots.map lotT) (fun i ρ => ∃ o4, ρ = [some (.bo f.toD), some (.bo (.list (lots.map lotT))), some (.ow (.list (nL f.ws))), some (.ow (.list ((f.run f.begin (lots.take i)).ahead.map lotT))), o4]) ⟨_, rfl⟩ ?_ ?_⟩
    · rintro i x ρ k hx ⟨o4, rfl⟩ next
      obtain ⟨hi, rfl⟩ := get_lotT hx
      obtain ⟨h1, h2, ys, h3, h4⟩ := Fl.run_ok hf hx2 hb hlo.ok i (Nat.le_of_lt hi)
      have hcs := Fl.run_succ f f.begin lots i hi
      generalize f.run f.begin (lots.take i) = c at h1 h2 h3 h4 hcs
      have hlt := hlo.ok _ (List.getElem_mem hi)
      have hVl := vals_len hf hlt h1
      have hat : L2.atI (c.ahead.map lotT) (-1) = some (.tuple (iL c.st)) := by
        rw [h4, List.map_append]
        exact at_back
      have hal : c.ahead.length = i + 1 := by rw [h4, List.length_append, h3]; rfl
      refine ⟨trivial, _, hat, f, lots[i], c.st, rfl, hf, hlt, h1, f, _, _, rfl, .inl rfl, hf, hx2, hVl, trivial, _, atI1, by rw [List.length_map, sizeLine_eq]; omega, next _ ⟨some (.sh (.tuple (iL lots[i]))), ?_⟩⟩
      rw [hcs]
      unfold Fl.runStep
      rw [← lotT_snoc]
      rfl
    · rintro ρ ⟨o4, rfl⟩
      rw [List.length_map, List.take_length]
      exact hq
  · skip
    refine ⟨f, rfl, hf, f, rfl, hf, Nat.le_of_ble_eq_true rfl, dLoop_of (lots.map lotT) (fun i ρ => ∃ o4, ρ = [some (.bo f.toD), some (.bo (.tuple (lots.map lotT))), some (.ow (.list (nL f.ws))), some (.ow (.list ((f.run f.begin (lots.take i)).ahead.map lotT))), o4]) ⟨_, rfl⟩ ?_ ?_⟩
    · rintro i x ρ k hx ⟨o4, rfl⟩ next
      obtain ⟨hi, rfl⟩ := get_lotT hx
      obtain ⟨h1, h2, ys, h3, h4⟩ := Fl.run_ok hf hx2 hb hlo.ok i (Nat.le_of_lt hi)
      have hcs := Fl.run_succ f f.begin lots i hi
      generalize f.run f.begin (lots.take i) = c at h1 h2 h3 h4 hcs
      have hlt := hlo.ok _ (List.getElem_mem hi)
      have hVl := vals_len hf hlt h1
      have hat : L2.atI (c.ahead.map lotT) (-1) = some (.tuple (iL c.st)) := by
        rw [h4, List.map_append]
        exact at_back
      have hal : c.ahead.length = i + 1 := by rw [h4, List.length_append, h3]; rfl
      refine ⟨trivial, _, hat, f, lots[i], c.st, rfl, hf, hlt, h1, f, _, _, rfl, .inl rfl, hf, hx2, hVl, trivial, _, atI1, by rw [List.length_map, sizeLine_eq]; omega, next _ ⟨some (.sh (.tuple (iL lots[i]))), ?_⟩⟩
      rw [hcs]
      unfold Fl.runStep
      rw [← lotT_snoc]
      rfl
    · rintro ρ ⟨o4, rfl⟩
      rw [List.length_map, List.take_length]
      exact hq
abbrev s_step : Stmt := topS 15
abbrev n_step : List Str := ["flat", "lot", "state"]
theorem sc_step : FnScope n_step ["flat", "lot", "state"] (C8.fnScope s_step) := C8.fnScope_by (by decide +kernel)
theorem ok_step {a : Addr} {fd : FuncData} (F : C8.Def K mg "step" s_step a fd) (b : Binds K fd ["flat", "lot", "state"] []) (T : Txt mg) (c_row_values : CalG P w K mg base 4 "row_values" (spD K [.bo, .bo, .bo] (Crows))) (c_told_by : CalG P w K mg base 1 "told_by" (spD K [.bo, .bo] (Ctold))) : CalG P w K mg base (5) "step" (spD K [.bo, .bo, .bo] (CstepF)) := by
  refine calG F b sc_step rfl (fun cdv A outer s H E hA hr => ?_)
  have hu := huOf hr
  have hu64 := hr.units
  refine ⟨_, _, (pss_one (ps_ret (pe_cG c_told_by hA hr (by first | decide | omega) rfl (pa_cons (pv 0) (pa_cons (pe_cG c_row_values hA hr (by first | decide | omega) rfl (pa_cons (pv 0) (pa_cons (pv 1) (pa_cons (pv 2) pa_nil)))) pa_nil))))),
   (ls_ret (le_call (la_cons le_var (la_cons (le_call (la_cons le_var (la_cons le_var (la_cons le_var la_nil)))) la_nil)))), ?_⟩
  intro ds Qc h
  obtain ⟨f, lot, st, rfl, hf, hx2, hl, hs, hq⟩ := h
  exact ⟨f, lot, st, rfl, hf, hl, hs, f, _, _, rfl, .inl rfl, hf, hx2, vals_len hf hl hs, hq⟩
end
end K22

set_option Elab.async false
set_option linter.all false
set_option maxRecDepth 100000
set_option maxHeartbeats 4000000
set_option autoImplicit false
set_option pp.maxSteps 1000
namespace K22
open PySem L2 DL
section
variable {P : Program} {w : World} {K : PySem.W.Frag} {mg : Str → Option Value} {base : Heap}
abbrev s_law_row_numbers : Stmt := topS 25
abbrev n_law_row_numbers : List Str := ["_law_row"]
theorem sc_law_row_numbers : FnScope n_law_row_numbers ["_law_row"] (C8.fnScope s_law_row_numbers) := C8.fnScope_by (by decide +kernel)
theorem ok_law_row_numbers {a : Addr} {fd : FuncData} (F : C8.Def K mg "_law_row_numbers" s_law_row_numbers a fd) (b : Binds K fd ["_law_row"] []) (T : Txt mg) : CalG P w K mg base (1) "_law_row_numbers" (spD K [.bo] (CrowN)) := by
  refine calG F b sc_law_row_numbers rfl (fun cdv A outer s H E hA hr => ?_)
  have hu := huOf hr
  have hu64 := hr.units
  refine ⟨_, _, (pss_cons (ps_if (pt_cmpR (k_in (K := K) rfl) (pe_ix (k_ix (K := K) rfl) (pv 0) pe_int (fun _ _ => rfl)) (pe_tup (pa_cons pe_str (pa_cons pe_str (pa_cons pe_str pa_nil)))) (by with_unfolding_all rfl)) (pss_one (ps_ret (pe_lst pa_nil))) pss_nil)
      (pss_one (ps_ret (pe_ifExp (pt_cmpR (k_eq (K := K) rfl hu64) (pe_ix (k_ix (K := K) rfl) (pv 0) pe_int (fun _ _ => rfl)) pe_str (nomark _)) (pe_lst (pa_cons (pe_ix (k_ix (K := K) rfl) (pv 0) pe_int (fun _ _ => rfl)) pa_nil)) (pe_callTy (k_listA (K := K) rfl rfl) (by rfl) T.list (by decide +kernel) (pa_cons (pe_slice (k_sl (K := K) rfl) (pv 0) (po_some pe_int) po_none) pa_nil)))))),
   (ls_seq (ls_if (lt_test (le_op (le_op le_var le_int ol_ix) (le_tup (la_cons le_str (la_cons le_str (la_cons le_str la_nil)))) ol_in)) (ls_ret (le_lst la_nil)) ls_next)
      (ls_ret (le_if (lt_test (le_op (le_op le_var le_int ol_ix) le_str ol_eq)) (le_lst (la_cons (le_op le_var le_int ol_ix) la_nil)) (le_cb (la_cons (le_sl le_var (lo_some le_int) lo_none) la_nil) cl_listA)))), ?_⟩
  intro ds Qc h
  obtain ⟨r, rfl, hq⟩ := h
  cases r with
  | un o a => cases o <;> (refine ⟨trivial, _, atI0, Nat.le_of_ble_eq_true rfl, ⟨rfl, rfl⟩, ?_⟩; first
    | exact useB_y (by (try dsimp only); decide +kernel) ⟨Nat.le_of_ble_eq_true rfl, hq⟩
    | exact useB_n (by (try dsimp only); decide +kernel) ⟨trivial, _, atI0, rfl, useB_y (by (try dsimp only); decide +kernel) ⟨trivial, _, atI1, Nat.le_of_ble_eq_true rfl, hq⟩⟩
    | exact useB_n (by (try dsimp only); decide +kernel) ⟨trivial, _, atI0, rfl, useB_y (by (try dsimp only); decide +kernel) ⟨Nat.le_of_ble_eq_true rfl, trivial, _, atI1, hq⟩⟩
    | exact useB_n (by (try dsimp only); decide +kernel) ⟨trivial, _, atI0, rfl, useB_n (by (try dsimp only); decide +kernel) hq⟩)
  | mv o a b => cases o <;> (refine ⟨trivial, _, atI0, Nat.le_of_ble_eq_true rfl, ⟨rfl, rfl⟩, ?_⟩; first
    | exact useB_y (by (try dsimp only); decide +kernel) ⟨Nat.le_of_ble_eq_true rfl, hq⟩
    | exact useB_n (by (try dsimp only); decide +kernel) ⟨trivial, _, atI0, rfl, useB_y (by (try dsimp only); decide +kernel) ⟨trivial, _, atI1, Nat.le_of_ble_eq_true rfl, hq⟩⟩
    | exact useB_n (by (try dsimp only); decide +kernel) ⟨trivial, _, atI0, rfl, useB_y (by (try dsimp only); decide +kernel) ⟨Nat.le_of_ble_eq_true rfl, trivial, _, atI1, hq⟩⟩
    | exact useB_n (by (try dsimp only); decide +kernel) ⟨trivial, _, atI0, rfl, useB_n (by (try dsimp only); decide +kernel) hq⟩)
  | bin o a b => cases o <;> (refine ⟨trivial, _, atI0, Nat.le_of_ble_eq_true rfl, ⟨rfl, rfl⟩, ?_⟩; first
    | exact useB_y (by (try dsimp only); decide +kernel) ⟨Nat.le_of_ble_eq_true rfl, hq⟩
    | exact useB_n (by (try dsimp only); decide +kernel) ⟨trivial, _, atI0, rfl, useB_y (by (try dsimp only); decide +kernel) ⟨trivial, _, atI1, Nat.le_of_ble_eq_true rfl, hq⟩⟩
    | exact useB_n (by (try dsimp only); decide +kernel) ⟨trivial, _, atI0, rfl, useB_y (by (try dsimp only); decide +kernel) ⟨Nat.le_of_ble_eq_true rfl, trivial, _, atI1, hq⟩⟩
    | exact useB_n (by (try dsimp only); decide +kernel) ⟨trivial, _, atI0, rfl, useB_n (by (try dsimp only); decide +kernel) hq⟩)
  | _ => (refine ⟨trivial, _, atI0, Nat.le_of_ble_eq_true rfl, ⟨rfl, rfl⟩, ?_⟩; first
    | exact useB_y (by (try dsimp only); decide +kernel) ⟨Nat.le_of_ble_eq_true rfl, hq⟩
    | exact useB_n (by (try dsimp only); decide +kernel) ⟨trivial, _, atI0, rfl, useB_y (by (try dsimp only); decide +kernel) ⟨trivial, _, atI1, Nat.le_of_ble_eq_true rfl, hq⟩⟩
    | exact useB_n (by (try dsimp only); decide +kernel) ⟨trivial, _, atI0, rfl, useB_y (by (try dsimp only); decide +kernel) ⟨Nat.le_of_ble_eq_true rfl, trivial, _, atI1, hq⟩⟩
    | exact useB_n (by (try dsimp only); decide +kernel) ⟨trivial, _, atI0, rfl, useB_n (by (try dsimp only); decide +kernel) hq⟩)
abbrev s_law_row_value : Stmt := topS 27
abbrev n_law_row_value : List Str := ["_law_row", "_law_some", "_law_sizes", "_law_width", "_law_lot", "_law_state", "_law_word", "_law_full", "_law_a", "_law_b", "_law_k"]
theorem sc_law_row_value : FnScope n_law_row_value ["_law_row", "_law_some", "_law_sizes", "_law_width", "_law_lot", "_law_state"] (C8.fnScope s_law_row_value) := C8.fnScope_by (by decide +kernel)
theorem ok_law_row_value {a : Addr} {fd : FuncData} (F : C8.Def K mg "_law_row_value" s_law_row_value a fd) (b : Binds K fd ["_law_row", "_law_some", "_law_sizes", "_law_width", "_law_lot", "_law_state"] []) (T : Txt mg) : CalG P w K mg base (1) "_law_row_value" (spD K [.bo, .bo, .bo, .bo, .bo, .bo] (ClrV)) := by
  refine calG F b sc_law_row_value rfl (fun cdv A outer s H E hA hr => ?_)
  have hu := huOf hr
  have hu64 := hr.units
  refine ⟨_, _, (pss_cons (ps_par (i := 6) (j := 7) (by rfl) sc_law_row_value.nd rfl rfl (by decide) rfl rfl (pa_cons (pe_ix (k_ix (K := K) rfl) (pv 0) pe_int (fun _ _ => rfl)) (pa_cons (pe_op op_shl pe_int (pv 3)) pa_nil)) (by rfl))
      (pss_cons (ps_if (pt_cmpR (k_in (K := K) rfl) (pv 6) (pe_tup (pa_cons pe_str (pa_cons pe_str pa_nil))) (by with_unfolding_all rfl)) (pss_one (ps_ret (pe_ifExp (pt_cmpR (k_eq (K := K) rfl hu64) (pv 6) pe_str (nomark _)) (pe_ix (k_ix (K := K) rfl) (pv 4) (pe_ix (k_ix (K := K) rfl) (pv 0) pe_int (fun _ _ => rfl)) (fun _ _ => rfl)) (pe_ix (k_ix (K := K) rfl) (pv 5) (pe_ix (k_ix (K := K) rfl) (pv 0) pe_int (fun _ _ => rfl)) (fun _ _ => rfl))))) pss_nil)
      (pss_cons (ps_if (pt_cmpR (k_eq (K := K) rfl hu64) (pv 6) pe_str (nomark _)) (pss_one (ps_ret (pe_ix (k_ix (K := K) rfl) (pv 0) pe_int (fun _ _ => rfl)))) pss_nil)
      (pss_cons (ps_asg (pe_tup (pa_cons (pe_ix (k_ix (K := K) rfl) (pv 1) pe_int (fun _ _ => rfl)) (pa_cons (pe_ix (k_ix (K := K) rfl) (pv 1) (pe_un un_neg pe_int) (fun _ _ => rfl)) pa_nil))) (k_gtup (n := 2) (K := K) rfl (by rfl) (pgs_cons (pg_name (i := 8) sc_law_row_value.nd rfl (by first | exact Or.inl rfl | exact Or.inr rfl)) (pgs_cons (pg_name (i := 9) sc_law_row_value.nd rfl (by first | exact Or.inl rfl | exact Or.inr rfl)) pgs_nil))))
      (pss_cons (ps_if (pt_cmpR (k_eq (K := K) rfl hu64) (pv 6) pe_str (nomark _)) (pss_one (ps_ret (pe_op op_sub (pe_op op_sub (pv 7) pe_int) (pv 8)))) pss_nil)
      (pss_cons (ps_if (pt_cmpR (k_in (K := K) rfl) (pv 6) (pe_tup (pa_cons pe_str (pa_cons pe_str (pa_cons pe_str pa_nil)))) (by with_unfolding_all rfl)) (pss_one (ps_ret (pe_dget hu (pe_disp (pps_cons pe_str (pe_op op_and (pv 8) (pv 9)) (pps_cons pe_str (pe_op op_or (pv 8) (pv 9)) (pps_cons pe_str (pe_op op_xor (pv 8) (pv 9)) pps_nil))) (by rfl) (by rfl) (fun z => by cases z) (by decide)) (pv 6) (fun _ _ => rfl)))) pss_nil)
      (pss_cons (ps_if (pt_cmpR (k_in (K := K) rfl) (pv 6) (pe_tup (pa_cons pe_str (pa_cons pe_str (pa_cons pe_str pa_nil)))) (by with_unfolding_all rfl)) (pss_one (ps_ret (pe_op op_modN (pe_callTy call_int1 (by rfl) T.int (by decide +kernel) (pa_cons (pe_dget hu (pe_disp (pps_cons pe_str (pe_op (k_add (K := K) rfl) (pv 8) (pv 9)) (pps_cons pe_str (pe_op op_sub (pv 8) (pv 9)) (pps_cons pe_str (pe_op op_mulA (pv 8) (pv 9)) pps_nil))) (by rfl) (by rfl) (fun z => by cases z) (by decide)) (pv 6) (fun _ _ => rfl)) pa_nil)) (pv 7)))) pss_nil)
      (pss_cons (ps_if (pt_cmpR (k_in (K := K) rfl) (pv 6) (pe_tup (pa_cons pe_str (pa_cons pe_str pa_nil))) (by with_unfolding_all rfl)) (pss_one (ps_ret (pe_callTy call_int1 (by rfl) T.int (by decide +kernel) (pa_cons (pe_ifExp (pt_cmpR (k_eq (K := K) rfl hu64) (pv 6) pe_str (nomark _)) (pe_cmpR (k_eq (K := K) rfl hu64) (pv 8) (pv 9) (nomark _)) (pe_cmpR op_lt (pv 8) (pv 9) (nomark _))) pa_nil)))) pss_nil)
      (pss_cons (ps_if (pt_cmpR (k_eq (K := K) rfl hu64) (pv 6) pe_str (nomark _)) (pss_one (ps_ret (pe_ifExp (pt_cmpR (k_eq (K := K) rfl hu64) (pv 8) pe_int (nomark _)) (pe_ix (k_ix (K := K) rfl) (pv 1) pe_int (fun _ _ => rfl)) (pv 9)))) pss_nil)
      (pss_cons (ps_if (pt_cmpR (k_eq (K := K) rfl hu64) (pv 6) pe_str (nomark _)) (pss_one (ps_ret (pe_op (k_add (K := K) rfl) (pe_op op_shl (pv 8) (pe_ix (k_ix (K := K) rfl) (pv 2) pe_int (fun _ _ => rfl))) (pv 9)))) pss_nil)
      (pss_cons (ps_if (pt_cmpR (k_eq (K := K) rfl hu64) (pv 6) pe_str (nomark _)) (pss_one (ps_ret (pe_op op_modN (pe_callTy call_int1 (by rfl) T.int (by decide +kernel) (pa_cons (pe_op op_shr (pv 8) (pe_ix (k_ix (K := K) rfl) (pv 0) pe_int (fun _ _ => rfl))) pa_nil)) (pv 7)))) pss_nil)
      (pss_cons (ps_if (pt_cmpR (k_in (K := K) rfl) (pv 6) (pe_tup (pa_cons pe_str (pa_cons pe_str pa_nil))) (by with_unfolding_all rfl)) (pss_one (ps_ret (pe_callTy call_int1 (by rfl) T.int (by decide +kernel) (pa_cons (pe_ifExp (pt_cmpR (k_eq (K := K) rfl hu64) (pv 6) pe_str (nomark _)) (pe_cmpR (k_eq (K := K) rfl hu64) (pv 8) (pe_op op_sub (pe_op op_shl pe_int (pe_ix (k_ix (K := K) rfl) (pv 2) pe_int (fun _ _ => rfl))) pe_int) (nomark _)) (pe_cmpR (k_ne (K := K) rfl hu64) (pv 8) pe_int (nomark _))) pa_nil)))) pss_nil)
      (pss_cons (ps_if (pt_cmpR (k_eq (K := K) rfl hu64) (pv 6) pe_str (nomark _)) (pss_one (ps_ret (pe_op op_modN (pe_callTy call_int1 (by rfl) T.int (by decide +kernel) (pa_cons (pe_callB (k_sum (K := K) rfl rfl) (by rfl) T.sum (by decide +kernel) (pa_cons (pe_lc rfl sc_law_row_value.nd (pi_range1 (by rfl) T.range (pa_cons (pe_ix (k_ix (K := K) rfl) (pv 2) pe_int (fun _ _ => rfl)) pa_nil)) (blkOk_by (own := [("_law_k", 10)]) (N := n_law_row_value) (sc := C8.fnScope s_law_row_value) (by decide +kernel)) (fun _ _ _ _ _ => (pg_name (i := 10) sc_law_row_value.nd rfl (by first | exact Or.inl rfl | exact Or.inr rfl))) (fun _ _ _ _ _ => pts_nil) (fun _ _ _ _ _ => (pe_op op_and (pe_op op_shr (pv 8) (pv 10)) pe_int))) pa_nil)) pa_nil)) pe_int))) pss_nil)
      (pss_cons (ps_if (pt_cmpR op_ge (pv 9) (pe_ix (k_ix (K := K) rfl) (pv 2) pe_int (fun _ _ => rfl)) (nomark _)) (pss_one (ps_ret pe_int)) pss_nil)
      (pss_one (ps_ret (pe_ifExp (pt_cmpR (k_eq (K := K) rfl hu64) (pv 6) pe_str (nomark _)) (pe_op op_modN (pe_callTy call_int1 (by rfl) T.int (by decide +kernel) (pa_cons (pe_op op_shl (pv 8) (pv 9)) pa_nil)) (pv 7)) (pe_op op_modN (pe_callTy call_int1 (by rfl) T.int (by decide +kernel) (pa_cons (pe_op op_shr (pv 8) (pv 9)) pa_nil)) (pv 7))))))))))))))))))),
   (ls_seq (ls_par (le_op le_var le_int ol_ix) (le_op le_int le_var ol_shl))
      (ls_seq (ls_if (lt_test (le_op le_var (le_tup (la_cons le_str (la_cons le_str la_nil))) ol_in)) (ls_ret (le_if (lt_test (le_op le_var le_str ol_eq)) (le_op le_var (le_op le_var le_int ol_ix) ol_ix) (le_op le_var (le_op le_var le_int ol_ix) ol_ix))) ls_next)
      (ls_seq (ls_if (lt_test (le_op le_var le_str ol_eq)) (ls_ret (le_op le_var le_int ol_ix)) ls_next)
      (ls_seq (ls_parT (i := 8) (j := 9) (le_op le_var le_int ol_ix) (le_op le_var (le_un le_int ul_neg) ol_ix))
      (ls_seq (ls_if (lt_test (le_op le_var le_str ol_eq)) (ls_ret (le_op (le_op le_var le_int ol_sub) le_var ol_sub)) ls_next)
      (ls_seq (ls_if (lt_test (le_op le_var (le_tup (la_cons le_str (la_cons le_str (la_cons le_str la_nil)))) ol_in)) (ls_ret (le_dget (le_disp (lp_cons le_str (le_op le_var le_var ol_and) (lp_cons le_str (le_op le_var le_var ol_or) (lp_cons le_str (le_op le_var le_var ol_xor) lp_nil)))) le_var)) ls_next)
      (ls_seq (ls_if (lt_test (le_op le_var (le_tup (la_cons le_str (la_cons le_str (la_cons le_str la_nil)))) ol_in)) (ls_ret (le_op (le_cb (la_cons (le_dget (le_disp (lp_cons le_str (le_op le_var le_var ol_add) (lp_cons le_str (le_op le_var le_var ol_sub) (lp_cons le_str (le_op le_var le_var ol_mul) lp_nil)))) le_var) la_nil) cl_int) le_var ol_mod)) ls_next)
      (ls_seq (ls_if (lt_test (le_op le_var (le_tup (la_cons le_str (la_cons le_str la_nil))) ol_in)) (ls_ret (le_cb (la_cons (le_if (lt_test (le_op le_var le_str ol_eq)) (le_op le_var le_var ol_eq) (le_op le_var le_var ol_lt)) la_nil) cl_int)) ls_next)
      (ls_seq (ls_if (lt_test (le_op le_var le_str ol_eq)) (ls_ret (le_if (lt_test (le_op le_var le_int ol_eq)) (le_op le_var le_int ol_ix) le_var)) ls_next)
      (ls_seq (ls_if (lt_test (le_op le_var le_str ol_eq)) (ls_ret (le_op (le_op le_var (le_op le_var le_int ol_ix) ol_shl) le_var ol_add)) ls_next)
      (ls_seq (ls_if (lt_test (le_op le_var le_str ol_eq)) (ls_ret (le_op (le_cb (la_cons (le_op le_var (le_op le_var le_int ol_ix) ol_shr) la_nil) cl_int) le_var ol_mod)) ls_next)
      (ls_seq (ls_if (lt_test (le_op le_var (le_tup (la_cons le_str (la_cons le_str la_nil))) ol_in)) (ls_ret (le_cb (la_cons (le_if (lt_test (le_op le_var le_str ol_eq)) (le_op le_var (le_op (le_op le_int (le_op le_var le_int ol_ix) ol_shl) le_int ol_sub) ol_eq) (le_op le_var le_int ol_ne)) la_nil) cl_int)) ls_next)
      (ls_seq (ls_if (lt_test (le_op le_var le_str ol_eq)) (ls_ret (le_op (le_cb (la_cons (le_cb (la_cons (le_lc (li_rng1 (la_cons (le_op le_var le_int ol_ix) la_nil)) lg_name (lgw_name (by decide)) lt_yes (le_op (le_op le_var le_var ol_shr) le_int ol_and)) la_nil) cl_sum) la_nil) cl_int) le_int ol_mod)) ls_next)
      (ls_seq (ls_if (lt_test (le_op le_var (le_op le_var le_int ol_ix) ol_ge)) (ls_ret le_int) ls_next)
      (ls_ret (le_if (lt_test (le_op le_var le_str ol_eq)) (le_op (le_cb (la_cons (le_op le_var le_var ol_shl) la_nil) cl_int) le_var ol_mod) (le_op (le_cb (la_cons (le_op le_var le_var ol_shr) la_nil) cl_int) le_var ol_mod))))))))))))))))), ?_⟩
  intro ds Qc h
  obtain ⟨ins, regs, ws, r, w, vs, lot, st, rfl, hr, hw, hV, hq⟩ := h
  cases r with
  | inp k =>
    obtain ⟨v, hv1, _⟩ := hV.lot.at hr
    have hq2 : Qc (.fz (.int v)) := by have := hq; simp only [Row.val, getV hv1] at this; exact this
    exact ⟨trivial, _, atI0, pw1 hw.2, Nat.le_of_ble_eq_true rfl, ⟨rfl, rfl⟩, useB_y (by (try dsimp only); decide +kernel) ⟨rfl, useB_y (by (try dsimp only); decide +kernel) ⟨trivial, _, atI1, trivial, _, atI_iL hv1, hq2⟩⟩⟩
  | reg k =>
    obtain ⟨v, hv1, _⟩ := hV.st.at hr
    have hq2 : Qc (.fz (.int v)) := by have := hq; simp only [Row.val, getV hv1] at this; exact this
    exact ⟨trivial, _, atI0, pw1 hw.2, Nat.le_of_ble_eq_true rfl, ⟨rfl, rfl⟩, useB_y (by (try dsimp only); decide +kernel) ⟨rfl, useB_n (by (try dsimp only); decide +kernel) ⟨trivial, _, atI1, trivial, _, atI_iL hv1, hq2⟩⟩⟩
  | word x n =>
    exact ⟨trivial, _, atI0, pw1 hw.2, Nat.le_of_ble_eq_true rfl, ⟨rfl, rfl⟩, useB_n (by (try dsimp only); decide +kernel) ⟨rfl, useB_y (by (try dsimp only); decide +kernel) ⟨trivial, _, atI2, hq⟩⟩⟩
  | un o a =>
    cases o with
    | not =>
      obtain ⟨x, ha⟩ := hr.mem a (by simp [Row.mem])
      obtain ⟨ha1, hxw, va, hva, ra⟩ := hV.at ha
      have eva := getV hva
      have ewa := getD_of ha1
      have h64 := hxw.2
      have hw2 := hw.2
      have sa := sml h64 ra
      simp only [Row.val, eva, ewa] at hq
      have eV : iL (Row.mem (Row.un .not a) |>.map fun a => vs.getD a 0) = [PyData.int va] := by
        show [PyData.int (vs.getD a 0)] = _
        rw [eva]
      have eW : nL (Row.mem (Row.un .not a) |>.map fun a => ws.getD a 0) = [PyData.int ((x : Nat) : Int)] := by
        show [PyData.int ((ws.getD a 0 : Nat) : Int)] = _
        rw [ewa]
      rw [eV, eW]
      refine ⟨trivial, _, atI0, pw1 hw.2, Nat.le_of_ble_eq_true rfl, ⟨rfl, rfl⟩, useB_n (by (try dsimp only); decide +kernel) ⟨rfl, useB_n (by (try dsimp only); decide +kernel) ⟨trivial, _, atI0, trivial, _, rfl, rfl, useB_y (by (try dsimp only); decide +kernel) ?_⟩⟩⟩
      have e1 : x = w := Option.some.inj (ha.symm.trans hr)
      subst e1
      show Qc (.fz (.int (1 * 2 ^ ((x : Nat) : Int).toNat - 1 - va)))
      rw [sh1]
      exact hq
    | all =>
      obtain ⟨x, ha⟩ := hr.mem a (by simp [Row.mem])
      obtain ⟨ha1, hxw, va, hva, ra⟩ := hV.at ha
      have eva := getV hva
      have ewa := getD_of ha1
      have h64 := hxw.2
      have hw2 := hw.2
      have sa := sml h64 ra
      simp only [Row.val, eva, ewa] at hq
      have eV : iL (Row.mem (Row.un .all a) |>.map fun a => vs.getD a 0) = [PyData.int va] := by
        show [PyData.int (vs.getD a 0)] = _
        rw [eva]
      have eW : nL (Row.mem (Row.un .all a) |>.map fun a => ws.getD a 0) = [PyData.int ((x : Nat) : Int)] := by
        show [PyData.int ((ws.getD a 0 : Nat) : Int)] = _
        rw [ewa]
      rw [eV, eW]
      refine ⟨trivial, _, atI0, pw1 hw.2, Nat.le_of_ble_eq_true rfl, ⟨rfl, rfl⟩, useB_n (by (try dsimp only); decide +kernel) ⟨rfl, useB_n (by (try dsimp only); decide +kernel) ⟨trivial, _, atI0, trivial, _, rfl, rfl, useB_n (by (try dsimp only); decide +kernel) ⟨Nat.le_of_ble_eq_true rfl, ⟨rfl, rfl⟩, useB_n (by (try dsimp only); decide +kernel) ⟨Nat.le_of_ble_eq_true rfl, ⟨rfl, rfl⟩, useB_n (by (try dsimp only); decide +kernel) ⟨Nat.le_of_ble_eq_true rfl, ⟨rfl, rfl⟩, useB_n (by (try dsimp only); decide +kernel) ⟨rfl, useB_n (by (try dsimp only); decide +kernel) ⟨rfl, useB_n (by (try dsimp only); decide +kernel) ⟨rfl, useB_n (by (try dsimp only); decide +kernel) ⟨Nat.le_of_ble_eq_true rfl, ⟨rfl, rfl⟩, useB_y (by (try dsimp only); decide +kernel) ⟨rfl, useB_y (by (try dsimp only); decide +kernel) ⟨trivial, _, atI0, pw1 h64, rfl, ?_⟩⟩⟩⟩⟩⟩⟩⟩⟩⟩⟩⟩
      show Qc (.fz (.int (if (false != PyData.eqv (.int va) (.int (1 * 2 ^ ((x : Nat) : Int).toNat - 1))) = true then 1 else 0)))
      rw [sh1, eqv_int, bne_false]
      simpa [UO.v] using hq
    | any =>
      obtain ⟨x, ha⟩ := hr.mem a (by simp [Row.mem])
      obtain ⟨ha1, hxw, va, hva, ra⟩ := hV.at ha
      have eva := getV hva
      have ewa := getD_of ha1
      have h64 := hxw.2
      have hw2 := hw.2
      have sa := sml h64 ra
      simp only [Row.val, eva, ewa] at hq
      have eV : iL (Row.mem (Row.un .any a) |>.map fun a => vs.getD a 0) = [PyData.int va] := by
        show [PyData.int (vs.getD a 0)] = _
        rw [eva]
      have eW : nL (Row.mem (Row.un .any a) |>.map fun a => ws.getD a 0) = [PyData.int ((x : Nat) : Int)] := by
        show [PyData.int ((ws.getD a 0 : Nat) : Int)] = _
        rw [ewa]
      rw [eV, eW]
      refine ⟨trivial, _, atI0, pw1 hw.2, Nat.le_of_ble_eq_true rfl, ⟨rfl, rfl⟩, useB_n (by (try dsimp only); decide +kernel) ⟨rfl, useB_n (by (try dsimp only); decide +kernel) ⟨trivial, _, atI0, trivial, _, rfl, rfl, useB_n (by (try dsimp only); decide +kernel) ⟨Nat.le_of_ble_eq_true rfl, ⟨rfl, rfl⟩, useB_n (by (try dsimp only); decide +kernel) ⟨Nat.le_of_ble_eq_true rfl, ⟨rfl, rfl⟩, useB_n (by (try dsimp only); decide +kernel) ⟨Nat.le_of_ble_eq_true rfl, ⟨rfl, rfl⟩, useB_n (by (try dsimp only); decide +kernel) ⟨rfl, useB_n (by (try dsimp only); decide +kernel) ⟨rfl, useB_n (by (try dsimp only); decide +kernel) ⟨rfl, useB_n (by (try dsimp only); decide +kernel) ⟨Nat.le_of_ble_eq_true rfl, ⟨rfl, rfl⟩, useB_y (by (try dsimp only); decide +kernel) ⟨rfl, useB_n (by (try dsimp only); decide +kernel) ⟨rfl, ?_⟩⟩⟩⟩⟩⟩⟩⟩⟩⟩⟩⟩
      show Qc (.fz (.int (if (true != PyData.eqv (.int va) (.int 0)) = true then 1 else 0)))
      rw [eqv_int, bne_true]
      simpa [UO.v] using hq
    | odd =>
      obtain ⟨x, ha⟩ := hr.mem a (by simp [Row.mem])
      obtain ⟨ha1, hxw, va, hva, ra⟩ := hV.at ha
      have eva := getV hva
      have ewa := getD_of ha1
      have h64 := hxw.2
      have hw2 := hw.2
      have sa := sml h64 ra
      simp only [Row.val, eva, ewa] at hq
      have eV : iL (Row.mem (Row.un .odd a) |>.map fun a => vs.getD a 0) = [PyData.int va] := by
        show [PyData.int (vs.getD a 0)] = _
        rw [eva]
      have eW : nL (Row.mem (Row.un .odd a) |>.map fun a => ws.getD a 0) = [PyData.int ((x : Nat) : Int)] := by
        show [PyData.int ((ws.getD a 0 : Nat) : Int)] = _
        rw [ewa]
      rw [eV, eW]
      refine ⟨trivial, _, atI0, pw1 hw.2, Nat.le_of_ble_eq_true rfl, ⟨rfl, rfl⟩, useB_n (by (try dsimp only); decide +kernel) ⟨rfl, useB_n (by (try dsimp only); decide +kernel) ⟨trivial, _, atI0, trivial, _, rfl, rfl, useB_n (by (try dsimp only); decide +kernel) ⟨Nat.le_of_ble_eq_true rfl, ⟨rfl, rfl⟩, useB_n (by (try dsimp only); decide +kernel) ⟨Nat.le_of_ble_eq_true rfl, ⟨rfl, rfl⟩, useB_n (by (try dsimp only); decide +kernel) ⟨Nat.le_of_ble_eq_true rfl, ⟨rfl, rfl⟩, useB_n (by (try dsimp only); decide +kernel) ⟨rfl, useB_n (by (try dsimp only); decide +kernel) ⟨rfl, useB_n (by (try dsimp only); decide +kernel) ⟨rfl, useB_n (by (try dsimp only); decide +kernel) ⟨Nat.le_of_ble_eq_true rfl, ⟨rfl, rfl⟩, useB_n (by (try dsimp only); decide +kernel) ⟨rfl, useB_y (by (try dsimp only); decide +kernel) ⟨trivial, _, atI0, ⟨by omega, by omega⟩, dLcGo_map _ (bitOf va) (by rw [rngD_length, sizeLine_eq]; omega) (fun z k hz q => ?_) ?_⟩⟩⟩⟩⟩⟩⟩⟩⟩⟩⟩⟩
      · obtain ⟨j, _, rfl⟩ := mem_rng0 hz
        refine ⟨(show (0 : Int) ≤ (j : Int) by omega), ?_⟩
        show k (.int (Builtin.bitAnd (va / 2 ^ ((j : Nat) : Int).toNat) 1)) _
        rw [PyProof.Rows.bitAnd_m1]
        exact q
      rw [bits_rng]
      show wN (intsOf (List.map PyData.int _)) _
      rw [intsOf_map]
      refine ⟨(show (2 : Int) ≠ 0 by decide), ?_⟩
      have hq2 : Qc (.fz (.int (bitsum va x % 2))) := by rw [← bitsum_hi ra 64 h64]; exact hq
      show Qc (.fz (.int (Int.fmod (bitsum va x) 2)))
      rw [Int.fmod_eq_emod_of_nonneg _ (by decide)]
      exact hq2
  | cut a lo sz =>
    obtain ⟨x, ha⟩ := hr.mem a (by simp [Row.mem])
    obtain ⟨ha1, hxw, va, hva, ra⟩ := hV.at ha
    have eva := getV hva
    have ewa := getD_of ha1
    have h64 := hxw.2
    have hw2 := hw.2
    have sa := sml h64 ra
    simp only [Row.val, eva, ewa] at hq
    have eV : iL (Row.mem (Row.cut a lo sz) |>.map fun a => vs.getD a 0) = [PyData.int va] := by
      show [PyData.int (vs.getD a 0)] = _
      rw [eva]
    have eW : nL (Row.mem (Row.cut a lo sz) |>.map fun a => ws.getD a 0) = [PyData.int ((x : Nat) : Int)] := by
      show [PyData.int ((ws.getD a 0 : Nat) : Int)] = _
      rw [ewa]
    rw [eV, eW]
    obtain ⟨rfl, _⟩ := hr
    refine ⟨trivial, _, atI0, pw1 hw.2, Nat.le_of_ble_eq_true rfl, ⟨rfl, rfl⟩, useB_n (by (try dsimp only); decide +kernel) ⟨rfl, useB_n (by (try dsimp only); decide +kernel) ⟨trivial, _, atI0, trivial, _, rfl, rfl, useB_n (by (try dsimp only); decide +kernel) ⟨Nat.le_of_ble_eq_true rfl, ⟨rfl, rfl⟩, useB_n (by (try dsimp only); decide +kernel) ⟨Nat.le_of_ble_eq_true rfl, ⟨rfl, rfl⟩, useB_n (by (try dsimp only); decide +kernel) ⟨Nat.le_of_ble_eq_true rfl, ⟨rfl, rfl⟩, useB_n (by (try dsimp only); decide +kernel) ⟨rfl, useB_n (by (try dsimp only); decide +kernel) ⟨rfl, useB_n (by (try dsimp only); decide +kernel) ⟨rfl, useB_y (by (try dsimp only); decide +kernel) ⟨trivial, _, atI2, (show (0 : Int) ≤ (lo : Int) by omega), pw_ne _, ?_⟩⟩⟩⟩⟩⟩⟩⟩⟩⟩
    show Qc (.fz (.int ((va / 2 ^ ((lo : Nat) : Int).toNat).fmod (1 * 2 ^ ((w : Nat) : Int).toNat))))
    rw [Int.toNat_natCast, emod_of rfl]
    exact hq
  | join a b =>
    obtain ⟨x, ha⟩ := hr.mem a (by simp [Row.mem])
    obtain ⟨ha1, hxw, va, hva, ra⟩ := hV.at ha
    have eva := getV hva
    have ewa := getD_of ha1
    obtain ⟨y, hb⟩ := hr.mem b (by simp [Row.mem])
    obtain ⟨hb1, hyw, vb, hvb, rb⟩ := hV.at hb
    have evb := getV hvb
    have ewb := getD_of hb1
    have h64 := hxw.2
    have hw2 := hw.2
    have sa := sml h64 ra
    simp only [Row.val, eva, ewa, evb, ewb] at hq
    have eV : iL (Row.mem (Row.join a b) |>.map fun a => vs.getD a 0) = [PyData.int va, PyData.int vb] := by
      show [PyData.int (vs.getD a 0), PyData.int (vs.getD b 0)] = _
      rw [eva, evb]
    have eW : nL (Row.mem (Row.join a b) |>.map fun a => ws.getD a 0) = [PyData.int ((x : Nat) : Int), PyData.int ((y : Nat) : Int)] := by
      show [PyData.int ((ws.getD a 0 : Nat) : Int), PyData.int ((ws.getD b 0 : Nat) : Int)] = _
      rw [ewa, ewb]
    rw [eV, eW]
    have hyy := hyw.2
    refine ⟨trivial, _, atI0, pw1 hw.2, Nat.le_of_ble_eq_true rfl, ⟨rfl, rfl⟩, useB_n (by (try dsimp only); decide +kernel) ⟨rfl, useB_n (by (try dsimp only); decide +kernel) ⟨trivial, _, atI0, trivial, _, atIm2, rfl, useB_n (by (try dsimp only); decide +kernel) ⟨Nat.le_of_ble_eq_true rfl, ⟨rfl, rfl⟩, useB_n (by (try dsimp only); decide +kernel) ⟨Nat.le_of_ble_eq_true rfl, ⟨rfl, rfl⟩, useB_n (by (try dsimp only); decide +kernel) ⟨Nat.le_of_ble_eq_true rfl, ⟨rfl, rfl⟩, useB_n (by (try dsimp only); decide +kernel) ⟨rfl, useB_n (by (try dsimp only); decide +kernel) ⟨rfl, useB_y (by (try dsimp only); decide +kernel) ⟨trivial, _, atI1, ⟨by omega, by omega, sa⟩, ?_⟩⟩⟩⟩⟩⟩⟩⟩⟩
    show Qc (.fz (.int (va * 2 ^ ((y : Nat) : Int).toNat + vb)))
    rw [Int.toNat_natCast]
    exact hq
  | mv o a b =>
    cases o with
    | pick =>
      obtain ⟨x, ha⟩ := hr.mem a (by simp [Row.mem])
      obtain ⟨ha1, hxw, va, hva, ra⟩ := hV.at ha
      have eva := getV hva
      have ewa := getD_of ha1
      obtain ⟨y, hb⟩ := hr.mem b (by simp [Row.mem])
      obtain ⟨hb1, hyw, vb, hvb, rb⟩ := hV.at hb
      have evb := getV hvb
      have ewb := getD_of hb1
      have h64 := hxw.2
      have hw2 := hw.2
      have sa := sml h64 ra
      simp only [Row.val, eva, ewa, evb, ewb] at hq
      have eV : iL (Row.mem (Row.mv .pick a b) |>.map fun a => vs.getD a 0) = [PyData.int va, PyData.int vb] := by
        show [PyData.int (vs.getD a 0), PyData.int (vs.getD b 0)] = _
        rw [eva, evb]
      have eW : nL (Row.mem (Row.mv .pick a b) |>.map fun a => ws.getD a 0) = [PyData.int ((x : Nat) : Int), PyData.int ((y : Nat) : Int)] := by
        show [PyData.int ((ws.getD a 0 : Nat) : Int), PyData.int ((ws.getD b 0 : Nat) : Int)] = _
        rw [ewa, ewb]
      rw [eV, eW]
      obtain ⟨rfl, _⟩ := hr
      have hb0 := rb.1
      refine ⟨trivial, _, atI0, pw1 hw.2, Nat.le_of_ble_eq_true rfl, ⟨rfl, rfl⟩, useB_n (by (try dsimp only); decide +kernel) ⟨rfl, useB_n (by (try dsimp only); decide +kernel) ⟨trivial, _, atI0, trivial, _, atIm2, rfl, useB_n (by (try dsimp only); decide +kernel) ⟨Nat.le_of_ble_eq_true rfl, ⟨rfl, rfl⟩, useB_n (by (try dsimp only); decide +kernel) ⟨Nat.le_of_ble_eq_true rfl, ⟨rfl, rfl⟩, useB_n (by (try dsimp only); decide +kernel) ⟨Nat.le_of_ble_eq_true rfl, ⟨rfl, rfl⟩, useB_n (by (try dsimp only); decide +kernel) ⟨rfl, useB_n (by (try dsimp only); decide +kernel) ⟨rfl, useB_n (by (try dsimp only); decide +kernel) ⟨rfl, useB_n (by (try dsimp only); decide +kernel) ⟨Nat.le_of_ble_eq_true rfl, ⟨rfl, rfl⟩, useB_n (by (try dsimp only); decide +kernel) ⟨rfl, useB_n (by (try dsimp only); decide +kernel) ⟨trivial, _, atI0, useB_d (fun h1 => ?_) (fun h1 => ?_)⟩⟩⟩⟩⟩⟩⟩⟩⟩⟩⟩⟩
      · show Qc (.fz (.int 0))
        have e : MO.v .pick x va vb = 0 := if_pos h1
        rw [e] at hq
        exact hq
      have e : MO.v .pick x va vb = _ := if_neg h1
      rw [e] at hq
      have hb4 : vb < 64 := by omega
      refine ⟨rfl, useB_n (by (try dsimp only); decide +kernel) ⟨hb0, pw_ne 1, ?_⟩⟩
      show Qc (.fz (.int ((va / 2 ^ vb.toNat).fmod (1 * 2 ^ ((1 : Nat) : Int).toNat))))
      rw [emod_of rfl]
      simpa using hq
    | shl =>
      obtain ⟨x, ha⟩ := hr.mem a (by simp [Row.mem])
      obtain ⟨ha1, hxw, va, hva, ra⟩ := hV.at ha
      have eva := getV hva
      have ewa := getD_of ha1
      obtain ⟨y, hb⟩ := hr.mem b (by simp [Row.mem])
      obtain ⟨hb1, hyw, vb, hvb, rb⟩ := hV.at hb
      have evb := getV hvb
      have ewb := getD_of hb1
      have h64 := hxw.2
      have hw2 := hw.2
      have sa := sml h64 ra
      simp only [Row.val, eva, ewa, evb, ewb] at hq
      have eV : iL (Row.mem (Row.mv .shl a b) |>.map fun a => vs.getD a 0) = [PyData.int va, PyData.int vb] := by
        show [PyData.int (vs.getD a 0), PyData.int (vs.getD b 0)] = _
        rw [eva, evb]
      have eW : nL (Row.mem (Row.mv .shl a b) |>.map fun a => ws.getD a 0) = [PyData.int ((x : Nat) : Int), PyData.int ((y : Nat) : Int)] := by
        show [PyData.int ((ws.getD a 0 : Nat) : Int), PyData.int ((ws.getD b 0 : Nat) : Int)] = _
        rw [ewa, ewb]
      rw [eV, eW]
      have e1 : x = w := Option.some.inj (ha.symm.trans hr.1)
      subst e1
      have hb0 := rb.1
      refine ⟨trivial, _, atI0, pw1 hw.2, Nat.le_of_ble_eq_true rfl, ⟨rfl, rfl⟩, useB_n (by (try dsimp only); decide +kernel) ⟨rfl, useB_n (by (try dsimp only); decide +kernel) ⟨trivial, _, atI0, trivial, _, atIm2, rfl, useB_n (by (try dsimp only); decide +kernel) ⟨Nat.le_of_ble_eq_true rfl, ⟨rfl, rfl⟩, useB_n (by (try dsimp only); decide +kernel) ⟨Nat.le_of_ble_eq_true rfl, ⟨rfl, rfl⟩, useB_n (by (try dsimp only); decide +kernel) ⟨Nat.le_of_ble_eq_true rfl, ⟨rfl, rfl⟩, useB_n (by (try dsimp only); decide +kernel) ⟨rfl, useB_n (by (try dsimp only); decide +kernel) ⟨rfl, useB_n (by (try dsimp only); decide +kernel) ⟨rfl, useB_n (by (try dsimp only); decide +kernel) ⟨Nat.le_of_ble_eq_true rfl, ⟨rfl, rfl⟩, useB_n (by (try dsimp only); decide +kernel) ⟨rfl, useB_n (by (try dsimp only); decide +kernel) ⟨trivial, _, atI0, useB_d (fun h1 => ?_) (fun h1 => ?_)⟩⟩⟩⟩⟩⟩⟩⟩⟩⟩⟩⟩
      · show Qc (.fz (.int 0))
        have e : MO.v .shl x va vb = 0 := if_pos h1
        rw [e] at hq
        exact hq
      have e : MO.v .shl x va vb = _ := if_neg h1
      rw [e] at hq
      have hb4 : vb < 64 := by omega
      refine ⟨rfl, useB_y (by (try dsimp only); decide +kernel) ⟨⟨hb0, by omega, sa⟩, pw_ne _, ?_⟩⟩
      show Qc (.fz (.int ((va * 2 ^ vb.toNat).fmod (1 * 2 ^ ((x : Nat) : Int).toNat))))
      rw [emod_of rfl]
      exact hq
    | shr =>
      obtain ⟨x, ha⟩ := hr.mem a (by simp [Row.mem])
      obtain ⟨ha1, hxw, va, hva, ra⟩ := hV.at ha
      have eva := getV hva
      have ewa := getD_of ha1
      obtain ⟨y, hb⟩ := hr.mem b (by simp [Row.mem])
      obtain ⟨hb1, hyw, vb, hvb, rb⟩ := hV.at hb
      have evb := getV hvb
      have ewb := getD_of hb1
      have h64 := hxw.2
      have hw2 := hw.2
      have sa := sml h64 ra
      simp only [Row.val, eva, ewa, evb, ewb] at hq
      have eV : iL (Row.mem (Row.mv .shr a b) |>.map fun a => vs.getD a 0) = [PyData.int va, PyData.int vb] := by
        show [PyData.int (vs.getD a 0), PyData.int (vs.getD b 0)] = _
        rw [eva, evb]
      have eW : nL (Row.mem (Row.mv .shr a b) |>.map fun a => ws.getD a 0) = [PyData.int ((x : Nat) : Int), PyData.int ((y : Nat) : Int)] := by
        show [PyData.int ((ws.getD a 0 : Nat) : Int), PyData.int ((ws.getD b 0 : Nat) : Int)] = _
        rw [ewa, ewb]
      rw [eV, eW]
      have e1 : x = w := Option.some.inj (ha.symm.trans hr.1)
      subst e1
      have hb0 := rb.1
      refine ⟨trivial, _, atI0, pw1 hw.2, Nat.le_of_ble_eq_true rfl, ⟨rfl, rfl⟩, useB_n (by (try dsimp only); decide +kernel) ⟨rfl, useB_n (by (try dsimp only); decide +kernel) ⟨trivial, _, atI0, trivial, _, atIm2, rfl, useB_n (by (try dsimp only); decide +kernel) ⟨Nat.le_of_ble_eq_true rfl, ⟨rfl, rfl⟩, useB_n (by (try dsimp only); decide +kernel) ⟨Nat.le_of_ble_eq_true rfl, ⟨rfl, rfl⟩, useB_n (by (try dsimp only); decide +kernel) ⟨Nat.le_of_ble_eq_true rfl, ⟨rfl, rfl⟩, useB_n (by (try dsimp only); decide +kernel) ⟨rfl, useB_n (by (try dsimp only); decide +kernel) ⟨rfl, useB_n (by (try dsimp only); decide +kernel) ⟨rfl, useB_n (by (try dsimp only); decide +kernel) ⟨Nat.le_of_ble_eq_true rfl, ⟨rfl, rfl⟩, useB_n (by (try dsimp only); decide +kernel) ⟨rfl, useB_n (by (try dsimp only); decide +kernel) ⟨trivial, _, atI0, useB_d (fun h1 => ?_) (fun h1 => ?_)⟩⟩⟩⟩⟩⟩⟩⟩⟩⟩⟩⟩
      · show Qc (.fz (.int 0))
        have e : MO.v .shr x va vb = 0 := if_pos h1
        rw [e] at hq
        exact hq
      have e : MO.v .shr x va vb = _ := if_neg h1
      rw [e] at hq
      have hb4 : vb < 64 := by omega
      refine ⟨rfl, useB_n (by (try dsimp only); decide +kernel) ⟨hb0, pw_ne _, ?_⟩⟩
      show Qc (.fz (.int ((va / 2 ^ vb.toNat).fmod (1 * 2 ^ ((x : Nat) : Int).toNat))))
      rw [emod_of (rng_mod (div_rng ra))]
      exact hq
  | bin o a b =>
    cases o with
    | and =>
      obtain ⟨x, ha⟩ := hr.mem a (by simp [Row.mem])
      obtain ⟨ha1, hxw, va, hva, ra⟩ := hV.at ha
      have eva := getV hva
      have ewa := getD_of ha1
      obtain ⟨y, hb⟩ := hr.mem b (by simp [Row.mem])
      obtain ⟨hb1, hyw, vb, hvb, rb⟩ := hV.at hb
      have evb := getV hvb
      have ewb := getD_of hb1
      have h64 := hxw.2
      have hw2 := hw.2
      have sa := sml h64 ra
      simp only [Row.val, eva, ewa, evb, ewb] at hq
      have eV : iL (Row.mem (Row.bin .and a b) |>.map fun a => vs.getD a 0) = [PyData.int va, PyData.int vb] := by
        show [PyData.int (vs.getD a 0), PyData.int (vs.getD b 0)] = _
        rw [eva, evb]
      have eW : nL (Row.mem (Row.bin .and a b) |>.map fun a => ws.getD a 0) = [PyData.int ((x : Nat) : Int), PyData.int ((y : Nat) : Int)] := by
        show [PyData.int ((ws.getD a 0 : Nat) : Int), PyData.int ((ws.getD b 0 : Nat) : Int)] = _
        rw [ewa, ewb]
      rw [eV, eW]
      have hq2 : Qc (.fz (.int (Builtin.bitAnd va vb))) := hq
      refine ⟨trivial, _, atI0, pw1 hw.2, Nat.le_of_ble_eq_true rfl, ⟨rfl, rfl⟩, useB_n (by (try dsimp only); decide +kernel) ⟨rfl, useB_n (by (try dsimp only); decide +kernel) ⟨trivial, _, atI0, trivial, _, atIm2, rfl, useB_n (by (try dsimp only); decide +kernel) ?_⟩⟩⟩
      unfold dNext
      dsimp only
      exact dis_seq (o := "and") (va := va) (vb := vb) (d := .int (Builtin.bitAnd va vb)) rfl rfl rfl (by decide +kernel) (dis3a (by decide) (by decide) (by decide)) hq2
    | or =>
      obtain ⟨x, ha⟩ := hr.mem a (by simp [Row.mem])
      obtain ⟨ha1, hxw, va, hva, ra⟩ := hV.at ha
      have eva := getV hva
      have ewa := getD_of ha1
      obtain ⟨y, hb⟩ := hr.mem b (by simp [Row.mem])
      obtain ⟨hb1, hyw, vb, hvb, rb⟩ := hV.at hb
      have evb := getV hvb
      have ewb := getD_of hb1
      have h64 := hxw.2
      have hw2 := hw.2
      have sa := sml h64 ra
      simp only [Row.val, eva, ewa, evb, ewb] at hq
      have eV : iL (Row.mem (Row.bin .or a b) |>.map fun a => vs.getD a 0) = [PyData.int va, PyData.int vb] := by
        show [PyData.int (vs.getD a 0), PyData.int (vs.getD b 0)] = _
        rw [eva, evb]
      have eW : nL (Row.mem (Row.bin .or a b) |>.map fun a => ws.getD a 0) = [PyData.int ((x : Nat) : Int), PyData.int ((y : Nat) : Int)] := by
        show [PyData.int ((ws.getD a 0 : Nat) : Int), PyData.int ((ws.getD b 0 : Nat) : Int)] = _
        rw [ewa, ewb]
      rw [eV, eW]
      have hq2 : Qc (.fz (.int (Builtin.bitOr va vb))) := hq
      refine ⟨trivial, _, atI0, pw1 hw.2, Nat.le_of_ble_eq_true rfl, ⟨rfl, rfl⟩, useB_n (by (try dsimp only); decide +kernel) ⟨rfl, useB_n (by (try dsimp only); decide +kernel) ⟨trivial, _, atI0, trivial, _, atIm2, rfl, useB_n (by (try dsimp only); decide +kernel) ?_⟩⟩⟩
      unfold dNext
      dsimp only
      exact dis_seq (o := "or") (va := va) (vb := vb) (d := .int (Builtin.bitOr va vb)) rfl rfl rfl (by decide +kernel) (dis3b (by decide) (by decide) (by decide)) hq2
    | xor =>
      obtain ⟨x, ha⟩ := hr.mem a (by simp [Row.mem])
      obtain ⟨ha1, hxw, va, hva, ra⟩ := hV.at ha
      have eva := getV hva
      have ewa := getD_of ha1
      obtain ⟨y, hb⟩ := hr.mem b (by simp [Row.mem])
      obtain ⟨hb1, hyw, vb, hvb, rb⟩ := hV.at hb
      have evb := getV hvb
      have ewb := getD_of hb1
      have h64 := hxw.2
      have hw2 := hw.2
      have sa := sml h64 ra
      simp only [Row.val, eva, ewa, evb, ewb] at hq
      have eV : iL (Row.mem (Row.bin .xor a b) |>.map fun a => vs.getD a 0) = [PyData.int va, PyData.int vb] := by
        show [PyData.int (vs.getD a 0), PyData.int (vs.getD b 0)] = _
        rw [eva, evb]
      have eW : nL (Row.mem (Row.bin .xor a b) |>.map fun a => ws.getD a 0) = [PyData.int ((x : Nat) : Int), PyData.int ((y : Nat) : Int)] := by
        show [PyData.int ((ws.getD a 0 : Nat) : Int), PyData.int ((ws.getD b 0 : Nat) : Int)] = _
        rw [ewa, ewb]
      rw [eV, eW]
      have hq2 : Qc (.fz (.int (Builtin.bitXor va vb))) := hq
      refine ⟨trivial, _, atI0, pw1 hw.2, Nat.le_of_ble_eq_true rfl, ⟨rfl, rfl⟩, useB_n (by (try dsimp only); decide +kernel) ⟨rfl, useB_n (by (try dsimp only); decide +kernel) ⟨trivial, _, atI0, trivial, _, atIm2, rfl, useB_n (by (try dsimp only); decide +kernel) ?_⟩⟩⟩
      unfold dNext
      dsimp only
      exact dis_seq (o := "xor") (va := va) (vb := vb) (d := .int (Builtin.bitXor va vb)) rfl rfl rfl (by decide +kernel) (dis3c (by decide) (by decide) (by decide)) hq2
    | add =>
      obtain ⟨x, ha⟩ := hr.mem a (by simp [Row.mem])
      obtain ⟨ha1, hxw, va, hva, ra⟩ := hV.at ha
      have eva := getV hva
      have ewa := getD_of ha1
      obtain ⟨y, hb⟩ := hr.mem b (by simp [Row.mem])
      obtain ⟨hb1, hyw, vb, hvb, rb⟩ := hV.at hb
      have evb := getV hvb
      have ewb := getD_of hb1
      have h64 := hxw.2
      have hw2 := hw.2
      have sa := sml h64 ra
      simp only [Row.val, eva, ewa, evb, ewb] at hq
      have eV : iL (Row.mem (Row.bin .add a b) |>.map fun a => vs.getD a 0) = [PyData.int va, PyData.int vb] := by
        show [PyData.int (vs.getD a 0), PyData.int (vs.getD b 0)] = _
        rw [eva, evb]
      have eW : nL (Row.mem (Row.bin .add a b) |>.map fun a => ws.getD a 0) = [PyData.int ((x : Nat) : Int), PyData.int ((y : Nat) : Int)] := by
        show [PyData.int ((ws.getD a 0 : Nat) : Int), PyData.int ((ws.getD b 0 : Nat) : Int)] = _
        rw [ewa, ewb]
      rw [eV, eW]
      obtain ⟨x2, hx2, hx3, e0⟩ := hr
      have e1 : x2 = x := Option.some.inj (hx2.symm.trans ha)
      have e2 : x2 = w := e0.symm
      subst e1 e2
      refine ⟨trivial, _, atI0, pw1 hw.2, Nat.le_of_ble_eq_true rfl, ⟨rfl, rfl⟩, useB_n (by (try dsimp only); decide +kernel) ⟨rfl, useB_n (by (try dsimp only); decide +kernel) ⟨trivial, _, atI0, trivial, _, atIm2, rfl, useB_n (by (try dsimp only); decide +kernel) ⟨Nat.le_of_ble_eq_true rfl, ⟨rfl, rfl⟩, useB_n (by (try dsimp only); decide +kernel) ⟨Nat.le_of_ble_eq_true rfl, ⟨rfl, rfl⟩, useB_y (by (try dsimp only); decide +kernel) ⟨cmul_l sa, Nat.le_of_ble_eq_true rfl, dis3i (by decide) (by decide) (by decide), _, dis3a (by decide) (by decide) (by decide), pw_ne _, ?_⟩⟩⟩⟩⟩⟩
      show Qc (.fz (.int ((va + vb).fmod (1 * 2 ^ ((x2 : Nat) : Int).toNat))))
      rw [emod_of rfl]
      exact hq
    | sub =>
      obtain ⟨x, ha⟩ := hr.mem a (by simp [Row.mem])
      obtain ⟨ha1, hxw, va, hva, ra⟩ := hV.at ha
      have eva := getV hva
      have ewa := getD_of ha1
      obtain ⟨y, hb⟩ := hr.mem b (by simp [Row.mem])
      obtain ⟨hb1, hyw, vb, hvb, rb⟩ := hV.at hb
      have evb := getV hvb
      have ewb := getD_of hb1
      have h64 := hxw.2
      have hw2 := hw.2
      have sa := sml h64 ra
      simp only [Row.val, eva, ewa, evb, ewb] at hq
      have eV : iL (Row.mem (Row.bin .sub a b) |>.map fun a => vs.getD a 0) = [PyData.int va, PyData.int vb] := by
        show [PyData.int (vs.getD a 0), PyData.int (vs.getD b 0)] = _
        rw [eva, evb]
      have eW : nL (Row.mem (Row.bin .sub a b) |>.map fun a => ws.getD a 0) = [PyData.int ((x : Nat) : Int), PyData.int ((y : Nat) : Int)] := by
        show [PyData.int ((ws.getD a 0 : Nat) : Int), PyData.int ((ws.getD b 0 : Nat) : Int)] = _
        rw [ewa, ewb]
      rw [eV, eW]
      obtain ⟨x2, hx2, hx3, e0⟩ := hr
      have e1 : x2 = x := Option.some.inj (hx2.symm.trans ha)
      have e2 : x2 = w := e0.symm
      subst e1 e2
      refine ⟨trivial, _, atI0, pw1 hw.2, Nat.le_of_ble_eq_true rfl, ⟨rfl, rfl⟩, useB_n (by (try dsimp only); decide +kernel) ⟨rfl, useB_n (by (try dsimp only); decide +kernel) ⟨trivial, _, atI0, trivial, _, atIm2, rfl, useB_n (by (try dsimp only); decide +kernel) ⟨Nat.le_of_ble_eq_true rfl, ⟨rfl, rfl⟩, useB_n (by (try dsimp only); decide +kernel) ⟨Nat.le_of_ble_eq_true rfl, ⟨rfl, rfl⟩, useB_y (by (try dsimp only); decide +kernel) ⟨cmul_l sa, Nat.le_of_ble_eq_true rfl, dis3i (by decide) (by decide) (by decide), _, dis3b (by decide) (by decide) (by decide), pw_ne _, ?_⟩⟩⟩⟩⟩⟩
      show Qc (.fz (.int ((va - vb).fmod (1 * 2 ^ ((x2 : Nat) : Int).toNat))))
      rw [emod_of rfl]
      exact hq
    | mul =>
      obtain ⟨x, ha⟩ := hr.mem a (by simp [Row.mem])
      obtain ⟨ha1, hxw, va, hva, ra⟩ := hV.at ha
      have eva := getV hva
      have ewa := getD_of ha1
      obtain ⟨y, hb⟩ := hr.mem b (by simp [Row.mem])
      obtain ⟨hb1, hyw, vb, hvb, rb⟩ := hV.at hb
      have evb := getV hvb
      have ewb := getD_of hb1
      have h64 := hxw.2
      have hw2 := hw.2
      have sa := sml h64 ra
      simp only [Row.val, eva, ewa, evb, ewb] at hq
      have eV : iL (Row.mem (Row.bin .mul a b) |>.map fun a => vs.getD a 0) = [PyData.int va, PyData.int vb] := by
        show [PyData.int (vs.getD a 0), PyData.int (vs.getD b 0)] = _
        rw [eva, evb]
      have eW : nL (Row.mem (Row.bin .mul a b) |>.map fun a => ws.getD a 0) = [PyData.int ((x : Nat) : Int), PyData.int ((y : Nat) : Int)] := by
        show [PyData.int ((ws.getD a 0 : Nat) : Int), PyData.int ((ws.getD b 0 : Nat) : Int)] = _
        rw [ewa, ewb]
      rw [eV, eW]
      obtain ⟨x2, hx2, hx3, e0⟩ := hr
      have e1 : x2 = x := Option.some.inj (hx2.symm.trans ha)
      have e2 : x2 = w := e0.symm
      subst e1 e2
      refine ⟨trivial, _, atI0, pw1 hw.2, Nat.le_of_ble_eq_true rfl, ⟨rfl, rfl⟩, useB_n (by (try dsimp only); decide +kernel) ⟨rfl, useB_n (by (try dsimp only); decide +kernel) ⟨trivial, _, atI0, trivial, _, atIm2, rfl, useB_n (by (try dsimp only); decide +kernel) ⟨Nat.le_of_ble_eq_true rfl, ⟨rfl, rfl⟩, useB_n (by (try dsimp only); decide +kernel) ⟨Nat.le_of_ble_eq_true rfl, ⟨rfl, rfl⟩, useB_y (by (try dsimp only); decide +kernel) ⟨cmul_l sa, Nat.le_of_ble_eq_true rfl, dis3i (by decide) (by decide) (by decide), _, dis3c (by decide) (by decide) (by decide), pw_ne _, ?_⟩⟩⟩⟩⟩⟩
      show Qc (.fz (.int ((va * vb).fmod (1 * 2 ^ ((x2 : Nat) : Int).toNat))))
      rw [emod_of rfl]
      exact hq
    | eq =>
      obtain ⟨x, ha⟩ := hr.mem a (by simp [Row.mem])
      obtain ⟨ha1, hxw, va, hva, ra⟩ := hV.at ha
      have eva := getV hva
      have ewa := getD_of ha1
      obtain ⟨y, hb⟩ := hr.mem b (by simp [Row.mem])
      obtain ⟨hb1, hyw, vb, hvb, rb⟩ := hV.at hb
      have evb := getV hvb
      have ewb := getD_of hb1
      have h64 := hxw.2
      have hw2 := hw.2
      have sa := sml h64 ra
      simp only [Row.val, eva, ewa, evb, ewb] at hq
      have eV : iL (Row.mem (Row.bin .eq a b) |>.map fun a => vs.getD a 0) = [PyData.int va, PyData.int vb] := by
        show [PyData.int (vs.getD a 0), PyData.int (vs.getD b 0)] = _
        rw [eva, evb]
      have eW : nL (Row.mem (Row.bin .eq a b) |>.map fun a => ws.getD a 0) = [PyData.int ((x : Nat) : Int), PyData.int ((y : Nat) : Int)] := by
        show [PyData.int ((ws.getD a 0 : Nat) : Int), PyData.int ((ws.getD b 0 : Nat) : Int)] = _
        rw [ewa, ewb]
      rw [eV, eW]
      refine ⟨trivial, _, atI0, pw1 hw.2, Nat.le_of_ble_eq_true rfl, ⟨rfl, rfl⟩, useB_n (by (try dsimp only); decide +kernel) ⟨rfl, useB_n (by (try dsimp only); decide +kernel) ⟨trivial, _, atI0, trivial, _, atIm2, rfl, useB_n (by (try dsimp only); decide +kernel) ⟨Nat.le_of_ble_eq_true rfl, ⟨rfl, rfl⟩, useB_n (by (try dsimp only); decide +kernel) ⟨Nat.le_of_ble_eq_true rfl, ⟨rfl, rfl⟩, useB_n (by (try dsimp only); decide +kernel) ⟨Nat.le_of_ble_eq_true rfl, ⟨rfl, rfl⟩, useB_y (by (try dsimp only); decide +kernel) ⟨rfl, useB_y (by (try dsimp only); decide +kernel) ⟨rfl, ?_⟩⟩⟩⟩⟩⟩⟩⟩
      show Qc (.fz (.int (if (false != PyData.eqv (.int va) (.int vb)) = true then 1 else 0)))
      rw [eqv_int, bne_false]
      simpa [BO.v] using hq
    | lt =>
      obtain ⟨x, ha⟩ := hr.mem a (by simp [Row.mem])
      obtain ⟨ha1, hxw, va, hva, ra⟩ := hV.at ha
      have eva := getV hva
      have ewa := getD_of ha1
      obtain ⟨y, hb⟩ := hr.mem b (by simp [Row.mem])
      obtain ⟨hb1, hyw, vb, hvb, rb⟩ := hV.at hb
      have evb := getV hvb
      have ewb := getD_of hb1
      have h64 := hxw.2
      have hw2 := hw.2
      have sa := sml h64 ra
      simp only [Row.val, eva, ewa, evb, ewb] at hq
      have eV : iL (Row.mem (Row.bin .lt a b) |>.map fun a => vs.getD a 0) = [PyData.int va, PyData.int vb] := by
        show [PyData.int (vs.getD a 0), PyData.int (vs.getD b 0)] = _
        rw [eva, evb]
      have eW : nL (Row.mem (Row.bin .lt a b) |>.map fun a => ws.getD a 0) = [PyData.int ((x : Nat) : Int), PyData.int ((y : Nat) : Int)] := by
        show [PyData.int ((ws.getD a 0 : Nat) : Int), PyData.int ((ws.getD b 0 : Nat) : Int)] = _
        rw [ewa, ewb]
      rw [eV, eW]
      refine ⟨trivial, _, atI0, pw1 hw.2, Nat.le_of_ble_eq_true rfl, ⟨rfl, rfl⟩, useB_n (by (try dsimp only); decide +kernel) ⟨rfl, useB_n (by (try dsimp only); decide +kernel) ⟨trivial, _, atI0, trivial, _, atIm2, rfl, useB_n (by (try dsimp only); decide +kernel) ⟨Nat.le_of_ble_eq_true rfl, ⟨rfl, rfl⟩, useB_n (by (try dsimp only); decide +kernel) ⟨Nat.le_of_ble_eq_true rfl, ⟨rfl, rfl⟩, useB_n (by (try dsimp only); decide +kernel) ⟨Nat.le_of_ble_eq_true rfl, ⟨rfl, rfl⟩, useB_y (by (try dsimp only); decide +kernel) ⟨rfl, useB_n (by (try dsimp only); decide +kernel) ?_⟩⟩⟩⟩⟩⟩⟩
      show Qc (.fz (.int (if decide (va < vb) = true then 1 else 0)))
      simpa [BO.v] using hq
  | mux a b c =>
    obtain ⟨x, ha⟩ := hr.mem a (by simp [Row.mem])
    obtain ⟨ha1, hxw, va, hva, ra⟩ := hV.at ha
    have eva := getV hva
    have ewa := getD_of ha1
    obtain ⟨y, hb⟩ := hr.mem b (by simp [Row.mem])
    obtain ⟨hb1, hyw, vb, hvb, rb⟩ := hV.at hb
    have evb := getV hvb
    have ewb := getD_of hb1
    obtain ⟨z, hc⟩ := hr.mem c (by simp [Row.mem])
    obtain ⟨hc1, hzw, vc, hvc, rc⟩ := hV.at hc
    have evc := getV hvc
    have ewc := getD_of hc1
    have h64 := hxw.2
    have hw2 := hw.2
    have sa := sml h64 ra
    simp only [Row.val, eva, ewa, evb, ewb, evc] at hq
    have eV : iL (Row.mem (Row.mux a b c) |>.map fun a => vs.getD a 0) = [PyData.int va, PyData.int vb, PyData.int vc] := by
      show [PyData.int (vs.getD a 0), PyData.int (vs.getD b 0), PyData.int (vs.getD c 0)] = _
      rw [eva, evb, evc]
    have eW : nL (Row.mem (Row.mux a b c) |>.map fun a => ws.getD a 0) = [PyData.int ((x : Nat) : Int), PyData.int ((y : Nat) : Int), PyData.int ((z : Nat) : Int)] := by
      show [PyData.int ((ws.getD a 0 : Nat) : Int), PyData.int ((ws.getD b 0 : Nat) : Int), PyData.int ((ws.getD c 0 : Nat) : Int)] = _
      rw [ewa, ewb, ewc]
    rw [eV, eW]
    refine ⟨trivial, _, atI0, pw1 hw.2, Nat.le_of_ble_eq_true rfl, ⟨rfl, rfl⟩, useB_n (by (try dsimp only); decide +kernel) ⟨rfl, useB_n (by (try dsimp only); decide +kernel) ⟨trivial, _, atI0, trivial, _, atIm3, rfl, useB_n (by (try dsimp only); decide +kernel) ⟨Nat.le_of_ble_eq_true rfl, ⟨rfl, rfl⟩, useB_n (by (try dsimp only); decide +kernel) ⟨Nat.le_of_ble_eq_true rfl, ⟨rfl, rfl⟩, useB_n (by (try dsimp only); decide +kernel) ⟨Nat.le_of_ble_eq_true rfl, ⟨rfl, rfl⟩, useB_n (by (try dsimp only); decide +kernel) ⟨rfl, useB_y (by (try dsimp only); decide +kernel) ⟨rfl, useB_b (fun h => ⟨trivial, _, atI1, ?_⟩) (fun h => ?_)⟩⟩⟩⟩⟩⟩⟩⟩
    · have h : (false != PyData.eqv (.int va) (.int 1)) = true := h
      rw [eqv_int] at h
      have h : va = 1 := by simpa using h
      rw [if_pos h] at hq
      exact hq
    · have h : (false != PyData.eqv (.int va) (.int 1)) = false := h
      rw [eqv_int] at h
      have h : ¬ va = 1 := by simpa using h
      rw [if_neg h] at hq
      exact hq
end
end K22

set_option Elab.async false
set_option linter.all false
set_option maxRecDepth 100000
set_option maxHeartbeats 4000000
set_option autoImplicit false
set_option pp.maxSteps 1000
namespace K22
open PySem L2 DL
section
variable {P : Program} {w : World} {K : PySem.W.Frag} {mg : Str → Option Value} {base : Heap}
abbrev s_law_widths : Stmt := topS 26
abbrev n_law_widths : List Str := ["_law_flat_here", "_law_found", "_law_row"]
theorem sc_law_widths : FnScope n_law_widths ["_law_flat_here"] (C8.fnScope s_law_widths) := C8.fnScope_by (by decide +kernel)
theorem ok_law_widths {a : Addr} {fd : FuncData} (F : C8.Def K mg "_law_widths" s_law_widths a fd) (b : Binds K fd ["_law_flat_here"] []) (T : Txt mg) : CalG P w K mg base (1) "_law_widths" (spD K [.bo] (Cwid)) := by
  refine calG F b sc_law_widths rfl (fun cdv A outer s H E hA hr => ?_)
  have hu := huOf hr
  have hu64 := hr.units
  refine ⟨_, _, (pss_cons (ps_asg (pe_lst pa_nil) (pg_name (i := 1) sc_law_widths.nd rfl (by first | exact Or.inl rfl | exact Or.inr rfl)))
      (pss_cons (ps_for PassesOwn.never rfl (k_iany (K := K) rfl (pe_ix (k_ix (K := K) rfl) (pv 0) pe_int (fun _ _ => rfl))) (pg_name (i := 2) sc_law_widths.nd rfl (by first | exact Or.inl rfl | exact Or.inr rfl))
      (pss_one (ps_if (pt_cmpR (k_in (K := K) rfl) (pe_ix (k_ix (K := K) rfl) (pv 2) pe_int (fun _ _ => rfl)) (pe_tup (pa_cons pe_str (pa_cons pe_str pa_nil))) (by with_unfolding_all rfl)) (pss_one (ps_expr (pe_bm PySem.F.plainAttrs_list PySem.F.slot_list_append PySem.F.type_list_append mt_append (pv 1) (pa_cons (pe_ifExp (pt_cmpR (k_eq (K := K) rfl hu64) (pe_ix (k_ix (K := K) rfl) (pv 2) pe_int (fun _ _ => rfl)) pe_str (nomark _)) (pe_ix (k_ix (K := K) rfl) (pe_ix (k_ix (K := K) rfl) (pe_ix (k_ix (K := K) rfl) (pv 0) pe_int (fun _ _ => rfl)) (pe_ix (k_ix (K := K) rfl) (pv 2) pe_int (fun _ _ => rfl)) (fun _ _ => rfl)) pe_int (fun _ _ => rfl)) (pe_ix (k_ix (K := K) rfl) (pe_ix (k_ix (K := K) rfl) (pe_ix (k_ix (K := K) rfl) (pv 0) pe_int (fun _ _ => rfl)) (pe_ix (k_ix (K := K) rfl) (pv 2) pe_int (fun _ _ => rfl)) (fun _ _ => rfl)) pe_int (fun _ _ => rfl))) pa_nil)))) (pss_one (ps_if (pt_cmpR (k_in (K := K) rfl) (pe_ix (k_ix (K := K) rfl) (pv 2) pe_int (fun _ _ => rfl)) (pe_tup (pa_cons pe_str (pa_cons pe_str (pa_cons pe_str (pa_cons pe_str (pa_cons pe_str (pa_cons pe_str pa_nil))))))) (by with_unfolding_all rfl)) (pss_one (ps_expr (pe_bm PySem.F.plainAttrs_list PySem.F.slot_list_append PySem.F.type_list_append mt_append (pv 1) (pa_cons pe_int pa_nil)))) (pss_one (ps_if (pt_cmpR (k_eq (K := K) rfl hu64) (pe_ix (k_ix (K := K) rfl) (pv 2) pe_int (fun _ _ => rfl)) pe_str (nomark _)) (pss_one (ps_expr (pe_bm PySem.F.plainAttrs_list PySem.F.slot_list_append PySem.F.type_list_append mt_append (pv 1) (pa_cons (pe_ix (k_ix (K := K) rfl) (pv 2) pe_int (fun _ _ => rfl)) pa_nil)))) (pss_one (ps_if (pt_cmpR (k_eq (K := K) rfl hu64) (pe_ix (k_ix (K := K) rfl) (pv 2) pe_int (fun _ _ => rfl)) pe_str (nomark _)) (pss_one (ps_expr (pe_bm PySem.F.plainAttrs_list PySem.F.slot_list_append PySem.F.type_list_append mt_append (pv 1) (pa_cons (pe_op (k_add (K := K) rfl) (pe_ix (k_ix (K := K) rfl) (pv 1) (pe_ix (k_ix (K := K) rfl) (pv 2) pe_int (fun _ _ => rfl)) (fun _ _ => rfl)) (pe_ix (k_ix (K := K) rfl) (pv 1) (pe_ix (k_ix (K := K) rfl) (pv 2) pe_int (fun _ _ => rfl)) (fun _ _ => rfl))) pa_nil)))) (pss_one (ps_if (pt_cmpR (k_eq (K := K) rfl hu64) (pe_ix (k_ix (K := K) rfl) (pv 2) pe_int (fun _ _ => rfl)) pe_str (nomark _)) (pss_one (ps_expr (pe_bm PySem.F.plainAttrs_list PySem.F.slot_list_append PySem.F.type_list_append mt_append (pv 1) (pa_cons (pe_ix (k_ix (K := K) rfl) (pv 2) pe_int (fun _ _ => rfl)) pa_nil)))) (pss_one (ps_expr (pe_bm PySem.F.plainAttrs_list PySem.F.slot_list_append PySem.F.type_list_append mt_append (pv 1) (pa_cons (pe_ix (k_ix (K := K) rfl) (pv 1) (pe_ix (k_ix (K := K) rfl) (pv 2) (pe_ifExp (pt_cmpR (k_eq (K := K) rfl hu64) (pe_ix (k_ix (K := K) rfl) (pv 2) pe_int (fun _ _ => rfl)) pe_str (nomark _)) pe_int pe_int) (fun _ _ => rfl)) (fun _ _ => rfl)) pa_nil)))))))))))))))
      (pss_one (ps_ret (pv 1))))),
   (ls_seq (ls_asg (le_lst la_nil) lg_name)
      (ls_seq (ls_for (li_any (le_op le_var le_int ol_ix)) lg_name
      (ls_if (lt_test (le_op (le_op le_var le_int ol_ix) (le_tup (la_cons le_str (la_cons le_str la_nil))) ol_in)) (ls_app (le_if (lt_test (le_op (le_op le_var le_int ol_ix) le_str ol_eq)) (le_op (le_op (le_op le_var le_int ol_ix) (le_op le_var le_int ol_ix) ol_ix) le_int ol_ix) (le_op (le_op (le_op le_var le_int ol_ix) (le_op le_var le_int ol_ix) ol_ix) le_int ol_ix))) (ls_if (lt_test (le_op (le_op le_var le_int ol_ix) (le_tup (la_cons le_str (la_cons le_str (la_cons le_str (la_cons le_str (la_cons le_str (la_cons le_str la_nil))))))) ol_in)) (ls_app le_int) (ls_if (lt_test (le_op (le_op le_var le_int ol_ix) le_str ol_eq)) (ls_app (le_op le_var le_int ol_ix)) (ls_if (lt_test (le_op (le_op le_var le_int ol_ix) le_str ol_eq)) (ls_app (le_op (le_op le_var (le_op le_var le_int ol_ix) ol_ix) (le_op le_var (le_op le_var le_int ol_ix) ol_ix) ol_add)) (ls_if (lt_test (le_op (le_op le_var le_int ol_ix) le_str ol_eq)) (ls_app (le_op le_var le_int ol_ix)) (ls_app (le_op le_var (le_op le_var (le_if (lt_test (le_op (le_op le_var le_int ol_ix) le_str ol_eq)) le_int le_int) ol_ix) ol_ix))))))))
      (ls_ret le_var))), ?_⟩
  intro ds Qc h
  obtain ⟨f, rfl, hf, hq⟩ := h
  have hrl := hf.rl
  refine ⟨Nat.le_of_ble_eq_true rfl, trivial, _, rfl, dLoop_of (f.rows.map Row.toD) (fun i ρ => ∃ o2, ρ = [some (.bo f.toD), some (.ow (.list (nL (f.ws.take i)))), o2]) ⟨_, rfl⟩ ?_ ?_⟩
  · rintro i x ρ k hx ⟨o2, rfl⟩ next
    obtain ⟨hi, rfl⟩ := get_rows hx
    obtain ⟨h2, hr, hw⟩ := hf.rows.get i hi
    have nx : k [some (.bo f.toD), some (.ow (.list (nL (f.ws.take i) ++ [.int ((f.ws[i] : Nat) : Int)]))), some (.sh (f.rows[i]).toD)] := next _ ⟨_, by rw [← nL_take_succ h2]⟩
    have hlen : (nL (f.ws.take i)).length < sizeLine := by rw [List.length_map, List.length_take, sizeLine_eq]; omega
    clear next hx
    generalize f.rows[i] = r at *
    generalize f.ws[i] = w at *
    generalize f.ws.take i = ws at *
    cases r with
    | inp k =>
      obtain ⟨p, rfl, hp⟩ := ins_at hr
      exact ⟨trivial, _, atI0, Nat.le_of_ble_eq_true rfl, ⟨rfl, rfl⟩, useB_y (by (try dsimp only); decide +kernel) ⟨trivial, _, atI0, rfl, useB_y (by (try dsimp only); decide +kernel) ⟨trivial, _, atI0, trivial, _, atI1, trivial, _, hp, trivial, _, atI1, hlen, nx⟩⟩⟩
    | reg k =>
      obtain ⟨p, rfl, hp⟩ := regs_at hr
      exact ⟨trivial, _, atI0, Nat.le_of_ble_eq_true rfl, ⟨rfl, rfl⟩, useB_y (by (try dsimp only); decide +kernel) ⟨trivial, _, atI0, rfl, useB_n (by (try dsimp only); decide +kernel) ⟨trivial, _, atI2, trivial, _, atI1, trivial, _, hp, trivial, _, atI1, hlen, nx⟩⟩⟩
    | word x n =>
      obtain ⟨rfl, _⟩ := hr
      exact ⟨trivial, _, atI0, Nat.le_of_ble_eq_true rfl, ⟨rfl, rfl⟩, useB_n (by (try dsimp only); decide +kernel) ⟨trivial, _, atI0, Nat.le_of_ble_eq_true rfl, ⟨rfl, rfl⟩, useB_n (by (try dsimp only); decide +kernel) ⟨trivial, _, atI0, rfl, useB_y (by (try dsimp only); decide +kernel) ⟨trivial, _, atI1, hlen, nx⟩⟩⟩⟩
    | un o a =>
      cases o with
      | not =>
        have hx : ws[a]? = some w := hr
        exact ⟨trivial, _, atI0, Nat.le_of_ble_eq_true rfl, ⟨rfl, rfl⟩, useB_n (by (try dsimp only); decide +kernel) ⟨trivial, _, atI0, Nat.le_of_ble_eq_true rfl, ⟨rfl, rfl⟩, useB_n (by (try dsimp only); decide +kernel) ⟨trivial, _, atI0, rfl, useB_n (by (try dsimp only); decide +kernel) ⟨trivial, _, atI0, rfl, useB_n (by (try dsimp only); decide +kernel) ⟨trivial, _, atI0, rfl, useB_n (by (try dsimp only); decide +kernel) ⟨trivial, _, atI0, rfl, useB_n (by (try dsimp only); decide +kernel) ⟨trivial, _, atI1, trivial, _, atI_nL hx, hlen, nx⟩⟩⟩⟩⟩⟩⟩
      | all =>
        obtain ⟨rfl, _⟩ := hr
        exact ⟨trivial, _, atI0, Nat.le_of_ble_eq_true rfl, ⟨rfl, rfl⟩, useB_n (by (try dsimp only); decide +kernel) ⟨trivial, _, atI0, Nat.le_of_ble_eq_true rfl, ⟨rfl, rfl⟩, useB_y (by (try dsimp only); decide +kernel) ⟨hlen, nx⟩⟩⟩
      | any =>
        obtain ⟨rfl, _⟩ := hr
        exact ⟨trivial, _, atI0, Nat.le_of_ble_eq_true rfl, ⟨rfl, rfl⟩, useB_n (by (try dsimp only); decide +kernel) ⟨trivial, _, atI0, Nat.le_of_ble_eq_true rfl, ⟨rfl, rfl⟩, useB_y (by (try dsimp only); decide +kernel) ⟨hlen, nx⟩⟩⟩
      | odd =>
        obtain ⟨rfl, _⟩ := hr
        exact ⟨trivial, _, atI0, Nat.le_of_ble_eq_true rfl, ⟨rfl, rfl⟩, useB_n (by (try dsimp only); decide +kernel) ⟨trivial, _, atI0, Nat.le_of_ble_eq_true rfl, ⟨rfl, rfl⟩, useB_y (by (try dsimp only); decide +kernel) ⟨hlen, nx⟩⟩⟩
    | cut a lo sz =>
      obtain ⟨rfl, _⟩ := hr
      exact ⟨trivial, _, atI0, Nat.le_of_ble_eq_true rfl, ⟨rfl, rfl⟩, useB_n (by (try dsimp only); decide +kernel) ⟨trivial, _, atI0, Nat.le_of_ble_eq_true rfl, ⟨rfl, rfl⟩, useB_n (by (try dsimp only); decide +kernel) ⟨trivial, _, atI0, rfl, useB_n (by (try dsimp only); decide +kernel) ⟨trivial, _, atI0, rfl, useB_n (by (try dsimp only); decide +kernel) ⟨trivial, _, atI0, rfl, useB_y (by (try dsimp only); decide +kernel) ⟨trivial, _, atI3, hlen, nx⟩⟩⟩⟩⟩⟩
    | join a b =>
      obtain ⟨x, y, hx, hy, rfl⟩ := hr
      rw [Int.natCast_add] at nx
      exact ⟨trivial, _, atI0, Nat.le_of_ble_eq_true rfl, ⟨rfl, rfl⟩, useB_n (by (try dsimp only); decide +kernel) ⟨trivial, _, atI0, Nat.le_of_ble_eq_true rfl, ⟨rfl, rfl⟩, useB_n (by (try dsimp only); decide +kernel) ⟨trivial, _, atI0, rfl, useB_n (by (try dsimp only); decide +kernel) ⟨trivial, _, atI0, rfl, useB_y (by (try dsimp only); decide +kernel) ⟨trivial, _, atI1, trivial, _, atI_nL hx, trivial, _, atI2, trivial, _, atI_nL hy, hlen, nx⟩⟩⟩⟩⟩
    | mv o a b =>
      cases o with
      | pick =>
        obtain ⟨rfl, _⟩ := hr
        exact ⟨trivial, _, atI0, Nat.le_of_ble_eq_true rfl, ⟨rfl, rfl⟩, useB_n (by (try dsimp only); decide +kernel) ⟨trivial, _, atI0, Nat.le_of_ble_eq_true rfl, ⟨rfl, rfl⟩, useB_y (by (try dsimp only); decide +kernel) ⟨hlen, nx⟩⟩⟩
      | shl =>
        obtain ⟨hx, _⟩ := hr
        exact ⟨trivial, _, atI0, Nat.le_of_ble_eq_true rfl, ⟨rfl, rfl⟩, useB_n (by (try dsimp only); decide +kernel) ⟨trivial, _, atI0, Nat.le_of_ble_eq_true rfl, ⟨rfl, rfl⟩, useB_n (by (try dsimp only); decide +kernel) ⟨trivial, _, atI0, rfl, useB_n (by (try dsimp only); decide +kernel) ⟨trivial, _, atI0, rfl, useB_n (by (try dsimp only); decide +kernel) ⟨trivial, _, atI0, rfl, useB_n (by (try dsimp only); decide +kernel) ⟨trivial, _, atI0, rfl, useB_n (by (try dsimp only); decide +kernel) ⟨trivial, _, atI1, trivial, _, atI_nL hx, hlen, nx⟩⟩⟩⟩⟩⟩⟩
      | shr =>
        obtain ⟨hx, _⟩ := hr
        exact ⟨trivial, _, atI0, Nat.le_of_ble_eq_true rfl, ⟨rfl, rfl⟩, useB_n (by (try dsimp only); decide +kernel) ⟨trivial, _, atI0, Nat.le_of_ble_eq_true rfl, ⟨rfl, rfl⟩, useB_n (by (try dsimp only); decide +kernel) ⟨trivial, _, atI0, rfl, useB_n (by (try dsimp only); decide +kernel) ⟨trivial, _, atI0, rfl, useB_n (by (try dsimp only); decide +kernel) ⟨trivial, _, atI0, rfl, useB_n (by (try dsimp only); decide +kernel) ⟨trivial, _, atI0, rfl, useB_n (by (try dsimp only); decide +kernel) ⟨trivial, _, atI1, trivial, _, atI_nL hx, hlen, nx⟩⟩⟩⟩⟩⟩⟩
    | bin o a b =>
      cases o with
      | and =>
        obtain ⟨x, hx, _, rfl⟩ := hr
        exact ⟨trivial, _, atI0, Nat.le_of_ble_eq_true rfl, ⟨rfl, rfl⟩, useB_n (by (try dsimp only); decide +kernel) ⟨trivial, _, atI0, Nat.le_of_ble_eq_true rfl, ⟨rfl, rfl⟩, useB_n (by (try dsimp only); decide +kernel) ⟨trivial, _, atI0, rfl, useB_n (by (try dsimp only); decide +kernel) ⟨trivial, _, atI0, rfl, useB_n (by (try dsimp only); decide +kernel) ⟨trivial, _, atI0, rfl, useB_n (by (try dsimp only); decide +kernel) ⟨trivial, _, atI0, rfl, useB_n (by (try dsimp only); decide +kernel) ⟨trivial, _, atI1, trivial, _, atI_nL hx, hlen, nx⟩⟩⟩⟩⟩⟩⟩
      | or =>
        obtain ⟨x, hx, _, rfl⟩ := hr
        exact ⟨trivial, _, atI0, Nat.le_of_ble_eq_true rfl, ⟨rfl, rfl⟩, useB_n (by (try dsimp only); decide +kernel) ⟨trivial, _, atI0, Nat.le_of_ble_eq_true rfl, ⟨rfl, rfl⟩, useB_n (by (try dsimp only); decide +kernel) ⟨trivial, _, atI0, rfl, useB_n (by (try dsimp only); decide +kernel) ⟨trivial, _, atI0, rfl, useB_n (by (try dsimp only); decide +kernel) ⟨trivial, _, atI0, rfl, useB_n (by (try dsimp only); decide +kernel) ⟨trivial, _, atI0, rfl, useB_n (by (try dsimp only); decide +kernel) ⟨trivial, _, atI1, trivial, _, atI_nL hx, hlen, nx⟩⟩⟩⟩⟩⟩⟩
      | xor =>
        obtain ⟨x, hx, _, rfl⟩ := hr
        exact ⟨trivial, _, atI0, Nat.le_of_ble_eq_true rfl, ⟨rfl, rfl⟩, useB_n (by (try dsimp only); decide +kernel) ⟨trivial, _, atI0, Nat.le_of_ble_eq_true rfl, ⟨rfl, rfl⟩, useB_n (by (try dsimp only); decide +kernel) ⟨trivial, _, atI0, rfl, useB_n (by (try dsimp only); decide +kernel) ⟨trivial, _, atI0, rfl, useB_n (by (try dsimp only); decide +kernel) ⟨trivial, _, atI0, rfl, useB_n (by (try dsimp only); decide +kernel) ⟨trivial, _, atI0, rfl, useB_n (by (try dsimp only); decide +kernel) ⟨trivial, _, atI1, trivial, _, atI_nL hx, hlen, nx⟩⟩⟩⟩⟩⟩⟩
      | add =>
        obtain ⟨x, hx, _, rfl⟩ := hr
        exact ⟨trivial, _, atI0, Nat.le_of_ble_eq_true rfl, ⟨rfl, rfl⟩, useB_n (by (try dsimp only); decide +kernel) ⟨trivial, _, atI0, Nat.le_of_ble_eq_true rfl, ⟨rfl, rfl⟩, useB_n (by (try dsimp only); decide +kernel) ⟨trivial, _, atI0, rfl, useB_n (by (try dsimp only); decide +kernel) ⟨trivial, _, atI0, rfl, useB_n (by (try dsimp only); decide +kernel) ⟨trivial, _, atI0, rfl, useB_n (by (try dsimp only); decide +kernel) ⟨trivial, _, atI0, rfl, useB_n (by (try dsimp only); decide +kernel) ⟨trivial, _, atI1, trivial, _, atI_nL hx, hlen, nx⟩⟩⟩⟩⟩⟩⟩
      | sub =>
        obtain ⟨x, hx, _, rfl⟩ := hr
        exact ⟨trivial, _, atI0, Nat.le_of_ble_eq_true rfl, ⟨rfl, rfl⟩, useB_n (by (try dsimp only); decide +kernel) ⟨trivial, _, atI0, Nat.le_of_ble_eq_true rfl, ⟨rfl, rfl⟩, useB_n (by (try dsimp only); decide +kernel) ⟨trivial, _, atI0, rfl, useB_n (by (try dsimp only); decide +kernel) ⟨trivial, _, atI0, rfl, useB_n (by (try dsimp only); decide +kernel) ⟨trivial, _, atI0, rfl, useB_n (by (try dsimp only); decide +kernel) ⟨trivial, _, atI0, rfl, useB_n (by (try dsimp only); decide +kernel) ⟨trivial, _, atI1, trivial, _, atI_nL hx, hlen, nx⟩⟩⟩⟩⟩⟩⟩
      | mul =>
        obtain ⟨x, hx, _, rfl⟩ := hr
        exact ⟨trivial, _, atI0, Nat.le_of_ble_eq_true rfl, ⟨rfl, rfl⟩, useB_n (by (try dsimp only); decide +kernel) ⟨trivial, _, atI0, Nat.le_of_ble_eq_true rfl, ⟨rfl, rfl⟩, useB_n (by (try dsimp only); decide +kernel) ⟨trivial, _, atI0, rfl, useB_n (by (try dsimp only); decide +kernel) ⟨trivial, _, atI0, rfl, useB_n (by (try dsimp only); decide +kernel) ⟨trivial, _, atI0, rfl, useB_n (by (try dsimp only); decide +kernel) ⟨trivial, _, atI0, rfl, useB_n (by (try dsimp only); decide +kernel) ⟨trivial, _, atI1, trivial, _, atI_nL hx, hlen, nx⟩⟩⟩⟩⟩⟩⟩
      | eq =>
        obtain ⟨_, _, _, rfl⟩ := hr
        exact ⟨trivial, _, atI0, Nat.le_of_ble_eq_true rfl, ⟨rfl, rfl⟩, useB_n (by (try dsimp only); decide +kernel) ⟨trivial, _, atI0, Nat.le_of_ble_eq_true rfl, ⟨rfl, rfl⟩, useB_y (by (try dsimp only); decide +kernel) ⟨hlen, nx⟩⟩⟩
      | lt =>
        obtain ⟨_, _, _, rfl⟩ := hr
        exact ⟨trivial, _, atI0, Nat.le_of_ble_eq_true rfl, ⟨rfl, rfl⟩, useB_n (by (try dsimp only); decide +kernel) ⟨trivial, _, atI0, Nat.le_of_ble_eq_true rfl, ⟨rfl, rfl⟩, useB_y (by (try dsimp only); decide +kernel) ⟨hlen, nx⟩⟩⟩
    | mux a b c =>
      obtain ⟨_, hx, _⟩ := hr
      exact ⟨trivial, _, atI0, Nat.le_of_ble_eq_true rfl, ⟨rfl, rfl⟩, useB_n (by (try dsimp only); decide +kernel) ⟨trivial, _, atI0, Nat.le_of_ble_eq_true rfl, ⟨rfl, rfl⟩, useB_n (by (try dsimp only); decide +kernel) ⟨trivial, _, atI0, rfl, useB_n (by (try dsimp only); decide +kernel) ⟨trivial, _, atI0, rfl, useB_n (by (try dsimp only); decide +kernel) ⟨trivial, _, atI0, rfl, useB_n (by (try dsimp only); decide +kernel) ⟨trivial, _, atI0, rfl, useB_y (by (try dsimp only); decide +kernel) ⟨trivial, _, atI2, trivial, _, atI_nL hx, hlen, nx⟩⟩⟩⟩⟩⟩⟩
  · rintro ρ ⟨o2, rfl⟩
    rw [List.length_map, hf.rows.len, List.take_length]
    exact hq
abbrev s_law_values : Stmt := topS 28
abbrev n_law_values : List Str := ["_law_flat_here", "_law_widths_here", "_law_lot", "_law_state", "_law_found", "_law_k", "_law_row", "_law_numbers", "_law_some", "_law_sizes", "_law_n"]
theorem sc_law_values : FnScope n_law_values ["_law_flat_here", "_law_widths_here", "_law_lot", "_law_state"] (C8.fnScope s_law_values) := C8.fnScope_by (by decide +kernel)
theorem ok_law_values {a : Addr} {fd : FuncData} (F : C8.Def K mg "_law_values" s_law_values a fd) (b : Binds K fd ["_law_flat_here", "_law_widths_here", "_law_lot", "_law_state"] []) (T : Txt mg) (c_law_row_numbers : CalG P w K mg base 1 "_law_row_numbers" (spD K [.bo] (CrowN))) (c_law_row_value : CalG P w K mg base 1 "_law_row_value" (spD K [.bo, .bo, .bo, .bo, .bo, .bo] (ClrV))) : CalG P w K mg base (2) "_law_values" (spD K [.bo, .bo, .bo, .bo] (Cvals)) := by
  refine calG F b sc_law_values rfl (fun cdv A outer s H E hA hr => ?_)
  have hu := huOf hr
  have hu64 := hr.units
  refine ⟨_, _, (pss_cons (ps_asg (pe_lst pa_nil) (pg_name (i := 4) sc_law_values.nd rfl (by first | exact Or.inl rfl | exact Or.inr rfl)))
      (pss_cons (ps_for PassesOwn.never rfl (k_enum (K := K) rfl (by rfl) T.enumerate (pa_cons (pe_ix (k_ix (K := K) rfl) (pv 0) pe_int (fun _ _ => rfl)) pa_nil)) (k_gtup (n := 2) (K := K) rfl (by rfl) (pgs_cons (pg_name (i := 5) sc_law_values.nd rfl (by first | exact Or.inl rfl | exact Or.inr rfl)) (pgs_cons (pg_name (i := 6) sc_law_values.nd rfl (by first | exact Or.inl rfl | exact Or.inr rfl)) pgs_nil)))
      (pss_cons (ps_asg (pe_cG c_law_row_numbers hA hr (by first | decide | omega) rfl (pa_cons (pv 6) pa_nil)) (pg_name (i := 7) sc_law_values.nd rfl (by first | exact Or.inl rfl | exact Or.inr rfl)))
      (pss_cons (ps_par (i := 8) (j := 9) (by rfl) sc_law_values.nd rfl rfl (by decide) rfl rfl (pa_cons (pe_lc rfl sc_law_values.nd (k_iany (K := K) rfl (pv 7)) (blkOk_by (own := [("_law_n", 10)]) (N := n_law_values) (sc := C8.fnScope s_law_values) (by decide +kernel)) (fun _ _ _ _ _ => (pg_name (i := 10) sc_law_values.nd rfl (by first | exact Or.inl rfl | exact Or.inr rfl))) (fun _ _ _ _ _ => pts_nil) (fun _ _ _ _ _ => (pe_ix (k_ix (K := K) rfl) (pv 4) (pv 10) (fun _ _ => rfl)))) (pa_cons (pe_lc rfl sc_law_values.nd (k_iany (K := K) rfl (pv 7)) (blkOk_by (own := [("_law_n", 10)]) (N := n_law_values) (sc := C8.fnScope s_law_values) (by decide +kernel)) (fun _ _ _ _ _ => (pg_name (i := 10) sc_law_values.nd rfl (by first | exact Or.inl rfl | exact Or.inr rfl))) (fun _ _ _ _ _ => pts_nil) (fun _ _ _ _ _ => (pe_ix (k_ix (K := K) rfl) (pv 1) (pv 10) (fun _ _ => rfl)))) pa_nil)) (by rfl))
      (pss_one (ps_expr (pe_bm PySem.F.plainAttrs_list PySem.F.slot_list_append PySem.F.type_list_append mt_append (pv 4) (pa_cons (pe_cG c_law_row_value hA hr (by first | decide | omega) rfl (pa_cons (pv 6) (pa_cons (pv 8) (pa_cons (pv 9) (pa_cons (pe_ix (k_ix (K := K) rfl) (pv 1) (pv 5) (fun _ _ => rfl)) (pa_cons (pv 2) (pa_cons (pv 3) pa_nil))))))) pa_nil)))))))
      (pss_one (ps_ret (pv 4))))),
   (ls_seq (ls_asg (le_lst la_nil) lg_name)
      (ls_seq (ls_for (li_enum (la_cons (le_op le_var le_int ol_ix) la_nil)) (lg_tup (lgs_cons lg_name (lgs_cons lg_name lgs_nil)))
      (ls_seq (ls_asg (le_call (la_cons le_var la_nil)) lg_name)
      (ls_seq (ls_par (le_lc (li_any le_var) lg_name (lgw_name (by decide)) lt_yes (le_op le_var le_var ol_ix)) (le_lc (li_any le_var) lg_name (lgw_name (by decide)) lt_yes (le_op le_var le_var ol_ix)))
      (ls_app (le_call (la_cons le_var (la_cons le_var (la_cons le_var (la_cons (le_op le_var le_var ol_ix) (la_cons le_var (la_cons le_var la_nil)))))))))))
      (ls_ret le_var))), ?_⟩
  intro ds Qc h
  obtain ⟨f, lot, st, rfl, hf, hl, hs, hq⟩ := h
  have hrl := hf.rl
  refine ⟨Nat.le_of_ble_eq_true rfl, trivial, _, rfl, dLoop_of (enumD (f.rows.map Row.toD)) (fun i ρ => ∃ o5 o6 o7 o8 o9, ρ = [some (.bo f.toD), some (.bo (.list (nL f.ws))), some (.bo (.tuple (iL lot))), some (.bo (.tuple (iL st))), some (.ow (.list (iL (valsR f.ws lot st (f.rows.take i))))), o5, o6, o7, o8, o9, none]) ⟨_, _, _, _, _, rfl⟩ ?_ ?_⟩
  · rintro i x ρ k hx ⟨o5, o6, o7, o8, o9, rfl⟩ next
    obtain ⟨hi, rfl⟩ := get_enumR hx
    have A := hf.at hl hs hi
    have hle := A.v.le
    have hwl := hf.rows.len
    have hm := A.row.mem
    have hml := (f.rows[i]).mem_len
    refine ⟨rfl, rfl, _, rfl, dLcGo_map _ (ofV (valsR f.ws lot st (f.rows.take i))) (by rw [List.length_map, sizeLine_eq]; omega) (fun x k hx q => ?_) ?_⟩
    · obtain ⟨a0, ha, rfl⟩ := mem_nL hx
      obtain ⟨y, hy⟩ := hm a0 ha
      obtain ⟨_, _, v, hv, _⟩ := A.v.at hy
      refine ⟨trivial, _, atI_iL hv, ?_⟩
      rw [← getV hv]
      exact q
    rw [map_ofV]
    refine dLcGo_map _ (ofW f.ws) (by rw [List.length_map, sizeLine_eq]; omega) (fun x k hx q => ?_) ?_
    · obtain ⟨a0, ha, rfl⟩ := mem_nL hx
      obtain ⟨y, hy⟩ := hm a0 ha
      obtain ⟨h1, _⟩ := A.v.at hy
      refine ⟨trivial, _, atI_nL h1, ?_⟩
      rw [← getD_of h1]
      exact q
    rw [map_ofW]
    refine ⟨trivial, _, atI_nL (List.getElem?_eq_getElem A.hi2), f.iw, f.rw, f.ws, _, _, _, _, _, rfl, A.row, A.w, A.v, by rw [iL_len, sizeLine_eq]; omega, next _ ⟨_, _, _, _, _, by rw [valsR_succ _ _ _ _ i hi, ← iL_snoc]; rfl⟩⟩
  · rintro ρ ⟨o5, o6, o7, o8, o9, rfl⟩
    rw [show (enumD (f.rows.map Row.toD)).length = f.rows.length by simp [enumD], List.take_length]
    exact hq
abbrev s_law_run : Stmt := topS 29
abbrev n_law_run : List Str := ["_law_flat_here", "_law_lots_here", "_law_widths_here", "_law_ahead", "_law_found", "_law_lot", "_law_values_here", "_law_reg", "_law_name", "_law_n"]
theorem sc_law_run : FnScope n_law_run ["_law_flat_here", "_law_lots_here"] (C8.fnScope s_law_run) := C8.fnScope_by (by decide +kernel)
theorem ok_law_run {a : Addr} {fd : FuncData} (F : C8.Def K mg "_law_run" s_law_run a fd) (b : Binds K fd ["_law_flat_here", "_law_lots_here"] []) (T : Txt mg) (c_law_widths : CalG P w K mg base 1 "_law_widths" (spD K [.bo] (Cwid))) (c_law_values : CalG P w K mg base 2 "_law_values" (spD K [.bo, .bo, .bo, .bo] (Cvals))) : CalG P w K mg base (3) "_law_run" (spD K [.bo, .bo] (Clrun)) := by
  refine calG F b sc_law_run rfl (fun cdv A outer s H E hA hr => ?_)
  have hu := huOf hr
  have hu64 := hr.units
  refine ⟨_, _, (pss_cons (ps_par3 (i := 2) (j := 3) (l := 4) (by rfl) sc_law_run.nd rfl rfl rfl (by decide) (by decide) (by decide) rfl rfl rfl (pa_cons (pe_cG c_law_widths hA hr (by first | decide | omega) rfl (pa_cons (pv 0) pa_nil)) (pa_cons (pe_lst (pa_cons (pe_callTy (k_tupleA (K := K) rfl rfl) (by rfl) T.tuple (by decide +kernel) (pa_cons (pe_lc rfl sc_law_run.nd (k_iany (K := K) rfl (pe_ix (k_ix (K := K) rfl) (pv 0) pe_int (fun _ _ => rfl))) (blkOk_by (own := [("_law_reg", 7)]) (N := n_law_run) (sc := C8.fnScope s_law_run) (by decide +kernel)) (fun _ _ _ _ _ => (pg_name (i := 7) sc_law_run.nd rfl (by first | exact Or.inl rfl | exact Or.inr rfl))) (fun _ _ _ _ _ => pts_nil) (fun _ _ _ _ _ => (pe_ix (k_ix (K := K) rfl) (pv 7) pe_int (fun _ _ => rfl)))) pa_nil)) pa_nil)) (pa_cons (pe_lst pa_nil) pa_nil))) (by rfl))
      (pss_cons (ps_for PassesOwn.never rfl (k_iany (K := K) rfl (pv 1)) (pg_name (i := 5) sc_law_run.nd rfl (by first | exact Or.inl rfl | exact Or.inr rfl))
      (pss_cons (ps_asg (pe_cG c_law_values hA hr (by first | decide | omega) rfl (pa_cons (pv 0) (pa_cons (pv 2) (pa_cons (pv 5) (pa_cons (pe_ix (k_ix (K := K) rfl) (pv 3) (pe_un un_neg pe_int) (fun _ _ => rfl)) pa_nil))))) (pg_name (i := 6) sc_law_run.nd rfl (by first | exact Or.inl rfl | exact Or.inr rfl)))
      (pss_cons (ps_expr (pe_bm PySem.F.plainAttrs_list PySem.F.slot_list_append PySem.F.type_list_append mt_append (pv 4) (pa_cons (pe_callTy (k_tupleA (K := K) rfl rfl) (by rfl) T.tuple (by decide +kernel) (pa_cons (pe_lc rfl sc_law_run.nd (k_iany (K := K) rfl (pe_ix (k_ix (K := K) rfl) (pv 0) pe_int (fun _ _ => rfl))) (blkOk_by (own := [("_law_name", 8), ("_law_n", 9)]) (N := n_law_run) (sc := C8.fnScope s_law_run) (by decide +kernel)) (fun _ _ _ _ _ => (k_gtup (n := 2) (K := K) rfl (by rfl) (pgs_cons (pg_name (i := 8) sc_law_run.nd rfl (by first | exact Or.inl rfl | exact Or.inr rfl)) (pgs_cons (pg_name (i := 9) sc_law_run.nd rfl (by first | exact Or.inl rfl | exact Or.inr rfl)) pgs_nil)))) (fun _ _ _ _ _ => pts_nil) (fun _ _ _ _ _ => (pe_ix (k_ix (K := K) rfl) (pv 6) (pv 9) (fun _ _ => rfl)))) pa_nil)) pa_nil)))
      (pss_one (ps_expr (pe_bm PySem.F.plainAttrs_list PySem.F.slot_list_append PySem.F.type_list_append mt_append (pv 3) (pa_cons (pe_callTy (k_tupleA (K := K) rfl rfl) (by rfl) T.tuple (by decide +kernel) (pa_cons (pe_lc rfl sc_law_run.nd (k_iany (K := K) rfl (pe_ix (k_ix (K := K) rfl) (pv 0) pe_int (fun _ _ => rfl))) (blkOk_by (own := [("_law_reg", 7)]) (N := n_law_run) (sc := C8.fnScope s_law_run) (by decide +kernel)) (fun _ _ _ _ _ => (pg_name (i := 7) sc_law_run.nd rfl (by first | exact Or.inl rfl | exact Or.inr rfl))) (fun _ _ _ _ _ => pts_nil) (fun _ _ _ _ _ => (pe_ix (k_ix (K := K) rfl) (pv 6) (pe_ix (k_ix (K := K) rfl) (pv 7) pe_int (fun _ _ => rfl)) (fun _ _ => rfl)))) pa_nil)) pa_nil)))))))
      (pss_one (ps_ret (pe_tup (pa_cons (pv 4) (pa_cons (pv 3) pa_nil))))))),
   (ls_seq (ls_par3 (le_call (la_cons le_var la_nil)) (le_lst (la_cons (le_cb (la_cons (le_lc (li_any (le_op le_var le_int ol_ix)) lg_name (lgw_name (by decide)) lt_yes (le_op le_var le_int ol_ix)) la_nil) cl_tupleA) la_nil)) (le_lst la_nil))
      (ls_seq (ls_for (li_any le_var) lg_name
      (ls_seq (ls_asg (le_call (la_cons le_var (la_cons le_var (la_cons le_var (la_cons (le_op le_var (le_un le_int ul_neg) ol_ix) la_nil))))) lg_name)
      (ls_seq (ls_app (le_cb (la_cons (le_lc (li_any (le_op le_var le_int ol_ix)) (lg_tup (lgs_cons lg_name (lgs_cons lg_name lgs_nil))) (lgw_tup (lgsw_cons mog_name (mogs_cons mog_name mogs_nil) (lgw_name (by decide)) (lgsw_cons mog_name mogs_nil (lgw_name (by decide)) lgsw_nil))) lt_yes (le_op le_var le_var ol_ix)) la_nil) cl_tupleA))
      (ls_app (le_cb (la_cons (le_lc (li_any (le_op le_var le_int ol_ix)) lg_name (lgw_name (by decide)) lt_yes (le_op le_var (le_op le_var le_int ol_ix) ol_ix)) la_nil) cl_tupleA)))))
      (ls_ret (le_tup (la_cons le_var (la_cons le_var la_nil)))))), ?_⟩
  intro ds Qc h
  obtain ⟨f, lots, rfl, hf, hx2, hlo, hq⟩ := h
  have hrl := hf.rl
  have hgl := hf.gl
  have hle := hlo.le
  have hfw := hx2.few
  have hb := Fl.begin_ok hx2
  refine ⟨f, rfl, hf, trivial, _, rfl, dLcGo_map _ startF (by rw [List.length_map, sizeLine_eq]; omega) (fun x k hx q => ?_) ?_⟩
  · obtain ⟨p, hp, rfl⟩ := mem_regD hx
    exact ⟨trivial, _, atI2, q⟩
  rw [start_map]
  refine ⟨Nat.le_of_ble_eq_true rfl, Nat.le_of_ble_eq_true rfl, dLoop_of (lots.map lotT) (fun i ρ => ∃ o5 o6, ρ = [some (.bo f.toD), some (.bo (.list (lots.map lotT))), some (.ow (.list (nL f.ws))), some (.ow (.list ((f.run f.begin (lots.take i)).ahead.map lotT))), some (.ow (.list ((f.run f.begin (lots.take i)).found.map lotT))), o5, o6, none, none, none]) ⟨_, _, rfl⟩ ?_ ?_⟩
  · rintro i x ρ k hx ⟨o5, o6, rfl⟩ next
    obtain ⟨hi, rfl⟩ := get_lotT hx
    obtain ⟨h1, h2, ys, h3, h4⟩ := Fl.run_ok hf hx2 hb hlo.ok i (Nat.le_of_lt hi)
    have hcs := Fl.run_succ f f.begin lots i hi
    generalize f.run f.begin (lots.take i) = c at h1 h2 h3 h4 hcs
    have hlt := hlo.ok _ (List.getElem_mem hi)
    have hVl := vals_len hf hlt h1
    have hwl := hf.rows.len
    have hat : L2.atI (c.ahead.map lotT) (-1) = some (.tuple (iL c.st)) := by
      rw [h4, List.map_append]
      exact at_back
    have hal : c.ahead.length = i + 1 := by rw [h4, List.length_append, h3]; rfl
    refine ⟨trivial, _, hat, f, lots[i], c.st, rfl, hf, hlt, h1, trivial, _, rfl, dLcGo_map _ (tellF (valsR f.ws lots[i] c.st f.rows)) (by rw [List.length_map, sizeLine_eq]; omega) (fun x k hx q => ?_) ?_⟩
    · obtain ⟨p, hp, rfl⟩ := mem_inD hx
      exact ⟨rfl, rfl, trivial, _, atI_iL (at_getD (by rw [hVl]; exact hx2.outs p hp)), q⟩
    rw [tell_map]
    refine ⟨by rw [List.length_map, sizeLine_eq]; omega, trivial, _, rfl, dLcGo_map _ (nxtF (valsR f.ws lots[i] c.st f.rows)) (by rw [List.length_map, sizeLine_eq]; omega) (fun x k hx q => ?_) ?_⟩
    · obtain ⟨p, hp, rfl⟩ := mem_regD hx
      exact ⟨trivial, _, atI3, trivial, _, atI_iL (at_getD (by have := hx2.next_lt hp; omega)), q⟩
    rw [nxt_map]
    refine ⟨by rw [List.length_map, sizeLine_eq]; omega, next _ ⟨some (.sh (.tuple (iL lots[i]))), some (.ow (.list (iL (valsR f.ws lots[i] c.st f.rows)))), ?_⟩⟩
    rw [hcs]
    unfold Fl.runStep
    rw [← lotT_snoc, ← lotT_snoc]
    rfl
  · rintro ρ ⟨o5, o6, rfl⟩
    rw [List.length_map, List.take_length]
    exact ⟨Nat.le_of_ble_eq_true rfl, hq⟩
end
end K22

set_option Elab.async false
set_option linter.all false
set_option maxRecDepth 100000
set_option maxHeartbeats 4000000
set_option autoImplicit false
set_option pp.maxSteps 1000
namespace K22
open PySem L2 DL
section
variable {P : Program} {w : World} {K : PySem.W.Frag} {mg : Str → Option Value} {base : Heap}
abbrev s_law_pick : Stmt := topS 21
abbrev n_law_pick : List Str := ["_law_source_here", "_law_many", "_law_left", "_law_mixed_here"]
theorem sc_law_pick : FnScope n_law_pick ["_law_source_here", "_law_many"] (C8.fnScope s_law_pick) := C8.fnScope_by (by decide +kernel)
theorem ok_law_pick {a : Addr} {fd : FuncData} (F : C8.Def K mg "_law_pick" s_law_pick a fd) (b : Binds K fd ["_law_source_here", "_law_many"] []) (T : Txt mg) : CalG P w K mg base 1 "_law_pick" (spD K [.src, .bo] Cpick) := by
  refine ⟨a, fd, _, fnG_of F.fn sc_law_pick (fun vs H Q E h => ?_) (fun cdv A outer s H vs Q E hA hr h => ?_), F.mgf, F.kp, b⟩
  · obtain ⟨M0, src, ds, P, _⟩ := h
    exact P.args.length.1.symm
  obtain ⟨M0, src, ds, P, Qc, ⟨m, rfl, hm, hQc⟩, hQ⟩ := h
  obtain ⟨p, c, rfl, rfl, hpc, hsrc⟩ := pre_src2 P
  have fin : ∀ (k : Int) (H' : Hp), 0 ≤ k → k < m → Fm H p c H' → SrcOk H' p c → Q (.int k) H' := fun k H' h1 h2 f s => hQ _ (hQc k h1 h2) _ _ (f.post s fun _ => .int k)
  have hcp : c ≠ p := Ne.symm hpc
  have hu : _ + 1 < cLine := Nat.lt_of_le_of_lt (Nat.add_le_add_left (by decide : 1 ≤ 64) _) hr.units
  have hu64 := hr.units
  refine ⟨_, PSs.nox (pss_cons (ps_while PassesOwn.never (PW.pt (pw_and (pt_cmpR op_gt (pv 1) pe_int (nomark _)) (pw_and (pt_cmpR op_lt (pe_dget hu (pv 0) pe_str (fun _ _ => rfl)) pe_int (nomark _)) (pw_and1 (pt_cmpR op_gt (pe_callB call_len (by rfl) T.len (by decide +kernel) (pa_cons (pe_dget hu (pv 0) pe_str (fun _ _ => rfl)) pa_nil)) pe_int (nomark _))))))
      (pss_one (ps_dput hu (pv 0) pe_str (pe_bm0 PySem.F.plainAttrs_list PySem.F.slot_list_pop PySem.F.type_list_pop mt_pop (pe_dget hu (pv 0) pe_str (fun _ _ => rfl))) rfl)))
      (pss_cons (ps_asg (pe_dget hu (pv 0) pe_str (fun _ _ => rfl)) (pg_name (i := 2) sc_law_pick.nd rfl (by first | exact Or.inl rfl | exact Or.inr rfl)))
      (pss_cons (ps_if (PW.pt (pw_or (pt_cmpR op_lt (pv 1) pe_int (nomark _)) (pw_or1 (pt_cmpR op_gt (pv 2) pe_int (nomark _))))) (pss_cons (ps_dput hu (pv 0) pe_str (pe_op op_fdivL (pv 2) (pe_callB (call_max2 rfl) (by rfl) T.max (by decide +kernel) (pa_cons pe_int (pa_cons (pv 1) pa_nil)))) rfl)
      (pss_one (ps_ret (pe_op op_modN (pe_callTy call_int1 (by rfl) T.int (by decide +kernel) (pa_cons (pv 2) pa_nil)) (pe_callB (call_max2 rfl) (by rfl) T.max (by decide +kernel) (pa_cons pe_int (pa_cons (pv 1) pa_nil))))))) pss_nil)
      (pss_cons (ps_dput hu (pv 0) pe_str (pe_op op_add (pe_dget hu (pv 0) pe_str (fun _ _ => rfl)) pe_int) rfl)
      (pss_cons (ps_asg (pe_op op_modN (pe_callTy call_int1 (by rfl) T.int (by decide +kernel) (pa_cons (pe_op op_add (pe_dget hu (pv 0) pe_str (fun _ _ => rfl)) (pe_op op_mul (pe_dget hu (pv 0) pe_str (fun _ _ => rfl)) pe_int)) pa_nil)) pe_int) (pg_name (i := 3) sc_law_pick.nd rfl (by first | exact Or.inl rfl | exact Or.inr rfl)))
      (pss_cons (ps_asg (pe_op op_modN (pe_callTy call_int1 (by rfl) T.int (by decide +kernel) (pa_cons (pe_op op_add (pe_op op_mul (pv 3) (pv 3)) (pe_op op_mul (pe_dget hu (pv 0) pe_str (fun _ _ => rfl)) pe_int)) pa_nil)) pe_int) (pg_name (i := 3) sc_law_pick.nd rfl (by first | exact Or.inl rfl | exact Or.inr rfl)))
      (pss_cons (ps_dput hu (pv 0) pe_str (pv 3) rfl)
      (pss_one (ps_ret (pe_op op_modN (pe_callTy call_int1 (by rfl) T.int (by decide +kernel) (pa_cons (pe_op op_fdivL (pv 3) pe_int) pa_nil)) (pv 1))))))))))), ?_⟩
  obtain ⟨ns0, l0, m0, t0, mo0, S0⟩ := hsrc.sx
  refine ⟨fun n σ' H' => σ' = [some (.ref p), some (.int m), none, none] ∧ Fm H p c H' ∧ ∃ ns l mi t more, Sx c H' p ns l mi t more ∧ n = ns.length, ⟨_, rfl, Fm.refl, ns0, l0, m0, t0, mo0, S0, rfl⟩, ?_⟩
  rintro n σ' H' ⟨rfl, f, ns, l, mi, t, more, S, rfl⟩
  refine ⟨_, rfl, _, _, rfl, rfl, _, rfl, ite_b (fun h1 => ⟨_, rfl, p, .int l, rfl, S.gL, _, _, rfl, rfl, _, rfl, ite_b (fun h2 => ⟨_, rfl, p, .ref c, rfl, S.gC, _, _, rfl, .inl ⟨_, .inl (.inl S.hc), rfl⟩, _, _, rfl, rfl, _, rfl, ite_b (fun h3 => ?turn) (fun h3 => ?t1)⟩) (fun h2 => ?t2)⟩) (fun h1 => ?t3)⟩
  case turn =>
    have hne : 0 < ns.length := by simpa using h3
    refine ⟨fun σ'' H'' => ∃ k, k < ns.length ∧ (σ'' = [some (.ref p), some (.int m), none, none] ∧ Fm H p c H'' ∧ ∃ ns l mi t more, Sx c H'' p ns l mi t more ∧ k = ns.length), fun _ _ h => h, ?_⟩
    obtain ⟨ms, q, rfl⟩ : ∃ ms q, ns = ms ++ [q] := ⟨ns.dropLast, ns.getLast (by intro z; simp [z] at hne), (List.dropLast_concat_getLast _).symm⟩
    have hq : 0 ≤ q := S.nn q (by simp)
    refine ⟨_, rfl, p, .ref c, rfl, S.gC, .inl ⟨rfl, _, .inl (.inl S.hc)⟩, c, _, .int q, rfl, rfl, S.hc, by simp, ?_⟩
    have e1 : ((ms ++ [q]).map V.int).dropLast = ms.map V.int := by simp
    rw [e1]
    have S1 := S.setC hcp (ms := ms) fun n hn => S.nn n (by simp [hn])
    exact ⟨_, rfl, p, _, rfl, S1.pL (x := q), ms.length, by simp, rfl, f.updC.updP, ms, q, mi, t, more, S1.setL hcp hq, rfl⟩
  all_goals
    first | rw [if_neg Bool.false_ne_true] | skip
    have hmx : (if m > 1 then m else 1) = m := by split <;> omega
    have l0 := S.l0
    refine ⟨_, rfl, p, .int l, rfl, S.gL, ?_⟩
    refine ⟨_, rfl, _, _, rfl, rfl, _, rfl, ite_b (fun g1 => ?_) (fun g1 => ⟨_, rfl, _, _, rfl, rfl, _, rfl, ite_b (fun g2 => ?_) (fun g2 => ?_)⟩)⟩
    rotate_right 1
    ·
      have g1 : ¬ m < 2 := by simpa using g1
      have S1 := S.setT (x := t + 1) hcp
      have m1 : 0 ≤ (mi + (t + 1) * 104729).fmod 998244353 ∧ (mi + (t + 1) * 104729).fmod 998244353 < 998244353 := ⟨Int.fmod_nonneg_of_pos _ (by decide), Int.fmod_lt_of_pos _ (by decide)⟩
      generalize hm1 : (mi + (t + 1) * 104729).fmod 998244353 = M1 at m1
      have m2 : 0 ≤ (M1 * M1 + (t + 1) * 17).fmod 2147483647 ∧ (M1 * M1 + (t + 1) * 17).fmod 2147483647 < 2147483647 := ⟨Int.fmod_nonneg_of_pos _ (by decide), Int.fmod_lt_of_pos _ (by decide)⟩
      generalize hm2 : (M1 * M1 + (t + 1) * 17).fmod 2147483647 = M2 at m2
      have S2 := S1.setM (x := M2) hcp m2.1 m2.2
      refine ⟨_, rfl, p, _, rfl, S.gT, _, _, rfl, rfl, _, rfl, p, _, rfl, S.pT, ?_⟩
      refine ⟨_, rfl, p, _, rfl, S1.gM, _, rfl, p, _, rfl, S1.gT, _, _, rfl, rfl, .inr ⟨by decide, by decide⟩, _, _, rfl, rfl, .inl ⟨_, rfl, _, _, rfl, rfl, (by intro z; cases z), ?_⟩⟩
      dsimp only []
      rw [hm1]
      refine ⟨_, rfl, _, rfl, _, _, rfl, rfl, .inl ⟨by omega, by omega⟩, _, rfl, p, _, rfl, S1.gT, _, _, rfl, rfl, .inr ⟨by decide, by decide⟩, _, _, rfl, rfl, .inl ⟨_, rfl, _, _, rfl, rfl, (by intro z; cases z), ?_⟩⟩
      dsimp only []
      rw [hm2]
      refine ⟨_, rfl, _, rfl, p, _, rfl, S1.pM, _, rfl, _, _, rfl, rfl, ⟨by decide, by decide⟩, .inl ⟨_, rfl, _, rfl, _, _, rfl, rfl, by omega, ?_⟩⟩
      exact fin _ _ (Int.fmod_nonneg_of_pos _ (by omega)) (Int.fmod_lt_of_pos _ (by omega)) f.updP.updP S2.ok
    all_goals
      refine ⟨_, rfl, _, rfl, _, _, rfl, ?_⟩
      rw [hmx]
      refine ⟨_, _, rfl, rfl, ⟨by omega, log_pick hm.1 hm.2⟩, _, rfl, p, _, rfl, S.pL, _, rfl, .inl ⟨_, rfl, _, rfl, _, _, rfl, ?_⟩⟩
      rw [hmx]
      exact ⟨_, _, rfl, rfl, by omega, fin _ _ (Int.fmod_nonneg_of_pos _ (by omega)) (Int.fmod_lt_of_pos _ (by omega)) f.updP (S.setL hcp (Int.fdiv_nonneg l0 (by omega))).ok⟩
abbrev s_law_source : Stmt := topS 20
abbrev n_law_source : List Str := ["_law_script", "_law_mixed_here", "_law_cell"]
theorem sc_law_source : FnScope n_law_source ["_law_script"] (C8.fnScope s_law_source) := C8.fnScope_by (by decide +kernel)
theorem ok_law_source {a : Addr} {fd : FuncData} (F : C8.Def K mg "_law_source" s_law_source a fd) (b : Binds K fd ["_law_script"] []) (T : Txt mg) : CalG P w K mg base 1 "_law_source" (spSrc K) := by
  refine ⟨a, fd, _, fnG_of F.fn sc_law_source (fun vs H Q E h => ?_) (fun cdv A outer s H vs Q E hA hr h => ?_), F.mgf, F.kp, b⟩
  · obtain ⟨_, _, rfl, _⟩ := h; rfl
  obtain ⟨a, ns, rfl, hs, hl, hQ⟩ := h
  refine ⟨_, PSs.nox (pss_cons (ps_asg pe_int (pg_name (i := 1) sc_law_source.nd rfl (by first | exact Or.inl rfl | exact Or.inr rfl)))
      (pss_cons (ps_for PassesOwn.never rfl (pi_any (pv 0)) (pg_name (i := 2) sc_law_source.nd rfl (by first | exact Or.inl rfl | exact Or.inr rfl)) (pss_one (ps_asg (pe_op op_modN (pe_callTy call_int1 (by rfl) T.int (by decide +kernel) (pa_cons (pe_op op_add (pe_op op_add (pe_op op_mul (pv 1) pe_int) (pe_op op_mul (pv 2) pe_int)) pe_int) pa_nil)) pe_int) (pg_name (i := 1) sc_law_source.nd rfl (by first | exact Or.inl rfl | exact Or.inr rfl)))))
      (pss_one (ps_ret (pe_disp (pps_cons pe_str (pe_revL (pe_lc rfl sc_law_source.nd (pi_any (pv 0)) (blkOk_by (own := [("_law_cell", 2)]) (N := n_law_source) (sc := C8.fnScope s_law_source) (by decide +kernel)) (fun _ _ _ _ _ => (pg_name (i := 2) sc_law_source.nd rfl (by first | exact Or.inl rfl | exact Or.inr rfl))) (fun _ _ _ _ _ => pts_nil) (fun _ _ _ _ _ => (pe_callB call_abs (by rfl) T.abs (by decide +kernel) (pa_cons (pv 2) pa_nil))))) (pps_cons pe_str pe_int (pps_cons pe_str (pv 1) (pps_cons pe_str pe_int pps_nil)))) (by rfl) (by rfl) (fun z => by cases z) (by decide)))))), ?_⟩
  refine ⟨_, rfl, .inl ⟨a, rfl, ⟨_, hs⟩, fun i m σ H' => H' = H ∧ i + m = ns.length ∧ ∃ x o, σ = [some (.ref a), some (.int x), o] ∧ 0 ≤ x ∧ x < 2147483629, ⟨ns.length, rfl, by simp, 11, none, rfl, by decide, by decide⟩, ?_⟩⟩
  rintro i m σ H' ⟨rfl, e, x, o, rfl, hx⟩
  by_cases hi : i < ns.length
  · right
    refine ⟨⟨_, .int ns[i], hs, by simp [hi]⟩, fun σ' H'' => H'' = H' ∧ ∃ x o, σ' = [some (.ref a), some (.int x), o] ∧ 0 ≤ x ∧ x < 2147483629, fun σ' H'' h => ⟨m - 1, by omega, h.1, by omega, h.2⟩, ?_⟩
    rintro y H'' ⟨rfl, hy⟩
    have hy := hy _ hs
    have hy : y = .int ns[i] := by simpa [hi] using hy.symm
    subst hy
    refine ⟨_, rfl, _, _, rfl, rfl, .inr ⟨by decide, by decide⟩, _, rfl, _, _, rfl, rfl, .inr ⟨by decide, by decide⟩, _, _, rfl, rfl, _, _, rfl, rfl, .inl ⟨_, rfl, _, _, rfl, rfl, (by intro z; cases z), ?_⟩⟩
    exact ⟨rfl, _, _, rfl, Int.fmod_nonneg_of_pos _ (by decide), Int.fmod_lt_of_pos _ (by decide)⟩
  · left
    refine ⟨⟨_, hs, by simp; omega⟩, fun p hp => ?_⟩
    have ext : ∀ {G : Hp}, (∀ x o, H' x = some o → G x = some o) → SqL K G a (ns.map V.int) := fun h => hs.elim (fun h1 => .inl (h1.elim (fun h2 => .inl (h _ _ h2)) fun ⟨o, h2⟩ => .inr ⟨o, h _ _ h2⟩)) fun h1 => .inr h1
    have e1 : ∀ x o, H' x = some o → upd H' p (.dK []) x = some o := fun x o h => by rw [upd_ne (by rintro rfl; rw [hp] at h; cases h)]; exact h
    refine ⟨_, rfl, .inl ⟨a, rfl, ⟨_, ext e1⟩, fun q hq => ?_⟩⟩
    have hqp : q ≠ p := by rintro rfl; rw [upd_same] at hq; cases hq
    have hq' : H' q = none := by rw [upd_ne hqp] at hq; exact hq
    refine ⟨fun i m G => i + m = ns.length ∧ G = upd (upd H' p (.dK [])) q (.lst ((ns.take i).map fun n => .int (if n < 0 then -n else n))), ⟨ns.length, by simp, by simp⟩, ?_⟩
    rintro i m G ⟨e2, rfl⟩
    have e3 : ∀ {z : List V} x o, H' x = some o → upd (upd H' p (.dK [])) q (.lst z) x = some o := fun x o h => by rw [upd_ne (by rintro rfl; rw [hq'] at h; cases h)]; exact e1 x o h
    by_cases hi : i < ns.length
    · right
      refine ⟨⟨_, .int ns[i], ext e3, by simp [hi]⟩, fun G => G = upd (upd H' p (.dK [])) q (.lst ((ns.take (i + 1)).map fun n => .int (if n < 0 then -n else n))), fun G h => ⟨m - 1, by omega, by omega, h⟩, ?_⟩
      rintro y G ⟨rfl, hy⟩
      have hy := hy _ (ext e3)
      have hy : y = .int ns[i] := by simpa [hi] using hy.symm
      subst hy
      refine ⟨rfl, ?_⟩
      refine ⟨_, rfl, _, rfl, _, upd_same, by simp [sizeLine_eq]; omega, ?_⟩
      have e4 : ((ns.take i).map fun n => V.int (if n < 0 then -n else n)) ++ [.int (if ns[i] < 0 then -ns[i] else ns[i])] = (ns.take (i + 1)).map fun n => V.int (if n < 0 then -n else n) := by
        rw [List.take_succ, List.map_append, List.getElem?_eq_getElem hi]; rfl
      rw [upd_upd]
      exact congrArg (fun z => upd (upd H' p (.dK [])) q (.lst z)) e4
    · left
      have ht : ns.take i = ns := List.take_of_length_le (by omega)
      rw [ht]
      refine ⟨⟨_, ext e3, by simp; omega⟩, q, _, rfl, .inl (.inl upd_same), fun c hc => ?_⟩
      have hcq : c ≠ q := by rintro rfl; rw [upd_same] at hc; cases hc
      rw [upd_ne hcq] at hc
      have hcp : c ≠ p := by rintro rfl; rw [upd_same] at hc; cases hc
      rw [upd_ne hcp] at hc
      refine ⟨_, rfl, ?_⟩
      refine ⟨by rw [upd_ne (Ne.symm hcp), upd_ne (Ne.symm hqp), upd_same], [(.inr "cells", .ref c), (.inr "left", .int 1), (.inr "mixed", .int x), (.inr "turn", .int 0)], rfl, by simp, ?_⟩
      refine hQ p c _ (Ne.symm hcp) hp hc (fun y o h => ?_) (fun y h => ?_) ⟨(ns.map fun n => if n < 0 then -n else n).reverse, 1, x, 0, [], upd_same, ?_, ?_, (by omega : (0 : Int) ≤ 1), hx.1, by omega, .inl rfl⟩
      · have n1 : y ≠ p := by rintro rfl; rw [hp] at h; cases h
        have n2 : y ≠ q := by rintro rfl; rw [hq'] at h; cases h
        have n3 : y ≠ c := by rintro rfl; rw [hc] at h; cases h
        rw [upd_ne n1, upd_ne n3, upd_ne n2, upd_ne n1]; exact h
      · by_cases n1 : y = p
        · rw [n1, upd_same] at h; cases h
        by_cases n2 : y = q
        · rw [n2]; exact hq'
        by_cases n3 : y = c
        · rw [n3]; exact hc
        rw [upd_ne n1, upd_ne n3, upd_ne n2, upd_ne n1] at h; exact h
      · rw [upd_ne hcp, upd_same]
        simp [List.map_reverse, Function.comp_def]
      · intro n hn
        simp only [List.mem_reverse, List.mem_map] at hn
        obtain ⟨k, _, rfl⟩ := hn
        split <;> omega
abbrev s_law_of : Stmt := topS 22
abbrev n_law_of : List Str := ["_law_source_here", "_law_some"]
theorem sc_law_of : FnScope n_law_of ["_law_source_here", "_law_some"] (C8.fnScope s_law_of) := C8.fnScope_by (by decide +kernel)
theorem ok_law_of {a : Addr} {fd : FuncData} (F : C8.Def K mg "_law_of" s_law_of a fd) (b : Binds K fd ["_law_source_here", "_law_some"] []) (T : Txt mg) (c_law_pick : CalG P w K mg base 1 "_law_pick" (spD K [.src, .bo] Cpick)) : CalG P w K mg base (2) "_law_of" (spD K [.src, .bo] (Cof)) := by
  refine calG F b sc_law_of rfl (fun cdv A outer s H E hA hr => ?_)
  have hu := huOf hr
  have hu64 := hr.units
  refine ⟨_, _, (pss_one (ps_ret (pe_ix (k_ix (K := K) rfl) (pv 1) (pe_cG c_law_pick hA hr (by first | decide | omega) rfl (pa_cons (pv 0) (pa_cons (pe_callB (k_lenA (K := K) rfl) (by rfl) T.len (by decide +kernel) (pa_cons (pv 1) pa_nil)) pa_nil))) (fun _ _ => rfl)))),
   (ls_ret (le_op le_var (le_call (la_cons le_var (la_cons (le_cb (la_cons le_var la_nil) cl_lenA) la_nil))) ol_ix)), ?_⟩
  intro ds Qc h
  obtain ⟨xs, hd, hl, hq⟩ := h
  rcases hd with rfl | rfl
  all_goals
    refine ⟨xs.length, rfl, ⟨by omega, by omega⟩, fun k h1 h2 => ?_⟩
    obtain ⟨x, hx, e⟩ := atI_mem (xs := xs) h1 h2
    exact ⟨trivial, x, e, hq x hx⟩
abbrev s_law_mixed : Stmt := topS 23
abbrev n_law_mixed : List Str := ["_law_source_here", "_law_things", "_law_rest", "_law_lap"]
theorem sc_law_mixed : FnScope n_law_mixed ["_law_source_here", "_law_things"] (C8.fnScope s_law_mixed) := C8.fnScope_by (by decide +kernel)
theorem ok_law_mixed {a : Addr} {fd : FuncData} (F : C8.Def K mg "_law_mixed" s_law_mixed a fd) (b : Binds K fd ["_law_source_here", "_law_things"] []) (T : Txt mg) (c_law_pick : CalG P w K mg base 1 "_law_pick" (spD K [.src, .bo] (Cpick))) : CalG P w K mg base (2) "_law_mixed" (spD K [.src, .bo] (Cmixed)) := by
  refine calG F b sc_law_mixed rfl (fun cdv A outer s H E hA hr => ?_)
  have hu := huOf hr
  have hu64 := hr.units
  refine ⟨_, _, (pss_cons (ps_asg (pe_callTy (k_listA (K := K) rfl rfl) (by rfl) T.list (by decide +kernel) (pa_cons (pv 1) pa_nil)) (pg_name (i := 2) sc_law_mixed.nd rfl (by first | exact Or.inl rfl | exact Or.inr rfl)))
      (pss_one (ps_ret (pe_lc rfl sc_law_mixed.nd (pi_range1 (by rfl) T.range (pa_cons (pe_callB (k_lenA (K := K) rfl) (by rfl) T.len (by decide +kernel) (pa_cons (pv 2) pa_nil)) pa_nil)) (blkOk_by (own := [("_law_lap", 3)]) (N := n_law_mixed) (sc := C8.fnScope s_law_mixed) (by decide +kernel)) (fun _ _ _ _ _ => (pg_name (i := 3) sc_law_mixed.nd rfl (by first | exact Or.inl rfl | exact Or.inr rfl))) (fun _ _ _ _ _ => pts_nil) (fun _ _ _ _ _ => (k_bm (K := K) rfl PySem.F.plainAttrs_list PySem.F.slot_list_pop PySem.F.type_list_pop mt_popAt (pv 2) (pa_cons (pe_cG c_law_pick hA hr (by first | decide | omega) rfl (pa_cons (pv 0) (pa_cons (pe_callB (k_lenA (K := K) rfl) (by rfl) T.len (by decide +kernel) (pa_cons (pv 2) pa_nil)) pa_nil))) pa_nil))))))),
   (ls_seq (ls_asg (le_cb (la_cons le_var la_nil) cl_listA) lg_name)
      (ls_ret (le_lc (li_rng1 (la_cons (le_cb (la_cons le_var la_nil) cl_lenA) la_nil)) lg_name (lgw_name (by decide)) lt_yes (le_popAt (i := 2) (le_call (la_cons le_var (la_cons (le_cb (la_cons le_var la_nil) cl_lenA) la_nil))))))), ?_⟩
  intro ds Qc h
  obtain ⟨xs, d, rfl, hd, hl, hq⟩ := h
  rcases hd with rfl | rfl
  · skip
    refine ⟨⟨by omega, by omega⟩, dLcGo_of _ (fun j acc ρ => ∃ rs : List D, acc.length = j ∧ rs.length + j = xs.length ∧ (∀ y ∈ acc, y ∈ xs) ∧ (∀ y ∈ rs, y ∈ xs) ∧ ρ = [some .src, some (.bo (.list xs)), some (.ow (.list rs)), none]) ⟨xs, rfl, rfl, (fun _ h => nomatch h), (fun _ h => h), rfl⟩ ?_ ?_⟩
    · rintro j x acc ρ k hx ⟨rs, hal, hrl, ha, hr, rfl⟩ next
      have hj : j < (rngD 0 (xs.length : Int).toNat).length := (List.getElem?_eq_some_iff.mp hx).1
      rw [rngD_length] at hj
      refine useB_y rfl ⟨rs.length, rfl, ⟨by omega, by omega⟩, fun c c1 c2 => ⟨rs, rfl, c1, c2, by rw [sizeLine_eq]; omega, _, List.getElem?_eq_getElem (by omega), by rw [sizeLine_eq]; omega, next _ _ ⟨rs.eraseIdx c.toNat, by simp; omega, by rw [List.length_eraseIdx_of_lt (by omega)]; omega, fun y hy => ?_, fun y hy => hr y (List.mem_of_mem_eraseIdx hy), rfl⟩⟩⟩
      rcases List.mem_append.mp hy with hy | hy
      · exact ha y hy
      · rw [List.mem_singleton.mp hy]; exact hr _ (List.getElem_mem _)
    · rintro acc ρ ⟨rs, hal, hrl, ha, hr, rfl⟩
      rw [rngD_length] at hal
      exact hq acc (by omega) ha
  · skip
    refine ⟨⟨by omega, by omega⟩, dLcGo_of _ (fun j acc ρ => ∃ rs : List D, acc.length = j ∧ rs.length + j = xs.length ∧ (∀ y ∈ acc, y ∈ xs) ∧ (∀ y ∈ rs, y ∈ xs) ∧ ρ = [some .src, some (.bo (.tuple xs)), some (.ow (.list rs)), none]) ⟨xs, rfl, rfl, (fun _ h => nomatch h), (fun _ h => h), rfl⟩ ?_ ?_⟩
    · rintro j x acc ρ k hx ⟨rs, hal, hrl, ha, hr, rfl⟩ next
      have hj : j < (rngD 0 (xs.length : Int).toNat).length := (List.getElem?_eq_some_iff.mp hx).1
      rw [rngD_length] at hj
      refine useB_y rfl ⟨rs.length, rfl, ⟨by omega, by omega⟩, fun c c1 c2 => ⟨rs, rfl, c1, c2, by rw [sizeLine_eq]; omega, _, List.getElem?_eq_getElem (by omega), by rw [sizeLine_eq]; omega, next _ _ ⟨rs.eraseIdx c.toNat, by simp; omega, by rw [List.length_eraseIdx_of_lt (by omega)]; omega, fun y hy => ?_, fun y hy => hr y (List.mem_of_mem_eraseIdx hy), rfl⟩⟩⟩
      rcases List.mem_append.mp hy with hy | hy
      · exact ha y hy
      · rw [List.mem_singleton.mp hy]; exact hr _ (List.getElem_mem _)
    · rintro acc ρ ⟨rs, hal, hrl, ha, hr, rfl⟩
      rw [rngD_length] at hal
      exact hq acc (by omega) ha
abbrev s_law_names : Stmt := topS 24
abbrev n_law_names : List Str := ["_law_source_here", "_law_many", "_law_letter", "_law_some", "_law_one"]
theorem sc_law_names : FnScope n_law_names ["_law_source_here", "_law_many", "_law_letter"] (C8.fnScope s_law_names) := C8.fnScope_by (by decide +kernel)
theorem ok_law_names {a : Addr} {fd : FuncData} (F : C8.Def K mg "_law_names" s_law_names a fd) (b : Binds K fd ["_law_source_here", "_law_many", "_law_letter"] []) (T : Txt mg) (c_law_mixed : CalG P w K mg base 2 "_law_mixed" (spD K [.src, .bo] (Cmixed))) : CalG P w K mg base (3) "_law_names" (spD K [.src, .bo, .bo] (Cnam2)) := by
  refine calG F b sc_law_names rfl (fun cdv A outer s H E hA hr => ?_)
  have hu := huOf hr
  have hu64 := hr.units
  refine ⟨_, _, (pss_cons (ps_asg (pe_lst (pa_cons pe_str (pa_cons pe_str (pa_cons pe_str (pa_cons pe_str (pa_cons pe_str (pa_cons pe_str (pa_cons pe_str (pa_cons pe_str (pa_cons pe_str (pa_cons pe_str (pa_cons pe_str (pa_cons pe_str pa_nil))))))))))))) (pg_name (i := 3) sc_law_names.nd rfl (by first | exact Or.inl rfl | exact Or.inr rfl)))
      (pss_one (ps_ret (pe_lc rfl sc_law_names.nd (k_iany (K := K) rfl (pe_slice (k_sl (K := K) rfl) (pe_cG c_law_mixed hA hr (by first | decide | omega) rfl (pa_cons (pv 0) (pa_cons (pv 3) pa_nil))) po_none (po_some (pv 1)))) (blkOk_by (own := [("_law_one", 4)]) (N := n_law_names) (sc := C8.fnScope s_law_names) (by decide +kernel)) (fun _ _ _ _ _ => (pg_name (i := 4) sc_law_names.nd rfl (by first | exact Or.inl rfl | exact Or.inr rfl))) (fun _ _ _ _ _ => pts_nil) (fun _ _ _ _ _ => (pe_op (k_add (K := K) rfl) (pv 2) (pv 4))))))),
   (ls_seq (ls_asg (le_lst (la_cons le_str (la_cons le_str (la_cons le_str (la_cons le_str (la_cons le_str (la_cons le_str (la_cons le_str (la_cons le_str (la_cons le_str (la_cons le_str (la_cons le_str (la_cons le_str la_nil))))))))))))) lg_name)
      (ls_ret (le_lc (li_any (le_sl (le_call (la_cons le_var (la_cons le_var la_nil))) lo_none (lo_some le_var))) lg_name (lgw_name (by decide)) lt_yes (le_op le_var le_var ol_add)))), ?_⟩
  intro ds Qc h
  obtain ⟨n, l, rfl, hn, hll, hq⟩ := h
  refine ⟨Nat.le_of_ble_eq_true rfl, _, _, rfl, .inl rfl, Nat.le_of_ble_eq_true rfl, fun ys hl hm => ?_⟩
  have hys : ∀ y ∈ ys, ∃ s : Str, y = .str s ∧ s.length ≤ 100 := fun y hy => by
    have := hm y hy
    simp only [List.mem_cons, List.mem_nil_iff, or_false] at this
    rcases this with h | h | h | h | h | h | h | h | h | h | h | h
    all_goals exact ⟨_, h, by decide⟩
  have hl : ys.length = 12 := hl
  have hcl : (cutD ys none (some (n : Int))).length = n := by rw [cut_to, List.length_take]; omega
  refine dLcGo_each (cutD ys none (some (n : Int))) (fun _ d => ∃ s : Str, d = .str s ∧ True) (by rw [hcl, sizeLine_eq]; omega) (fun i x k hx q => ?_) (fun acc ha hp => ?_)
  · obtain ⟨s, rfl, hs⟩ := hys x (cutD_mem (List.mem_of_getElem? hx))
    exact ⟨by rw [sizeLine_eq]; omega, q _ ⟨_, rfl, trivial⟩⟩
  · obtain ⟨ss, rfl, hsl, _⟩ := maps_of hp
    exact hq ss (by omega)
abbrev s_law_laid : Stmt := topS 30
abbrev n_law_laid : List Str := ["_law_design", "_law_row", "_law_width"]
theorem sc_law_laid : FnScope n_law_laid ["_law_design", "_law_row", "_law_width"] (C8.fnScope s_law_laid) := C8.fnScope_by (by decide +kernel)
theorem ok_law_laid {a : Addr} {fd : FuncData} (F : C8.Def K mg "_law_laid" s_law_laid a fd) (b : Binds K fd ["_law_design", "_law_row", "_law_width"] []) (T : Txt mg) : CalG P w K mg base (1) "_law_laid" (spM K [.mu, .sh, .sh] (Claid)) := by
  refine calGM 0 F b sc_law_laid rfl (fun cdv A outer s H E hA hr => ?_)
  have hu := huOf hr
  have hu64 := hr.units
  refine ⟨_, _, (pss_cons (ps_expr (pe_bm PySem.F.plainAttrs_list PySem.F.slot_list_append PySem.F.type_list_append mt_append (pe_dget hu (pv 0) pe_str (fun _ _ => rfl)) (pa_cons (pv 1) pa_nil)))
      (pss_cons (ps_expr (pe_bm PySem.F.plainAttrs_list PySem.F.slot_list_append PySem.F.type_list_append mt_append (pe_dget hu (pv 0) pe_str (fun _ _ => rfl)) (pa_cons (pv 2) pa_nil)))
      (pss_one (ps_ret (pe_op op_sub (pe_callB (k_lenA (K := K) rfl) (by rfl) T.len (by decide +kernel) (pa_cons (pe_dget hu (pv 0) pe_str (fun _ _ => rfl)) pa_nil)) pe_int))))),
   (ls_seq (ls_appMi (le_muGetV (i := 0) le_str) le_var)
      (ls_seq (ls_appMi (le_muGetV (i := 0) le_str) le_var)
      (ls_ret (le_op (le_cb (la_cons (le_muGetV (i := 0) le_str) la_nil) cl_lenA) le_int ol_sub)))), ?_⟩
  intro ds m Qc h
  obtain ⟨rows, ws, r, w, rfl, rfl, hl, hle, hq⟩ := h
  have h1 : (rows.map Row.toD).length < sizeLine := by rw [List.length_map, sizeLine_eq]; omega
  have h2 : (nL ws).length < sizeLine := by rw [List.length_map, sizeLine_eq]; omega
  refine ⟨rfl, _, _, rfl, dzR _ _, _, _, rfl, rfl, _, _, rfl, rfl, h1, rfl, _, _, rfl, dzW _ _, _, _, rfl, rfl, _, _, rfl, rfl, h2, rfl, _, _, rfl, dzR _ _, _, rfl, ?_⟩
  show Qc (.fz (.int ((((rows.map Row.toD) ++ [r.toD]).length : Nat) - 1 : Int))) (.dl [(Sum.inr "rows", rows.map Row.toD ++ [r.toD]), (Sum.inr "widths", nL ws ++ [.int (w : Int)])])
  rw [dz_snoc, List.length_append, List.length_map, hle]
  simpa using hq
abbrev s_law_number : Stmt := topS 31
abbrev n_law_number : List Str := ["_law_source_here", "_law_width", "_law_full", "_law_some"]
theorem sc_law_number : FnScope n_law_number ["_law_source_here", "_law_width"] (C8.fnScope s_law_number) := C8.fnScope_by (by decide +kernel)
theorem ok_law_number {a : Addr} {fd : FuncData} (F : C8.Def K mg "_law_number" s_law_number a fd) (b : Binds K fd ["_law_source_here", "_law_width"] []) (T : Txt mg) (c_law_pick : CalG P w K mg base 1 "_law_pick" (spD K [.src, .bo] (Cpick))) (c_law_of : CalG P w K mg base 2 "_law_of" (spD K [.src, .bo] (Cof))) : CalG P w K mg base (3) "_law_number" (spD K [.src, .bo] (Cnumw)) := by
  refine calG F b sc_law_number rfl (fun cdv A outer s H E hA hr => ?_)
  have hu := huOf hr
  have hu64 := hr.units
  refine ⟨_, _, (pss_cons (ps_asg (pe_op op_shl pe_int (pv 1)) (pg_name (i := 2) sc_law_number.nd rfl (by first | exact Or.inl rfl | exact Or.inr rfl)))
      (pss_cons (ps_asg (pe_lst (pa_cons pe_int (pa_cons pe_int (pa_cons (pe_op op_sub (pv 2) pe_int) (pa_cons (pe_op op_shr (pv 2) pe_int) (pa_cons (pe_cG c_law_pick hA hr (by first | decide | omega) rfl (pa_cons (pv 0) (pa_cons pe_int pa_nil))) pa_nil)))))) (pg_name (i := 3) sc_law_number.nd rfl (by first | exact Or.inl rfl | exact Or.inr rfl)))
      (pss_cons (ps_expr (pe_bm PySem.F.plainAttrs_list PySem.F.slot_list_append PySem.F.type_list_append mt_append (pv 3) (pa_cons (pe_op (k_add (K := K) rfl) (pe_op op_mulA (pe_cG c_law_pick hA hr (by first | decide | omega) rfl (pa_cons (pv 0) (pa_cons pe_int pa_nil))) pe_int) (pe_cG c_law_pick hA hr (by first | decide | omega) rfl (pa_cons (pv 0) (pa_cons pe_int pa_nil)))) pa_nil)))
      (pss_one (ps_ret (pe_op op_modN (pe_callTy call_int1 (by rfl) T.int (by decide +kernel) (pa_cons (pe_cG c_law_of hA hr (by first | decide | omega) rfl (pa_cons (pv 0) (pa_cons (pv 3) pa_nil))) pa_nil)) (pv 2))))))),
   (ls_seq (ls_asg (le_op le_int le_var ol_shl) lg_name)
      (ls_seq (ls_asg (le_lst (la_cons le_int (la_cons le_int (la_cons (le_op le_var le_int ol_sub) (la_cons (le_op le_var le_int ol_shr) (la_cons (le_call (la_cons le_var (la_cons le_int la_nil))) la_nil)))))) lg_name)
      (ls_seq (ls_app (le_op (le_op (le_call (la_cons le_var (la_cons le_int la_nil))) le_int ol_mul) (le_call (la_cons le_var (la_cons le_int la_nil))) ol_add))
      (ls_ret (le_op (le_cb (la_cons (le_call (la_cons le_var (la_cons le_var la_nil))) la_nil) cl_int) le_var ol_mod))))), ?_⟩
  intro ds Qc h
  obtain ⟨w, rfl, hw, hq⟩ := h
  have hw2 := hw.2
  have hp : (0 : Int) < 1 * 2 ^ ((w : Nat) : Int).toNat := by rw [sh1]; exact two_pos w
  refine ⟨pw1 hw2, (by show (0 : Int) ≤ 1; decide), 8, rfl, ⟨by omega, by omega⟩, fun k h1 h2 => ⟨Nat.le_of_ble_eq_true rfl, 99991, rfl, ⟨by omega, by omega⟩, fun a a1 a2 => ⟨.inr ⟨by decide, by decide⟩, 97, rfl, ⟨by omega, by omega⟩, fun b b1 b2 => ⟨Nat.le_of_ble_eq_true rfl, _, .inl rfl, ⟨Nat.le_of_ble_eq_true rfl, Nat.le_of_ble_eq_true rfl⟩, fun x hx => ?_⟩⟩⟩⟩
  obtain ⟨i, rfl⟩ := mem_int rfl hx
  refine ⟨pw_ne w, ?_⟩
  have q := hq (i % 2 ^ w) (mod_rng w i)
  rw [← emod_of (w := w) (a := i) rfl] at q
  exact q
abbrev s_law_any_row : Stmt := topS 32
abbrev n_law_any_row : List Str := ["_law_source_here", "_law_design", "_law_width", "_law_some", "_law_size", "_law_rest", "_law_pair", "_law_k", "_law_one"]
theorem sc_law_any_row : FnScope n_law_any_row ["_law_source_here", "_law_design", "_law_width"] (C8.fnScope s_law_any_row) := C8.fnScope_by (by decide +kernel)
theorem ok_law_any_row {a : Addr} {fd : FuncData} (F : C8.Def K mg "_law_any_row" s_law_any_row a fd) (b : Binds K fd ["_law_source_here", "_law_design", "_law_width"] []) (T : Txt mg) (c_law_pick : CalG P w K mg base 1 "_law_pick" (spD K [.src, .bo] (Cpick))) (c_law_of : CalG P w K mg base 2 "_law_of" (spD K [.src, .bo] (Cof))) (c_law_laid : CalG P w K mg base 1 "_law_laid" (spM K [.mu, .sh, .sh] (Claid))) (c_law_number : CalG P w K mg base 3 "_law_number" (spD K [.src, .bo] (Cnumw))) : CalG P w K mg base (4) "_law_any_row" (spM K [.src, .mu, .bo] (Canyr)) := by
  refine calGM 1 F b sc_law_any_row rfl (fun cdv A outer s H E hA hr => ?_)
  have hu := huOf hr
  have hu64 := hr.units
  refine ⟨_, _, (pss_cons (ps_setLc (i := 3) rfl sc_law_any_row.nd rfl rfl (sw_true rfl rfl rfl (by decide +kernel)) (k_enum (K := K) rfl (by rfl) T.enumerate (pa_cons (pe_dget hu (pv 1) pe_str (fun _ _ => rfl)) pa_nil)) (blkOk_by (own := [("_law_k", 7), ("_law_one", 8)]) (N := n_law_any_row) (sc := C8.fnScope s_law_any_row) (by decide +kernel)) (fun _ _ _ _ _ => (k_gtup (n := 2) (K := K) rfl (by rfl) (pgs_cons (pg_name (i := 7) sc_law_any_row.nd rfl (by first | exact Or.inl rfl | exact Or.inr rfl)) (pgs_cons (pg_name (i := 8) sc_law_any_row.nd rfl (by first | exact Or.inl rfl | exact Or.inr rfl)) pgs_nil)))) (fun _ _ _ _ _ => (pts_one (pt_cmpR (k_eq (K := K) rfl hu64) (pv 8) (pv 2) (nomark _)))) (fun _ _ _ _ _ => (pv 7)))
      (pss_cons (ps_if (PW.pt (pw_and (pt_cmpR (k_ne (K := K) rfl hu64) (pv 3) (pe_lst pa_nil) (nomark _)) (pw_and1 (pt_cmpR op_gt (pe_cG c_law_pick hA hr (by first | decide | omega) rfl (pa_cons (pv 0) (pa_cons pe_int pa_nil))) pe_int (nomark _))))) (pss_one (ps_ret (pe_cG c_law_of hA hr (by first | decide | omega) rfl (pa_cons (pv 0) (pa_cons (pe_slice (k_sl (K := K) rfl) (pv 3) (po_some (pe_un un_neg pe_int)) po_none) pa_nil))))) pss_nil)
      (pss_cons (ps_if (PW.pt (pw_or (pt_cmpR (k_eq (K := K) rfl hu64) (pe_dget hu (pv 1) pe_str (fun _ _ => rfl)) (pe_lst pa_nil) (nomark _)) (pw_or1 (pt_cmpR (k_eq (K := K) rfl hu64) (pe_cG c_law_pick hA hr (by first | decide | omega) rfl (pa_cons (pv 0) (pa_cons pe_int pa_nil))) pe_int (nomark _))))) (pss_one (ps_ret (pe_cG c_law_laid hA hr (by first | decide | omega) rfl (pa_cons (pv 1) (pa_cons (pe_tup (pa_cons pe_str (pa_cons (pv 2) (pa_cons (pe_cG c_law_number hA hr (by first | decide | omega) rfl (pa_cons (pv 0) (pa_cons (pv 2) pa_nil))) pa_nil)))) (pa_cons (pv 2) pa_nil)))))) pss_nil)
      (pss_cons (ps_asg (pe_cG c_law_pick hA hr (by first | decide | omega) rfl (pa_cons (pv 0) (pa_cons (pe_callB (k_lenA (K := K) rfl) (by rfl) T.len (by decide +kernel) (pa_cons (pe_dget hu (pv 1) pe_str (fun _ _ => rfl)) pa_nil)) pa_nil))) (pg_name (i := 7) sc_law_any_row.nd rfl (by first | exact Or.inl rfl | exact Or.inr rfl)))
      (pss_cons (ps_asg (pe_ix (k_ix (K := K) rfl) (pe_dget hu (pv 1) pe_str (fun _ _ => rfl)) (pv 7) (fun _ _ => rfl)) (pg_name (i := 4) sc_law_any_row.nd rfl (by first | exact Or.inl rfl | exact Or.inr rfl)))
      (pss_cons (ps_if (pt_cmpR op_ge (pv 4) (pv 2) (nomark _)) (pss_one (ps_ret (pe_cG c_law_laid hA hr (by first | decide | omega) rfl (pa_cons (pv 1) (pa_cons (pe_tup (pa_cons pe_str (pa_cons (pv 7) (pa_cons (pe_cG c_law_pick hA hr (by first | decide | omega) rfl (pa_cons (pv 0) (pa_cons (pe_op (k_add (K := K) rfl) (pe_op op_sub (pv 4) (pv 2)) pe_int) pa_nil))) (pa_cons (pv 2) pa_nil))))) (pa_cons (pv 2) pa_nil)))))) pss_nil)
      (pss_cons (ps_asg (pe_cG c_law_laid hA hr (by first | decide | omega) rfl (pa_cons (pv 1) (pa_cons (pe_tup (pa_cons pe_str (pa_cons (pe_op op_sub (pv 2) (pv 4)) (pa_cons (pe_cG c_law_number hA hr (by first | decide | omega) rfl (pa_cons (pv 0) (pa_cons (pe_op op_sub (pv 2) (pv 4)) pa_nil))) pa_nil)))) (pa_cons (pe_op op_sub (pv 2) (pv 4)) pa_nil)))) (pg_name (i := 5) sc_law_any_row.nd rfl (by first | exact Or.inl rfl | exact Or.inr rfl)))
      (pss_cons (ps_asg (pe_ifExp (pt_cmpR (k_eq (K := K) rfl hu64) (pe_cG c_law_pick hA hr (by first | decide | omega) rfl (pa_cons (pv 0) (pa_cons pe_int pa_nil))) pe_int (nomark _)) (pe_lst (pa_cons (pv 5) (pa_cons (pv 7) pa_nil))) (pe_lst (pa_cons (pv 7) (pa_cons (pv 5) pa_nil)))) (pg_name (i := 6) sc_law_any_row.nd rfl (by first | exact Or.inl rfl | exact Or.inr rfl)))
      (pss_one (ps_ret (pe_cG c_law_laid hA hr (by first | decide | omega) rfl (pa_cons (pv 1) (pa_cons (pe_tup (pa_cons pe_str (pa_cons (pe_ix (k_ix (K := K) rfl) (pv 6) pe_int (fun _ _ => rfl)) (pa_cons (pe_ix (k_ix (K := K) rfl) (pv 6) pe_int (fun _ _ => rfl)) pa_nil)))) (pa_cons (pv 2) pa_nil)))))))))))))),
   (ls_seq (ls_asg (le_frzMu (i := 1) (le_lc (li_enum (la_cons (le_dget le_var le_str) la_nil)) (lg_tup (lgs_cons lg_name (lgs_cons lg_name lgs_nil))) (lgw_tup (lgsw_cons mog_name (mogs_cons mog_name mogs_nil) (lgw_name (by decide)) (lgsw_cons mog_name mogs_nil (lgw_name (by decide)) lgsw_nil))) (lt_test (le_op le_var le_var ol_eq)) le_var)) lg_name)
      (ls_seq (ls_if (lt_and (lt_test (le_op le_var (le_lst la_nil) ol_ne)) (lt_test (le_op (le_call (la_cons le_var (la_cons le_int la_nil))) le_int ol_gt))) (ls_ret (le_call (la_cons le_var (la_cons (le_sl le_var (lo_some (le_un le_int ul_neg)) lo_none) la_nil)))) ls_next)
      (ls_seq (ls_if (lt_or (lt_test (le_op (le_muGetV (i := 1) le_str) (le_lst la_nil) ol_eq)) (lt_test (le_op (le_call (la_cons le_var (la_cons le_int la_nil))) le_int ol_eq))) (ls_ret (le_callM (la_cons le_var (la_cons (le_tup (la_cons le_str (la_cons le_var (la_cons (le_call (la_cons le_var (la_cons le_var la_nil))) la_nil)))) (la_cons le_var la_nil))))) ls_next)
      (ls_seq (ls_asg (le_call (la_cons le_var (la_cons (le_cb (la_cons (le_muGetV (i := 1) le_str) la_nil) cl_lenA) la_nil))) lg_name)
      (ls_seq (ls_asg (le_op (le_muGetV (i := 1) le_str) le_var ol_ix) lg_name)
      (ls_seq (ls_if (lt_test (le_op le_var le_var ol_ge)) (ls_ret (le_callM (la_cons le_var (la_cons (le_tup (la_cons le_str (la_cons le_var (la_cons (le_call (la_cons le_var (la_cons (le_op (le_op le_var le_var ol_sub) le_int ol_add) la_nil))) (la_cons le_var la_nil))))) (la_cons le_var la_nil))))) ls_next)
      (ls_seq (ls_asg (le_callM (la_cons le_var (la_cons (le_tup (la_cons le_str (la_cons (le_op le_var le_var ol_sub) (la_cons (le_call (la_cons le_var (la_cons (le_op le_var le_var ol_sub) la_nil))) la_nil)))) (la_cons (le_op le_var le_var ol_sub) la_nil)))) lg_name)
      (ls_seq (ls_asg (le_if (lt_test (le_op (le_call (la_cons le_var (la_cons le_int la_nil))) le_int ol_eq)) (le_lst (la_cons le_var (la_cons le_var la_nil))) (le_lst (la_cons le_var (la_cons le_var la_nil)))) lg_name)
      (ls_ret (le_callM (la_cons le_var (la_cons (le_tup (la_cons le_str (la_cons (le_op le_var le_int ol_ix) (la_cons (le_op le_var le_int ol_ix) la_nil)))) (la_cons le_var la_nil))))))))))))), ?_⟩
  intro ds m Qc h
  obtain ⟨ins, regs, rows, ws, w, rfl, rfl, hR, hw, hl, hq⟩ := h
  have hlen := hR.len
  have hw2 := hw.2
  have hw1 := hw.1
  refine ⟨_, rfl, rfl, _, dzLW _ _, dLcGo_of (enumD (nL ws)) (fun i acc ρ => ∃ ns : List Nat, acc = nL ns ∧ (∀ k ∈ ns, ws[k]? = some w) ∧ ns.length ≤ i ∧ ρ = [some .src, some (.sh (mdD (dz rows ws))), some (.bo (.int (w : Int))), none, none, none, none, none, none]) ⟨[], rfl, (fun _ h => nomatch h), Nat.le_refl _, rfl⟩ ?_ ?_⟩
  · rintro i x acc ρ k hx ⟨ns, rfl, hns, hnl, rfl⟩ next
    obtain ⟨hi, rfl⟩ := get_enumW hx
    refine ⟨rfl, rfl, rfl, useB_b (fun h => ⟨by rw [List.length_map, sizeLine_eq]; omega, next _ _ ⟨ns ++ [i], nL_snoc _ _, fun j hj => ?_, by simp; omega, rfl⟩⟩) (fun h => next _ _ ⟨ns, rfl, hns, by omega, rfl⟩)⟩
    rcases List.mem_append.mp hj with hj | hj
    · exact hns j hj
    · rw [List.mem_singleton.mp hj]
      have h : (false != PyData.eqv (.int ((ws[i] : Nat) : Int)) (.int (w : Int))) = true := h
      rw [eqv_int, bne_false] at h
      have h : ((ws[i] : Nat) : Int) = w := of_decide_eq_true h
      rw [List.getElem?_eq_getElem hi]
      congr 1
      omega
  rintro acc ρ ⟨ns, rfl, hns, hnl, rfl⟩
  have hnl : ns.length ≤ 9990 := Nat.le_trans hnl (by simp [enumD]; omega)
  have hs1 : SH 1 (.list (nL ns)) := .list (.nL ns)
  have hs2 : SH 2 (.list (rows.map Row.toD)) := .list (.rows rows)
  have hs0 : SH 1 (.list []) := .list .nil
  refine ⟨scal_nL ns, Nat.le_of_ble_eq_true rfl, hs1.ok2 hs0 (by decide) (by decide), useB_b (fun hb => ⟨9, rfl, ⟨by omega, by omega⟩, fun q q1 q2 => useB_d (fun g => ?ret) (fun g => ?_)⟩) (fun hb => useB_n rfl ?_)⟩
  case ret =>
    have hne : nL ns ≠ [] := fun e => by
      have hb : (true != PyData.eqv (.list (nL ns)) (.list [])) = true := hb
      rw [ne_nilL, e] at hb
      cases hb
    have hcl := cutD_le (nL ns) (some (-((5 : Nat) : Int))) none
    rw [List.length_map] at hcl
    refine ⟨_, .inl rfl, ⟨cut_back _ 5 hne (by decide), Nat.lt_of_le_of_lt hcl (by omega)⟩, fun x hx => ?_⟩
    obtain ⟨k, hk, rfl⟩ := mem_nL (cutD_mem hx)
    exact ⟨_, rfl, hq rows ws k hR (List.prefix_refl _) (by omega) (hns k hk)⟩
  all_goals
    refine ⟨rfl, _, _, rfl, dzR _ _, Nat.le_of_ble_eq_true rfl, hs2.ok2 hs0 (by decide) (by decide), useB_b (fun h0 => useB_y rfl ?_) (fun h0 => ⟨3, rfl, ⟨by omega, by omega⟩, fun q q1 q2 => ⟨rfl, useB_b (fun _ => ?_) (fun _ => ?_)⟩⟩)⟩
    · exact ⟨w, rfl, hw, fun v hv => ⟨Nat.le_of_ble_eq_true rfl, _, _, rfl, rfl, rows, ws, .word w v, w, rfl, rfl, by omega, hlen, ⟨_, rfl, hq _ _ _ (hR.snoc ⟨rfl, hv.1, hv.2⟩ hw) (pre_snoc _ _) (by simp) (at_last _ _)⟩⟩⟩
    · exact ⟨w, rfl, hw, fun v hv => ⟨Nat.le_of_ble_eq_true rfl, _, _, rfl, rfl, rows, ws, .word w v, w, rfl, rfl, by omega, hlen, ⟨_, rfl, hq _ _ _ (hR.snoc ⟨rfl, hv.1, hv.2⟩ hw) (pre_snoc _ _) (by simp) (at_last _ _)⟩⟩⟩
    have hne : 1 ≤ rows.length := by
      have h0 : (false != PyData.eqv (.list (rows.map Row.toD)) (.list [])) = false := h0
      rw [eq_nilL] at h0
      cases rows with
      | nil => cases h0
      | cons => simp
    refine ⟨rfl, _, _, rfl, dzR _ _, (rows.length : Int), ?_, ⟨by omega, by omega⟩, fun q q1 q2 => ?_⟩
    · show [PyData.none, PyData.int (((rows.map Row.toD).length : Nat) : Int)] = _
      rw [List.length_map]
    obtain ⟨k, rfl⟩ := Int.eq_ofNat_of_zero_le q1
    have hk2 : k < ws.length := by omega
    have hkx := List.getElem?_eq_getElem hk2
    have hxo := hR.ok _ (List.getElem_mem hk2)
    generalize ws[k] = x at hkx hxo
    have hx2 := hxo.2
    refine ⟨rfl, _, _, rfl, dzW _ _, trivial, _, atI_nL hkx, useB_d (fun h => ?_) (fun h => ?_)⟩
    · refine ⟨(x : Int) - w + 1, rfl, ⟨by omega, by omega⟩, fun q q1 q2 => ?_⟩
      obtain ⟨lo, rfl⟩ := Int.eq_ofNat_of_zero_le q1
      exact ⟨Nat.le_of_ble_eq_true rfl, _, _, rfl, rfl, rows, ws, .cut k lo w, w, rfl, rfl, by omega, hlen, ⟨_, rfl, hq _ _ _ (hR.snoc ⟨rfl, x, hkx, by omega⟩ hw) (pre_snoc _ _) (by simp) (at_last _ _)⟩⟩
    · obtain ⟨y, rfl⟩ : ∃ y, w = y + x := ⟨w - x, by omega⟩
      have e : (((y + x : Nat) : Int) - (x : Int)) = (y : Int) := by omega
      have hy : wOk y := ⟨by omega, by omega⟩
      refine ⟨y, congrArg (fun z => [PyData.none, PyData.int z]) e, hy, fun v hv => ⟨Nat.le_of_ble_eq_true rfl, _, _, rfl, rfl, rows, ws, .word y v, y, ?_, rfl, by omega, hlen, ?_⟩⟩
      · show [PyData.none, PyData.tuple [.str "word", .int (((y + x : Nat) : Int) - (x : Int)), .int v], .int (((y + x : Nat) : Int) - (x : Int))] = _
        rw [e]
        rfl
      have hR2 := hR.snoc (r := .word y v) ⟨rfl, hv.1, hv.2⟩ hy
      refine ⟨2, rfl, ⟨by omega, by omega⟩, fun c c1 c2 => ⟨rfl, useB_b (fun _ => ?_) (fun _ => ?_)⟩⟩
      · exact ⟨Nat.le_of_ble_eq_true rfl, trivial, _, atI0, trivial, _, atI1, Nat.le_of_ble_eq_true rfl, _, _, rfl, rfl, rows ++ [.word y v], ws ++ [y], .join ws.length k, y + x, rfl, rfl, by simp; omega, hR2.len, ⟨_, rfl, hq _ _ _ (hR2.snoc (r := .join ws.length k) (w := y + x) ⟨y, x, at_last _ _, pre_at (pre_snoc _ _) hkx, rfl⟩ hw) ((pre_snoc _ _).trans (pre_snoc _ _)) (by simp) (at_last _ _)⟩⟩
      · exact ⟨Nat.le_of_ble_eq_true rfl, trivial, _, atI0, trivial, _, atI1, Nat.le_of_ble_eq_true rfl, _, _, rfl, rfl, rows ++ [.word y v], ws ++ [y], .join k ws.length, y + x, rfl, rfl, by simp; omega, hR2.len, ⟨_, rfl, hq _ _ _ (hR2.snoc (r := .join k ws.length) (w := y + x) ⟨x, y, pre_at (pre_snoc _ _) hkx, at_last _ _, by omega⟩ hw) ((pre_snoc _ _).trans (pre_snoc _ _)) (by simp) (at_last _ _)⟩⟩
end
end K22

set_option Elab.async false
set_option linter.all false
set_option maxRecDepth 100000
set_option maxHeartbeats 4000000
set_option autoImplicit false
set_option pp.maxSteps 1000
namespace K22
open PySem L2 DL
section
variable {P : Program} {w : World} {K : PySem.W.Frag} {mg : Str → Option Value} {base : Heap}
abbrev s_law_draw_row : Stmt := topS 33
abbrev n_law_draw_row : List Str := ["_law_source_here", "_law_design", "_law_wide", "_law_some", "_law_word", "_law_width", "_law_a", "_law_low", "_law_size", "_law_b"]
theorem sc_law_draw_row : FnScope n_law_draw_row ["_law_source_here", "_law_design", "_law_wide"] (C8.fnScope s_law_draw_row) := C8.fnScope_by (by decide +kernel)
theorem ok_law_draw_row {a : Addr} {fd : FuncData} (F : C8.Def K mg "_law_draw_row" s_law_draw_row a fd) (b : Binds K fd ["_law_source_here", "_law_design", "_law_wide"] []) (T : Txt mg) (c_law_pick : CalG P w K mg base 1 "_law_pick" (spD K [.src, .bo] (Cpick))) (c_law_of : CalG P w K mg base 2 "_law_of" (spD K [.src, .bo] (Cof))) (c_law_laid : CalG P w K mg base 1 "_law_laid" (spM K [.mu, .sh, .sh] (Claid))) (c_law_any_row : CalG P w K mg base 4 "_law_any_row" (spM K [.src, .mu, .bo] (Canyr))) : CalG P w K mg base (5) "_law_draw_row" (spM K [.src, .mu, .bo] (Cdrow2)) := by
  refine calGM 1 F b sc_law_draw_row rfl (fun cdv A outer s H E hA hr => ?_)
  have hu := huOf hr
  have hu64 := hr.units
  refine ⟨_, _, (pss_cons (ps_asg (pe_lst (pa_cons pe_str (pa_cons pe_str (pa_cons pe_str (pa_cons pe_str (pa_cons pe_str (pa_cons pe_str (pa_cons pe_str (pa_cons pe_str (pa_cons pe_str (pa_cons pe_str (pa_cons pe_str (pa_cons pe_str (pa_cons pe_str pa_nil)))))))))))))) (pg_name (i := 3) sc_law_draw_row.nd rfl (by first | exact Or.inl rfl | exact Or.inr rfl)))
      (pss_cons (ps_asg (pe_op (k_add (K := K) rfl) (pv 3) (pe_lst (pa_cons pe_str (pa_cons pe_str (pa_cons pe_str (pa_cons pe_str (pa_cons pe_str (pa_cons pe_str (pa_cons pe_str (pa_cons pe_str pa_nil)))))))))) (pg_name (i := 3) sc_law_draw_row.nd rfl (by first | exact Or.inl rfl | exact Or.inr rfl)))
      (pss_cons (ps_par (i := 4) (j := 5) (by rfl) sc_law_draw_row.nd rfl rfl (by decide) rfl rfl (pa_cons (pe_cG c_law_of hA hr (by first | decide | omega) rfl (pa_cons (pv 0) (pa_cons (pv 3) pa_nil))) (pa_cons (pe_op (k_add (K := K) rfl) pe_int (pe_cG c_law_pick hA hr (by first | decide | omega) rfl (pa_cons (pv 0) (pa_cons (pv 2) pa_nil)))) pa_nil)) (by rfl))
      (pss_cons (ps_asg (pe_cG c_law_any_row hA hr (by first | decide | omega) rfl (pa_cons (pv 0) (pa_cons (pv 1) (pa_cons (pv 5) pa_nil)))) (pg_name (i := 6) sc_law_draw_row.nd rfl (by first | exact Or.inl rfl | exact Or.inr rfl)))
      (pss_cons (ps_if (pt_cmpR (k_in (K := K) rfl) (pv 4) (pe_tup (pa_cons pe_str (pa_cons pe_str (pa_cons pe_str (pa_cons pe_str pa_nil))))) (by with_unfolding_all rfl)) (pss_one (ps_ret (pe_cG c_law_laid hA hr (by first | decide | omega) rfl (pa_cons (pv 1) (pa_cons (pe_tup (pa_cons (pv 4) (pa_cons (pv 6) pa_nil))) (pa_cons (pe_ifExp (pt_cmpR (k_eq (K := K) rfl hu64) (pv 4) pe_str (nomark _)) (pv 5) pe_int) pa_nil)))))) pss_nil)
      (pss_cons (ps_if (pt_cmpR (k_eq (K := K) rfl hu64) (pv 4) pe_str (nomark _)) (pss_cons (ps_asg (pe_cG c_law_pick hA hr (by first | decide | omega) rfl (pa_cons (pv 0) (pa_cons (pv 5) pa_nil))) (pg_name (i := 7) sc_law_draw_row.nd rfl (by first | exact Or.inl rfl | exact Or.inr rfl)))
      (pss_cons (ps_asg (pe_op (k_add (K := K) rfl) pe_int (pe_cG c_law_pick hA hr (by first | decide | omega) rfl (pa_cons (pv 0) (pa_cons (pe_op op_sub (pv 5) (pv 7)) pa_nil)))) (pg_name (i := 8) sc_law_draw_row.nd rfl (by first | exact Or.inl rfl | exact Or.inr rfl)))
      (pss_one (ps_ret (pe_cG c_law_laid hA hr (by first | decide | omega) rfl (pa_cons (pv 1) (pa_cons (pe_tup (pa_cons pe_str (pa_cons (pv 6) (pa_cons (pv 7) (pa_cons (pv 8) pa_nil))))) (pa_cons (pv 8) pa_nil)))))))) pss_nil)
      (pss_cons (ps_if (pt_cmpR (k_in (K := K) rfl) (pv 4) (pe_tup (pa_cons pe_str (pa_cons pe_str (pa_cons pe_str pa_nil)))) (by with_unfolding_all rfl)) (pss_cons (ps_asg (pe_cG c_law_any_row hA hr (by first | decide | omega) rfl (pa_cons (pv 0) (pa_cons (pv 1) (pa_cons (pe_op (k_add (K := K) rfl) pe_int (pe_cG c_law_pick hA hr (by first | decide | omega) rfl (pa_cons (pv 0) (pa_cons pe_int pa_nil)))) pa_nil)))) (pg_name (i := 9) sc_law_draw_row.nd rfl (by first | exact Or.inl rfl | exact Or.inr rfl)))
      (pss_one (ps_ret (pe_cG c_law_laid hA hr (by first | decide | omega) rfl (pa_cons (pv 1) (pa_cons (pe_tup (pa_cons (pv 4) (pa_cons (pv 6) (pa_cons (pv 9) pa_nil)))) (pa_cons (pe_ifExp (pt_cmpR (k_eq (K := K) rfl hu64) (pv 4) pe_str (nomark _)) pe_int (pv 5)) pa_nil))))))) pss_nil)
      (pss_cons (ps_if (pt_cmpR (k_eq (K := K) rfl hu64) (pv 4) pe_str (nomark _)) (pss_cons (ps_asg (pe_op (k_add (K := K) rfl) pe_int (pe_cG c_law_pick hA hr (by first | decide | omega) rfl (pa_cons (pv 0) (pa_cons (pv 2) pa_nil)))) (pg_name (i := 8) sc_law_draw_row.nd rfl (by first | exact Or.inl rfl | exact Or.inr rfl)))
      (pss_one (ps_ret (pe_cG c_law_laid hA hr (by first | decide | omega) rfl (pa_cons (pv 1) (pa_cons (pe_tup (pa_cons pe_str (pa_cons (pv 6) (pa_cons (pe_cG c_law_any_row hA hr (by first | decide | omega) rfl (pa_cons (pv 0) (pa_cons (pv 1) (pa_cons (pv 8) pa_nil)))) pa_nil)))) (pa_cons (pe_op (k_add (K := K) rfl) (pv 5) (pv 8)) pa_nil))))))) pss_nil)
      (pss_cons (ps_asg (pe_cG c_law_any_row hA hr (by first | decide | omega) rfl (pa_cons (pv 0) (pa_cons (pv 1) (pa_cons (pv 5) pa_nil)))) (pg_name (i := 9) sc_law_draw_row.nd rfl (by first | exact Or.inl rfl | exact Or.inr rfl)))
      (pss_cons (ps_if (pt_cmpR (k_eq (K := K) rfl hu64) (pv 4) pe_str (nomark _)) (pss_one (ps_ret (pe_cG c_law_laid hA hr (by first | decide | omega) rfl (pa_cons (pv 1) (pa_cons (pe_tup (pa_cons pe_str (pa_cons (pe_cG c_law_any_row hA hr (by first | decide | omega) rfl (pa_cons (pv 0) (pa_cons (pv 1) (pa_cons pe_int pa_nil)))) (pa_cons (pv 6) (pa_cons (pv 9) pa_nil))))) (pa_cons (pv 5) pa_nil)))))) pss_nil)
      (pss_one (ps_ret (pe_cG c_law_laid hA hr (by first | decide | omega) rfl (pa_cons (pv 1) (pa_cons (pe_tup (pa_cons (pv 4) (pa_cons (pv 6) (pa_cons (pv 9) pa_nil)))) (pa_cons (pe_ifExp (pt_cmpR (k_in (K := K) rfl) (pv 4) (pe_tup (pa_cons pe_str (pa_cons pe_str pa_nil))) (by with_unfolding_all rfl)) pe_int (pv 5)) pa_nil)))))))))))))))),
   (ls_seq (ls_asg (le_lst (la_cons le_str (la_cons le_str (la_cons le_str (la_cons le_str (la_cons le_str (la_cons le_str (la_cons le_str (la_cons le_str (la_cons le_str (la_cons le_str (la_cons le_str (la_cons le_str (la_cons le_str la_nil)))))))))))))) lg_name)
      (ls_seq (ls_asg (le_op le_var (le_lst (la_cons le_str (la_cons le_str (la_cons le_str (la_cons le_str (la_cons le_str (la_cons le_str (la_cons le_str (la_cons le_str la_nil))))))))) ol_add) lg_name)
      (ls_seq (ls_par (le_call (la_cons le_var (la_cons le_var la_nil))) (le_op le_int (le_call (la_cons le_var (la_cons le_var la_nil))) ol_add))
      (ls_seq (ls_asg (le_callM (la_cons le_var (la_cons le_var (la_cons le_var la_nil)))) lg_name)
      (ls_seq (ls_if (lt_test (le_op le_var (le_tup (la_cons le_str (la_cons le_str (la_cons le_str (la_cons le_str la_nil))))) ol_in)) (ls_ret (le_callM (la_cons le_var (la_cons (le_tup (la_cons le_var (la_cons le_var la_nil))) (la_cons (le_if (lt_test (le_op le_var le_str ol_eq)) le_var le_int) la_nil))))) ls_next)
      (ls_seq (ls_if (lt_test (le_op le_var le_str ol_eq)) (ls_seq (ls_asg (le_call (la_cons le_var (la_cons le_var la_nil))) lg_name)
      (ls_seq (ls_asg (le_op le_int (le_call (la_cons le_var (la_cons (le_op le_var le_var ol_sub) la_nil))) ol_add) lg_name)
      (ls_ret (le_callM (la_cons le_var (la_cons (le_tup (la_cons le_str (la_cons le_var (la_cons le_var (la_cons le_var la_nil))))) (la_cons le_var la_nil))))))) ls_next)
      (ls_seq (ls_if (lt_test (le_op le_var (le_tup (la_cons le_str (la_cons le_str (la_cons le_str la_nil)))) ol_in)) (ls_seq (ls_asg (le_callM (la_cons le_var (la_cons le_var (la_cons (le_op le_int (le_call (la_cons le_var (la_cons le_int la_nil))) ol_add) la_nil)))) lg_name)
      (ls_ret (le_callM (la_cons le_var (la_cons (le_tup (la_cons le_var (la_cons le_var (la_cons le_var la_nil)))) (la_cons (le_if (lt_test (le_op le_var le_str ol_eq)) le_int le_var) la_nil)))))) ls_next)
      (ls_seq (ls_if (lt_test (le_op le_var le_str ol_eq)) (ls_seq (ls_asg (le_op le_int (le_call (la_cons le_var (la_cons le_var la_nil))) ol_add) lg_name)
      (ls_ret (le_callM (la_cons le_var (la_cons (le_tup (la_cons le_str (la_cons le_var (la_cons (le_callM (la_cons le_var (la_cons le_var (la_cons le_var la_nil)))) la_nil)))) (la_cons (le_op le_var le_var ol_add) la_nil)))))) ls_next)
      (ls_seq (ls_asg (le_callM (la_cons le_var (la_cons le_var (la_cons le_var la_nil)))) lg_name)
      (ls_seq (ls_if (lt_test (le_op le_var le_str ol_eq)) (ls_ret (le_callM (la_cons le_var (la_cons (le_tup (la_cons le_str (la_cons (le_callM (la_cons le_var (la_cons le_var (la_cons le_int la_nil)))) (la_cons le_var (la_cons le_var la_nil))))) (la_cons le_var la_nil))))) ls_next)
      (ls_ret (le_callM (la_cons le_var (la_cons (le_tup (la_cons le_var (la_cons le_var (la_cons le_var la_nil)))) (la_cons (le_if (lt_test (le_op le_var (le_tup (la_cons le_str (la_cons le_str la_nil))) ol_in)) le_int le_var) la_nil))))))))))))))), ?_⟩
  intro ds m Qc h
  obtain ⟨ins, regs, rows, ws, wide, rfl, rfl, hR, ⟨hw1, hw2⟩, hl, hq⟩ := h
  have hlen := hR.len
  have fin : ∀ (rows1 : List Row) (ws1 : List Nat) (r : Row) (w2 : Nat), Rows ins regs rows1 ws1 → ws <+: ws1 → rows1.length ≤ rows.length + 6 → RowOk ins regs ws1 r w2 → wOk w2 → Qc (.fz (.int (ws1.length : Int))) (dz (rows1 ++ [r]) (ws1 ++ [w2])) := fun rows1 ws1 r w2 h1 h2 h3 h4 h5 => hq _ _ _ (h1.snoc h4 h5) (h2.trans (pre_snoc _ _)) (by simp; omega) (by have := h1.len; have := h2.length_le; simp; omega)
  refine ⟨Nat.le_of_ble_eq_true rfl, Nat.le_of_ble_eq_true rfl, Nat.le_of_ble_eq_true rfl, _, .inl rfl, ⟨Nat.le_of_ble_eq_true rfl, Nat.le_of_ble_eq_true rfl⟩, fun x hx => ⟨(wide : Int), rfl, ⟨by omega, by omega⟩, fun c c1 c2 => ?_⟩⟩
  obtain ⟨w, hwe⟩ : ∃ w : Nat, 1 + c = (w : Int) := ⟨(1 + c).toNat, by omega⟩
  have hw : wOk w := ⟨by omega, by omega⟩
  refine ⟨_, _, rfl, rfl, ins, regs, rows, ws, w, congrArg (fun z => [PyData.none, PyData.none, PyData.int z]) hwe, rfl, hR, hw, by omega, fun rows1 ws1 a hR1 hp1 hl1 ha => ?_⟩
  have hlen1 := hR1.len
  rcases words_in hx with ⟨o, rfl⟩ | rfl | ⟨o, rfl⟩ | rfl | rfl | ⟨o, rfl⟩
  · cases o with
    | not => exact ⟨Nat.le_of_ble_eq_true rfl, ⟨rfl, rfl⟩, useB_y (by (try dsimp only); decide +kernel) ⟨Nat.le_of_ble_eq_true rfl, rfl, useB_y (by (try dsimp only); decide +kernel) ⟨_, _, rfl, rfl, rows1, ws1, .un .not a, w, congrArg (fun z => [PyData.none, (Row.un .not a).toD, PyData.int z]) hwe, rfl, by omega, hlen1, ⟨_, rfl, fin _ _ _ _ hR1 hp1 (by omega) ha hw⟩⟩⟩⟩
    | all => exact ⟨Nat.le_of_ble_eq_true rfl, ⟨rfl, rfl⟩, useB_y (by (try dsimp only); decide +kernel) ⟨Nat.le_of_ble_eq_true rfl, rfl, useB_n (by (try dsimp only); decide +kernel) ⟨_, _, rfl, rfl, rows1, ws1, .un .all a, 1, rfl, rfl, by omega, hlen1, ⟨_, rfl, fin _ _ _ _ hR1 hp1 (by omega) ⟨rfl, _, ha⟩ wOk1⟩⟩⟩⟩
    | any => exact ⟨Nat.le_of_ble_eq_true rfl, ⟨rfl, rfl⟩, useB_y (by (try dsimp only); decide +kernel) ⟨Nat.le_of_ble_eq_true rfl, rfl, useB_n (by (try dsimp only); decide +kernel) ⟨_, _, rfl, rfl, rows1, ws1, .un .any a, 1, rfl, rfl, by omega, hlen1, ⟨_, rfl, fin _ _ _ _ hR1 hp1 (by omega) ⟨rfl, _, ha⟩ wOk1⟩⟩⟩⟩
    | odd => exact ⟨Nat.le_of_ble_eq_true rfl, ⟨rfl, rfl⟩, useB_y (by (try dsimp only); decide +kernel) ⟨Nat.le_of_ble_eq_true rfl, rfl, useB_n (by (try dsimp only); decide +kernel) ⟨_, _, rfl, rfl, rows1, ws1, .un .odd a, 1, rfl, rfl, by omega, hlen1, ⟨_, rfl, fin _ _ _ _ hR1 hp1 (by omega) ⟨rfl, _, ha⟩ wOk1⟩⟩⟩⟩
  · refine ⟨Nat.le_of_ble_eq_true rfl, ⟨rfl, rfl⟩, useB_n (by (try dsimp only); decide +kernel) ⟨rfl, useB_y (by (try dsimp only); decide +kernel) ⟨1 + c, rfl, ⟨by omega, by omega⟩, fun lo lo1 lo2 => ⟨1 + c - lo, rfl, ⟨by omega, by omega⟩, fun sz sz1 sz2 => ?_⟩⟩⟩⟩
    obtain ⟨lo, rfl⟩ := Int.eq_ofNat_of_zero_le lo1
    obtain ⟨s, hse⟩ : ∃ s : Nat, 1 + sz = (s : Int) := ⟨(1 + sz).toNat, by omega⟩
    exact ⟨Nat.le_of_ble_eq_true rfl, _, _, rfl, rfl, rows1, ws1, .cut a lo s, s, congrArg (fun z => [PyData.none, PyData.tuple [.str "cut", .int (a : Int), .int (lo : Int), .int z], PyData.int z]) hse, rfl, by omega, hlen1, ⟨_, rfl, fin _ _ _ _ hR1 hp1 (by omega) ⟨rfl, w, ha, by omega⟩ ⟨by omega, by omega⟩⟩⟩
  · have run : ∀ (sel : Bool) (w2 : Nat), True := fun _ _ => trivial
    cases o with
    | pick =>
      refine ⟨Nat.le_of_ble_eq_true rfl, ⟨rfl, rfl⟩, useB_n (by (try dsimp only); decide +kernel) ⟨rfl, useB_n (by (try dsimp only); decide +kernel) ⟨Nat.le_of_ble_eq_true rfl, ⟨rfl, rfl⟩, useB_y (by (try dsimp only); decide +kernel) ⟨4, rfl, ⟨by omega, by omega⟩, fun d d1 d2 => ?_⟩⟩⟩⟩
      obtain ⟨s, hse⟩ : ∃ s : Nat, 1 + d = (s : Int) := ⟨(1 + d).toNat, by omega⟩
      exact ⟨_, _, rfl, rfl, ins, regs, rows1, ws1, s, congrArg (fun z => [PyData.none, PyData.none, PyData.int z]) hse, rfl, hR1, ⟨by omega, by omega⟩, by omega, fun rows2 ws2 b hR2 hp2 hl2 hb => ⟨Nat.le_of_ble_eq_true rfl, rfl, useB_y (by (try dsimp only); decide +kernel) ⟨_, _, rfl, rfl, rows2, ws2, .mv .pick a b, 1, rfl, rfl, by omega, hR2.len, ⟨_, rfl, fin _ _ _ _ hR2 (hp1.trans hp2) (by omega) ⟨rfl, ⟨_, pre_at hp2 ha⟩, _, hb⟩ wOk1⟩⟩⟩⟩
    | shl =>
      refine ⟨Nat.le_of_ble_eq_true rfl, ⟨rfl, rfl⟩, useB_n (by (try dsimp only); decide +kernel) ⟨rfl, useB_n (by (try dsimp only); decide +kernel) ⟨Nat.le_of_ble_eq_true rfl, ⟨rfl, rfl⟩, useB_y (by (try dsimp only); decide +kernel) ⟨4, rfl, ⟨by omega, by omega⟩, fun d d1 d2 => ?_⟩⟩⟩⟩
      obtain ⟨s, hse⟩ : ∃ s : Nat, 1 + d = (s : Int) := ⟨(1 + d).toNat, by omega⟩
      exact ⟨_, _, rfl, rfl, ins, regs, rows1, ws1, s, congrArg (fun z => [PyData.none, PyData.none, PyData.int z]) hse, rfl, hR1, ⟨by omega, by omega⟩, by omega, fun rows2 ws2 b hR2 hp2 hl2 hb => ⟨Nat.le_of_ble_eq_true rfl, rfl, useB_n (by (try dsimp only); decide +kernel) ⟨_, _, rfl, rfl, rows2, ws2, .mv .shl a b, w, congrArg (fun z => [PyData.none, (Row.mv .shl a b).toD, PyData.int z]) hwe, rfl, by omega, hR2.len, ⟨_, rfl, fin _ _ _ _ hR2 (hp1.trans hp2) (by omega) ⟨pre_at hp2 ha, _, hb⟩ hw⟩⟩⟩⟩
    | shr =>
      refine ⟨Nat.le_of_ble_eq_true rfl, ⟨rfl, rfl⟩, useB_n (by (try dsimp only); decide +kernel) ⟨rfl, useB_n (by (try dsimp only); decide +kernel) ⟨Nat.le_of_ble_eq_true rfl, ⟨rfl, rfl⟩, useB_y (by (try dsimp only); decide +kernel) ⟨4, rfl, ⟨by omega, by omega⟩, fun d d1 d2 => ?_⟩⟩⟩⟩
      obtain ⟨s, hse⟩ : ∃ s : Nat, 1 + d = (s : Int) := ⟨(1 + d).toNat, by omega⟩
      exact ⟨_, _, rfl, rfl, ins, regs, rows1, ws1, s, congrArg (fun z => [PyData.none, PyData.none, PyData.int z]) hse, rfl, hR1, ⟨by omega, by omega⟩, by omega, fun rows2 ws2 b hR2 hp2 hl2 hb => ⟨Nat.le_of_ble_eq_true rfl, rfl, useB_n (by (try dsimp only); decide +kernel) ⟨_, _, rfl, rfl, rows2, ws2, .mv .shr a b, w, congrArg (fun z => [PyData.none, (Row.mv .shr a b).toD, PyData.int z]) hwe, rfl, by omega, hR2.len, ⟨_, rfl, fin _ _ _ _ hR2 (hp1.trans hp2) (by omega) ⟨pre_at hp2 ha, _, hb⟩ hw⟩⟩⟩⟩
  · refine ⟨Nat.le_of_ble_eq_true rfl, ⟨rfl, rfl⟩, useB_n (by (try dsimp only); decide +kernel) ⟨rfl, useB_n (by (try dsimp only); decide +kernel) ⟨Nat.le_of_ble_eq_true rfl, ⟨rfl, rfl⟩, useB_n (by (try dsimp only); decide +kernel) ⟨rfl, useB_y (by (try dsimp only); decide +kernel) ⟨(wide : Int), rfl, ⟨by omega, by omega⟩, fun d d1 d2 => ?_⟩⟩⟩⟩⟩
    obtain ⟨s, hse⟩ : ∃ s : Nat, 1 + d = (s : Int) := ⟨(1 + d).toNat, by omega⟩
    have hsum : 1 + c + (1 + d) = ((w + s : Nat) : Int) := by omega
    exact ⟨_, _, rfl, rfl, ins, regs, rows1, ws1, s, congrArg (fun z => [PyData.none, PyData.none, PyData.int z]) hse, rfl, hR1, ⟨by omega, by omega⟩, by omega, fun rows2 ws2 b hR2 hp2 hl2 hb => ⟨Nat.le_of_ble_eq_true rfl, _, _, rfl, rfl, rows2, ws2, .join a b, w + s, congrArg (fun z => [PyData.none, (Row.join a b).toD, PyData.int z]) hsum, rfl, by omega, hR2.len, ⟨_, rfl, fin _ _ _ _ hR2 (hp1.trans hp2) (by omega) ⟨w, s, pre_at hp2 ha, hb, rfl⟩ ⟨by omega, by omega⟩⟩⟩⟩
  · refine ⟨Nat.le_of_ble_eq_true rfl, ⟨rfl, rfl⟩, useB_n (by (try dsimp only); decide +kernel) ⟨rfl, useB_n (by (try dsimp only); decide +kernel) ⟨Nat.le_of_ble_eq_true rfl, ⟨rfl, rfl⟩, useB_n (by (try dsimp only); decide +kernel) ⟨rfl, useB_n (by (try dsimp only); decide +kernel) ⟨_, _, rfl, rfl, ins, regs, rows1, ws1, w, congrArg (fun z => [PyData.none, PyData.none, PyData.int z]) hwe, rfl, hR1, hw, by omega, fun rows2 ws2 b hR2 hp2 hl2 hb => ?_⟩⟩⟩⟩⟩
    exact ⟨rfl, useB_y (by (try dsimp only); decide +kernel) ⟨_, _, rfl, rfl, ins, regs, rows2, ws2, 1, rfl, rfl, hR2, wOk1, by omega, fun rows3 ws3 e hR3 hp3 hl3 he => ⟨Nat.le_of_ble_eq_true rfl, _, _, rfl, rfl, rows3, ws3, .mux e a b, w, congrArg (fun z => [PyData.none, (Row.mux e a b).toD, PyData.int z]) hwe, rfl, by omega, hR3.len, ⟨_, rfl, fin _ _ _ _ hR3 ((hp1.trans hp2).trans hp3) (by omega) ⟨he, pre_at hp3 (pre_at hp2 ha), pre_at hp3 hb⟩ hw⟩⟩⟩⟩
  · have t1 : (false != ([PyData.str "not", .str "all", .str "any", .str "odd"].any fun z => PyData.eqv z (.str o.s))) = false := by cases o <;> decide +kernel
    have t2 : (false != PyData.eqv (.str o.s) (.str "cut")) = false := by cases o <;> decide +kernel
    have t3 : (false != ([PyData.str "pick", .str "shl", .str "shr"].any fun z => PyData.eqv z (.str o.s))) = false := by cases o <;> decide +kernel
    have t4 : (false != PyData.eqv (.str o.s) (.str "join")) = false := by cases o <;> decide +kernel
    have t5 : (false != PyData.eqv (.str o.s) (.str "mux")) = false := by cases o <;> decide +kernel
    have t6 : (false != ([PyData.str "eq", .str "lt"].any fun z => PyData.eqv z (.str o.s))) = o.cmp := by cases o <;> decide +kernel
    refine ⟨Nat.le_of_ble_eq_true rfl, ⟨rfl, rfl⟩, useB_n t1 ⟨rfl, useB_n t2 ⟨Nat.le_of_ble_eq_true rfl, ⟨rfl, rfl⟩, useB_n t3 ⟨rfl, useB_n t4 ⟨_, _, rfl, rfl, ins, regs, rows1, ws1, w, congrArg (fun z => [PyData.none, PyData.none, PyData.int z]) hwe, rfl, hR1, hw, by omega, fun rows2 ws2 b hR2 hp2 hl2 hb => ⟨rfl, useB_n t5 ⟨Nat.le_of_ble_eq_true rfl, Nat.le_of_ble_eq_true rfl, ⟨rfl, rfl⟩, ?_⟩⟩⟩⟩⟩⟩⟩
    cases hc : o.cmp with
    | true => exact useB_y (t6.trans hc) ⟨_, _, rfl, rfl, rows2, ws2, .bin o a b, 1, rfl, rfl, by omega, hR2.len, ⟨_, rfl, fin _ _ _ _ hR2 (hp1.trans hp2) (by omega) ⟨w, pre_at hp2 ha, hb, by rw [hc]; rfl⟩ wOk1⟩⟩
    | false => exact useB_n (t6.trans hc) ⟨_, _, rfl, rfl, rows2, ws2, .bin o a b, w, congrArg (fun z => [PyData.none, (Row.bin o a b).toD, PyData.int z]) hwe, rfl, by omega, hR2.len, ⟨_, rfl, fin _ _ _ _ hR2 (hp1.trans hp2) (by omega) ⟨w, pre_at hp2 ha, hb, by rw [hc]; rfl⟩ hw⟩⟩
end
end K22

set_option Elab.async false
set_option linter.all false
set_option maxRecDepth 100000
set_option maxHeartbeats 4000000
set_option autoImplicit false
set_option pp.maxSteps 1000
namespace K22
open PySem L2 DL
section
variable {P : Program} {w : World} {K : PySem.W.Frag} {mg : Str → Option Value} {base : Heap}
abbrev s_law_flat : Stmt := topS 34
abbrev n_law_flat : List Str := ["_law_source_here", "_law_many", "_law_wide", "_law_most", "_law_ins", "_law_regs", "_law_width", "_law_design", "_law_word", "_law_things", "_law_k", "_law_thing", "_law_lap", "_law_outs", "_law_size", "_law_name", "_law_reg"]
theorem sc_law_flat : FnScope n_law_flat ["_law_source_here", "_law_many", "_law_wide", "_law_most"] (C8.fnScope s_law_flat) := C8.fnScope_by (by decide +kernel)
theorem ok_law_flat {a : Addr} {fd : FuncData} (F : C8.Def K mg "_law_flat" s_law_flat a fd) (b : Binds K fd ["_law_source_here", "_law_many", "_law_wide", "_law_most"] []) (T : Txt mg) (c_law_names : CalG P w K mg base 3 "_law_names" (spD K [.src, .bo, .bo] (Cnam2))) (c_law_pick : CalG P w K mg base 1 "_law_pick" (spD K [.src, .bo] (Cpick))) (c_law_number : CalG P w K mg base 3 "_law_number" (spD K [.src, .bo] (Cnumw))) (c_law_laid : CalG P w K mg base 1 "_law_laid" (spM K [.mu, .sh, .sh] (Claid))) (c_law_draw_row : CalG P w K mg base 5 "_law_draw_row" (spM K [.src, .mu, .bo] (Cdrow2))) (c_law_any_row : CalG P w K mg base 4 "_law_any_row" (spM K [.src, .mu, .bo] (Canyr))) : CalG P w K mg base (6) "_law_flat" (spD K [.src, .bo, .bo, .bo] (Cflat3)) := by
  refine calG F b sc_law_flat rfl (fun cdv A outer s H E hA hr => ?_)
  have hu := huOf hr
  have hu64 := hr.units
  refine ⟨_, _, (pss_cons (ps_setLc (i := 4) rfl sc_law_flat.nd rfl rfl (sw_true rfl rfl rfl (by decide +kernel)) (k_iany (K := K) rfl (pe_cG c_law_names hA hr (by first | decide | omega) rfl (pa_cons (pv 0) (pa_cons (pe_cG c_law_pick hA hr (by first | decide | omega) rfl (pa_cons (pv 0) (pa_cons (pe_op (k_add (K := K) rfl) (pv 3) pe_int) pa_nil))) (pa_cons pe_str pa_nil))))) (blkOk_by (own := [("_law_name", 15)]) (N := n_law_flat) (sc := C8.fnScope s_law_flat) (by decide +kernel)) (fun _ _ _ _ _ => (pg_name (i := 15) sc_law_flat.nd rfl (by first | exact Or.inl rfl | exact Or.inr rfl))) (fun _ _ _ _ _ => pts_nil) (fun _ _ _ _ _ => (pe_tup (pa_cons (pv 15) (pa_cons (pe_op (k_add (K := K) rfl) pe_int (pe_cG c_law_pick hA hr (by first | decide | omega) rfl (pa_cons (pv 0) (pa_cons (pv 2) pa_nil)))) pa_nil)))))
      (pss_cons (ps_asg (pe_lst pa_nil) (pg_name (i := 5) sc_law_flat.nd rfl (by first | exact Or.inl rfl | exact Or.inr rfl)))
      (pss_cons (ps_for PassesOwn.never rfl (k_iany (K := K) rfl (pe_cG c_law_names hA hr (by first | decide | omega) rfl (pa_cons (pv 0) (pa_cons (pe_cG c_law_pick hA hr (by first | decide | omega) rfl (pa_cons (pv 0) (pa_cons (pe_op (k_add (K := K) rfl) (pv 3) pe_int) pa_nil))) (pa_cons pe_str pa_nil))))) (pg_name (i := 15) sc_law_flat.nd rfl (by first | exact Or.inl rfl | exact Or.inr rfl))
      (pss_cons (ps_asg (pe_op (k_add (K := K) rfl) pe_int (pe_cG c_law_pick hA hr (by first | decide | omega) rfl (pa_cons (pv 0) (pa_cons (pv 2) pa_nil)))) (pg_name (i := 6) sc_law_flat.nd rfl (by first | exact Or.inl rfl | exact Or.inr rfl)))
      (pss_one (ps_expr (pe_bm PySem.F.plainAttrs_list PySem.F.slot_list_append PySem.F.type_list_append mt_append (pv 5) (pa_cons (pe_tup (pa_cons (pv 15) (pa_cons (pv 6) (pa_cons (pe_cG c_law_number hA hr (by first | decide | omega) rfl (pa_cons (pv 0) (pa_cons (pv 6) pa_nil))) pa_nil)))) pa_nil))))))
      (pss_cons (ps_asg (pe_disp (pps_cons pe_str (pe_lst pa_nil) (pps_cons pe_str (pe_lst pa_nil) pps_nil)) (by rfl) (by rfl) (fun z => by cases z) (by decide)) (pg_name (i := 7) sc_law_flat.nd rfl (by first | exact Or.inl rfl | exact Or.inr rfl)))
      (pss_cons (ps_for PassesOwn.never rfl (k_iany (K := K) rfl (pe_lst (pa_cons (pe_tup (pa_cons pe_str (pa_cons (pv 4) pa_nil))) (pa_cons (pe_tup (pa_cons pe_str (pa_cons (pv 5) pa_nil))) pa_nil)))) (k_gtup (n := 2) (K := K) rfl (by rfl) (pgs_cons (pg_name (i := 8) sc_law_flat.nd rfl (by first | exact Or.inl rfl | exact Or.inr rfl)) (pgs_cons (pg_name (i := 9) sc_law_flat.nd rfl (by first | exact Or.inl rfl | exact Or.inr rfl)) pgs_nil)))
      (pss_one (ps_for PassesOwn.never rfl (k_enum (K := K) rfl (by rfl) T.enumerate (pa_cons (pv 9) pa_nil)) (k_gtup (n := 2) (K := K) rfl (by rfl) (pgs_cons (pg_name (i := 10) sc_law_flat.nd rfl (by first | exact Or.inl rfl | exact Or.inr rfl)) (pgs_cons (pg_name (i := 11) sc_law_flat.nd rfl (by first | exact Or.inl rfl | exact Or.inr rfl)) pgs_nil)))
      (pss_one (ps_if (pt_cmpR op_gt (pe_cG c_law_pick hA hr (by first | decide | omega) rfl (pa_cons (pv 0) (pa_cons pe_int pa_nil))) pe_int (nomark _)) (pss_one (ps_expr (pe_cG c_law_laid hA hr (by first | decide | omega) rfl (pa_cons (pv 7) (pa_cons (pe_tup (pa_cons (pv 8) (pa_cons (pv 10) pa_nil))) (pa_cons (pe_ix (k_ix (K := K) rfl) (pv 11) pe_int (fun _ _ => rfl)) pa_nil)))))) pss_nil)))))
      (pss_cons (ps_for PassesOwn.never rfl (pi_range1 (by rfl) T.range (pa_cons (pv 1) pa_nil)) (pg_name (i := 12) sc_law_flat.nd rfl (by first | exact Or.inl rfl | exact Or.inr rfl))
      (pss_one (ps_expr (pe_cG c_law_draw_row hA hr (by first | decide | omega) rfl (pa_cons (pv 0) (pa_cons (pv 7) (pa_cons (pv 2) pa_nil)))))))
      (pss_cons (ps_setLc (i := 5) rfl sc_law_flat.nd rfl rfl (sw_true rfl rfl rfl (by decide +kernel)) (k_iany (K := K) rfl (pv 5)) (blkOk_by (own := [("_law_reg", 16)]) (N := n_law_flat) (sc := C8.fnScope s_law_flat) (by decide +kernel)) (fun _ _ _ _ _ => (pg_name (i := 16) sc_law_flat.nd rfl (by first | exact Or.inl rfl | exact Or.inr rfl))) (fun _ _ _ _ _ => pts_nil) (fun _ _ _ _ _ => (pe_op (k_add (K := K) rfl) (pv 16) (pe_tup (pa_cons (pe_cG c_law_any_row hA hr (by first | decide | omega) rfl (pa_cons (pv 0) (pa_cons (pv 7) (pa_cons (pe_ix (k_ix (K := K) rfl) (pv 16) pe_int (fun _ _ => rfl)) pa_nil)))) pa_nil)))))
      (pss_cons (ps_asg (pe_lst pa_nil) (pg_name (i := 13) sc_law_flat.nd rfl (by first | exact Or.inl rfl | exact Or.inr rfl)))
      (pss_cons (ps_for PassesOwn.never rfl (k_iany (K := K) rfl (pe_cG c_law_names hA hr (by first | decide | omega) rfl (pa_cons (pv 0) (pa_cons (pe_op (k_add (K := K) rfl) pe_int (pe_cG c_law_pick hA hr (by first | decide | omega) rfl (pa_cons (pv 0) (pa_cons pe_int pa_nil)))) (pa_cons pe_str pa_nil))))) (pg_name (i := 15) sc_law_flat.nd rfl (by first | exact Or.inl rfl | exact Or.inr rfl))
      (pss_cons (ps_asg (pe_callB (k_lenA (K := K) rfl) (by rfl) T.len (by decide +kernel) (pa_cons (pe_dget hu (pv 7) pe_str (fun _ _ => rfl)) pa_nil)) (pg_name (i := 14) sc_law_flat.nd rfl (by first | exact Or.inl rfl | exact Or.inr rfl)))
      (pss_cons (ps_if (pt_cmpR (k_eq (K := K) rfl hu64) (pv 14) pe_int (nomark _)) (pss_one (ps_asg (pe_op (k_add (K := K) rfl) pe_int (pe_cG c_law_laid hA hr (by first | decide | omega) rfl (pa_cons (pv 7) (pa_cons (pe_tup (pa_cons pe_str (pa_cons pe_int (pa_cons pe_int pa_nil)))) (pa_cons pe_int pa_nil))))) (pg_name (i := 14) sc_law_flat.nd rfl (by first | exact Or.inl rfl | exact Or.inr rfl)))) pss_nil)
      (pss_one (ps_expr (pe_bm PySem.F.plainAttrs_list PySem.F.slot_list_append PySem.F.type_list_append mt_append (pv 13) (pa_cons (pe_tup (pa_cons (pv 15) (pa_cons (pe_op op_sub (pe_op op_sub (pv 14) pe_int) (pe_cG c_law_pick hA hr (by first | decide | omega) rfl (pa_cons (pv 0) (pa_cons (pe_callB (call_min2 rfl) (by rfl) T.min (by decide +kernel) (pa_cons (pv 14) (pa_cons pe_int pa_nil))) pa_nil)))) pa_nil))) pa_nil)))))))
      (pss_one (ps_ret (pe_tup (pa_cons (pe_callTy (k_tupleA (K := K) rfl rfl) (by rfl) T.tuple (by decide +kernel) (pa_cons (pv 4) pa_nil)) (pa_cons (pe_callTy (k_tupleA (K := K) rfl rfl) (by rfl) T.tuple (by decide +kernel) (pa_cons (pv 13) pa_nil)) (pa_cons (pe_callTy (k_tupleA (K := K) rfl rfl) (by rfl) T.tuple (by decide +kernel) (pa_cons (pv 5) pa_nil)) (pa_cons (pe_callTy (k_tupleA (K := K) rfl rfl) (by rfl) T.tuple (by decide +kernel) (pa_cons (pe_dget hu (pv 7) pe_str (fun _ _ => rfl)) pa_nil)) pa_nil)))))))))))))))),
   (ls_seq (ls_asg (le_lc (li_any (le_call (la_cons le_var (la_cons (le_call (la_cons le_var (la_cons (le_op le_var le_int ol_add) la_nil))) (la_cons le_str la_nil))))) lg_name (lgw_name (by decide)) lt_yes (le_tup (la_cons le_var (la_cons (le_op le_int (le_call (la_cons le_var (la_cons le_var la_nil))) ol_add) la_nil)))) lg_name)
      (ls_seq (ls_asg (le_lst la_nil) lg_name)
      (ls_seq (ls_for (li_any (le_call (la_cons le_var (la_cons (le_call (la_cons le_var (la_cons (le_op le_var le_int ol_add) la_nil))) (la_cons le_str la_nil))))) lg_name
      (ls_seq (ls_asg (le_op le_int (le_call (la_cons le_var (la_cons le_var la_nil))) ol_add) lg_name)
      (ls_app (le_tup (la_cons le_var (la_cons le_var (la_cons (le_call (la_cons le_var (la_cons le_var la_nil))) la_nil)))))))
      (ls_muDisp (i := 7) (ls_seq (ls_for (li_any (le_lst (la_cons (le_tup (la_cons le_str (la_cons le_var la_nil))) (la_cons (le_tup (la_cons le_str (la_cons le_var la_nil))) la_nil)))) (lg_tup (lgs_cons lg_name (lgs_cons lg_name lgs_nil)))
      (ls_for (li_enum (la_cons le_var la_nil)) (lg_tup (lgs_cons lg_name (lgs_cons lg_name lgs_nil)))
      (ls_if (lt_test (le_op (le_call (la_cons le_var (la_cons le_int la_nil))) le_int ol_gt)) (ls_drop (le_callM (la_cons le_var (la_cons (le_tup (la_cons le_var (la_cons le_var la_nil))) (la_cons (le_op le_var le_int ol_ix) la_nil))))) ls_next)))
      (ls_seq (ls_for (li_rng1 (la_cons le_var la_nil)) lg_name
      (ls_drop (le_callM (la_cons le_var (la_cons le_var (la_cons le_var la_nil))))))
      (ls_seq (ls_asg (le_lc (li_any le_var) lg_name (lgw_name (by decide)) lt_yes (le_op le_var (le_tup (la_cons (le_callM (la_cons le_var (la_cons le_var (la_cons (le_op le_var le_int ol_ix) la_nil)))) la_nil)) ol_add)) lg_name)
      (ls_seq (ls_asg (le_lst la_nil) lg_name)
      (ls_seq (ls_for (li_any (le_call (la_cons le_var (la_cons (le_op le_int (le_call (la_cons le_var (la_cons le_int la_nil))) ol_add) (la_cons le_str la_nil))))) lg_name
      (ls_seq (ls_asg (le_cb (la_cons (le_muGetV (i := 7) le_str) la_nil) cl_lenA) lg_name)
      (ls_seq (ls_if (lt_test (le_op le_var le_int ol_eq)) (ls_asg (le_op le_int (le_callM (la_cons le_var (la_cons (le_tup (la_cons le_str (la_cons le_int (la_cons le_int la_nil)))) (la_cons le_int la_nil)))) ol_add) lg_name) ls_next)
      (ls_app (le_tup (la_cons le_var (la_cons (le_op (le_op le_var le_int ol_sub) (le_call (la_cons le_var (la_cons (le_cb (la_cons le_var (la_cons le_int la_nil)) cl_min2) la_nil))) ol_sub) la_nil)))))))
      (ls_ret (le_tup (la_cons (le_cb (la_cons le_var la_nil) cl_tupleA) (la_cons (le_cb (la_cons le_var la_nil) cl_tupleA) (la_cons (le_cb (la_cons le_var la_nil) cl_tupleA) (la_cons (le_cb (la_cons (le_muGetV (i := 7) le_str) la_nil) cl_tupleA) la_nil))))))))))))))), ?_⟩
  intro ds Qc h
  obtain ⟨many, wide, most, rfl, hm, ⟨hw1, hw2⟩, hmo, hq⟩ := h
  have wd : ∀ d : Int, 0 ≤ d → d < (wide : Int) → ∃ w : Nat, 1 + d = (w : Int) ∧ wOk w := fun d d1 d2 => ⟨(1 + d).toNat, by omega, by omega, by omega⟩
  refine ⟨(most : Int) + 1, rfl, ⟨by omega, by omega⟩, fun c c1 c2 => ?_⟩
  obtain ⟨n, rfl⟩ := Int.eq_ofNat_of_zero_le c1
  refine ⟨n, "i", rfl, by omega, by decide, fun ss hss => ?_⟩
  refine dLcGo_each (ss.map PyData.str) (fun _ d => ∃ p : Str × Nat, d = inD p ∧ wOk p.2) (by rw [List.length_map, sizeLine_eq]; omega) (fun i x k hx q => ?_) (fun acc hal hap => ?_)
  · obtain ⟨hi, rfl⟩ := get_strs hx
    refine ⟨(wide : Int), rfl, ⟨by omega, by omega⟩, fun d d1 d2 => ?_⟩
    obtain ⟨w, hwe, hwo⟩ := wd d d1 d2
    exact ⟨Nat.le_of_ble_eq_true rfl, q _ ⟨(ss[i], w), congrArg (fun z => PyData.tuple [.str ss[i], .int z]) hwe, hwo⟩⟩
  obtain ⟨is, rfl, hil, hio⟩ := maps_of hap
  have hil : is.length ≤ most := by rw [hil, hal, List.length_map]; omega
  refine ⟨Nat.le_of_ble_eq_true rfl, (most : Int) + 1, rfl, ⟨by omega, by omega⟩, fun c c1 c2 => ?_⟩
  clear hss hal hap
  obtain ⟨n, rfl⟩ := Int.eq_ofNat_of_zero_le c1
  refine ⟨n, "r", rfl, by omega, by decide, fun ss hss => ?_⟩
  refine dLoop_of (ss.map PyData.str) (fun i ρ => ∃ (rs : List (Str × Nat × Int)) (ds : List D) (o6 o15 : Option D), ds = rs.map reg3 ∧ rs.length = i ∧ (∀ p ∈ rs, wOk p.2.1 ∧ rng p.2.1 p.2.2) ∧ ρ = [some .src, some (.bo (.int (many : Int))), some (.bo (.int (wide : Int))), some (.bo (.int (most : Int))), some (.ow (.list (is.map inD))), some (.ow (.list ds)), o6.map Sl.sh, none, none, none, none, none, none, none, none, o15.map Sl.sh, none]) ⟨[], _, none, none, rfl, rfl, (fun _ h => nomatch h), rfl⟩ ?_ ?_
  · rintro i x ρ k hx ⟨rs, _, o6, o15, rfl, hrl, hro, rfl⟩ next
    obtain ⟨hi, rfl⟩ := get_strs hx
    refine ⟨(wide : Int), rfl, ⟨by omega, by omega⟩, fun d d1 d2 => ?_⟩
    obtain ⟨w, hwe, hwo⟩ := wd d d1 d2
    refine ⟨w, congrArg (fun z => [PyData.none, PyData.int z]) hwe, hwo, fun v hv => ⟨Nat.le_of_ble_eq_true rfl, by rw [List.length_map, sizeLine_eq]; omega, next _ ⟨rs ++ [(ss[i], w, v)], _, some _, some _, ?_, by simp; omega, fun p hp => ?_, rfl⟩⟩⟩
    · show rs.map reg3 ++ [.tuple [.str ss[i], .int (1 + d), .int v]] = _
      rw [hwe, List.map_append]
      rfl
    · rcases List.mem_append.mp hp with hp | hp
      · exact hro p hp
      · rw [List.mem_singleton.mp hp]; exact ⟨hwo, hv⟩
  rintro ρ ⟨rs, _, o6, o15, rfl, hrl, hro, rfl⟩
  rw [List.length_map, hss] at hrl
  have hrl : rs.length ≤ most := by omega
  clear hss
  have iwo : ∀ (ws : List Nat) (j : Nat) (hj : j < is.length), RowOk (is.map (·.2)) (rs.map (·.2.1)) ws (.inp j) (is[j]).2 := fun ws j hj => by
    show (is.map (·.2))[j]? = some _
    rw [List.getElem?_map, List.getElem?_eq_getElem hj]; rfl
  have rwo : ∀ (ws : List Nat) (j : Nat) (hj : j < rs.length), RowOk (is.map (·.2)) (rs.map (·.2.1)) ws (.reg j) (rs[j]).2.1 := fun ws j hj => by
    show (rs.map (·.2.1))[j]? = some _
    rw [List.getElem?_map, List.getElem?_eq_getElem hj]; rfl
  refine ⟨by cases o6 <;> cases o15 <;> rfl, Nat.le_of_ble_eq_true rfl, by decide, Nat.le_of_ble_eq_true rfl, Nat.le_of_ble_eq_true rfl, Nat.le_of_ble_eq_true rfl, dLoop_of _ (fun i ρ => ∃ (rows : List Row) (ws : List Nat) (o8 o9 o10 o11 : Option D), Dg (is.map (·.2)) (rs.map (·.2.1)) rows ws (i * (is.length + rs.length)) ∧ ρ = [some .src, some (.bo (.int (many : Int))), some (.bo (.int (wide : Int))), some (.bo (.int (most : Int))), some (.sh (.list (is.map inD))), some (.sh (.list (rs.map reg3))), o6.map Sl.sh, some (.mu (dz rows ws)), o8.map Sl.sh, o9.map Sl.sh, o10.map Sl.sh, o11.map Sl.sh, none, none, none, o15.map Sl.sh, none]) ⟨[], [], none, none, none, none, ⟨.nil, Nat.zero_le _⟩, rfl⟩ ?_ ?_⟩
  · rintro i x ρ k hx ⟨rows, ws, o8, o9, o10, o11, hD, rfl⟩ next
    have nx2 : ∀ (rows : List Row) (ws : List Nat) (o8 o9 o10 o11 : Option D), Dg (is.map (·.2)) (rs.map (·.2.1)) rows ws (i * (is.length + rs.length) + (is.length + rs.length)) → k [some .src, some (.bo (.int (many : Int))), some (.bo (.int (wide : Int))), some (.bo (.int (most : Int))), some (.sh (.list (is.map inD))), some (.sh (.list (rs.map reg3))), o6.map Sl.sh, some (.mu (dz rows ws)), o8.map Sl.sh, o9.map Sl.sh, o10.map Sl.sh, o11.map Sl.sh, none, none, none, o15.map Sl.sh, none] := fun rows ws o8 o9 o10 o11 hD => next _ ⟨rows, ws, o8, o9, o10, o11, by rw [Nat.add_mul, Nat.one_mul]; exact hD, rfl⟩
    have hi2 : i < 2 := (List.getElem?_eq_some_iff.mp hx).1
    have hbig : i * (is.length + rs.length) ≤ 1 * (is.length + rs.length) := Nat.mul_le_mul_right _ (by omega)
    rcases i with _ | _ | i
    · obtain rfl := (Option.some.inj hx).symm
      refine ⟨rfl, rfl, dLoop_of (enumD (is.map inD)) (fun j ρ => ∃ (rows : List Row) (ws : List Nat) (o10 o11 : Option D), Dg (is.map (·.2)) (rs.map (·.2.1)) rows ws (0 * (is.length + rs.length) + j) ∧ ρ = [some .src, some (.bo (.int (many : Int))), some (.bo (.int (wide : Int))), some (.bo (.int (most : Int))), some (.sh (.list (is.map inD))), some (.sh (.list (rs.map reg3))), o6.map Sl.sh, some (.mu (dz rows ws)), some (.sh (.str "in")), some (.sh (.list (is.map inD))), o10.map Sl.sh, o11.map Sl.sh, none, none, none, o15.map Sl.sh, none]) ⟨rows, ws, o10, o11, hD, rfl⟩ ?_ ?_⟩
      · rintro j x ρ k hx ⟨rows, ws, o10, o11, hD, rfl⟩ next
        obtain ⟨hj, rfl⟩ := get_enumM hx
        have hle := hD.le
        refine ⟨rfl, rfl, 8, rfl, ⟨by omega, by omega⟩, fun c c1 c2 => useB_d (fun _ => ?_) (fun _ => next _ ⟨rows, ws, some _, some _, hD.mono (by omega), rfl⟩)⟩
        exact ⟨Nat.le_of_ble_eq_true rfl, trivial, _, atI1, _, _, rfl, rfl, rows, ws, .inp j, (is[j]).2, rfl, rfl, by omega, hD.r.len, next _ ⟨rows ++ [.inp j], ws ++ [(is[j]).2], some _, some _, ⟨hD.r.snoc (iwo ws j hj) (hio _ (List.getElem_mem hj)), by simp; omega⟩, rfl⟩⟩
      · rintro ρ ⟨rows, ws, o10, o11, hD, rfl⟩
        exact nx2 rows ws (some _) (some _) o10 o11 (hD.mono (by simp [enumD]))
    · obtain rfl := (Option.some.inj hx).symm
      refine ⟨rfl, rfl, dLoop_of (enumD (rs.map reg3)) (fun j ρ => ∃ (rows : List Row) (ws : List Nat) (o10 o11 : Option D), Dg (is.map (·.2)) (rs.map (·.2.1)) rows ws ((0 + 1) * (is.length + rs.length) + j) ∧ ρ = [some .src, some (.bo (.int (many : Int))), some (.bo (.int (wide : Int))), some (.bo (.int (most : Int))), some (.sh (.list (is.map inD))), some (.sh (.list (rs.map reg3))), o6.map Sl.sh, some (.mu (dz rows ws)), some (.sh (.str "reg")), some (.sh (.list (rs.map reg3))), o10.map Sl.sh, o11.map Sl.sh, none, none, none, o15.map Sl.sh, none]) ⟨rows, ws, o10, o11, hD, rfl⟩ ?_ ?_⟩
      · rintro j x ρ k hx ⟨rows, ws, o10, o11, hD, rfl⟩ next
        obtain ⟨hj, rfl⟩ := get_enumM hx
        have hle := hD.le
        refine ⟨rfl, rfl, 8, rfl, ⟨by omega, by omega⟩, fun c c1 c2 => useB_d (fun _ => ?_) (fun _ => next _ ⟨rows, ws, some _, some _, hD.mono (by omega), rfl⟩)⟩
        exact ⟨Nat.le_of_ble_eq_true rfl, trivial, _, atI1, _, _, rfl, rfl, rows, ws, .reg j, (rs[j]).2.1, rfl, rfl, by omega, hD.r.len, next _ ⟨rows ++ [.reg j], ws ++ [(rs[j]).2.1], some _, some _, ⟨hD.r.snoc (rwo ws j hj) (hro _ (List.getElem_mem hj)).1, by simp; omega⟩, rfl⟩⟩
      · rintro ρ ⟨rows, ws, o10, o11, hD, rfl⟩
        exact nx2 rows ws (some _) (some _) o10 o11 (hD.mono (by simp [enumD]))
    · exact absurd hi2 (by omega)
  rintro ρ ⟨rows, ws, o8, o9, o10, o11, hD, rfl⟩
  have hD : Dg (is.map (·.2)) (rs.map (·.2.1)) rows ws (2 * (is.length + rs.length)) := hD
  refine ⟨⟨by omega, by omega⟩, dLoop_of _ (fun i ρ => ∃ (rows : List Row) (ws : List Nat) (o12 : Option D), Dg (is.map (·.2)) (rs.map (·.2.1)) rows ws (2 * (is.length + rs.length) + 7 * i) ∧ i ≤ rows.length ∧ ρ = [some .src, some (.bo (.int (many : Int))), some (.bo (.int (wide : Int))), some (.bo (.int (most : Int))), some (.sh (.list (is.map inD))), some (.sh (.list (rs.map reg3))), o6.map Sl.sh, some (.mu (dz rows ws)), o8.map Sl.sh, o9.map Sl.sh, o10.map Sl.sh, o11.map Sl.sh, o12.map Sl.sh, none, none, o15.map Sl.sh, none]) ⟨rows, ws, none, hD, Nat.zero_le _, rfl⟩ ?_ ?_⟩
  · rintro i x ρ k hx ⟨rows, ws, o12, hD, hlo, rfl⟩ next
    have hi : i < (rngD 0 (many : Int).toNat).length := (List.getElem?_eq_some_iff.mp hx).1
    rw [rngD_length, Int.toNat_natCast] at hi
    have hle := hD.le
    exact ⟨_, _, rfl, rfl, _, _, rows, ws, wide, rfl, rfl, hD.r, ⟨hw1, hw2⟩, by omega, fun rows' ws' k hR hp hl hlo2 => next _ ⟨rows', ws', some _, ⟨hR, by omega⟩, by omega, rfl⟩⟩
  rintro ρ ⟨rows, ws, o12, hD, hlo, rfl⟩
  rw [rngD_length, Int.toNat_natCast] at hD hlo
  refine dLcGo_of (rs.map reg3) (fun j acc ρ => ∃ (rows : List Row) (ws : List Nat) (gs : List (Str × Nat × Int × Nat)), acc = gs.map regD ∧ gs.length = j ∧ Nx rs gs ws j ∧ Dg (is.map (·.2)) (rs.map (·.2.1)) rows ws (2 * (is.length + rs.length) + 7 * many + 2 * j) ∧ many ≤ rows.length ∧ ρ = [some .src, some (.bo (.int (many : Int))), some (.bo (.int (wide : Int))), some (.bo (.int (most : Int))), some (.sh (.list (is.map inD))), some (.sh (.list (rs.map reg3))), o6.map Sl.sh, some (.mu (dz rows ws)), o8.map Sl.sh, o9.map Sl.sh, o10.map Sl.sh, o11.map Sl.sh, o12.map Sl.sh, none, none, o15.map Sl.sh, none]) ⟨rows, ws, [], rfl, rfl, Nx.nil, hD, hlo, rfl⟩ ?_ ?_
  · rintro j x acc ρ k hx ⟨rows, ws, gs, rfl, hgl, hN, hD, hlo, rfl⟩ next
    obtain ⟨hj, rfl⟩ := get_reg3 hx
    have hle := hD.le
    refine useB_y rfl ⟨trivial, _, atI1, _, _, rfl, rfl, _, _, rows, ws, (rs[j]).2.1, rfl, rfl, hD.r, (hro _ (List.getElem_mem hj)).1, by omega, fun rows' ws' k' hR hp hl hk => ⟨Nat.le_of_ble_eq_true rfl, Nat.le_of_ble_eq_true rfl, by rw [List.length_map, sizeLine_eq]; omega, next _ _ ⟨rows', ws', gs ++ [((rs[j]).1, (rs[j]).2.1, (rs[j]).2.2, k')], ?_, by simp; omega, hN.snoc hp hj hk, ⟨hR, by omega⟩, by have := hD.r.len; have := hR.len; have := hp.length_le; omega, rfl⟩⟩⟩
    rw [List.map_append]
    rfl
  rintro acc ρ ⟨rows, ws, gs, rfl, hgl, hN, hD, hlo, rfl⟩
  rw [List.length_map] at hN hD
  refine ⟨Nat.le_of_ble_eq_true rfl, 3, rfl, ⟨by omega, by omega⟩, fun c c1 c2 => ?_⟩
  obtain ⟨n, hne⟩ : ∃ n : Nat, 1 + c = (n : Int) := ⟨(1 + c).toNat, by omega⟩
  refine ⟨n, "o", congrArg (fun z => [PyData.none, PyData.int z, PyData.str "o"]) hne, by omega, by decide, fun ss hss => ?_⟩
  refine dLoop_of (ss.map PyData.str) (fun i ρ => ∃ (rows : List Row) (ws : List Nat) (os : List (Str × Nat)) (ds : List D) (o14 o15 : Option D), ds = os.map inD ∧ os.length = i ∧ (∀ p ∈ os, p.2 < rows.length) ∧ Nx rs gs ws rs.length ∧ Dg (is.map (·.2)) (rs.map (·.2.1)) rows ws (2 * (is.length + rs.length) + 7 * many + 2 * rs.length + 1) ∧ many ≤ rows.length ∧ ρ = [some .src, some (.bo (.int (many : Int))), some (.bo (.int (wide : Int))), some (.bo (.int (most : Int))), some (.sh (.list (is.map inD))), some (.ow (.list (gs.map regD))), o6.map Sl.sh, some (.mu (dz rows ws)), o8.map Sl.sh, o9.map Sl.sh, o10.map Sl.sh, o11.map Sl.sh, o12.map Sl.sh, some (.ow (.list ds)), o14.map Sl.sh, o15.map Sl.sh, none]) ⟨rows, ws, [], _, none, o15, rfl, rfl, (fun _ h => nomatch h), hN, hD.mono (by omega), hlo, rfl⟩ ?_ ?_
  · rintro i x ρ k hx ⟨rows, ws, os, _, o14, o15, rfl, hol, hoo, hN, hD, hlo, rfl⟩ next
    obtain ⟨hi, rfl⟩ := get_strs hx
    have hle := hD.le
    have hel : (((rows.map Row.toD).length : Nat) : Int) = (rows.length : Int) := by rw [List.length_map]
    refine ⟨rfl, _, _, rfl, dzR _ _, rfl, useB_b (fun h => ?_) (fun h => ?_)⟩
    · have h : (false != PyData.eqv (.int (((rows.map Row.toD).length : Nat) : Int)) (.int 0)) = true := h
      rw [eqv_int, bne_false] at h
      have h := of_decide_eq_true h
      have hws := hD.r.len
      refine ⟨Nat.le_of_ble_eq_true rfl, _, _, rfl, rfl, rows, ws, .word 1 1, 1, rfl, rfl, by omega, hD.r.len, _, rfl, ⟨by omega, by omega⟩, fun q q1 q2 => ?_⟩
      obtain ⟨o, ho⟩ : ∃ o : Nat, (1 + (ws.length : Int)) - 1 - q = (o : Int) := ⟨((1 + (ws.length : Int)) - 1 - q).toNat, by omega⟩
      refine ⟨Nat.le_of_ble_eq_true rfl, by rw [List.length_map, sizeLine_eq]; omega, next _ ⟨rows ++ [.word 1 1], ws ++ [1], os ++ [(ss[i], o)], _, some _, some _, ?_, by simp; omega, fun p hp => ?_, hN.mono (pre_snoc _ _), ⟨hD.r.snoc (r := .word 1 1) ⟨rfl, by decide, by decide⟩ wOk1, by simp; omega⟩, by simp; omega, rfl⟩⟩
      · show os.map inD ++ [.tuple [.str ss[i], .int ((1 + (ws.length : Int)) - 1 - q)]] = _
        rw [ho, List.map_append]
        rfl
      · rcases List.mem_append.mp hp with hp | hp
        · have := hoo p hp
          simp; omega
        · rw [List.mem_singleton.mp hp]
          show o < (rows ++ [Row.word 1 1]).length
          simp; omega
    · have h : (false != PyData.eqv (.int (((rows.map Row.toD).length : Nat) : Int)) (.int 0)) = false := h
      rw [eqv_int, bne_false] at h
      have h := of_decide_eq_false h
      refine ⟨min (rows.length : Int) 6, by show [PyData.none, PyData.int (min (((rows.map Row.toD).length : Nat) : Int) 6)] = _; rw [List.length_map], ⟨by omega, by omega⟩, fun q q1 q2 => ?_⟩
      obtain ⟨o, ho⟩ : ∃ o : Nat, (((rows.map Row.toD).length : Nat) : Int) - 1 - q = (o : Int) := ⟨((((rows.map Row.toD).length : Nat) : Int) - 1 - q).toNat, by omega⟩
      refine ⟨Nat.le_of_ble_eq_true rfl, by rw [List.length_map, sizeLine_eq]; omega, next _ ⟨rows, ws, os ++ [(ss[i], o)], _, some _, some _, ?_, by simp; omega, fun p hp => ?_, hN, hD, hlo, rfl⟩⟩
      · show os.map inD ++ [.tuple [.str ss[i], .int ((((rows.map Row.toD).length : Nat) : Int) - 1 - q)]] = _
        rw [ho, List.map_append]
        rfl
      · rcases List.mem_append.mp hp with hp | hp
        · have := hoo p hp
          omega
        · rw [List.mem_singleton.mp hp]
          show o < (rows).length
          omega
  rintro ρ ⟨rows, ws, os, _, o14, o15, rfl, hol, hoo, hN, hD, hlo, rfl⟩
  rw [List.length_map, hss] at hol
  refine ⟨rfl, _, _, rfl, dzR _ _, Nat.le_of_ble_eq_true rfl, _, rfl, ?_⟩
  show Qc (.fz (.tuple [.tuple (is.map inD), .tuple (os.map inD), .tuple (gs.map regD), .tuple (rows.map Row.toD)]))
  obtain ⟨h1, h2, h3⟩ := fl_ok (os := os) hio hro hN hD (by omega) (by omega) (by omega) hoo (by omega) (by omega)
  have hle := hD.le
  exact hq ⟨is, os, gs, rows, ws⟩ h1 h2 hil (by show gs.length ≤ _; omega) (by show rows.length ≤ _; omega) hlo
end
end K22

set_option Elab.async false
set_option linter.all false
set_option maxRecDepth 100000
set_option maxHeartbeats 4000000
set_option autoImplicit false
set_option pp.maxSteps 1000
namespace K22
open PySem L2 DL
section
variable {P : Program} {w : World} {K : PySem.W.Frag} {mg : Str → Option Value} {base : Heap}
abbrev s_law_lots : Stmt := topS 35
abbrev n_law_lots : List Str := ["_law_source_here", "_law_flat_here", "_law_many", "_law_lap", "_law_name", "_law_width"]
theorem sc_law_lots : FnScope n_law_lots ["_law_source_here", "_law_flat_here", "_law_many"] (C8.fnScope s_law_lots) := C8.fnScope_by (by decide +kernel)
theorem ok_law_lots {a : Addr} {fd : FuncData} (F : C8.Def K mg "_law_lots" s_law_lots a fd) (b : Binds K fd ["_law_source_here", "_law_flat_here", "_law_many"] []) (T : Txt mg) (c_law_number : CalG P w K mg base 3 "_law_number" (spD K [.src, .bo] (Cnumw))) : CalG P w K mg base (4) "_law_lots" (spD K [.src, .bo, .bo] (Clots)) := by
  refine calG F b sc_law_lots rfl (fun cdv A outer s H E hA hr => ?_)
  have hu := huOf hr
  have hu64 := hr.units
  refine ⟨_, _, (pss_one (ps_ret (pe_lc rfl sc_law_lots.nd (pi_range1 (by rfl) T.range (pa_cons (pv 2) pa_nil)) (blkOk_by (own := [("_law_lap", 3)]) (N := n_law_lots) (sc := C8.fnScope s_law_lots) (by decide +kernel)) (fun _ _ _ _ _ => (pg_name (i := 3) sc_law_lots.nd rfl (by first | exact Or.inl rfl | exact Or.inr rfl))) (fun _ _ _ _ _ => pts_nil) (fun _ _ _ _ _ => (pe_callTy (k_tupleA (K := K) rfl rfl) (by rfl) T.tuple (by decide +kernel) (pa_cons (pe_lc rfl sc_law_lots.nd (k_iany (K := K) rfl (pe_ix (k_ix (K := K) rfl) (pv 1) pe_int (fun _ _ => rfl))) (blkOk_in (own := [("_law_name", 4), ("_law_width", 5)]) (N := n_law_lots) (by decide +kernel)) (fun _ _ _ _ _ => (k_gtup (n := 2) (K := K) rfl (by rfl) (pgs_cons (pg_name (i := 4) sc_law_lots.nd rfl (by first | exact Or.inl rfl | exact Or.inr rfl)) (pgs_cons (pg_name (i := 5) sc_law_lots.nd rfl (by first | exact Or.inl rfl | exact Or.inr rfl)) pgs_nil)))) (fun _ _ _ _ _ => pts_nil) (fun _ _ _ _ _ => (pe_cG c_law_number hA hr (by first | decide | omega) rfl (pa_cons (pv 0) (pa_cons (pv 5) pa_nil))))) pa_nil)))))),
   (ls_ret (le_lc (li_rng1 (la_cons le_var la_nil)) lg_name (lgw_name (by decide)) lt_yes (le_cb (la_cons (le_lc (li_any (le_op le_var le_int ol_ix)) (lg_tup (lgs_cons lg_name (lgs_cons lg_name lgs_nil))) (lgw_tup (lgsw_cons mog_name (mogs_cons mog_name mogs_nil) (lgw_name (by decide)) (lgsw_cons mog_name mogs_nil (lgw_name (by decide)) lgsw_nil))) lt_yes (le_call (la_cons le_var (la_cons le_var la_nil)))) la_nil) cl_tupleA))), ?_⟩
  intro ds Qc h
  obtain ⟨f, n, rfl, hf, hn, hq⟩ := h
  have hil := hf.il
  refine ⟨⟨by omega, by omega⟩, dLcGo_each _ (fun _ d => ∃ l : List Int, d = (fun l => PyData.tuple (iL l)) l ∧ vOk f.iw l) (by rw [rngD_length, sizeLine_eq]; omega) (fun i x k hx q => ?_) (fun acc hal hap => ?_)⟩
  · refine ⟨trivial, _, rfl, dLcGo_each (f.ins.map inD) (fun i d => ∃ (w : Nat) (v : Int), f.iw[i]? = some w ∧ rng w v ∧ d = PyData.int v) (by rw [List.length_map, sizeLine_eq]; omega) (fun j y k hy q => ?_) (fun acc ha hp => ?_)⟩
    · rw [List.getElem?_map] at hy
      obtain ⟨p, hp, rfl⟩ := Option.map_eq_some_iff.mp hy
      exact ⟨rfl, rfl, p.2, rfl, hf.iw p (List.mem_of_getElem? hp), fun v hv => q _ ⟨p.2, v, by unfold Fl.iw; rw [List.getElem?_map, hp]; rfl, hv, rfl⟩⟩
    · obtain ⟨vs, rfl, hvs⟩ := nums_of (ws := f.iw) (by rw [ha, List.length_map]; unfold Fl.iw; rw [List.length_map]) hp
      exact q _ ⟨vs, rfl, hvs⟩
  · obtain ⟨lots, rfl, hl, hp⟩ := maps_of hap
    rw [hal, rngD_length, Int.toNat_natCast] at hl
    exact hq lots hl hp
abbrev s_law_example : Stmt := topS 36
abbrev n_law_example : List Str := ["_law_rows"]
theorem sc_law_example : FnScope n_law_example [] (C8.fnScope s_law_example) := C8.fnScope_by (by decide +kernel)
theorem ok_law_example {a : Addr} {fd : FuncData} (F : C8.Def K mg "_law_example" s_law_example a fd) (b : Binds K fd [] []) (T : Txt mg) : CalG P w K mg base (1) "_law_example" (spD K [] (Cex)) := by
  refine calG F b sc_law_example rfl (fun cdv A outer s H E hA hr => ?_)
  have hu := huOf hr
  have hu64 := hr.units
  refine ⟨_, _, (pss_cons (ps_asg (pe_tup (pa_cons (pe_tup (pa_cons pe_str (pa_cons pe_int pa_nil))) (pa_cons (pe_tup (pa_cons pe_str (pa_cons pe_int pa_nil))) (pa_cons (pe_tup (pa_cons pe_str (pa_cons pe_int (pa_cons pe_int pa_nil)))) (pa_cons (pe_tup (pa_cons pe_str (pa_cons pe_int (pa_cons pe_int pa_nil)))) (pa_cons (pe_tup (pa_cons pe_str (pa_cons pe_int (pa_cons pe_int pa_nil)))) pa_nil)))))) (pg_name (i := 0) sc_law_example.nd rfl (by first | exact Or.inl rfl | exact Or.inr rfl)))
      (pss_one (ps_ret (pe_tup (pa_cons (pe_tup (pa_cons (pe_tup (pa_cons pe_str (pa_cons pe_int pa_nil))) pa_nil)) (pa_cons (pe_tup (pa_cons (pe_tup (pa_cons pe_str (pa_cons pe_int pa_nil))) pa_nil)) (pa_cons (pe_tup (pa_cons (pe_tup (pa_cons pe_str (pa_cons pe_int (pa_cons pe_int (pa_cons pe_int pa_nil))))) pa_nil)) (pa_cons (pv 0) pa_nil)))))))),
   (ls_seq (ls_asg (le_tup (la_cons (le_tup (la_cons le_str (la_cons le_int la_nil))) (la_cons (le_tup (la_cons le_str (la_cons le_int la_nil))) (la_cons (le_tup (la_cons le_str (la_cons le_int (la_cons le_int la_nil)))) (la_cons (le_tup (la_cons le_str (la_cons le_int (la_cons le_int la_nil)))) (la_cons (le_tup (la_cons le_str (la_cons le_int (la_cons le_int la_nil)))) la_nil)))))) lg_name)
      (ls_ret (le_tup (la_cons (le_tup (la_cons (le_tup (la_cons le_str (la_cons le_int la_nil))) la_nil)) (la_cons (le_tup (la_cons (le_tup (la_cons le_str (la_cons le_int la_nil))) la_nil)) (la_cons (le_tup (la_cons (le_tup (la_cons le_str (la_cons le_int (la_cons le_int (la_cons le_int la_nil))))) la_nil)) (la_cons le_var la_nil))))))), ?_⟩
  intro ds Qc h
  obtain ⟨rfl, hq⟩ := h
  exact ⟨Nat.le_of_ble_eq_true rfl, Nat.le_of_ble_eq_true rfl, Nat.le_of_ble_eq_true rfl, Nat.le_of_ble_eq_true rfl, Nat.le_of_ble_eq_true rfl, Nat.le_of_ble_eq_true rfl, Nat.le_of_ble_eq_true rfl, Nat.le_of_ble_eq_true rfl, Nat.le_of_ble_eq_true rfl, Nat.le_of_ble_eq_true rfl, Nat.le_of_ble_eq_true rfl, Nat.le_of_ble_eq_true rfl, Nat.le_of_ble_eq_true rfl, hq⟩
end
end K22

set_option Elab.async false
set_option linter.all false
set_option maxRecDepth 100000
set_option maxHeartbeats 4000000
set_option autoImplicit false
set_option pp.maxSteps 1000
namespace K22
open PySem L2 DL
section
variable {P : Program} {w : World} {K : PySem.W.Frag} {mg : Str → Option Value} {base : Heap}
abbrev s_law : Stmt := topS 37
abbrev n_law : List Str := ["_law_script", "_law_source_here", "_law_lap", "_law_flat_here", "_law_lots_here", "_law_more", "_law_due", "_law_ways", "_law_turn", "_law_told", "_law_ahead", "_law_k", "_law_first", "_law_late", "_law_n", "_law_lot", "_law_state", "_law_values_here", "_law_outs", "_law_other", "_law_reg", "_law_name"]
theorem sc_law : FnScope n_law ["_law_script"] (C8.fnScope s_law) := C8.fnScope_by (by decide +kernel)
theorem ok_law {a : Addr} {fd : FuncData} (F : C8.Fun K "law" "law" s_law a fd) (T : Txt mg) (c_law_source : CalG P w K mg base 1 "_law_source" (spSrc K)) (c_law_pick : CalG P w K mg base 1 "_law_pick" (spD K [.src, .bo] (Cpick))) (c_law_number : CalG P w K mg base 3 "_law_number" (spD K [.src, .bo] (Cnumw))) (c_law_flat : CalG P w K mg base 6 "_law_flat" (spD K [.src, .bo, .bo, .bo] (Cflat3))) (c_law_lots : CalG P w K mg base 4 "_law_lots" (spD K [.src, .bo, .bo] (Clots))) (c_law_example : CalG P w K mg base 1 "_law_example" (spD K [] (Cex))) (c_law_run : CalG P w K mg base 3 "_law_run" (spD K [.bo, .bo] (Clrun))) (c_law_values : CalG P w K mg base 2 "_law_values" (spD K [.bo, .bo, .bo, .bo] (Cvals))) (c_law_widths : CalG P w K mg base 1 "_law_widths" (spD K [.bo] (Cwid))) (c_outputs : CalG P w K mg base 5 "outputs" (spD K [.bo, .bo] (CoutN))) (c_states : CalG P w K mg base 4 "states" (spD K [.bo, .bo] (Cstates))) (c_start : CalG P w K mg base 1 "start" (spD K [.bo] (Cstart))) (c_step : CalG P w K mg base 5 "step" (spD K [.bo, .bo, .bo] (CstepF))) (c_run_from : CalG P w K mg base 4 "run_from" (spD K [.bo, .bo, .bo] (Crunf))) (cp_run_from : CalG P w K mg base 4 "run_from" (spP K [.bo, .bo, .bo] (CrunP))) : FnG P w K mg base C8.CX0 (7 + 1) a fd ["_law_script"] (spLaw K) := by
  refine fnG_of F sc_law (fun vs H Q E h => ?_) (fun cdv A outer s H vs Q E hA hr h => ?_)
  · obtain ⟨_, _, rfl, _⟩ := h; rfl
  have hu := huOf hr
  have hu64 := hr.units
  refine ⟨_, PSs.nox (pss_cons (ps_asg (pe_cG c_law_source hA hr (by decide) rfl (pa_cons (pv 0) pa_nil)) (pg_name (i := 1) sc_law.nd rfl (by first | exact Or.inl rfl | exact Or.inr rfl))) (pss_cons (ps_for PassesOwn.never rfl (pi_range1 (by rfl) T.range (pa_cons pe_int pa_nil)) (pg_name (i := 2) sc_law.nd rfl (by first | exact Or.inl rfl | exact Or.inr rfl))
      (pss_cons (ps_asg (pe_cG c_law_flat hA hr (by first | decide | omega) rfl (pa_cons (pv 1) (pa_cons (pe_ix (k_ix (K := K) rfl) (pe_lst (pa_cons pe_int (pa_cons pe_int (pa_cons pe_int (pa_cons pe_int pa_nil))))) (pv 2) (fun _ _ => rfl)) (pa_cons (pe_ix (k_ix (K := K) rfl) (pe_lst (pa_cons pe_int (pa_cons pe_int (pa_cons pe_int (pa_cons pe_int pa_nil))))) (pv 2) (fun _ _ => rfl)) (pa_cons pe_int pa_nil))))) (pg_name (i := 3) sc_law.nd rfl (by first | exact Or.inl rfl | exact Or.inr rfl)))
      (pss_cons (ps_par (i := 4) (j := 5) (by rfl) sc_law.nd rfl rfl (by decide) rfl rfl (pa_cons (pe_cG c_law_lots hA hr (by first | decide | omega) rfl (pa_cons (pv 1) (pa_cons (pv 3) (pa_cons (pe_op (k_add (K := K) rfl) pe_int (pe_cG c_law_pick hA hr (by first | decide | omega) rfl (pa_cons (pv 1) (pa_cons pe_int pa_nil)))) pa_nil)))) (pa_cons (pe_cG c_law_lots hA hr (by first | decide | omega) rfl (pa_cons (pv 1) (pa_cons (pv 3) (pa_cons pe_int pa_nil)))) pa_nil)) (by rfl))
      (pss_cons (ps_asg (pe_cG c_law_run hA hr (by first | decide | omega) rfl (pa_cons (pv 3) (pa_cons (pe_op (k_add (K := K) rfl) (pv 4) (pv 5)) pa_nil))) (k_gtup (n := 2) (K := K) rfl (by rfl) (pgs_cons (pg_name (i := 6) sc_law.nd rfl (by first | exact Or.inl rfl | exact Or.inr rfl)) (pgs_cons (pg_name (i := 7) sc_law.nd rfl (by first | exact Or.inl rfl | exact Or.inr rfl)) pgs_nil))))
      (pss_cons (ps_for PassesOwn.never rfl (pi_range1 (by rfl) T.range (pa_cons pe_int pa_nil)) (pg_name (i := 8) sc_law.nd rfl (by first | exact Or.inl rfl | exact Or.inr rfl))
      (pss_cons (ps_par (i := 9) (j := 10) (by rfl) sc_law.nd rfl rfl (by decide) rfl rfl (pa_cons (pe_cG c_outputs hA hr (by first | decide | omega) rfl (pa_cons (pv 3) (pa_cons (pe_op (k_add (K := K) rfl) (pv 4) (pv 5)) pa_nil))) (pa_cons (pe_cG c_states hA hr (by first | decide | omega) rfl (pa_cons (pv 3) (pa_cons (pe_op (k_add (K := K) rfl) (pv 4) (pv 5)) pa_nil))) pa_nil)) (by rfl))
      (pss_cons (ps_if (PW.pt (pw_or (pt_cmpR (k_ne (K := K) rfl hu64) (pe_callB (k_repr (K := K) rfl hA hu64) (by rfl) T.repr (by decide +kernel) (pa_cons (pe_lst (pa_cons (pv 9) (pa_cons (pv 10) pa_nil))) pa_nil)) (pe_callB (k_repr (K := K) rfl hA hu64) (by rfl) T.repr (by decide +kernel) (pa_cons (pe_lst (pa_cons (pv 6) (pa_cons (pv 7) pa_nil))) pa_nil)) (nomark _)) (pw_or1 (pt_cmpR (k_ne (K := K) rfl hu64) (pe_callB (k_repr (K := K) rfl hA hu64) (by rfl) T.repr (by decide +kernel) (pa_cons (pe_cG c_start hA hr (by first | decide | omega) rfl (pa_cons (pv 3) pa_nil)) pa_nil)) (pe_callB (k_repr (K := K) rfl hA hu64) (by rfl) T.repr (by decide +kernel) (pa_cons (pe_ix (k_ix (K := K) rfl) (pv 7) pe_int (fun _ _ => rfl)) pa_nil)) (nomark _))))) (pss_one (ps_ret pe_bl)) pss_nil)
      (pss_cons (ps_expr (pe_bm PySem.F.plainAttrs_list PySem.F.slot_list_append PySem.F.type_list_append mt_append (pv 9) (pa_cons pe_non pa_nil)))
      (pss_one (ps_expr (pe_bm PySem.F.plainAttrs_list PySem.F.slot_list_append PySem.F.type_list_append mt_append (pv 10) (pa_cons pe_non pa_nil))))))))
      (pss_cons (ps_asg (pe_cG c_law_pick hA hr (by first | decide | omega) rfl (pa_cons (pv 1) (pa_cons (pe_op (k_add (K := K) rfl) (pe_callB (k_lenA (K := K) rfl) (by rfl) T.len (by decide +kernel) (pa_cons (pv 4) pa_nil)) pe_int) pa_nil))) (pg_name (i := 11) sc_law.nd rfl (by first | exact Or.inl rfl | exact Or.inr rfl)))
      (pss_cons (ps_asg (pe_cG cp_run_from hA hr (by first | decide | omega) rfl (pa_cons (pv 3) (pa_cons (pe_ix (k_ix (K := K) rfl) (pv 7) pe_int (fun _ _ => rfl)) (pa_cons (pe_slice (k_sl (K := K) rfl) (pv 4) po_none (po_some (pv 11))) pa_nil)))) (pg_name (i := 12) sc_law.nd rfl (by first | exact Or.inl rfl | exact Or.inr rfl)))
      (pss_cons (ps_if (pt_cmpR (k_ne (K := K) rfl hu64) (pe_callB (k_repr (K := K) rfl hA hu64) (by rfl) T.repr (by decide +kernel) (pa_cons (pv 12) pa_nil)) (pe_callB (k_repr (K := K) rfl hA hu64) (by rfl) T.repr (by decide +kernel) (pa_cons (pe_tup (pa_cons (pe_slice (k_sl (K := K) rfl) (pv 6) po_none (po_some (pv 11))) (pa_cons (pe_ix (k_ix (K := K) rfl) (pv 7) (pv 11) (fun _ _ => rfl)) pa_nil))) pa_nil)) (nomark _)) (pss_one (ps_ret pe_bl)) pss_nil)
      (pss_cons (ps_expr (pe_bm PySem.F.plainAttrs_list PySem.F.slot_list_append PySem.F.type_list_append mt_append (pe_ix (k_ix (K := K) rfl) (pv 12) pe_int (fun _ _ => rfl)) (pa_cons pe_non pa_nil)))
      (pss_cons (ps_asg (pe_cG c_run_from hA hr (by first | decide | omega) rfl (pa_cons (pv 3) (pa_cons (pe_ix (k_ix (K := K) rfl) (pv 12) pe_int (fun _ _ => rfl)) (pa_cons (pe_callTy (k_tupleA (K := K) rfl rfl) (by rfl) T.tuple (by decide +kernel) (pa_cons (pe_op (k_add (K := K) rfl) (pe_slice (k_sl (K := K) rfl) (pv 4) (po_some (pv 11)) po_none) (pv 5)) pa_nil)) pa_nil)))) (pg_name (i := 13) sc_law.nd rfl (by first | exact Or.inl rfl | exact Or.inr rfl)))
      (pss_cons (ps_if (PW.pt (pw_or (pt_cmpR (k_ne (K := K) rfl hu64) (pe_callB (k_repr (K := K) rfl hA hu64) (by rfl) T.repr (by decide +kernel) (pa_cons (pv 13) pa_nil)) (pe_callB (k_repr (K := K) rfl hA hu64) (by rfl) T.repr (by decide +kernel) (pa_cons (pe_tup (pa_cons (pe_slice (k_sl (K := K) rfl) (pv 6) (po_some (pv 11)) po_none) (pa_cons (pe_ix (k_ix (K := K) rfl) (pv 7) (pe_un un_neg pe_int) (fun _ _ => rfl)) pa_nil))) pa_nil)) (nomark _)) (pw_or1 (pt_cmpR (k_ne (K := K) rfl hu64) (pe_ix (k_ix (K := K) rfl) (pe_cG c_run_from hA hr (by first | decide | omega) rfl (pa_cons (pv 3) (pa_cons (pe_ix (k_ix (K := K) rfl) (pv 7) pe_int (fun _ _ => rfl)) (pa_cons (pe_slice (k_sl (K := K) rfl) (pv 4) po_none (po_some (pv 11))) pa_nil)))) pe_int (fun _ _ => rfl)) (pe_slice (k_sl (K := K) rfl) (pv 6) po_none (po_some (pv 11))) (nomark _))))) (pss_one (ps_ret pe_bl)) pss_nil)
      (pss_cons (ps_for PassesOwn.never rfl (k_enum (K := K) rfl (by rfl) T.enumerate (pa_cons (pv 4) pa_nil)) (k_gtup (n := 2) (K := K) rfl (by rfl) (pgs_cons (pg_name (i := 14) sc_law.nd rfl (by first | exact Or.inl rfl | exact Or.inr rfl)) (pgs_cons (pg_name (i := 15) sc_law.nd rfl (by first | exact Or.inl rfl | exact Or.inr rfl)) pgs_nil)))
      (pss_one (ps_if (pt_cmpR (k_ne (K := K) rfl hu64) (pe_callB (k_repr (K := K) rfl hA hu64) (by rfl) T.repr (by decide +kernel) (pa_cons (pe_cG c_step hA hr (by first | decide | omega) rfl (pa_cons (pv 3) (pa_cons (pv 15) (pa_cons (pe_ix (k_ix (K := K) rfl) (pv 7) (pv 14) (fun _ _ => rfl)) pa_nil)))) pa_nil)) (pe_callB (k_repr (K := K) rfl hA hu64) (by rfl) T.repr (by decide +kernel) (pa_cons (pe_tup (pa_cons (pe_ix (k_ix (K := K) rfl) (pv 6) (pv 14) (fun _ _ => rfl)) (pa_cons (pe_ix (k_ix (K := K) rfl) (pv 7) (pe_op (k_add (K := K) rfl) (pv 14) pe_int) (fun _ _ => rfl)) pa_nil))) pa_nil)) (nomark _)) (pss_one (ps_ret pe_bl)) pss_nil)))
      (pss_cons (ps_asg (pe_callTy (k_tupleA (K := K) rfl rfl) (by rfl) T.tuple (by decide +kernel) (pa_cons (pe_lc rfl sc_law.nd (k_iany (K := K) rfl (pe_ix (k_ix (K := K) rfl) (pv 3) pe_int (fun _ _ => rfl))) (blkOk_by (own := [("_law_reg", 20)]) (N := n_law) (sc := C8.fnScope s_law) (by decide +kernel)) (fun _ _ _ _ _ => (pg_name (i := 20) sc_law.nd rfl (by first | exact Or.inl rfl | exact Or.inr rfl))) (fun _ _ _ _ _ => pts_nil) (fun _ _ _ _ _ => (pe_cG c_law_number hA hr (by first | decide | omega) rfl (pa_cons (pv 1) (pa_cons (pe_ix (k_ix (K := K) rfl) (pv 20) pe_int (fun _ _ => rfl)) pa_nil))))) pa_nil)) (pg_name (i := 16) sc_law.nd rfl (by first | exact Or.inl rfl | exact Or.inr rfl)))
      (pss_cons (ps_asg (pe_cG c_law_values hA hr (by first | decide | omega) rfl (pa_cons (pv 3) (pa_cons (pe_cG c_law_widths hA hr (by first | decide | omega) rfl (pa_cons (pv 3) pa_nil)) (pa_cons (pe_ix (k_ix (K := K) rfl) (pv 4) pe_int (fun _ _ => rfl)) (pa_cons (pv 16) pa_nil))))) (pg_name (i := 17) sc_law.nd rfl (by first | exact Or.inl rfl | exact Or.inr rfl)))
      (pss_cons (ps_par (i := 18) (j := 13) (by rfl) sc_law.nd rfl rfl (by decide) rfl rfl (pa_cons (pe_callTy (k_tupleA (K := K) rfl rfl) (by rfl) T.tuple (by decide +kernel) (pa_cons (pe_lc rfl sc_law.nd (k_iany (K := K) rfl (pe_ix (k_ix (K := K) rfl) (pv 3) pe_int (fun _ _ => rfl))) (blkOk_by (own := [("_law_name", 21), ("_law_n", 14)]) (N := n_law) (sc := C8.fnScope s_law) (by decide +kernel)) (fun _ _ _ _ _ => (k_gtup (n := 2) (K := K) rfl (by rfl) (pgs_cons (pg_name (i := 21) sc_law.nd rfl (by first | exact Or.inl rfl | exact Or.inr rfl)) (pgs_cons (pg_name (i := 14) sc_law.nd rfl (by first | exact Or.inl rfl | exact Or.inr rfl)) pgs_nil)))) (fun _ _ _ _ _ => pts_nil) (fun _ _ _ _ _ => (pe_ix (k_ix (K := K) rfl) (pv 17) (pv 14) (fun _ _ => rfl)))) pa_nil)) (pa_cons (pe_callTy (k_tupleA (K := K) rfl rfl) (by rfl) T.tuple (by decide +kernel) (pa_cons (pe_lc rfl sc_law.nd (k_iany (K := K) rfl (pe_ix (k_ix (K := K) rfl) (pv 3) pe_int (fun _ _ => rfl))) (blkOk_by (own := [("_law_reg", 20)]) (N := n_law) (sc := C8.fnScope s_law) (by decide +kernel)) (fun _ _ _ _ _ => (pg_name (i := 20) sc_law.nd rfl (by first | exact Or.inl rfl | exact Or.inr rfl))) (fun _ _ _ _ _ => pts_nil) (fun _ _ _ _ _ => (pe_ix (k_ix (K := K) rfl) (pv 17) (pe_ix (k_ix (K := K) rfl) (pv 20) pe_int (fun _ _ => rfl)) (fun _ _ => rfl)))) pa_nil)) pa_nil)) (by rfl))
      (pss_cons (ps_if (pt_cmpR (k_ne (K := K) rfl hu64) (pe_callB (k_repr (K := K) rfl hA hu64) (by rfl) T.repr (by decide +kernel) (pa_cons (pe_lst (pa_cons (pe_cG c_step hA hr (by first | decide | omega) rfl (pa_cons (pv 3) (pa_cons (pe_ix (k_ix (K := K) rfl) (pv 4) pe_int (fun _ _ => rfl)) (pa_cons (pv 16) pa_nil)))) (pa_cons (pe_cG c_run_from hA hr (by first | decide | omega) rfl (pa_cons (pv 3) (pa_cons (pv 16) (pa_cons (pe_slice (k_sl (K := K) rfl) (pv 4) po_none (po_some pe_int)) pa_nil)))) pa_nil))) pa_nil)) (pe_callB (k_repr (K := K) rfl hA hu64) (by rfl) T.repr (by decide +kernel) (pa_cons (pe_lst (pa_cons (pe_tup (pa_cons (pv 18) (pa_cons (pv 13) pa_nil))) (pa_cons (pe_tup (pa_cons (pe_lst (pa_cons (pv 18) pa_nil)) (pa_cons (pv 13) pa_nil))) pa_nil))) pa_nil)) (nomark _)) (pss_one (ps_ret pe_bl)) pss_nil)
      (pss_cons (ps_asg (pe_op (k_add (K := K) rfl) (pe_slice (k_sl (K := K) rfl) (pv 4) po_none (po_some (pv 11))) (pe_cG c_law_lots hA hr (by first | decide | omega) rfl (pa_cons (pv 1) (pa_cons (pv 3) (pa_cons pe_int pa_nil))))) (pg_name (i := 19) sc_law.nd rfl (by first | exact Or.inl rfl | exact Or.inr rfl)))
      (pss_one (ps_if (PW.pt (pw_or (pt_cmpR (k_ne (K := K) rfl hu64) (pe_cG c_outputs hA hr (by first | decide | omega) rfl (pa_cons (pv 3) (pa_cons (pv 19) pa_nil))) (pe_ix (k_ix (K := K) rfl) (pe_cG c_law_run hA hr (by first | decide | omega) rfl (pa_cons (pv 3) (pa_cons (pv 19) pa_nil))) pe_int (fun _ _ => rfl)) (nomark _)) (pw_or1 (pt_cmpR (k_ne (K := K) rfl hu64) (pe_slice (k_sl (K := K) rfl) (pe_cG c_outputs hA hr (by first | decide | omega) rfl (pa_cons (pv 3) (pa_cons (pv 19) pa_nil))) po_none (po_some (pv 11))) (pe_slice (k_sl (K := K) rfl) (pv 6) po_none (po_some (pv 11))) (nomark _))))) (pss_one (ps_ret pe_bl)) pss_nil)))))))))))))))))))
      (pss_cons (ps_asg (pe_cG0 c_law_example hA hr (by first | decide | omega) rfl) (pg_name (i := 3) sc_law.nd rfl (by first | exact Or.inl rfl | exact Or.inr rfl)))
      (pss_cons (ps_if (pt_cmpR (k_ne (K := K) rfl hu64) (pe_cG c_outputs hA hr (by first | decide | omega) rfl (pa_cons (pv 3) (pa_cons (pe_lst (pa_cons (pe_tup (pa_cons pe_int pa_nil)) (pa_cons (pe_tup (pa_cons pe_int pa_nil)) (pa_cons (pe_tup (pa_cons pe_int pa_nil)) pa_nil)))) pa_nil))) (pe_lst (pa_cons (pe_tup (pa_cons pe_int pa_nil)) (pa_cons (pe_tup (pa_cons pe_int pa_nil)) (pa_cons (pe_tup (pa_cons pe_int pa_nil)) pa_nil)))) (nomark _)) (pss_one (ps_ret pe_bl)) pss_nil)
      (pss_cons (ps_if (pt_cmpR (k_ne (K := K) rfl hu64) (pe_cG c_states hA hr (by first | decide | omega) rfl (pa_cons (pv 3) (pa_cons (pe_tup (pa_cons (pe_tup (pa_cons pe_int pa_nil)) (pa_cons (pe_tup (pa_cons pe_int pa_nil)) (pa_cons (pe_tup (pa_cons pe_int pa_nil)) pa_nil)))) pa_nil))) (pe_lst (pa_cons (pe_tup (pa_cons pe_int pa_nil)) (pa_cons (pe_tup (pa_cons pe_int pa_nil)) (pa_cons (pe_tup (pa_cons pe_int pa_nil)) (pa_cons (pe_tup (pa_cons pe_int pa_nil)) pa_nil))))) (nomark _)) (pss_one (ps_ret pe_bl)) pss_nil)
      (pss_one (ps_ret (pe_and (pe_cmpR (k_eq (K := K) rfl hu64) (pe_cG c_outputs hA hr (by first | decide | omega) rfl (pa_cons (pv 3) (pa_cons (pe_lst pa_nil) pa_nil))) (pe_lst pa_nil) (nomark _)) (pe_and (pe_cmpR (k_eq (K := K) rfl hu64) (pe_cG c_states hA hr (by first | decide | omega) rfl (pa_cons (pv 3) (pa_cons (pe_lst pa_nil) pa_nil))) (pe_lst (pa_cons (pe_tup (pa_cons pe_int pa_nil)) pa_nil)) (nomark _)) (pe_one (pe_cmpR (k_eq (K := K) rfl hu64) (pe_cG c_run_from hA hr (by first | decide | omega) rfl (pa_cons (pv 3) (pa_cons (pe_tup (pa_cons pe_int pa_nil)) (pa_cons (pe_lst pa_nil) pa_nil)))) (pe_tup (pa_cons (pe_lst pa_nil) (pa_cons (pe_tup (pa_cons pe_int pa_nil)) pa_nil))) (nomark _)))))))))))), ?_⟩
  refine law_rest h (by decide) (ls_seq (ls_for (li_rng1 (la_cons le_int la_nil)) lg_name
      (ls_seq (ls_asg (le_call (la_cons le_var (la_cons (le_op (le_lst (la_cons le_int (la_cons le_int (la_cons le_int (la_cons le_int la_nil))))) le_var ol_ix) (la_cons (le_op (le_lst (la_cons le_int (la_cons le_int (la_cons le_int (la_cons le_int la_nil))))) le_var ol_ix) (la_cons le_int la_nil))))) lg_name)
      (ls_seq (ls_par (le_call (la_cons le_var (la_cons le_var (la_cons (le_op le_int (le_call (la_cons le_var (la_cons le_int la_nil))) ol_add) la_nil)))) (le_call (la_cons le_var (la_cons le_var (la_cons le_int la_nil)))))
      (ls_seq (ls_asg (le_call (la_cons le_var (la_cons (le_op le_var le_var ol_add) la_nil))) (lg_tup (lgs_cons lg_name (lgs_cons lg_name lgs_nil))))
      (ls_seq (ls_for (li_rng1 (la_cons le_int la_nil)) lg_name
      (ls_seq (ls_par (le_call (la_cons le_var (la_cons (le_op le_var le_var ol_add) la_nil))) (le_call (la_cons le_var (la_cons (le_op le_var le_var ol_add) la_nil))))
      (ls_seq (ls_if (lt_or (lt_test (le_op (le_reprL (la_cons le_var (la_cons le_var la_nil))) (le_reprL (la_cons le_var (la_cons le_var la_nil))) ol_ne)) (lt_test (le_op (le_cb (la_cons (le_call (la_cons le_var la_nil)) la_nil) cl_reprP) (le_cb (la_cons (le_op le_var le_int ol_ix) la_nil) cl_reprP) ol_ne))) (ls_ret le_bl) ls_next)
      (ls_seq (ls_app le_non)
      (ls_app le_non)))))
      (ls_seq (ls_asg (le_call (la_cons le_var (la_cons (le_op (le_cb (la_cons le_var la_nil) cl_lenA) le_int ol_add) la_nil))) lg_name)
      (ls_seq3 (ls_pairT (i := 12) (la_cons le_var (la_cons (le_op le_var le_int ol_ix) (la_cons (le_sl le_var lo_none (lo_some le_var)) la_nil))) (le_cb (la_cons (le_tup (la_cons (le_sl le_var lo_none (lo_some le_var)) (la_cons (le_op le_var le_var ol_ix) la_nil))) la_nil) cl_reprP) le_bl)
      (ls_seq (ls_asg (le_call (la_cons le_var (la_cons (le_op le_var le_int ol_ix) (la_cons (le_cb (la_cons (le_op (le_sl le_var (lo_some le_var) lo_none) le_var ol_add) la_nil) cl_tupleA) la_nil)))) lg_name)
      (ls_seq (ls_if (lt_or (lt_test (le_op (le_cb (la_cons le_var la_nil) cl_reprP) (le_cb (la_cons (le_tup (la_cons (le_sl le_var (lo_some le_var) lo_none) (la_cons (le_op le_var (le_un le_int ul_neg) ol_ix) la_nil))) la_nil) cl_reprP) ol_ne)) (lt_test (le_op (le_op (le_call (la_cons le_var (la_cons (le_op le_var le_int ol_ix) (la_cons (le_sl le_var lo_none (lo_some le_var)) la_nil)))) le_int ol_ix) (le_sl le_var lo_none (lo_some le_var)) ol_ne))) (ls_ret le_bl) ls_next)
      (ls_seq (ls_for (li_enum (la_cons le_var la_nil)) (lg_tup (lgs_cons lg_name (lgs_cons lg_name lgs_nil)))
      (ls_if (lt_test (le_op (le_cb (la_cons (le_call (la_cons le_var (la_cons le_var (la_cons (le_op le_var le_var ol_ix) la_nil)))) la_nil) cl_reprP) (le_cb (la_cons (le_tup (la_cons (le_op le_var le_var ol_ix) (la_cons (le_op le_var (le_op le_var le_int ol_add) ol_ix) la_nil))) la_nil) cl_reprP) ol_ne)) (ls_ret le_bl) ls_next))
      (ls_seq (ls_asg (le_cb (la_cons (le_lc (li_any (le_op le_var le_int ol_ix)) lg_name (lgw_name (by decide)) lt_yes (le_call (la_cons le_var (la_cons (le_op le_var le_int ol_ix) la_nil)))) la_nil) cl_tupleA) lg_name)
      (ls_seq (ls_asg (le_call (la_cons le_var (la_cons (le_call (la_cons le_var la_nil)) (la_cons (le_op le_var le_int ol_ix) (la_cons le_var la_nil))))) lg_name)
      (ls_seq (ls_par (le_cb (la_cons (le_lc (li_any (le_op le_var le_int ol_ix)) (lg_tup (lgs_cons lg_name (lgs_cons lg_name lgs_nil))) (lgw_tup (lgsw_cons mog_name (mogs_cons mog_name mogs_nil) (lgw_name (by decide)) (lgsw_cons mog_name mogs_nil (lgw_name (by decide)) lgsw_nil))) lt_yes (le_op le_var le_var ol_ix)) la_nil) cl_tupleA) (le_cb (la_cons (le_lc (li_any (le_op le_var le_int ol_ix)) lg_name (lgw_name (by decide)) lt_yes (le_op le_var (le_op le_var le_int ol_ix) ol_ix)) la_nil) cl_tupleA))
      (ls_seq (ls_if (lt_test (le_op (le_reprL (la_cons (le_call (la_cons le_var (la_cons (le_op le_var le_int ol_ix) (la_cons le_var la_nil)))) (la_cons (le_call (la_cons le_var (la_cons le_var (la_cons (le_sl le_var lo_none (lo_some le_int)) la_nil)))) la_nil))) (le_reprL (la_cons (le_tup (la_cons le_var (la_cons le_var la_nil))) (la_cons (le_tup (la_cons (le_lst (la_cons le_var la_nil)) (la_cons le_var la_nil))) la_nil))) ol_ne)) (ls_ret le_bl) ls_next)
      (ls_seq (ls_asg (le_op (le_sl le_var lo_none (lo_some le_var)) (le_call (la_cons le_var (la_cons le_var (la_cons le_int la_nil)))) ol_add) lg_name)
      (ls_if (lt_or (lt_test (le_op (le_call (la_cons le_var (la_cons le_var la_nil))) (le_op (le_call (la_cons le_var (la_cons le_var la_nil))) le_int ol_ix) ol_ne)) (lt_test (le_op (le_sl (le_call (la_cons le_var (la_cons le_var la_nil))) lo_none (lo_some le_var)) (le_sl le_var lo_none (lo_some le_var)) ol_ne))) (ls_ret le_bl) ls_next))))))))))))))))
      (ls_seq (ls_asg (le_call la_nil) lg_name)
      (ls_seq (ls_if (lt_test (le_op (le_call (la_cons le_var (la_cons (le_lst (la_cons (le_tup (la_cons le_int la_nil)) (la_cons (le_tup (la_cons le_int la_nil)) (la_cons (le_tup (la_cons le_int la_nil)) la_nil)))) la_nil))) (le_lst (la_cons (le_tup (la_cons le_int la_nil)) (la_cons (le_tup (la_cons le_int la_nil)) (la_cons (le_tup (la_cons le_int la_nil)) la_nil)))) ol_ne)) (ls_ret le_bl) ls_next)
      (ls_seq (ls_if (lt_test (le_op (le_call (la_cons le_var (la_cons (le_tup (la_cons (le_tup (la_cons le_int la_nil)) (la_cons (le_tup (la_cons le_int la_nil)) (la_cons (le_tup (la_cons le_int la_nil)) la_nil)))) la_nil))) (le_lst (la_cons (le_tup (la_cons le_int la_nil)) (la_cons (le_tup (la_cons le_int la_nil)) (la_cons (le_tup (la_cons le_int la_nil)) (la_cons (le_tup (la_cons le_int la_nil)) la_nil))))) ol_ne)) (ls_ret le_bl) ls_next)
      (ls_ret (le_andV (le_op (le_call (la_cons le_var (la_cons (le_lst la_nil) la_nil))) (le_lst la_nil) ol_eq) (le_andV (le_op (le_call (la_cons le_var (la_cons (le_lst la_nil) la_nil))) (le_lst (la_cons (le_tup (la_cons le_int la_nil)) la_nil)) ol_eq) (le_op (le_call (la_cons le_var (la_cons (le_tup (la_cons le_int la_nil)) (la_cons (le_lst la_nil) la_nil)))) (le_tup (la_cons (le_lst la_nil) (la_cons (le_tup (la_cons le_int la_nil)) la_nil))) ol_eq)))))))) ?_
  refine ⟨⟨by decide, by decide⟩, dLoop_of _ (fun i ρ => ∃ a2 a3 a4 a5 a6 a7 a8 a9 a10 a11 a12 a13 a14 a15 a16 a17 a18 a19, ρ = [some .scr, some .src, a2, a3, a4, a5, a6, a7, a8, a9, a10, a11, a12, a13, a14, a15, a16, a17, a18, a19, none, none]) ⟨_, _, _, _, _, _, _, _, _, _, _, _, _, _, _, _, _, _, rfl⟩ ?_ ?_⟩
  · rintro i x ρ kk hx ⟨a2, a3, a4, a5, a6, a7, a8, a9, a10, a11, a12, a13, a14, a15, a16, a17, a18, a19, rfl⟩ next
    obtain ⟨j, rfl, j1, j2⟩ := mem_rng (List.mem_of_getElem? hx)
    have j2 : j < 4 := j2
    obtain ⟨x1, m1, e1⟩ := atI_mem (xs := [.int 3, .int 8, .int 12, .int 16]) j1 j2
    obtain ⟨x2, m2, e2⟩ := atI_mem (xs := [.int 2, .int 4, .int 8, .int 12]) j1 j2
    obtain ⟨A, rfl, A2⟩ : ∃ A : Nat, x1 = .int (A : Int) ∧ A ≤ 16 := by
      simp only [List.mem_cons, List.mem_nil_iff, or_false] at m1
      rcases m1 with rfl | rfl | rfl | rfl
      · exact ⟨3, rfl, by omega⟩
      · exact ⟨8, rfl, by omega⟩
      · exact ⟨12, rfl, by omega⟩
      · exact ⟨16, rfl, by omega⟩
    obtain ⟨B, rfl, B1, B2⟩ : ∃ B : Nat, x2 = .int (B : Int) ∧ 1 ≤ B ∧ B ≤ 12 := by
      simp only [List.mem_cons, List.mem_nil_iff, or_false] at m2
      rcases m2 with rfl | rfl | rfl | rfl
      · exact ⟨2, rfl, by omega, by omega⟩
      · exact ⟨4, rfl, by omega, by omega⟩
      · exact ⟨8, rfl, by omega, by omega⟩
      · exact ⟨12, rfl, by omega, by omega⟩
    refine ⟨Nat.le_of_ble_eq_true rfl, trivial, _, e1, Nat.le_of_ble_eq_true rfl, trivial, _, e2, A, B, 4, rfl, by omega, ⟨by omega, by omega⟩, by omega, fun f hf hfine hi hr hl hmany => ?_⟩
    have hx2 := hfine.good
    have ho3 := hfine.o3
    have hb := Fl.begin_ok hx2
    have hrl := hf.rl
    have hgl := hf.gl
    have hwl := hf.rows.len
    refine ⟨5, rfl, ⟨by omega, by omega⟩, fun c c1 c2 => ?_⟩
    obtain ⟨n, hn⟩ : ∃ n : Nat, 4 + c = (n : Int) := ⟨(4 + c).toNat, by omega⟩
    refine ⟨f, n, congrArg (fun z => [PyData.none, f.toD, PyData.int z]) hn, hf, by omega, fun lots hll hlo => ⟨f, 4, rfl, hf, by omega, fun more hml hmo => ?_⟩⟩
    have hL : FLots f lots := ⟨hlo, by omega⟩
    have hM : FLots f more := ⟨hmo, by omega⟩
    have hA : FLots f (lots ++ more) := hL.app hM (by omega)
    have hal : (lots ++ more).length ≤ 20 := by rw [List.length_append]; omega
    have em : lots.map lotT ++ more.map lotT = (lots ++ more).map lotT := List.map_append.symm
    have el : (lots.map lotT).length + (more.map lotT).length ≤ sizeLine := by rw [List.length_map, List.length_map, sizeLine_eq]; omega
    dsimp only [ofRe, plainV, wP, setR, List.set_cons_zero, List.set_cons_succ, dSeq]
    refine ⟨el, f, lots ++ more, congrArg (fun z => [f.toD, PyData.list z]) em, hf, hx2, hA, ?_⟩
    have sAH := sAh hf hx2 hr hb hA hal
    have sFO := sFo hf hx2 ho3 hb hA hal
    have tk := fun k hk => run_take hf hx2 hb hA k hk
    have rat := fun k hk => run_at hf hx2 hb hA k hk
    have rlen := run_len hf hx2 hb hA
    have rlast : ∃ ys, (f.run f.begin (lots ++ more)).ahead = ys ++ [(f.run f.begin (lots ++ more)).st] := by
      obtain ⟨_, _, ys, _, h4⟩ := Fl.run_ok hf hx2 hb hA.ok _ (Nat.le_refl _)
      rw [List.take_length] at h4
      exact ⟨ys, h4⟩
    have sst := run_st_ok hf hx2 hb hA
    unfold runL
    generalize hFO : (f.run f.begin (lots ++ more)).found = FO at *
    generalize hAH : (f.run f.begin (lots ++ more)).ahead = AH at *
    have rep2 : reprOkP (.list [.list (FO.map lotT), .list (AH.map lotT)]) := Sm.ok (SmA.lst (SmA.cons sFO (SmA.cons (sAH.mono (Nat.le_refl _) (Nat.le_refl _)) (SmA.nil (n := 0))))) (by decide) (by decide)
    have at0 : L2.atI (AH.map lotT) 0 = some (lotT f.begin) := at_lots (k := 0) (tk 0 (Nat.zero_le _)).2.1
    have repB : reprOkP (lotT f.begin) := (sSt hf hr hb).ok (by decide) (by decide)
    refine ⟨rfl, rfl, ⟨by decide, by decide⟩, dLoop_of _ (fun _ ρ => ∃ o8 o9 o10, ρ = [some .scr, some .src, some (.sh (.int j)), some (.sh f.toD), some (.ow (.list (lots.map lotT))), some (.ow (.list (more.map lotT))), some (.sh (.list (FO.map lotT))), some (.sh (.list (AH.map lotT))), o8, o9, o10, a11, a12, a13, a14, a15, a16, a17, a18, a19, none, none]) ⟨_, _, _, rfl⟩ ?_ ?_⟩
    · rintro i x ρ k hx ⟨o8, o9, o10, rfl⟩ nxt
      refine ⟨el, f, lots ++ more, _, rfl, .inl (congrArg PyData.list em), hf, hx2, hA, el, f, lots ++ more, _, rfl, .inl (congrArg PyData.list em), hf, hx2, hA, ?_⟩
      rw [hFO, hAH]
      refine ⟨Nat.le_of_ble_eq_true rfl, rep2, Nat.le_of_ble_eq_true rfl, rep2, rfl, useB_n (ne_same rfl) ⟨f, rfl, hf, repB, trivial, _, at0, repB, rfl, useB_n (ne_same rfl) ⟨by rw [List.length_map, rlen.1, sizeLine_eq]; omega, by rw [List.length_map, rlen.2, sizeLine_eq]; omega, nxt _ ⟨_, _, _, rfl⟩⟩⟩⟩
    rintro ρ ⟨o8, o9, o10, rfl⟩
    refine ⟨((lots.map lotT).length : Int) + 1, rfl, ⟨by omega, by rw [List.length_map]; omega⟩, fun k k1 k2 => ?_⟩
    rw [List.length_map] at k2
    obtain ⟨k, rfl⟩ := Int.eq_ofNat_of_zero_le k1
    have hk : k ≤ lots.length := by omega
    have hkA : k ≤ (lots ++ more).length := by rw [List.length_append]; omega
    have ek : (lots ++ more).take k = lots.take k := List.take_append_of_le_length hk
    have ed : (lots ++ more).drop k = lots.drop k ++ more := List.drop_append_of_le_length hk
    obtain ⟨t1, t2, t3, t4⟩ := tk k hkA
    rw [ek] at t1 t2 t3 t4
    rw [ed] at t3 t4
    have hW := run_st_ok hf hx2 hb (hL.take k)
    have lk : (lots.take k).length ≤ 20 := by rw [List.length_take]; omega
    have sF1 := sFo hf hx2 ho3 hb (hL.take k) lk
    generalize hWd : (f.run f.begin (lots.take k)).st = W at *
    generalize hF1 : (f.run f.begin (lots.take k)).found = F1 at *
    have atk : L2.atI (AH.map lotT) (k : Int) = some (lotT W) := at_lots t2
    have rep3 : reprOkP (.tuple [.list (F1.map lotT), lotT W]) := Sm.ok (SmA.tup (SmA.cons sF1 (SmA.cons ((sSt hf hr hW).mono (Nat.le_refl _) (by omega)) (SmA.nil (n := 0))))) (by decide) (by decide)
    have cF : cutD (FO.map lotT) none (some (k : Int)) = F1.map lotT := by rw [cut_takeL, ← t1]
    have cL : cutD (lots.map lotT) none (some (k : Int)) = (lots.take k).map lotT := cut_takeL
    refine ⟨trivial, _, at0, f, f.begin, lots.take k, _, rfl, .inl (congrArg PyData.list cL), hf, hx2, hb, hL.take k, ?_⟩
    rw [hF1, hWd]
    generalize hST : (f.run f.begin (lots ++ more)).st = ST at *
    have rep3' : reprOkP (.tuple [.list (cutD (FO.map lotT) none (some (k : Int))), lotT W]) := by rw [cF]; exact rep3
    have cD : cutD (lots.map lotT) (some (k : Int)) none ++ more.map lotT = (lots.drop k ++ more).map lotT := by rw [cut_dropL, List.map_append]
    have hD : FLots f (lots.drop k ++ more) := by rw [← ed]; exact hA.drop k
    have eD : runD (f.run W (lots.drop k ++ more)) = .tuple [.list ((FO.drop k).map lotT), lotT ST] := by unfold runD; rw [t3, t4]; rfl
    have e1D : runD (f.run f.begin (lots.take k)) = .tuple [.list (F1.map lotT), lotT W] := by unfold runD; rw [hF1, hWd]; rfl
    have rep4 : reprOkP (.tuple [.list ((FO.drop k).map lotT), lotT ST]) := by rw [← eD]; exact (sRun hf hx2 ho3 hr hW hD (by rw [← ed, List.length_drop]; omega)).ok (by decide) (by decide)
    have cF2 : cutD (FO.map lotT) (some (k : Int)) none = (FO.drop k).map lotT := cut_dropL
    have rep4' : reprOkP (.tuple [.list (cutD (FO.map lotT) (some (k : Int)) none), lotT ST]) := by rw [cF2]; exact rep4
    have atl : L2.atI (AH.map lotT) (-1) = some (lotT ST) := by
      obtain ⟨ys, e⟩ := rlast
      rw [e, List.map_append]
      exact at_back
    have hF1l : F1.length ≤ 20 := by rw [t1, List.length_take]; omega
    refine ⟨Nat.le_of_ble_eq_true rfl, rep3, trivial, _, atk, Nat.le_of_ble_eq_true rfl, rep3', rfl, useB_n (ne_same (by rw [cF]; rfl)) ⟨by rw [List.length_map, sizeLine_eq]; omega, ?_⟩⟩
    dsimp only [List.set_cons_zero, List.set_cons_succ]
    refine ⟨trivial, _, atI1, by rw [cut_dropL, List.length_map, List.length_map, List.length_drop, sizeLine_eq]; omega, f, W, lots.drop k ++ more, _, rfl, .inr (congrArg PyData.tuple cD), hf, hx2, hW, hD, ?_⟩
    rw [eD]
    dsimp only [ofRe, dgN, wR, asg, List.set_cons_zero, List.set_cons_succ]
    refine ⟨rep4, trivial, _, atl, Nat.le_of_ble_eq_true rfl, rep4', rfl, useB_n (ne_same (by rw [cF2])) ⟨trivial, _, at0, f, f.begin, lots.take k, _, rfl, .inl (congrArg PyData.list cL), hf, hx2, hb, hL.take k, ?_⟩⟩
    rw [e1D]
    refine ⟨trivial, _, atI0, by rw [cF]; exact eq2_lots _ _, useB_n (by rw [cF, eqv_lots]; rfl) ?_⟩
    dsimp only [dNext]
    refine dLoop_of (enumD (lots.map lotT)) (fun _ ρ => ∃ c14 c15, ρ = [some .scr, some .src, some (.sh (.int j)), some (.sh f.toD), some (.sh (.list (lots.map lotT))), some (.ow (.list (more.map lotT))), some (.sh (.list (FO.map lotT))), some (.sh (.list (AH.map lotT))), o8, o9, o10, some (.sh (.int (k : Int))), some (.sh (.tuple [.list (F1.map lotT ++ [.none]), lotT W])), some (.sh (.tuple [.list ((FO.drop k).map lotT), lotT ST])), c14, c15, a16, a17, a18, a19, none, none]) ⟨_, _, rfl⟩ ?_ ?_
    · rintro n x ρ kk2 hx ⟨c14, c15, rfl⟩ nxt
      obtain ⟨hn, rfl⟩ := get_enumM hx
      have hnA : n < (lots ++ more).length := by rw [List.length_append]; omega
      have hWn := run_st_ok hf hx2 hb (hA.take n)
      obtain ⟨r1, r2⟩ := rat n hnA
      have r3 := (tk n (Nat.le_of_lt hnA)).2.1
      rw [List.getElem_append_left hn] at r1 r2
      generalize (f.run f.begin ((lots ++ more).take n)).st = Wn at *
      have hln := hlo _ (List.getElem_mem hn)
      have repS : reprOkP (stepD f lots[n] Wn) := (sStep hf hx2 ho3 hr hln hWn).ok (by decide) (by decide)
      refine ⟨rfl, rfl, trivial, _, at_lots r3, f, lots[n], Wn, rfl, hf, hx2, hln, hWn, repS, trivial, _, at_lots r1, trivial, _, at_lots1 r2, Nat.le_of_ble_eq_true rfl, repS, rfl, useB_n (ne_same rfl) (nxt _ ⟨_, _, rfl⟩)⟩
    rintro ρ ⟨c14, c15, rfl⟩
    refine ⟨trivial, _, rfl, dLcGo_each (f.regs.map regD) (fun i d => ∃ (w : Nat) (v : Int), f.rw[i]? = some w ∧ rng w v ∧ d = PyData.int v) (by rw [List.length_map, sizeLine_eq]; omega) (fun j y k hy q => ?_) (fun acc ha hp => ?_)⟩
    · rw [List.getElem?_map] at hy
      obtain ⟨p, hp, rfl⟩ := Option.map_eq_some_iff.mp hy
      exact ⟨trivial, _, atI1, p.2.1, rfl, hf.rw p (List.mem_of_getElem? hp), fun v hv => q _ ⟨p.2.1, v, by unfold Fl.rw; rw [List.getElem?_map, hp]; rfl, hv, rfl⟩⟩
    obtain ⟨st, rfl, hst⟩ := nums_of (ws := f.rw) (by rw [ha, List.length_map]; unfold Fl.rw; rw [List.length_map]) hp
    clear ha hp
    obtain ⟨l0, lr, rfl⟩ : ∃ l0 lr, lots = l0 :: lr := by
      cases lots with
      | nil => simp at hll; omega
      | cons a b => exact ⟨a, b, rfl⟩
    have hl0 := hlo l0 List.mem_cons_self
    have hV := (Fl.rest_stand hf hl0 hst).sd
    have hVl := vals_len hf hl0 hst
    have repS1 : reprOkP (.list [stepD f l0 st, runD (f.run st ((l0 :: lr).take 1))]) := Sm.ok (SmA.lst (SmA.cons ((sStep hf hx2 ho3 hr hl0 hst).mono (m' := 4) (Nat.le_refl _) (by omega)) (SmA.cons (sRun hf hx2 ho3 hr hst (hL.take 1) (by rw [List.length_take]; omega)) (SmA.nil (n := 0))))) (by decide) (by decide)
    have e1R : runD (f.run st ((l0 :: lr).take 1)) = .tuple [.list [lotT (f.tell (valsR f.ws l0 st f.rows))], lotT (f.nxt (valsR f.ws l0 st f.rows))] := rfl
    have c1R : cutD ((l0 :: lr).map lotT) none (some 1) = ((l0 :: lr).take 1).map lotT := cut_takeL (j := 1)
    have hst1 : stepD f l0 st = .tuple [lotT (f.tell (valsR f.ws l0 st f.rows)), lotT (f.nxt (valsR f.ws l0 st f.rows))] := rfl
    refine ⟨f, rfl, hf, trivial, _, atI0, f, l0, st, rfl, hf, hl0, hst, ?_⟩
    generalize valsR f.ws l0 st f.rows = vs at *
    dsimp only [ofRe, dgN, wR, asg, List.set_cons_zero, List.set_cons_succ]
    refine ⟨trivial, _, rfl, dLcGo_mapI _ (tellF vs) (fun ρ => ∃ c14, ρ = [some .scr, some .src, some (.sh (.int j)), some (.sh f.toD), some (.sh (.list ((l0 :: lr).map lotT))), some (.ow (.list (more.map lotT))), some (.sh (.list (FO.map lotT))), some (.sh (.list (AH.map lotT))), o8, o9, o10, some (.sh (.int (k : Int))), some (.sh (.tuple [.list (F1.map lotT ++ [.none]), lotT W])), some (.sh (.tuple [.list ((FO.drop k).map lotT), lotT ST])), c14, c15, some (.sh (.tuple (iL st))), some (.ow (.list (iL vs))), a18, a19, none, none]) (by rw [List.length_map, sizeLine_eq]; omega) ⟨_, rfl⟩ (fun x ρ k hx ⟨c14, e⟩ q => ?_) (fun ρ ⟨c14, e⟩ => ?_)⟩
    · subst e
      obtain ⟨p, hp, rfl⟩ := mem_inD hx
      exact ⟨rfl, rfl, trivial, _, atI_iL (at_getD (by rw [hVl]; exact hx2.outs p hp)), q _ ⟨_, rfl⟩⟩
    subst e
    rw [tell_map]
    refine ⟨trivial, _, rfl, dLcGo_map _ (nxtF vs) (by rw [List.length_map, sizeLine_eq]; omega) (fun x k hx q => ?_) ?_⟩
    · obtain ⟨p, hp, rfl⟩ := mem_regD hx
      exact ⟨trivial, _, atI3, trivial, _, atI_iL (at_getD (by have := hx2.next_lt hp; omega)), q⟩
    rw [nxt_map]
    dsimp only [ofRe, plainV, wP, setR, List.set_cons_zero, List.set_cons_succ, dSeq]
    refine ⟨trivial, _, atI0, f, l0, st, rfl, hf, hx2, hl0, hst, f, st, (l0 :: lr).take 1, _, rfl, .inl (congrArg PyData.list c1R), hf, hx2, hst, hL.take 1, Nat.le_of_ble_eq_true rfl, repS1, ?_⟩
    rw [e1R, hst1] at repS1
    refine ⟨Nat.le_of_ble_eq_true rfl, Nat.le_of_ble_eq_true rfl, Nat.le_of_ble_eq_true rfl, Nat.le_of_ble_eq_true rfl, repS1, rfl, useB_n (ne_same (by rw [hst1, e1R]; rfl)) ?_⟩
    dsimp only [dNext]
    generalize (l0 :: lr) = lots at *
    refine ⟨f, 3, rfl, hf, by omega, fun more2 hm2 hmo2 => ?_⟩
    have hO : FLots f (lots.take k ++ more2) := (hL.take k).app ⟨hmo2, by omega⟩ (by rw [List.length_take]; omega)
    have hOl : (lots.take k ++ more2).length ≤ 20 := by rw [List.length_append, List.length_take]; omega
    have eO : cutD (lots.map lotT) none (some (k : Int)) ++ more2.map lotT = (lots.take k ++ more2).map lotT := by rw [cut_takeL, List.map_append]
    have lenk : (lots.take k).length = k := by rw [List.length_take]; omega
    have s1 := (run_take hf hx2 hb hO k (by rw [List.length_append, lenk]; omega)).1
    rw [List.take_left' lenk, hF1] at s1
    have lO := (run_len hf hx2 hb hO).1
    have hO2 : (f.run f.begin (lots.take k ++ more2)).found.length ≤ 20 := by omega
    refine ⟨by rw [cut_takeL, List.length_map]; show _ + (more2.map lotT).length ≤ _; rw [List.length_map, lenk, sizeLine_eq]; omega, ?_⟩
    refine ⟨f, lots.take k ++ more2, _, rfl, .inl (congrArg PyData.list eO), hf, hx2, hO, f, lots.take k ++ more2, congrArg (fun z => [f.toD, PyData.list z]) eO, hf, hx2, hO, ?_⟩
    unfold runL
    generalize hFO2 : (f.run f.begin (lots.take k ++ more2)).found = FO2 at *
    refine ⟨trivial, _, atI0, eq2_lots _ _, useB_n (by rw [eqv_lots]; rfl) ⟨f, lots.take k ++ more2, _, rfl, .inl (congrArg PyData.list eO), hf, hx2, hO, ?_⟩⟩
    rw [hFO2]
    exact ⟨by rw [cut_takeL, cut_takeL]; exact eq2_lots _ _, useB_n (by rw [cut_takeL, ← s1, cF, eqv_lots]; rfl) (next _ ⟨_, _, _, _, _, _, _, _, _, _, _, _, _, _, _, _, _, _, rfl⟩)⟩
  · rintro ρ ⟨a2, a3, a4, a5, a6, a7, a8, a9, a10, a11, a12, a13, a14, a15, a16, a17, a18, a19, rfl⟩
    have q3 : [PyData.tuple [.int 1], .tuple [.int 0], .tuple [.int 1]] = [[1], [0], [1]].map lotT := rfl
    refine ⟨rfl, Nat.le_of_ble_eq_true rfl, Nat.le_of_ble_eq_true rfl, Nat.le_of_ble_eq_true rfl, Nat.le_of_ble_eq_true rfl, fEx, [[1], [0], [1]], _, rfl, .inl rfl, fEx_ok, fEx_fine.good, exLt, ?_⟩
    rw [exF1]
    refine ⟨Nat.le_of_ble_eq_true rfl, Nat.le_of_ble_eq_true rfl, Nat.le_of_ble_eq_true rfl, Nat.le_of_ble_eq_true rfl, eq2_lots [[7], [7], [0]] [[7], [7], [0]], useB_n (neq_lots [[7], [7], [0]]) ?_⟩
    refine ⟨Nat.le_of_ble_eq_true rfl, Nat.le_of_ble_eq_true rfl, Nat.le_of_ble_eq_true rfl, Nat.le_of_ble_eq_true rfl, fEx, [[1], [0], [1]], _, rfl, .inr rfl, fEx_ok, fEx_fine.good, exLt, ?_⟩
    rw [exA1]
    refine ⟨Nat.le_of_ble_eq_true rfl, Nat.le_of_ble_eq_true rfl, Nat.le_of_ble_eq_true rfl, Nat.le_of_ble_eq_true rfl, Nat.le_of_ble_eq_true rfl, eq2_lots [[6], [7], [7], [0]] [[6], [7], [7], [0]], useB_n (neq_lots [[6], [7], [7], [0]]) ?_⟩
    dsimp only [dNext]
    have g := fEx_fine.good
    refine ⟨Nat.le_of_ble_eq_true rfl, fEx, [], _, rfl, .inl rfl, fEx_ok, g, exN, Nat.le_of_ble_eq_true rfl, eq2_lots [] [], useB_y (yeq_lots []) ⟨Nat.le_of_ble_eq_true rfl, fEx, [], _, rfl, .inl rfl, fEx_ok, g, exN, Nat.le_of_ble_eq_true rfl, Nat.le_of_ble_eq_true rfl, eq2_lots [[6]] [[6]], useB_y (yeq_lots [[6]]) ⟨Nat.le_of_ble_eq_true rfl, Nat.le_of_ble_eq_true rfl, fEx, [3], [], _, rfl, .inl rfl, fEx_ok, g, ex3, exN, Nat.le_of_ble_eq_true rfl, Nat.le_of_ble_eq_true rfl, Nat.le_of_ble_eq_true rfl, ex3_eq, ?_⟩⟩⟩
    show Rv.fz (.bool (false != PyData.eqv (.tuple [.list [], .tuple [.int 3]]) (.tuple [.list [], .tuple [.int 3]]))) = _
    rw [ex3_is]
    rfl
end
open PySem PySem.Spec PyProof.Rows
theorem all_mk {l : PySem.W.OpenLaw} {w : World} {K : PySem.W.Frag} {h : Heap} {mg : Str → Option Value} {fa : Addr} (X : K.In h) (G : h.Ns mainGlobals mg) (hfa : mg "law" = some (.ref fa))
    {f1 : Addr} {od1 an1 : Option Addr} {sl1 : Array (Option Value)} {oc1 kV1 dc1 pm1 cd1 ct1 : Value}
    {f2 : Addr} {od2 an2 : Option Addr} {sl2 : Array (Option Value)} {oc2 kV2 dc2 pm2 cd2 ct2 : Value}
    {f3 : Addr} {od3 an3 : Option Addr} {sl3 : Array (Option Value)} {oc3 kV3 dc3 pm3 cd3 ct3 : Value}
    {f4 : Addr} {od4 an4 : Option Addr} {sl4 : Array (Option Value)} {oc4 kV4 dc4 pm4 cd4 ct4 : Value}
    {f5 : Addr} {od5 an5 : Option Addr} {sl5 : Array (Option Value)} {oc5 kV5 dc5 pm5 cd5 ct5 : Value}
    {f6 : Addr} {od6 an6 : Option Addr} {sl6 : Array (Option Value)} {oc6 kV6 dc6 pm6 cd6 ct6 : Value}
    {f7 : Addr} {od7 an7 : Option Addr} {sl7 : Array (Option Value)} {oc7 kV7 dc7 pm7 cd7 ct7 : Value}
    {f8 : Addr} {od8 an8 : Option Addr} {sl8 : Array (Option Value)} {oc8 kV8 dc8 pm8 cd8 ct8 : Value}
    {f9 : Addr} {od9 an9 : Option Addr} {sl9 : Array (Option Value)} {oc9 kV9 dc9 pm9 cd9 ct9 : Value}
    {f10 : Addr} {od10 an10 : Option Addr} {sl10 : Array (Option Value)} {oc10 kV10 dc10 pm10 cd10 ct10 : Value}
    {f11 : Addr} {od11 an11 : Option Addr} {sl11 : Array (Option Value)} {oc11 kV11 dc11 pm11 cd11 ct11 : Value}
    {f12 : Addr} {od12 an12 : Option Addr} {sl12 : Array (Option Value)} {oc12 kV12 dc12 pm12 cd12 ct12 : Value}
    {f13 : Addr} {od13 an13 : Option Addr} {sl13 : Array (Option Value)} {oc13 kV13 dc13 pm13 cd13 ct13 : Value}
    {f14 : Addr} {od14 an14 : Option Addr} {sl14 : Array (Option Value)} {oc14 kV14 dc14 pm14 cd14 ct14 : Value}
    {f15 : Addr} {od15 an15 : Option Addr} {sl15 : Array (Option Value)} {oc15 kV15 dc15 pm15 cd15 ct15 : Value}
    {f16 : Addr} {od16 an16 : Option Addr} {sl16 : Array (Option Value)} {oc16 kV16 dc16 pm16 cd16 ct16 : Value}
    {f17 : Addr} {od17 an17 : Option Addr} {sl17 : Array (Option Value)} {oc17 kV17 dc17 pm17 cd17 ct17 : Value}
    {f18 : Addr} {od18 an18 : Option Addr} {sl18 : Array (Option Value)} {oc18 kV18 dc18 pm18 cd18 ct18 : Value}
    {f19 : Addr} {od19 an19 : Option Addr} {sl19 : Array (Option Value)} {oc19 kV19 dc19 pm19 cd19 ct19 : Value}
    {f20 : Addr} {od20 an20 : Option Addr} {sl20 : Array (Option Value)} {oc20 kV20 dc20 pm20 cd20 ct20 : Value}
    {f21 : Addr} {od21 an21 : Option Addr} {sl21 : Array (Option Value)} {oc21 kV21 dc21 pm21 cd21 ct21 : Value}
    {f22 : Addr} {od22 an22 : Option Addr} {sl22 : Array (Option Value)} {oc22 kV22 dc22 pm22 cd22 ct22 : Value}
    {f23 : Addr} {od23 an23 : Option Addr} {sl23 : Array (Option Value)} {oc23 kV23 dc23 pm23 cd23 ct23 : Value}
    {f24 : Addr} {od24 an24 : Option Addr} {sl24 : Array (Option Value)} {oc24 kV24 dc24 pm24 cd24 ct24 : Value}
    {f25 : Addr} {od25 an25 : Option Addr} {sl25 : Array (Option Value)} {oc25 kV25 dc25 pm25 cd25 ct25 : Value}
    {f26 : Addr} {od26 an26 : Option Addr} {sl26 : Array (Option Value)} {oc26 kV26 dc26 pm26 cd26 ct26 : Value}
    {f27 : Addr} {od27 an27 : Option Addr} {sl27 : Array (Option Value)} {oc27 kV27 dc27 pm27 cd27 ct27 : Value}
    {f28 : Addr} {od28 an28 : Option Addr} {sl28 : Array (Option Value)} {oc28 kV28 dc28 pm28 cd28 ct28 : Value}
    {f29 : Addr} {od29 an29 : Option Addr} {sl29 : Array (Option Value)} {oc29 kV29 dc29 pm29 cd29 ct29 : Value}
    {f30 : Addr} {od30 an30 : Option Addr} {sl30 : Array (Option Value)} {oc30 kV30 dc30 pm30 cd30 ct30 : Value}
    {f31 : Addr} {od31 an31 : Option Addr} {sl31 : Array (Option Value)} {oc31 kV31 dc31 pm31 cd31 ct31 : Value}
    {f32 : Addr} {od32 an32 : Option Addr} {sl32 : Array (Option Value)} {oc32 kV32 dc32 pm32 cd32 ct32 : Value}
    {f33 : Addr} {od33 an33 : Option Addr} {sl33 : Array (Option Value)} {oc33 kV33 dc33 pm33 cd33 ct33 : Value}
    {t1 : Addr} {to1 : Option Addr} {tn1 : Nat} {ts1 : Array (Option Value)} {u1_0 u1_1 u1_2 u1_3 u1_4 u1_5 u1_6 u1_7 : Tok}
    {t2 : Addr} {to2 : Option Addr} {tn2 : Nat} {ts2 : Array (Option Value)} {u2_0 u2_1 u2_2 u2_3 u2_4 u2_5 : Tok}
    (a1 : PySem.W.nsIn K mainGlobals "row_members" = some (some (.ref f1))) (l1 : K.lookup f1 = some ⟨oc1, od1, .func (PySem.W.fnOf "row_members" "row_members" (C8.fnArgs s_row_members) (C8.fnBody s_row_members) (C8.fnScope s_row_members) .none kV1 dc1 pm1 an1 cd1 ct1), sl1⟩) (c1 : PySem.W.codeIn K cd1 "row_members" = true) (k1 : PySem.W.keepIn K (.ref f1) = true)
    (a2 : PySem.W.nsIn K mainGlobals "row_width" = some (some (.ref f2))) (l2 : K.lookup f2 = some ⟨oc2, od2, .func (PySem.W.fnOf "row_width" "row_width" (C8.fnArgs s_row_width) (C8.fnBody s_row_width) (C8.fnScope s_row_width) .none kV2 dc2 pm2 an2 cd2 ct2), sl2⟩) (c2 : PySem.W.codeIn K cd2 "row_width" = true) (k2 : PySem.W.keepIn K (.ref f2) = true)
    (a3 : PySem.W.nsIn K mainGlobals "joined_value" = some (some (.ref f3))) (l3 : K.lookup f3 = some ⟨oc3, od3, .func (PySem.W.fnOf "joined_value" "joined_value" (C8.fnArgs s_joined_value) (C8.fnBody s_joined_value) (C8.fnScope s_joined_value) .none kV3 dc3 pm3 an3 cd3 ct3), sl3⟩) (c3 : PySem.W.codeIn K cd3 "joined_value" = true) (k3 : PySem.W.keepIn K (.ref f3) = true)
    (a4 : PySem.W.nsIn K mainGlobals "moved_value" = some (some (.ref f4))) (l4 : K.lookup f4 = some ⟨oc4, od4, .func (PySem.W.fnOf "moved_value" "moved_value" (C8.fnArgs s_moved_value) (C8.fnBody s_moved_value) (C8.fnScope s_moved_value) .none kV4 dc4 pm4 an4 cd4 ct4), sl4⟩) (c4 : PySem.W.codeIn K cd4 "moved_value" = true) (k4 : PySem.W.keepIn K (.ref f4) = true)
    (a5 : PySem.W.nsIn K mainGlobals "odd_value" = some (some (.ref f5))) (l5 : K.lookup f5 = some ⟨oc5, od5, .func (PySem.W.fnOf "odd_value" "odd_value" (C8.fnArgs s_odd_value) (C8.fnBody s_odd_value) (C8.fnScope s_odd_value) .none kV5 dc5 pm5 an5 cd5 ct5), sl5⟩) (c5 : PySem.W.codeIn K cd5 "odd_value" = true) (k5 : PySem.W.keepIn K (.ref f5) = true)
    (a6 : PySem.W.nsIn K mainGlobals "value_of_row" = some (some (.ref f6))) (l6 : K.lookup f6 = some ⟨oc6, od6, .func (PySem.W.fnOf "value_of_row" "value_of_row" (C8.fnArgs s_value_of_row) (C8.fnBody s_value_of_row) (C8.fnScope s_value_of_row) .none kV6 dc6 pm6 an6 cd6 ct6), sl6⟩) (c6 : PySem.W.codeIn K cd6 "value_of_row" = true) (k6 : PySem.W.keepIn K (.ref f6) = true)
    (a7 : PySem.W.nsIn K mainGlobals "widths_of" = some (some (.ref f7))) (l7 : K.lookup f7 = some ⟨oc7, od7, .func (PySem.W.fnOf "widths_of" "widths_of" (C8.fnArgs s_widths_of) (C8.fnBody s_widths_of) (C8.fnScope s_widths_of) .none kV7 dc7 pm7 an7 cd7 ct7), sl7⟩) (c7 : PySem.W.codeIn K cd7 "widths_of" = true) (k7 : PySem.W.keepIn K (.ref f7) = true)
    (a8 : PySem.W.nsIn K mainGlobals "values_with" = some (some (.ref f8))) (l8 : K.lookup f8 = some ⟨oc8, od8, .func (PySem.W.fnOf "values_with" "values_with" (C8.fnArgs s_values_with) (C8.fnBody s_values_with) (C8.fnScope s_values_with) .none kV8 dc8 pm8 an8 cd8 ct8), sl8⟩) (c8 : PySem.W.codeIn K cd8 "values_with" = true) (k8 : PySem.W.keepIn K (.ref f8) = true)
    (a9 : PySem.W.nsIn K mainGlobals "row_values" = some (some (.ref f9))) (l9 : K.lookup f9 = some ⟨oc9, od9, .func (PySem.W.fnOf "row_values" "row_values" (C8.fnArgs s_row_values) (C8.fnBody s_row_values) (C8.fnScope s_row_values) .none kV9 dc9 pm9 an9 cd9 ct9), sl9⟩) (c9 : PySem.W.codeIn K cd9 "row_values" = true) (k9 : PySem.W.keepIn K (.ref f9) = true)
    (a10 : PySem.W.nsIn K mainGlobals "start" = some (some (.ref f10))) (l10 : K.lookup f10 = some ⟨oc10, od10, .func (PySem.W.fnOf "start" "start" (C8.fnArgs s_start) (C8.fnBody s_start) (C8.fnScope s_start) .none kV10 dc10 pm10 an10 cd10 ct10), sl10⟩) (c10 : PySem.W.codeIn K cd10 "start" = true) (k10 : PySem.W.keepIn K (.ref f10) = true)
    (a11 : PySem.W.nsIn K mainGlobals "told_by" = some (some (.ref f11))) (l11 : K.lookup f11 = some ⟨oc11, od11, .func (PySem.W.fnOf "told_by" "told_by" (C8.fnArgs s_told_by) (C8.fnBody s_told_by) (C8.fnScope s_told_by) .none kV11 dc11 pm11 an11 cd11 ct11), sl11⟩) (c11 : PySem.W.codeIn K cd11 "told_by" = true) (k11 : PySem.W.keepIn K (.ref f11) = true)
    (a12 : PySem.W.nsIn K mainGlobals "run_from" = some (some (.ref f12))) (l12 : K.lookup f12 = some ⟨oc12, od12, .func (PySem.W.fnOf "run_from" "run_from" (C8.fnArgs s_run_from) (C8.fnBody s_run_from) (C8.fnScope s_run_from) .none kV12 dc12 pm12 an12 cd12 ct12), sl12⟩) (c12 : PySem.W.codeIn K cd12 "run_from" = true) (k12 : PySem.W.keepIn K (.ref f12) = true)
    (a13 : PySem.W.nsIn K mainGlobals "outputs" = some (some (.ref f13))) (l13 : K.lookup f13 = some ⟨oc13, od13, .func (PySem.W.fnOf "outputs" "outputs" (C8.fnArgs s_outputs) (C8.fnBody s_outputs) (C8.fnScope s_outputs) .none kV13 dc13 pm13 an13 cd13 ct13), sl13⟩) (c13 : PySem.W.codeIn K cd13 "outputs" = true) (k13 : PySem.W.keepIn K (.ref f13) = true)
    (a14 : PySem.W.nsIn K mainGlobals "states" = some (some (.ref f14))) (l14 : K.lookup f14 = some ⟨oc14, od14, .func (PySem.W.fnOf "states" "states" (C8.fnArgs s_states) (C8.fnBody s_states) (C8.fnScope s_states) .none kV14 dc14 pm14 an14 cd14 ct14), sl14⟩) (c14 : PySem.W.codeIn K cd14 "states" = true) (k14 : PySem.W.keepIn K (.ref f14) = true)
    (a15 : PySem.W.nsIn K mainGlobals "step" = some (some (.ref f15))) (l15 : K.lookup f15 = some ⟨oc15, od15, .func (PySem.W.fnOf "step" "step" (C8.fnArgs s_step) (C8.fnBody s_step) (C8.fnScope s_step) .none kV15 dc15 pm15 an15 cd15 ct15), sl15⟩) (c15 : PySem.W.codeIn K cd15 "step" = true) (k15 : PySem.W.keepIn K (.ref f15) = true)
    (a16 : PySem.W.nsIn K mainGlobals "_law_row_numbers" = some (some (.ref f16))) (l16 : K.lookup f16 = some ⟨oc16, od16, .func (PySem.W.fnOf "_law_row_numbers" "_law_row_numbers" (C8.fnArgs s_law_row_numbers) (C8.fnBody s_law_row_numbers) (C8.fnScope s_law_row_numbers) .none kV16 dc16 pm16 an16 cd16 ct16), sl16⟩) (c16 : PySem.W.codeIn K cd16 "_law_row_numbers" = true) (k16 : PySem.W.keepIn K (.ref f16) = true)
    (a17 : PySem.W.nsIn K mainGlobals "_law_row_value" = some (some (.ref f17))) (l17 : K.lookup f17 = some ⟨oc17, od17, .func (PySem.W.fnOf "_law_row_value" "_law_row_value" (C8.fnArgs s_law_row_value) (C8.fnBody s_law_row_value) (C8.fnScope s_law_row_value) .none kV17 dc17 pm17 an17 cd17 ct17), sl17⟩) (c17 : PySem.W.codeIn K cd17 "_law_row_value" = true) (k17 : PySem.W.keepIn K (.ref f17) = true)
    (a18 : PySem.W.nsIn K mainGlobals "_law_widths" = some (some (.ref f18))) (l18 : K.lookup f18 = some ⟨oc18, od18, .func (PySem.W.fnOf "_law_widths" "_law_widths" (C8.fnArgs s_law_widths) (C8.fnBody s_law_widths) (C8.fnScope s_law_widths) .none kV18 dc18 pm18 an18 cd18 ct18), sl18⟩) (c18 : PySem.W.codeIn K cd18 "_law_widths" = true) (k18 : PySem.W.keepIn K (.ref f18) = true)
    (a19 : PySem.W.nsIn K mainGlobals "_law_values" = some (some (.ref f19))) (l19 : K.lookup f19 = some ⟨oc19, od19, .func (PySem.W.fnOf "_law_values" "_law_values" (C8.fnArgs s_law_values) (C8.fnBody s_law_values) (C8.fnScope s_law_values) .none kV19 dc19 pm19 an19 cd19 ct19), sl19⟩) (c19 : PySem.W.codeIn K cd19 "_law_values" = true) (k19 : PySem.W.keepIn K (.ref f19) = true)
    (a20 : PySem.W.nsIn K mainGlobals "_law_run" = some (some (.ref f20))) (l20 : K.lookup f20 = some ⟨oc20, od20, .func (PySem.W.fnOf "_law_run" "_law_run" (C8.fnArgs s_law_run) (C8.fnBody s_law_run) (C8.fnScope s_law_run) .none kV20 dc20 pm20 an20 cd20 ct20), sl20⟩) (c20 : PySem.W.codeIn K cd20 "_law_run" = true) (k20 : PySem.W.keepIn K (.ref f20) = true)
    (a21 : PySem.W.nsIn K mainGlobals "_law_pick" = some (some (.ref f21))) (l21 : K.lookup f21 = some ⟨oc21, od21, .func (PySem.W.fnOf "_law_pick" "_law_pick" (C8.fnArgs s_law_pick) (C8.fnBody s_law_pick) (C8.fnScope s_law_pick) .none kV21 dc21 pm21 an21 cd21 ct21), sl21⟩) (c21 : PySem.W.codeIn K cd21 "_law_pick" = true) (k21 : PySem.W.keepIn K (.ref f21) = true)
    (a22 : PySem.W.nsIn K mainGlobals "_law_source" = some (some (.ref f22))) (l22 : K.lookup f22 = some ⟨oc22, od22, .func (PySem.W.fnOf "_law_source" "_law_source" (C8.fnArgs s_law_source) (C8.fnBody s_law_source) (C8.fnScope s_law_source) .none kV22 dc22 pm22 an22 cd22 ct22), sl22⟩) (c22 : PySem.W.codeIn K cd22 "_law_source" = true) (k22 : PySem.W.keepIn K (.ref f22) = true)
    (a23 : PySem.W.nsIn K mainGlobals "_law_of" = some (some (.ref f23))) (l23 : K.lookup f23 = some ⟨oc23, od23, .func (PySem.W.fnOf "_law_of" "_law_of" (C8.fnArgs s_law_of) (C8.fnBody s_law_of) (C8.fnScope s_law_of) .none kV23 dc23 pm23 an23 cd23 ct23), sl23⟩) (c23 : PySem.W.codeIn K cd23 "_law_of" = true) (k23 : PySem.W.keepIn K (.ref f23) = true)
    (a24 : PySem.W.nsIn K mainGlobals "_law_mixed" = some (some (.ref f24))) (l24 : K.lookup f24 = some ⟨oc24, od24, .func (PySem.W.fnOf "_law_mixed" "_law_mixed" (C8.fnArgs s_law_mixed) (C8.fnBody s_law_mixed) (C8.fnScope s_law_mixed) .none kV24 dc24 pm24 an24 cd24 ct24), sl24⟩) (c24 : PySem.W.codeIn K cd24 "_law_mixed" = true) (k24 : PySem.W.keepIn K (.ref f24) = true)
    (a25 : PySem.W.nsIn K mainGlobals "_law_names" = some (some (.ref f25))) (l25 : K.lookup f25 = some ⟨oc25, od25, .func (PySem.W.fnOf "_law_names" "_law_names" (C8.fnArgs s_law_names) (C8.fnBody s_law_names) (C8.fnScope s_law_names) .none kV25 dc25 pm25 an25 cd25 ct25), sl25⟩) (c25 : PySem.W.codeIn K cd25 "_law_names" = true) (k25 : PySem.W.keepIn K (.ref f25) = true)
    (a26 : PySem.W.nsIn K mainGlobals "_law_laid" = some (some (.ref f26))) (l26 : K.lookup f26 = some ⟨oc26, od26, .func (PySem.W.fnOf "_law_laid" "_law_laid" (C8.fnArgs s_law_laid) (C8.fnBody s_law_laid) (C8.fnScope s_law_laid) .none kV26 dc26 pm26 an26 cd26 ct26), sl26⟩) (c26 : PySem.W.codeIn K cd26 "_law_laid" = true) (k26 : PySem.W.keepIn K (.ref f26) = true)
    (a27 : PySem.W.nsIn K mainGlobals "_law_number" = some (some (.ref f27))) (l27 : K.lookup f27 = some ⟨oc27, od27, .func (PySem.W.fnOf "_law_number" "_law_number" (C8.fnArgs s_law_number) (C8.fnBody s_law_number) (C8.fnScope s_law_number) .none kV27 dc27 pm27 an27 cd27 ct27), sl27⟩) (c27 : PySem.W.codeIn K cd27 "_law_number" = true) (k27 : PySem.W.keepIn K (.ref f27) = true)
    (a28 : PySem.W.nsIn K mainGlobals "_law_any_row" = some (some (.ref f28))) (l28 : K.lookup f28 = some ⟨oc28, od28, .func (PySem.W.fnOf "_law_any_row" "_law_any_row" (C8.fnArgs s_law_any_row) (C8.fnBody s_law_any_row) (C8.fnScope s_law_any_row) .none kV28 dc28 pm28 an28 cd28 ct28), sl28⟩) (c28 : PySem.W.codeIn K cd28 "_law_any_row" = true) (k28 : PySem.W.keepIn K (.ref f28) = true)
    (a29 : PySem.W.nsIn K mainGlobals "_law_draw_row" = some (some (.ref f29))) (l29 : K.lookup f29 = some ⟨oc29, od29, .func (PySem.W.fnOf "_law_draw_row" "_law_draw_row" (C8.fnArgs s_law_draw_row) (C8.fnBody s_law_draw_row) (C8.fnScope s_law_draw_row) .none kV29 dc29 pm29 an29 cd29 ct29), sl29⟩) (c29 : PySem.W.codeIn K cd29 "_law_draw_row" = true) (k29 : PySem.W.keepIn K (.ref f29) = true)
    (a30 : PySem.W.nsIn K mainGlobals "_law_flat" = some (some (.ref f30))) (l30 : K.lookup f30 = some ⟨oc30, od30, .func (PySem.W.fnOf "_law_flat" "_law_flat" (C8.fnArgs s_law_flat) (C8.fnBody s_law_flat) (C8.fnScope s_law_flat) .none kV30 dc30 pm30 an30 cd30 ct30), sl30⟩) (c30 : PySem.W.codeIn K cd30 "_law_flat" = true) (k30 : PySem.W.keepIn K (.ref f30) = true)
    (a31 : PySem.W.nsIn K mainGlobals "_law_lots" = some (some (.ref f31))) (l31 : K.lookup f31 = some ⟨oc31, od31, .func (PySem.W.fnOf "_law_lots" "_law_lots" (C8.fnArgs s_law_lots) (C8.fnBody s_law_lots) (C8.fnScope s_law_lots) .none kV31 dc31 pm31 an31 cd31 ct31), sl31⟩) (c31 : PySem.W.codeIn K cd31 "_law_lots" = true) (k31 : PySem.W.keepIn K (.ref f31) = true)
    (a32 : PySem.W.nsIn K mainGlobals "_law_example" = some (some (.ref f32))) (l32 : K.lookup f32 = some ⟨oc32, od32, .func (PySem.W.fnOf "_law_example" "_law_example" (C8.fnArgs s_law_example) (C8.fnBody s_law_example) (C8.fnScope s_law_example) .none kV32 dc32 pm32 an32 cd32 ct32), sl32⟩) (c32 : PySem.W.codeIn K cd32 "_law_example" = true) (k32 : PySem.W.keepIn K (.ref f32) = true)
    (a33 : PySem.W.nsIn K mainGlobals "law" = some (some (.ref f33))) (l33 : K.lookup f33 = some ⟨oc33, od33, .func (PySem.W.fnOf "law" "law" (C8.fnArgs s_law) (C8.fnBody s_law) (C8.fnScope s_law) .none kV33 dc33 pm33 an33 cd33 ct33), sl33⟩) (c33 : PySem.W.codeIn K cd33 "law" = true) (k33 : PySem.W.keepIn K (.ref f33) = true)
    (z1 : PySem.W.nsIn K mainGlobals "abs" = some none)
    (z2 : PySem.W.nsIn K mainGlobals "enumerate" = some none)
    (z3 : PySem.W.nsIn K mainGlobals "int" = some none)
    (z4 : PySem.W.nsIn K mainGlobals "len" = some none)
    (z5 : PySem.W.nsIn K mainGlobals "list" = some none)
    (z6 : PySem.W.nsIn K mainGlobals "max" = some none)
    (z7 : PySem.W.nsIn K mainGlobals "min" = some none)
    (z8 : PySem.W.nsIn K mainGlobals "range" = some none)
    (z9 : PySem.W.nsIn K mainGlobals "repr" = some none)
    (z10 : PySem.W.nsIn K mainGlobals "sum" = some none)
    (z11 : PySem.W.nsIn K mainGlobals "tuple" = some none)
    (y1 : PySem.W.nsIn K mainGlobals "LIKE" = some (some (.ref t1))) (x1 : K.lookup t1 = some ⟨.type "tuple", to1, .seq #[.str "and" u1_0, .str "or" u1_1, .str "xor" u1_2, .str "add" u1_3, .str "sub" u1_4, .str "mul" u1_5, .str "eq" u1_6, .str "lt" u1_7] tn1, ts1⟩)
    (y2 : PySem.W.nsIn K mainGlobals "NARROW" = some (some (.ref t2))) (x2 : K.lookup t2 = some ⟨.type "tuple", to2, .seq #[.str "all" u2_0, .str "any" u2_1, .str "odd" u2_2, .str "eq" u2_3, .str "lt" u2_4, .str "pick" u2_5] tn2, ts2⟩)
    : ∃ fd : FuncData, (∀ (s : Shared) (v : Value), BindsTo s fd ⟨[v], []⟩ [("_law_script", v)]) ∧ ∀ base : Heap, K.In base → base.Ns mainGlobals mg → FnG l.prog w K mg base C8.CX0 (7 + 1) fa fd ["_law_script"] (spLaw K) := by
  have e := hfa.symm.trans (PySem.W.mg_of X G a33)
  cases e
  have T : Txt mg := ⟨PySem.W.mg_none_of X G z1, PySem.W.mg_none_of X G z2, PySem.W.mg_none_of X G z3, PySem.W.mg_none_of X G z4, PySem.W.mg_none_of X G z5, PySem.W.mg_none_of X G z6, PySem.W.mg_none_of X G z7, PySem.W.mg_none_of X G z8, PySem.W.mg_none_of X G z9, PySem.W.mg_none_of X G z10, PySem.W.mg_none_of X G z11⟩
  have c_LIKE : KC K mg "LIKE" ["and", "or", "xor", "add", "sub", "mul", "eq", "lt"] := ⟨_, _, _, _, PySem.W.mg_of X G y1, x1, rfl, rfl, Nat.le_of_ble_eq_true rfl, .cons ⟨_, rfl⟩ (.cons ⟨_, rfl⟩ (.cons ⟨_, rfl⟩ (.cons ⟨_, rfl⟩ (.cons ⟨_, rfl⟩ (.cons ⟨_, rfl⟩ (.cons ⟨_, rfl⟩ (.cons ⟨_, rfl⟩ (.nil))))))))⟩
  have c_NARROW : KC K mg "NARROW" ["all", "any", "odd", "eq", "lt", "pick"] := ⟨_, _, _, _, PySem.W.mg_of X G y2, x2, rfl, rfl, Nat.le_of_ble_eq_true rfl, .cons ⟨_, rfl⟩ (.cons ⟨_, rfl⟩ (.cons ⟨_, rfl⟩ (.cons ⟨_, rfl⟩ (.cons ⟨_, rfl⟩ (.cons ⟨_, rfl⟩ (.nil))))))⟩
  have F1 : C8.Def K mg "row_members" s_row_members f1 _ := ⟨⟨_, _, _, _, _, _, _, _, _, _, rfl, l1, c1⟩, PySem.W.mg_of X G a1, k1⟩
  have b1 := F1.fn.binds (ps := ["row"]) rfl fun _ _ _ _ _ _ us hl => match us, hl with | [_], _ => rfl
  have F2 : C8.Def K mg "row_width" s_row_width f2 _ := ⟨⟨_, _, _, _, _, _, _, _, _, _, rfl, l2, c2⟩, PySem.W.mg_of X G a2, k2⟩
  have b2 := F2.fn.binds (ps := ["row", "widths", "ins", "regs"]) rfl fun _ _ _ _ _ _ us hl => match us, hl with | [_, _, _, _], _ => rfl
  have F3 : C8.Def K mg "joined_value" s_joined_value f3 _ := ⟨⟨_, _, _, _, _, _, _, _, _, _, rfl, l3, c3⟩, PySem.W.mg_of X G a3, k3⟩
  have b3 := F3.fn.binds (ps := ["word", "a", "b", "width"]) rfl fun _ _ _ _ _ _ us hl => match us, hl with | [_, _, _, _], _ => rfl
  have F4 : C8.Def K mg "moved_value" s_moved_value f4 _ := ⟨⟨_, _, _, _, _, _, _, _, _, _, rfl, l4, c4⟩, PySem.W.mg_of X G a4, k4⟩
  have b4 := F4.fn.binds (ps := ["word", "a", "i", "width"]) rfl fun _ _ _ _ _ _ us hl => match us, hl with | [_, _, _, _], _ => rfl
  have F5 : C8.Def K mg "odd_value" s_odd_value f5 _ := ⟨⟨_, _, _, _, _, _, _, _, _, _, rfl, l5, c5⟩, PySem.W.mg_of X G a5, k5⟩
  have b5 := F5.fn.binds (ps := ["a"]) rfl fun _ _ _ _ _ _ us hl => match us, hl with | [_], _ => rfl
  have F6 : C8.Def K mg "value_of_row" s_value_of_row f6 _ := ⟨⟨_, _, _, _, _, _, _, _, _, _, rfl, l6, c6⟩, PySem.W.mg_of X G a6, k6⟩
  have b6 := F6.fn.binds (ps := ["row", "widths", "values", "lot", "state"]) rfl fun _ _ _ _ _ _ us hl => match us, hl with | [_, _, _, _, _], _ => rfl
  have F7 : C8.Def K mg "widths_of" s_widths_of f7 _ := ⟨⟨_, _, _, _, _, _, _, _, _, _, rfl, l7, c7⟩, PySem.W.mg_of X G a7, k7⟩
  have b7 := F7.fn.binds (ps := ["flat"]) rfl fun _ _ _ _ _ _ us hl => match us, hl with | [_], _ => rfl
  have F8 : C8.Def K mg "values_with" s_values_with f8 _ := ⟨⟨_, _, _, _, _, _, _, _, _, _, rfl, l8, c8⟩, PySem.W.mg_of X G a8, k8⟩
  have b8 := F8.fn.binds (ps := ["flat", "widths", "lot", "state"]) rfl fun _ _ _ _ _ _ us hl => match us, hl with | [_, _, _, _], _ => rfl
  have F9 : C8.Def K mg "row_values" s_row_values f9 _ := ⟨⟨_, _, _, _, _, _, _, _, _, _, rfl, l9, c9⟩, PySem.W.mg_of X G a9, k9⟩
  have b9 := F9.fn.binds (ps := ["flat", "lot", "state"]) rfl fun _ _ _ _ _ _ us hl => match us, hl with | [_, _, _], _ => rfl
  have F10 : C8.Def K mg "start" s_start f10 _ := ⟨⟨_, _, _, _, _, _, _, _, _, _, rfl, l10, c10⟩, PySem.W.mg_of X G a10, k10⟩
  have b10 := F10.fn.binds (ps := ["flat"]) rfl fun _ _ _ _ _ _ us hl => match us, hl with | [_], _ => rfl
  have F11 : C8.Def K mg "told_by" s_told_by f11 _ := ⟨⟨_, _, _, _, _, _, _, _, _, _, rfl, l11, c11⟩, PySem.W.mg_of X G a11, k11⟩
  have b11 := F11.fn.binds (ps := ["flat", "values"]) rfl fun _ _ _ _ _ _ us hl => match us, hl with | [_, _], _ => rfl
  have F12 : C8.Def K mg "run_from" s_run_from f12 _ := ⟨⟨_, _, _, _, _, _, _, _, _, _, rfl, l12, c12⟩, PySem.W.mg_of X G a12, k12⟩
  have b12 := F12.fn.binds (ps := ["flat", "state", "lots"]) rfl fun _ _ _ _ _ _ us hl => match us, hl with | [_, _, _], _ => rfl
  have F13 : C8.Def K mg "outputs" s_outputs f13 _ := ⟨⟨_, _, _, _, _, _, _, _, _, _, rfl, l13, c13⟩, PySem.W.mg_of X G a13, k13⟩
  have b13 := F13.fn.binds (ps := ["flat", "lots"]) rfl fun _ _ _ _ _ _ us hl => match us, hl with | [_, _], _ => rfl
  have F14 : C8.Def K mg "states" s_states f14 _ := ⟨⟨_, _, _, _, _, _, _, _, _, _, rfl, l14, c14⟩, PySem.W.mg_of X G a14, k14⟩
  have b14 := F14.fn.binds (ps := ["flat", "lots"]) rfl fun _ _ _ _ _ _ us hl => match us, hl with | [_, _], _ => rfl
  have F15 : C8.Def K mg "step" s_step f15 _ := ⟨⟨_, _, _, _, _, _, _, _, _, _, rfl, l15, c15⟩, PySem.W.mg_of X G a15, k15⟩
  have b15 := F15.fn.binds (ps := ["flat", "lot", "state"]) rfl fun _ _ _ _ _ _ us hl => match us, hl with | [_, _, _], _ => rfl
  have F16 : C8.Def K mg "_law_row_numbers" s_law_row_numbers f16 _ := ⟨⟨_, _, _, _, _, _, _, _, _, _, rfl, l16, c16⟩, PySem.W.mg_of X G a16, k16⟩
  have b16 := F16.fn.binds (ps := ["_law_row"]) rfl fun _ _ _ _ _ _ us hl => match us, hl with | [_], _ => rfl
  have F17 : C8.Def K mg "_law_row_value" s_law_row_value f17 _ := ⟨⟨_, _, _, _, _, _, _, _, _, _, rfl, l17, c17⟩, PySem.W.mg_of X G a17, k17⟩
  have b17 := F17.fn.binds (ps := ["_law_row", "_law_some", "_law_sizes", "_law_width", "_law_lot", "_law_state"]) rfl fun _ _ _ _ _ _ us hl => match us, hl with | [_, _, _, _, _, _], _ => rfl
  have F18 : C8.Def K mg "_law_widths" s_law_widths f18 _ := ⟨⟨_, _, _, _, _, _, _, _, _, _, rfl, l18, c18⟩, PySem.W.mg_of X G a18, k18⟩
  have b18 := F18.fn.binds (ps := ["_law_flat_here"]) rfl fun _ _ _ _ _ _ us hl => match us, hl with | [_], _ => rfl
  have F19 : C8.Def K mg "_law_values" s_law_values f19 _ := ⟨⟨_, _, _, _, _, _, _, _, _, _, rfl, l19, c19⟩, PySem.W.mg_of X G a19, k19⟩
  have b19 := F19.fn.binds (ps := ["_law_flat_here", "_law_widths_here", "_law_lot", "_law_state"]) rfl fun _ _ _ _ _ _ us hl => match us, hl with | [_, _, _, _], _ => rfl
  have F20 : C8.Def K mg "_law_run" s_law_run f20 _ := ⟨⟨_, _, _, _, _, _, _, _, _, _, rfl, l20, c20⟩, PySem.W.mg_of X G a20, k20⟩
  have b20 := F20.fn.binds (ps := ["_law_flat_here", "_law_lots_here"]) rfl fun _ _ _ _ _ _ us hl => match us, hl with | [_, _], _ => rfl
  have F21 : C8.Def K mg "_law_pick" s_law_pick f21 _ := ⟨⟨_, _, _, _, _, _, _, _, _, _, rfl, l21, c21⟩, PySem.W.mg_of X G a21, k21⟩
  have b21 := F21.fn.binds (ps := ["_law_source_here", "_law_many"]) rfl fun _ _ _ _ _ _ us hl => match us, hl with | [_, _], _ => rfl
  have F22 : C8.Def K mg "_law_source" s_law_source f22 _ := ⟨⟨_, _, _, _, _, _, _, _, _, _, rfl, l22, c22⟩, PySem.W.mg_of X G a22, k22⟩
  have b22 := F22.fn.binds (ps := ["_law_script"]) rfl fun _ _ _ _ _ _ us hl => match us, hl with | [_], _ => rfl
  have F23 : C8.Def K mg "_law_of" s_law_of f23 _ := ⟨⟨_, _, _, _, _, _, _, _, _, _, rfl, l23, c23⟩, PySem.W.mg_of X G a23, k23⟩
  have b23 := F23.fn.binds (ps := ["_law_source_here", "_law_some"]) rfl fun _ _ _ _ _ _ us hl => match us, hl with | [_, _], _ => rfl
  have F24 : C8.Def K mg "_law_mixed" s_law_mixed f24 _ := ⟨⟨_, _, _, _, _, _, _, _, _, _, rfl, l24, c24⟩, PySem.W.mg_of X G a24, k24⟩
  have b24 := F24.fn.binds (ps := ["_law_source_here", "_law_things"]) rfl fun _ _ _ _ _ _ us hl => match us, hl with | [_, _], _ => rfl
  have F25 : C8.Def K mg "_law_names" s_law_names f25 _ := ⟨⟨_, _, _, _, _, _, _, _, _, _, rfl, l25, c25⟩, PySem.W.mg_of X G a25, k25⟩
  have b25 := F25.fn.binds (ps := ["_law_source_here", "_law_many", "_law_letter"]) rfl fun _ _ _ _ _ _ us hl => match us, hl with | [_, _, _], _ => rfl
  have F26 : C8.Def K mg "_law_laid" s_law_laid f26 _ := ⟨⟨_, _, _, _, _, _, _, _, _, _, rfl, l26, c26⟩, PySem.W.mg_of X G a26, k26⟩
  have b26 := F26.fn.binds (ps := ["_law_design", "_law_row", "_law_width"]) rfl fun _ _ _ _ _ _ us hl => match us, hl with | [_, _, _], _ => rfl
  have F27 : C8.Def K mg "_law_number" s_law_number f27 _ := ⟨⟨_, _, _, _, _, _, _, _, _, _, rfl, l27, c27⟩, PySem.W.mg_of X G a27, k27⟩
  have b27 := F27.fn.binds (ps := ["_law_source_here", "_law_width"]) rfl fun _ _ _ _ _ _ us hl => match us, hl with | [_, _], _ => rfl
  have F28 : C8.Def K mg "_law_any_row" s_law_any_row f28 _ := ⟨⟨_, _, _, _, _, _, _, _, _, _, rfl, l28, c28⟩, PySem.W.mg_of X G a28, k28⟩
  have b28 := F28.fn.binds (ps := ["_law_source_here", "_law_design", "_law_width"]) rfl fun _ _ _ _ _ _ us hl => match us, hl with | [_, _, _], _ => rfl
  have F29 : C8.Def K mg "_law_draw_row" s_law_draw_row f29 _ := ⟨⟨_, _, _, _, _, _, _, _, _, _, rfl, l29, c29⟩, PySem.W.mg_of X G a29, k29⟩
  have b29 := F29.fn.binds (ps := ["_law_source_here", "_law_design", "_law_wide"]) rfl fun _ _ _ _ _ _ us hl => match us, hl with | [_, _, _], _ => rfl
  have F30 : C8.Def K mg "_law_flat" s_law_flat f30 _ := ⟨⟨_, _, _, _, _, _, _, _, _, _, rfl, l30, c30⟩, PySem.W.mg_of X G a30, k30⟩
  have b30 := F30.fn.binds (ps := ["_law_source_here", "_law_many", "_law_wide", "_law_most"]) rfl fun _ _ _ _ _ _ us hl => match us, hl with | [_, _, _, _], _ => rfl
  have F31 : C8.Def K mg "_law_lots" s_law_lots f31 _ := ⟨⟨_, _, _, _, _, _, _, _, _, _, rfl, l31, c31⟩, PySem.W.mg_of X G a31, k31⟩
  have b31 := F31.fn.binds (ps := ["_law_source_here", "_law_flat_here", "_law_many"]) rfl fun _ _ _ _ _ _ us hl => match us, hl with | [_, _, _], _ => rfl
  have F32 : C8.Def K mg "_law_example" s_law_example f32 _ := ⟨⟨_, _, _, _, _, _, _, _, _, _, rfl, l32, c32⟩, PySem.W.mg_of X G a32, k32⟩
  have b32 := F32.fn.binds (ps := []) rfl fun _ _ _ _ _ _ us hl => match us, hl with | [], _ => rfl
  have FL : C8.Fun K "law" "law" s_law fa _ := ⟨_, _, _, _, _, _, _, _, _, _, rfl, l33, c33⟩
  refine ⟨PySem.W.fnOf "law" "law" (C8.fnArgs s_law) (C8.fnBody s_law) (C8.fnScope s_law) .none kV33 dc33 pm33 an33 cd33 ct33, fun s v => .of_eq rfl, fun base _ _ => ?_⟩
  have c_row_members := ok_row_members (P := l.prog) (w := w) (base := base) F1 b1 T 
  have c_row_width := ok_row_width (P := l.prog) (w := w) (base := base) F2 b2 T c_row_members c_LIKE c_NARROW
  have c_joined_value := ok_joined_value (P := l.prog) (w := w) (base := base) F3 b3 T 
  have c_moved_value := ok_moved_value (P := l.prog) (w := w) (base := base) F4 b4 T 
  have c_odd_value := ok_odd_value (P := l.prog) (w := w) (base := base) F5 b5 T 
  have c_value_of_row := ok_value_of_row (P := l.prog) (w := w) (base := base) F6 b6 T c_joined_value c_moved_value c_odd_value
  have c_widths_of := ok_widths_of (P := l.prog) (w := w) (base := base) F7 b7 T c_row_width
  have c_values_with := ok_values_with (P := l.prog) (w := w) (base := base) F8 b8 T c_value_of_row
  have c_row_values := ok_row_values (P := l.prog) (w := w) (base := base) F9 b9 T c_values_with c_widths_of
  have c_start := ok_start (P := l.prog) (w := w) (base := base) F10 b10 T 
  have c_told_by := ok_told_by (P := l.prog) (w := w) (base := base) F11 b11 T 
  have c_run_from := ok_run_from (P := l.prog) (w := w) (base := base) F12 b12 T c_widths_of c_told_by c_values_with
  have cp_run_from := okP_run_from (P := l.prog) (w := w) (base := base) F12 b12 T c_widths_of c_told_by c_values_with
  have c_outputs := ok_outputs (P := l.prog) (w := w) (base := base) F13 b13 T c_start cp_run_from
  have c_states := ok_states (P := l.prog) (w := w) (base := base) F14 b14 T c_widths_of c_start c_told_by c_values_with
  have c_step := ok_step (P := l.prog) (w := w) (base := base) F15 b15 T c_row_values c_told_by
  have c_law_row_numbers := ok_law_row_numbers (P := l.prog) (w := w) (base := base) F16 b16 T 
  have c_law_row_value := ok_law_row_value (P := l.prog) (w := w) (base := base) F17 b17 T 
  have c_law_widths := ok_law_widths (P := l.prog) (w := w) (base := base) F18 b18 T 
  have c_law_values := ok_law_values (P := l.prog) (w := w) (base := base) F19 b19 T c_law_row_numbers c_law_row_value
  have c_law_run := ok_law_run (P := l.prog) (w := w) (base := base) F20 b20 T c_law_widths c_law_values
  have c_law_pick := ok_law_pick (P := l.prog) (w := w) (base := base) F21 b21 T 
  have c_law_source := ok_law_source (P := l.prog) (w := w) (base := base) F22 b22 T 
  have c_law_of := ok_law_of (P := l.prog) (w := w) (base := base) F23 b23 T c_law_pick
  have c_law_mixed := ok_law_mixed (P := l.prog) (w := w) (base := base) F24 b24 T c_law_pick
  have c_law_names := ok_law_names (P := l.prog) (w := w) (base := base) F25 b25 T c_law_mixed
  have c_law_laid := ok_law_laid (P := l.prog) (w := w) (base := base) F26 b26 T 
  have c_law_number := ok_law_number (P := l.prog) (w := w) (base := base) F27 b27 T c_law_pick c_law_of
  have c_law_any_row := ok_law_any_row (P := l.prog) (w := w) (base := base) F28 b28 T c_law_pick c_law_of c_law_laid c_law_number
  have c_law_draw_row := ok_law_draw_row (P := l.prog) (w := w) (base := base) F29 b29 T c_law_pick c_law_of c_law_laid c_law_any_row
  have c_law_flat := ok_law_flat (P := l.prog) (w := w) (base := base) F30 b30 T c_law_names c_law_pick c_law_number c_law_laid c_law_draw_row c_law_any_row
  have c_law_lots := ok_law_lots (P := l.prog) (w := w) (base := base) F31 b31 T c_law_number
  have c_law_example := ok_law_example (P := l.prog) (w := w) (base := base) F32 b32 T 
  exact ok_law FL T c_law_source c_law_pick c_law_number c_law_flat c_law_lots c_law_example c_law_run c_law_values c_law_widths c_outputs c_states c_start c_step c_run_from cp_run_from
theorem walk {l : PySem.W.OpenLaw} {q : Program} {loose : List Str} {XP : (Str → Option Value) → Heap → Prop} {YP : World → Heap → Prop} {d : DefRec} {K : Params → PySem.W.Frag} (hn : l.most = some 63) (hdf : d.params.defaults = [])
    (hY : ∀ (w : World) (h : Heap), YP w h → (K w.params).In h)
    (F : ∀ (w : World) (mg : Str → Option Value) (fa : Addr) (h : Heap), (K w.params).In h → h.Ns mainGlobals mg → mg d.name = some (.ref fa) →
      ∃ fd : FuncData, (∀ (s : Shared) (u : Value), BindsTo s fd ⟨[u], []⟩ [("_law_script", u)]) ∧ ∀ base : Heap, (K w.params).In base → base.Ns mainGlobals mg → FnG l.prog w (K w.params) mg base C8.CX0 (7 + 1) fa fd ["_law_script"] (spLaw (K w.params))) :
    PySem.W.WalkO q loose XP YP l.row.toRowW d [] (fun f vs => PySem.call f vs) :=
  law_end (x := "_law_script") (sp := fun w => spLaw (K w.params)) hn hdf ⟨rfl, by decide, by decide⟩ hY F fun w H a ns hl hS _ => ⟨a, ns, rfl, hS, hl, fun _ => rfl⟩
end K22
open PySem PySem.W PyProof.Rows
set_option maxRecDepth 100000 in
set_option maxHeartbeats 0 in
theorem PySem.Challenge.cw_bitloom_k22_whole_runs_holds : PySem.Challenge.rw_bitloom_k22_whole_runs.Holds := by
  w_on; o_law; k_head; (case hw => w_witness2)
  k_fill
  refine K22.walk (l := PySem.Challenge.rw_bitloom_k22_whole_runs) rfl rfl (fun w h Y => PySem.W.kIn_of Y) ?F
  case F =>
    intro w mg fa h KX G hmg
    refine' K22.all_mk KX G hmg ?a1 ?l1 ?c1 ?k1 ?a2 ?l2 ?c2 ?k2 ?a3 ?l3 ?c3 ?k3 ?a4 ?l4 ?c4 ?k4 ?a5 ?l5 ?c5 ?k5 ?a6 ?l6 ?c6 ?k6 ?a7 ?l7 ?c7 ?k7 ?a8 ?l8 ?c8 ?k8 ?a9 ?l9 ?c9 ?k9 ?a10 ?l10 ?c10 ?k10 ?a11 ?l11 ?c11 ?k11 ?a12 ?l12 ?c12 ?k12 ?a13 ?l13 ?c13 ?k13 ?a14 ?l14 ?c14 ?k14 ?a15 ?l15 ?c15 ?k15 ?a16 ?l16 ?c16 ?k16 ?a17 ?l17 ?c17 ?k17 ?a18 ?l18 ?c18 ?k18 ?a19 ?l19 ?c19 ?k19 ?a20 ?l20 ?c20 ?k20 ?a21 ?l21 ?c21 ?k21 ?a22 ?l22 ?c22 ?k22 ?a23 ?l23 ?c23 ?k23 ?a24 ?l24 ?c24 ?k24 ?a25 ?l25 ?c25 ?k25 ?a26 ?l26 ?c26 ?k26 ?a27 ?l27 ?c27 ?k27 ?a28 ?l28 ?c28 ?k28 ?a29 ?l29 ?c29 ?k29 ?a30 ?l30 ?c30 ?k30 ?a31 ?l31 ?c31 ?k31 ?a32 ?l32 ?c32 ?k32 ?a33 ?l33 ?c33 ?k33 ?z1 ?z2 ?z3 ?z4 ?z5 ?z6 ?z7 ?z8 ?z9 ?z10 ?z11 ?y1 ?x1 ?y2 ?x2
    (case a1 => k_is)
    (case l1 => k_is)
    (case c1 => k_is)
    (case k1 => k_is)
    (case a2 => k_is)
    (case l2 => k_is)
    (case c2 => k_is)
    (case k2 => k_is)
    (case a3 => k_is)
    (case l3 => k_is)
    (case c3 => k_is)
    (case k3 => k_is)
    (case a4 => k_is)
    (case l4 => k_is)
    (case c4 => k_is)
    (case k4 => k_is)
    (case a5 => k_is)
    (case l5 => k_is)
    (case c5 => k_is)
    (case k5 => k_is)
    (case a6 => k_is)
    (case l6 => k_is)
    (case c6 => k_is)
    (case k6 => k_is)
    (case a7 => k_is)
    (case l7 => k_is)
    (case c7 => k_is)
    (case k7 => k_is)
    (case a8 => k_is)
    (case l8 => k_is)
    (case c8 => k_is)
    (case k8 => k_is)
    (case a9 => k_is)
    (case l9 => k_is)
    (case c9 => k_is)
    (case k9 => k_is)
    (case a10 => k_is)
    (case l10 => k_is)
    (case c10 => k_is)
    (case k10 => k_is)
    (case a11 => k_is)
    (case l11 => k_is)
    (case c11 => k_is)
    (case k11 => k_is)
    (case a12 => k_is)
    (case l12 => k_is)
    (case c12 => k_is)
    (case k12 => k_is)
    (case a13 => k_is)
    (case l13 => k_is)
    (case c13 => k_is)
    (case k13 => k_is)
    (case a14 => k_is)
    (case l14 => k_is)
    (case c14 => k_is)
    (case k14 => k_is)
    (case a15 => k_is)
    (case l15 => k_is)
    (case c15 => k_is)
    (case k15 => k_is)
    (case a16 => k_is)
    (case l16 => k_is)
    (case c16 => k_is)
    (case k16 => k_is)
    (case a17 => k_is)
    (case l17 => k_is)
    (case c17 => k_is)
    (case k17 => k_is)
    (case a18 => k_is)
    (case l18 => k_is)
    (case c18 => k_is)
    (case k18 => k_is)
    (case a19 => k_is)
    (case l19 => k_is)
    (case c19 => k_is)
    (case k19 => k_is)
    (case a20 => k_is)
    (case l20 => k_is)
    (case c20 => k_is)
    (case k20 => k_is)
    (case a21 => k_is)
    (case l21 => k_is)
    (case c21 => k_is)
    (case k21 => k_is)
    (case a22 => k_is)
    (case l22 => k_is)
    (case c22 => k_is)
    (case k22 => k_is)
    (case a23 => k_is)
    (case l23 => k_is)
    (case c23 => k_is)
    (case k23 => k_is)
    (case a24 => k_is)
    (case l24 => k_is)
    (case c24 => k_is)
    (case k24 => k_is)
    (case a25 => k_is)
    (case l25 => k_is)
    (case c25 => k_is)
    (case k25 => k_is)
    (case a26 => k_is)
    (case l26 => k_is)
    (case c26 => k_is)
    (case k26 => k_is)
    (case a27 => k_is)
    (case l27 => k_is)
    (case c27 => k_is)
    (case k27 => k_is)
    (case a28 => k_is)
    (case l28 => k_is)
    (case c28 => k_is)
    (case k28 => k_is)
    (case a29 => k_is)
    (case l29 => k_is)
    (case c29 => k_is)
    (case k29 => k_is)
    (case a30 => k_is)
    (case l30 => k_is)
    (case c30 => k_is)
    (case k30 => k_is)
    (case a31 => k_is)
    (case l31 => k_is)
    (case c31 => k_is)
    (case k31 => k_is)
    (case a32 => k_is)
    (case l32 => k_is)
    (case c32 => k_is)
    (case k32 => k_is)
    (case a33 => k_is)
    (case l33 => k_is)
    (case c33 => k_is)
    (case k33 => k_is)
    (case z1 => k_is)
    (case z2 => k_is)
    (case z3 => k_is)
    (case z4 => k_is)
    (case z5 => k_is)
    (case z6 => k_is)
    (case z7 => k_is)
    (case z8 => k_is)
    (case z9 => k_is)
    (case z10 => k_is)
    (case z11 => k_is)
    (case y1 => k_is)
    (case x1 => k_is)
    (case y2 => k_is)
    (case x2 => k_is)
#print axioms PySem.Challenge.cw_bitloom_k22_whole_runs_holds

