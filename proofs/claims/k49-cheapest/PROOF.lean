import PyProof.Rows.All
import PySem.Challenge.RW_dearcurves_k49_whole_changes_lead_to_a_c
import KE.KStateDown
import Lean
import HandS.Words
import HandS.Ends
import HandS.Head0
import HandS.Head1
import HandS.Head2
import HandS.HeadEnd
import HandS.HeadHook1
import HandS.HeadHook2
import HandS.ForMost
import HandS.Star
import HandS.Flow
import HandS.IsInst
import HandS.TupAny
import HandS.Zip
import HandS.Style
import HandS.SortRule
import HandS.SortInts
import HandS.SetFor
import HandS.Strs
import HandS.Defaults
import HandS.CallLocal
import KE.GoesNew
import KE.KDictZip
import KE.KUnpackStar
import HandS.Wide
import HandS.ExcIs
import HandS.HotCalls
import HandS.ExcOwn

section
set_option Elab.async false
set_option linter.all false
set_option maxRecDepth 100000
set_option maxHeartbeats 0
/-! H0: the head, first in the file (its run wants most of the memory): what stands behind the top. -/
namespace FD
open PySem PySem.Spec PyProof.Rows L2
def topS (i : Nat) : Stmt := PySem.Challenge.pw_dearcurves_k49_whole_changes_lead_to_a_c.main.body.getD i (.Pass ⟨0, 0, 0, 0⟩)
def defL0 : List (Str × Nat) := [("is_integer", 9), ("is_integer_in", 10), ("is_tuple_of", 11), ("last_place", 13), ("cost_at", 14), ("price_after", 15), ("is_place", 16), ("joined_steps", 17), ("sharing_of", 18), ("bends_of", 19), ("sum_of", 20), ("moved_by", 21), ("stocks_after", 25), ("fits", 26), ("check_plan", 27), ("plan_cost", 28), ("cost_of", 29), ("end_of", 30), ("is_reason", 31), ("find_reason", 32), ("check_way", 33), ("best_of", 35), ("gain_of", 36), ("price_ends", 37), ("common_price", 38)]
def defL1 : List (Str × Nat) := [("costs_so_far", 47), ("lowest_cost", 48), ("least_cost", 49), ("is_price", 50), ("price_bound", 51), ("is_change", 52), ("changed", 53), ("after_change", 54), ("all_changes", 55), ("is_saving", 56), ("saving_change", 57), ("common_ends", 58), ("without", 59), ("beside", 60), ("prices_of", 61), ("judge", 62), ("judgement_holds", 63), ("_law_deck", 65), ("_law_next", 66), ("_law_one", 67), ("_law_whole", 68), ("_law_steps", 69), ("_law_units", 70), ("_law_data", 71), ("_law_last", 72)]
def defL2 : List (Str × Nat) := [("_law_cost", 73), ("_law_is_place", 74), ("_law_around", 75), ("_law_book", 76), ("_law_stocks", 77), ("_law_is_plan", 78), ("_law_plan_cost", 79), ("_law_changed", 80), ("_law_changes", 81), ("_law_is_reason", 82), ("_law_refusal", 83), ("_law_asked", 84), ("_law_spans", 85), ("_law_some_plan", 86), ("_law_equals", 87), ("_law_wandered", 88), ("_law_changes_right", 89), ("law", 90)]
def defL : List (Str × Nat) := defL0 ++ (defL1 ++ (defL2))
def freeL : List Str := ["len", "sum", "min", "max", "tuple", "sorted", "set", "range", "zip", "list", "isinstance", "all", "abs", "int", "bool", "str", "enumerate", "ValueError"]
def strL : List (Str × Str) := [("SHORT", "short"), ("OVER", "over"), ("MORE", "more"), ("LESS", "less"), ("SHIFT", "shift"), ("PRICES", "prices"), ("CHANGE", "change")]
abbrev HR : PySem.W.OpenRow := PySem.W.OpenLaw.row PySem.Challenge.rw_dearcurves_k49_whole_changes_lead_to_a_c
def names1 : List PySem.Str := ["CurveError", "NoTotal", "NoPlan", "NoWay", "NoChange", "NoPeriod", "TooMany", "is_integer", "is_integer_in", "is_tuple_of", "last_place", "cost_at", "price_after", "is_place", "joined_steps", "sharing_of", "bends_of", "sum_of", "moved_by", "SHORT", "OVER", "stocks_after", "fits", "check_plan", "plan_cost", "cost_of", "end_of", "is_reason", "find_reason", "check_way"]
def names2 : List PySem.Str := ["best_of", "gain_of", "price_ends", "common_price", "MORE", "LESS", "SHIFT", "PRICES", "CHANGE", "GREAT", "NO_ENDS", "costs_so_far", "lowest_cost", "least_cost", "is_price", "price_bound", "is_change", "changed", "after_change", "all_changes", "is_saving", "saving_change", "common_ends", "without", "beside", "prices_of", "judge", "judgement_holds", "_law_deck", "_law_next"]
def names3 : List PySem.Str := ["_law_one", "_law_whole", "_law_steps", "_law_units", "_law_data", "_law_last", "_law_cost", "_law_is_place", "_law_around", "_law_book", "_law_stocks", "_law_is_plan", "_law_plan_cost", "_law_changed", "_law_changes", "_law_is_reason", "_law_refusal", "_law_asked", "_law_spans", "_law_some_plan", "_law_equals", "_law_wandered", "_law_changes_right"]
def names : List PySem.Str := names1 ++ (names2 ++ names3)
def mkDef (p : Str × Nat) : He.DefD := ⟨(p.1, none), p.1, p.1, defArgs (topS p.2), defBody (topS p.2), defScope (topS p.2), [], []⟩
def hfn : List He.DefD := defL.map mkDef
def hfa : List He.Fa := defL.map (fun p => He.Fa.glo p.1) ++ (freeL.map He.Fa.free ++ (strL.map (fun p => He.Fa.str p.1 p.2) ++ [.int "GREAT" 1000000000000000000000000000000, .glo "NO_ENDS", .glo "NoChange", .glo "CurveError", .glo "NoPlan", .glo "NoWay", .glo "TooMany", .glo "NoPeriod", .glo "NoTotal", .exc "NoChange", .exm "NoChange" "CurveError" true]))
/-- what the text says of the pair of None and of the error classes -/
def hx (K : PySem.W.Frag) : Bool :=
  He.tupB K "NO_ENDS" [.non, .non] &&
  (He.eqO (PySem.W.findIn K (.ref (He.ga K "NoChange")) "__getattribute__") (some (some (.builtin "BaseException.__getattribute__"))) &&
  (He.eqO (PySem.W.findIn K (.ref (He.ga K "NoChange")) "__getattr__") (some none) &&
  (PySem.W.hasDictIn K (He.ga K "NoChange") &&
  (He.eqO (PySem.W.findIn K (.ref (He.ga K "NoChange")) "__class__") (some (some (.builtin "object.__class__"))) &&
  (He.eqO (PySem.W.specialIn K (.builtin "object.__class__") "__get__") (some (some (.builtin "getset_descriptor.__get__"))) &&
  (decide (PySem.W.takesIn K (.builtin "object.__class__") = some true) &&
  (decide (PySem.W.mroIn K (He.ga K "NoChange") (.type "object") = some true) &&
  (decide (PySem.W.kitOne K (.ref (He.ga K "NoChange")) (.ref (He.ga K "NoPlan")) = some false) &&
  (decide (PySem.W.kitOne K (.ref (He.ga K "NoChange")) (.ref (He.ga K "NoWay")) = some false) &&
  (decide (PySem.W.kitOne K (.ref (He.ga K "NoChange")) (.ref (He.ga K "TooMany")) = some false) &&
  (decide (PySem.W.kitAny K (.ref (He.ga K "NoChange")) [.ref (He.ga K "NoPeriod"), .ref (He.ga K "NoTotal")] = some false) &&
  decide (PySem.W.kitOne K (.ref (He.ga K "NoChange")) (.type "ValueError") = some true))))))))))))
abbrev AlX : Type := Bool × He.AlD
def obsX (K : PySem.W.Frag) : AlX := (hx K, He.obsD hfa hfn K)
def valX : AlX := (true, He.valD hfn)
def obsXG (g : Addr → Option Obj) : AlX := obsX (He.frG g (He.asD g 4))
def hkX : PySem.W.Hook where
  α := AlX
  obs := fun s => obsXG s.heap.get?
  val := fun _ => valX
  says := fun _ h => ∃ K : PySem.W.Frag, K.In h ∧ obsX K = valX
  of := fun _ _ e => ⟨_, He.frG_in, e⟩
  keeps := fun _ _ _ ⟨K, hK, c⟩ k => ⟨K, PySem.W.Frag.In.keeps hK k, c⟩
def obX (s : PySem.W.SharedT) : AlX := obsXG (HandSHeadRun.getT s)
theorem obX_eq (s : PySem.W.SharedT) : obX s = hkX.obs s.abs := by
  have e : HandSHeadRun.getT s = s.abs.heap.get? := funext (HandSHeadRun.getT_eq s)
  unfold obX
  rw [e]
  rfl
theorem head_run (w : World) : HandSHeadRun.RunEq HR (PySem.W.view HR.prog [90]) hkX obX 4000 names w := by
  intro os
  kernel_rfl
end FD
end

section
set_option Elab.async false
set_option linter.all false
set_option maxRecDepth 100000
set_option maxHeartbeats 1000000
/-! FD: functional data over the hand layer. A value is read as a datum (D); F is the part of the abstract heap that never changes; a local list that only this frame knows stands outside F. -/
namespace FD
open PySem PySem.Spec PyProof.Rows L2

inductive D where
  | non | bl (b : Bool) | int (i : Int) | str (x : Str) | tup (ds : List D) | lst (ds : List D)

mutual
inductive Rp (K : PySem.W.Frag) (F : Hp) : V → D → Prop
  | non : Rp K F .non .non
  | bl (b : Bool) : Rp K F (.bl b) (.bl b)
  | int (i : Int) : Rp K F (.int i) (.int i)
  | str (x : Str) : Rp K F (.str x) (.str x)
  | tup {a : Addr} {vs : List V} {ds : List D} : SqT K F a vs → Rps K F vs ds → Rp K F (.ref a) (.tup ds)
  | lst {a : Addr} {vs : List V} {ds : List D} : F a = some (.lst vs) → Rps K F vs ds → Rp K F (.ref a) (.lst ds)
inductive Rps (K : PySem.W.Frag) (F : Hp) : List V → List D → Prop
  | nil : Rps K F [] []
  | cons {v : V} {vs : List V} {d : D} {ds : List D} : Rp K F v d → Rps K F vs ds → Rps K F (v :: vs) (d :: ds)
end

theorem sqT_mono {K : PySem.W.Frag} {F F' : Hp} {a : Addr} {xs : List V} (e : Same F F') (h : SqT K F a xs) : SqT K F' a xs := by
  rcases h with (h | ⟨o, h⟩) | h
  · exact .inl (.inl (e _ _ h))
  · exact .inl (.inr ⟨o, e _ _ h⟩)
  · exact .inr h

mutual
theorem Rp.mono {K : PySem.W.Frag} {F F' : Hp} (s : Same F F') : ∀ {v : V} {d : D}, Rp K F v d → Rp K F' v d
  | _, _, .non => .non
  | _, _, .bl b => .bl b
  | _, _, .int i => .int i
  | _, _, .str x => .str x
  | _, _, .tup h r => .tup (sqT_mono s h) (Rps.mono s r)
  | _, _, .lst h r => .lst (s _ _ h) (Rps.mono s r)
theorem Rps.mono {K : PySem.W.Frag} {F F' : Hp} (s : Same F F') : ∀ {vs : List V} {ds : List D}, Rps K F vs ds → Rps K F' vs ds
  | _, _, .nil => .nil
  | _, _, .cons h r => .cons (Rp.mono s h) (Rps.mono s r)
end
section
variable {K : PySem.W.Frag} {F F' F0 H0 H H' : Hp}
theorem Rps.length : ∀ {vs : List V} {ds : List D}, Rps K F vs ds → vs.length = ds.length
  | _, _, .nil => rfl
  | _, _, .cons _ r => by simp [Rps.length r]
theorem Rps.get : ∀ {vs : List V} {ds : List D} {i : Nat} {d : D}, Rps K F vs ds → ds[i]? = some d → ∃ v, vs[i]? = some v ∧ Rp K F v d
  | _, _, _, _, .nil, e => by simp at e
  | _, _, 0, _, .cons r _, e => by
    simp at e; subst e; exact ⟨_, rfl, r⟩
  | _, _, i + 1, d, .cons _ t, e => by
    obtain ⟨u, h1, h2⟩ := Rps.get (i := i) (d := d) t (by simpa using e)
    exact ⟨u, by simpa using h1, h2⟩
theorem Rps.get' : ∀ {vs : List V} {ds : List D} {i : Nat} {v : V}, Rps K F vs ds → vs[i]? = some v → ∃ d, ds[i]? = some d ∧ Rp K F v d
  | _, _, _, _, .nil, e => by simp at e
  | _, _, 0, _, .cons r _, e => by
    simp at e; subst e; exact ⟨_, rfl, r⟩
  | _, _, i + 1, d, .cons _ t, e => by
    obtain ⟨u, h1, h2⟩ := Rps.get' (i := i) (v := d) t (by simpa using e)
    exact ⟨u, by simpa using h1, h2⟩
theorem Rps.append : ∀ {xs ys : List V} {us ws : List D}, Rps K F xs us → Rps K F ys ws → Rps K F (xs ++ ys) (us ++ ws)
  | _, _, _, _, .nil, s => s
  | _, _, _, _, .cons r t, s => .cons r (Rps.append t s)
theorem Rps.take : ∀ {xs : List V} {us : List D} (n : Nat), Rps K F xs us → Rps K F (xs.take n) (us.take n)
  | _, _, 0, _ => .nil
  | _, _, _ + 1, .nil => .nil
  | _, _, n + 1, .cons r t => .cons r (Rps.take n t)
theorem Rps.drop : ∀ {xs : List V} {us : List D} (n : Nat), Rps K F xs us → Rps K F (xs.drop n) (us.drop n)
  | _, _, 0, r => r
  | _, _, _ + 1, .nil => .nil
  | _, _, n + 1, .cons _ t => Rps.drop n t
theorem Rps.reverse {xs : List V} {us : List D} (h : Rps K F xs us) : Rps K F xs.reverse us.reverse := by
  induction xs generalizing us with
  | nil => cases h; exact .nil
  | cons x r ih =>
    cases h with
    | cons h1 h2 => rw [List.reverse_cons, List.reverse_cons]; exact (ih h2).append (.cons h1 .nil)
theorem Rps.set : ∀ {xs : List V} {us : List D} (i : Nat) {v : V} {d : D}, Rps K F xs us → Rp K F v d → Rps K F (xs.set i v) (us.set i d)
  | _, _, _, _, _, .nil, _ => .nil
  | _, _, 0, _, _, .cons _ t, r => .cons r t
  | _, _, i + 1, _, _, .cons h t, r => .cons h (Rps.set i t r)
theorem Rps.one {v : V} {d : D} (r : Rp K F v d) : Rps K F [v] [d] := .cons r .nil

/-! ### extension -/
structure Ext (F H F' H' : Hp) : Prop where
  f : Same F F'
  h : Same H H'
  fh : Same F' H'
  nw : ∀ a, F a = none → H a ≠ none → F' a = none
theorem Ext.refl (s : Same F H) : Ext F H F H := ⟨Same.refl F, Same.refl H, s, fun _ h _ => h⟩
theorem Same.ne {H H' : Hp} (s : Same H H') {a : Addr} (h : H a ≠ none) : H' a ≠ none := by
  cases e : H a with
  | none => exact absurd e h
  | some x => rw [s a x e]; exact fun z => nomatch z
theorem Same.no {H H' : Hp} (s : Same H H') {a : Addr} (h : H' a = none) : H a = none := s.free h
theorem Ext.trans {F1 H1 F2 H2 : Hp} (x : Ext F H F1 H1) (y : Ext F1 H1 F2 H2) : Ext F H F2 H2 :=
  ⟨x.f.trans y.f, x.h.trans y.h, y.fh, fun a h1 h2 => y.nw a (x.nw a h1 h2) (Same.ne x.h h2)⟩
theorem same_upd {H : Hp} {p : Addr} {o : HO} (h : H p = none) : Same H (upd H p o) := fun b x e => by
  rw [upd_ne (ne_of_none e h)]
  exact e
theorem same_upd2 {F H : Hp} {p : Addr} {o : HO} (s : Same F H) : Same (upd F p o) (upd H p o) := fun b x e => by
  by_cases hb : b = p
  · subst hb; rw [upd_same] at e ⊢; exact e
  · rw [upd_ne hb] at e ⊢; exact s _ _ e
/-- a new frozen object -/
theorem Ext.new {p : Addr} {o : HO} (s : Same F H) (h : H p = none) : Ext F H (upd F p o) (upd H p o) :=
  ⟨same_upd (s.free h), same_upd h, same_upd2 s, fun a h1 h2 => by
    rw [upd_ne (fun z => by subst z; exact h2 h)]; exact h1⟩
/-- a new object outside F -/
theorem Ext.free {p : Addr} {o : HO} (s : Same F H) (h : H p = none) : Ext F H F (upd H p o) :=
  ⟨Same.refl F, same_upd h, s.trans (same_upd h), fun a h1 _ => h1⟩
/-- what was free and stands outside F is frozen -/
theorem Ext.freeze {H1 F1 : Hp} {p : Addr} {o : HO} (x : Ext F H F1 H1) (h : H p = none) (h1 : H1 p = some o) (hf : F1 p = none) : Ext F H (upd F1 p o) H1 :=
  ⟨x.f.trans (same_upd hf), x.h, fun b u e => by
    by_cases hb : b = p
    · subst hb; rw [upd_same] at e; cases e; exact h1
    · rw [upd_ne hb] at e; exact x.fh _ _ e, fun a h2 h3 => by
    rw [upd_ne (fun z => by subst z; exact h3 h)]; exact x.nw a h2 h3⟩
theorem Ext.fresh (x : Ext F H F' H') {a : Addr} (h : H' a = none) : H a = none := x.h.free h

/-! ### slots -/
inductive Sl where
  | un | dat (d : D) | own (ds : List D) | ad (a : Addr)
abbrev Rho := List Sl
inductive SlR (K : PySem.W.Frag) (F H : Hp) : Option V → Sl → Prop
  | un (o : Option V) : SlR K F H o .un
  | dat {v : V} {d : D} : Rp K F v d → SlR K F H (some v) (.dat d)
  | own {a : Addr} {vs : List V} {ds : List D} : H a = some (.lst vs) → F a = none → Rps K F vs ds → SlR K F H (some (.ref a)) (.own ds)
  | ad (a : Addr) : SlR K F H (some (.ref a)) (.ad a)
theorem SlR.ext {o : Option V} {s : Sl} (r : SlR K F H o s) (x : Ext F H F' H') : SlR K F' H' o s := by
  cases r with
  | un => exact .un _
  | ad a => exact .ad a
  | dat r => exact .dat (r.mono x.f)
  | own h f r => exact .own (x.h _ _ h) (x.nw _ f (by rw [h]; exact fun z => nomatch z)) (r.mono x.f)

structure SR (K : PySem.W.Frag) (F0 H0 F H : Hp) (σ : L2.St) (ρ : Rho) : Prop where
  ext : Ext F0 H0 F H
  len : σ.length = ρ.length
  sl : ∀ (i : Nat) (o : Option V) (s : Sl), σ[i]? = some o → ρ[i]? = some s → SlR K F H o s
  ow : ∀ (i : Nat) (a : Addr) (ds : List D), σ[i]? = some (some (.ref a)) → ρ[i]? = some (.own ds) → H0 a = none
  ap : ∀ (i j : Nat) (a : Addr) (ds es : List D), σ[i]? = some (some (.ref a)) → σ[j]? = some (some (.ref a)) → ρ[i]? = some (.own ds) → ρ[j]? = some (.own es) → i = j
variable {σ : L2.St} {ρ : Rho}
theorem SR.fh (S : SR K F0 H0 F H σ ρ) : Same F H := S.ext.fh
theorem SR.to (S : SR K F0 H0 F H σ ρ) (x : Ext F H F' H') : SR K F0 H0 F' H' σ ρ :=
  ⟨S.ext.trans x, S.len, fun i o s h1 h2 => (S.sl i o s h1 h2).ext x, S.ow, S.ap⟩
theorem SR.get (S : SR K F0 H0 F H σ ρ) {i : Nat} {s : Sl} (h : ρ[i]? = some s) : ∃ o, σ[i]? = some o ∧ SlR K F H o s := by
  have hi : i < σ.length := by rw [S.len]; exact (List.getElem?_eq_some_iff.mp h).1
  exact ⟨σ[i], List.getElem?_eq_getElem hi, S.sl i _ s (List.getElem?_eq_getElem hi) h⟩
theorem SR.dat (S : SR K F0 H0 F H σ ρ) {i : Nat} {d : D} (h : ρ[i]? = some (.dat d)) : ∃ v, σ[i]? = some (some v) ∧ Rp K F v d := by
  obtain ⟨o, e, r⟩ := S.get h
  cases r with
  | dat r => exact ⟨_, e, r⟩
theorem SR.own (S : SR K F0 H0 F H σ ρ) {i : Nat} {ds : List D} (h : ρ[i]? = some (.own ds)) : ∃ a vs, σ[i]? = some (some (.ref a)) ∧ H a = some (.lst vs) ∧ F a = none ∧ H0 a = none ∧ Rps K F vs ds := by
  obtain ⟨o, e, r⟩ := S.get h
  cases r with
  | own h1 h2 h3 => exact ⟨_, _, e, h1, h2, S.ow i _ _ e h, h3⟩
theorem get_set_ne {α : Type} {l : List α} {i j : Nat} {x : α} (h : i ≠ j) : (l.set i x)[j]? = l[j]? := List.getElem?_set_ne h
theorem get_set_eq {α : Type} {l : List α} {i : Nat} {x y : α} (h : (l.set i x)[i]? = some y) : y = x := by
  rw [List.getElem?_set] at h
  split at h
  · split at h
    · exact (Option.some.inj h).symm
    · cases h
  · rename_i q; exact absurd rfl q
theorem SR.setAny (S : SR K F0 H0 F H σ ρ) {i : Nat} {o : Option V} {s : Sl} (r : SlR K F H o s) (hs : ∀ ds, s ≠ .own ds) : SR K F0 H0 F H (σ.set i o) (ρ.set i s) := by
  refine ⟨S.ext, by simpa using S.len, fun j o' s' h1 h2 => ?_, fun j a ds h1 h2 => ?_, fun j k a ds es h1 h2 h3 h4 => ?_⟩
  · by_cases hj : i = j
    · subst hj
      rw [get_set_eq h1, get_set_eq h2]; exact r
    · rw [get_set_ne hj] at h1 h2; exact S.sl j o' s' h1 h2
  · by_cases hj : i = j
    · subst hj
      exact absurd (get_set_eq h2).symm (hs ds)
    · rw [get_set_ne hj] at h1 h2; exact S.ow j a ds h1 h2
  · by_cases hj : i = j
    · subst hj
      exact absurd (get_set_eq h3).symm (hs ds)
    · by_cases hk : i = k
      · subst hk
        exact absurd (get_set_eq h4).symm (hs es)
      · rw [get_set_ne hj] at h1 h3
        rw [get_set_ne hk] at h2 h4
        exact S.ap j k a ds es h1 h2 h3 h4
theorem SR.set (S : SR K F0 H0 F H σ ρ) {i : Nat} {v : V} {d : D} (r : Rp K F v d) : SR K F0 H0 F H (σ.set i (some v)) (ρ.set i (.dat d)) := S.setAny (.dat r) fun _ z => nomatch z
theorem SR.unset (S : SR K F0 H0 F H σ ρ) {i : Nat} {o : Option V} : SR K F0 H0 F H (σ.set i o) (ρ.set i .un) := S.setAny (.un _) fun _ z => nomatch z
/-- a new list of one's own: a was free in a heap before which σ stood -/
theorem SR.setOwn (S : SR K F0 H0 F H σ ρ) {i : Nat} {a : Addr} {vs : List V} {ds : List D} (x : Ext F H F' H') (hn : H a = none) (ha : H' a = some (.lst vs)) (hf : F' a = none) (r : Rps K F' vs ds) :
    SR K F0 H0 F' H' (σ.set i (some (.ref a))) (ρ.set i (.own ds)) := by
  have S' := S.to x
  have no : ∀ (j : Nat) (es : List D), σ[j]? = some (some (.ref a)) → ρ[j]? = some (.own es) → False := fun j es h1 h2 => by
    have q := S.sl j _ _ h1 h2
    cases q with
    | own h _ _ => rw [hn] at h; cases h
  refine ⟨S'.ext, by simpa using S.len, fun j o' s' h1 h2 => ?_, fun j b es h1 h2 => ?_, fun j k b es fs h1 h2 h3 h4 => ?_⟩
  · by_cases hj : i = j
    · subst hj
      rw [get_set_eq h1, get_set_eq h2]; exact .own ha hf r
    · rw [get_set_ne hj] at h1 h2; exact S'.sl j o' s' h1 h2
  · by_cases hj : i = j
    · subst hj
      cases get_set_eq h1
      exact S.ext.fresh hn
    · rw [get_set_ne hj] at h1 h2; exact S.ow j b es h1 h2
  · by_cases hj : i = j
    · subst hj
      by_cases hk : i = k
      · exact hk
      · rw [get_set_ne hk] at h2 h4
        cases get_set_eq h1
        exact (no k fs h2 h4).elim
    · rw [get_set_ne hj] at h1 h3
      by_cases hk : i = k
      · subst hk
        cases get_set_eq h2
        exact (no j es h1 h3).elim
      · rw [get_set_ne hk] at h2 h4
        exact S.ap j k b es fs h1 h2 h3 h4
/-- the own list in slot i is changed -/
theorem SR.mut (S : SR K F0 H0 F H σ ρ) {i : Nat} {a : Addr} {vs : List V} {ds ds' : List D} (h1 : σ[i]? = some (some (.ref a))) (h2 : ρ[i]? = some (.own ds)) (r : Rps K F vs ds') :
    SR K F0 H0 F (upd H a (.lst vs)) σ (ρ.set i (.own ds')) := by
  obtain ⟨a', vs0, e, ha, hf, h0, _⟩ := S.own h2
  rw [h1] at e; cases e
  have fr : ∀ {b u}, F b = some u → b ≠ a := fun {b u} h z => by subst z; rw [hf] at h; cases h
  refine ⟨⟨S.ext.f, fun b u e => ?_, fun b u e => ?_, S.ext.nw⟩, by simpa using S.len, fun j o' s' q1 q2 => ?_, fun j b es q1 q2 => ?_, fun j k b es fs q1 q2 q3 q4 => ?_⟩
  · rw [upd_ne (fun z => by subst z; rw [h0] at e; cases e)]; exact S.ext.h b u e
  · rw [upd_ne (fr e)]; exact S.ext.fh b u e
  · by_cases hj : i = j
    · subst hj
      rw [h1] at q1; cases q1
      rw [get_set_eq q2]; exact .own upd_same hf r
    · rw [get_set_ne hj] at q2
      have q := S.sl j o' s' q1 q2
      cases q with
      | un => exact .un _
      | ad a => exact .ad a
      | dat q => exact .dat q
      | own p1 p2 p3 =>
        refine .own ?_ p2 p3
        rw [upd_ne (fun z => by subst z; exact hj (S.ap i j _ _ _ h1 q1 h2 q2))]; exact p1
  · by_cases hj : i = j
    · subst hj
      exact S.ow i b ds q1 h2
    · rw [get_set_ne hj] at q2; exact S.ow j b es q1 q2
  · by_cases hj : i = j
    · subst hj
      by_cases hk : i = k
      · exact hk
      · rw [get_set_ne hk] at q4; exact S.ap i k b ds fs q1 q2 h2 q4
    · rw [get_set_ne hj] at q3
      by_cases hk : i = k
      · subst hk; exact S.ap j i b es ds q1 q2 q3 h2
      · rw [get_set_ne hk] at q4; exact S.ap j k b es fs q1 q2 q3 q4
/-- from now on the own list in slot i is never changed -/
theorem SR.freeze (S : SR K F0 H0 F H σ ρ) {i : Nat} {ds : List D} (h2 : ρ[i]? = some (.own ds)) : ∃ F', Same F F' ∧ SR K F0 H0 F' H σ (ρ.set i (.dat (.lst ds))) := by
  obtain ⟨a, vs, h1, ha, hf, h0, r⟩ := S.own h2
  have sm : Same F (upd F a (.lst vs)) := same_upd hf
  refine ⟨upd F a (.lst vs), sm, S.ext.freeze h0 ha hf, by simpa using S.len, fun j o' s' q1 q2 => ?_, fun j b es q1 q2 => ?_, fun j k b es fs q1 q2 q3 q4 => ?_⟩
  · by_cases hj : i = j
    · subst hj
      rw [h1] at q1; cases q1
      rw [get_set_eq q2]; exact .dat (.lst upd_same (r.mono sm))
    · rw [get_set_ne hj] at q2
      have q := S.sl j o' s' q1 q2
      cases q with
      | un => exact .un _
      | ad a => exact .ad a
      | dat q => exact .dat (q.mono sm)
      | own p1 p2 p3 =>
        refine .own p1 ?_ (p3.mono sm)
        rw [upd_ne (fun z => by subst z; exact hj (S.ap i j _ _ _ h1 q1 h2 q2))]; exact p2
  · by_cases hj : i = j
    · subst hj
      cases get_set_eq q2
    · rw [get_set_ne hj] at q2; exact S.ow j b es q1 q2
  · by_cases hj : i = j
    · subst hj
      cases get_set_eq q3
    · rw [get_set_ne hj] at q3
      by_cases hk : i = k
      · subst hk; cases get_set_eq q4
      · rw [get_set_ne hk] at q4; exact S.ap j k b es fs q1 q2 q3 q4
end
end FD
end

section
set_option Elab.async false
set_option linter.all false
set_option maxRecDepth 100000
set_option maxHeartbeats 1000000
/-! FDb: readings by functions of data; expressions. -/
namespace FD
open PySem PySem.Spec PyProof.Rows L2 StX

abbrev FE := Rho → Option D
abbrev FL := Rho → Option (List D)
abbrev FT := Rho → Option Bool

section
variable (K : PySem.W.Frag) (F0 H0 : Hp)
def tD (f : FE) : TE := fun σ H Q => ∃ F ρ d, SR K F0 H0 F H σ ρ ∧ f ρ = some d ∧ ∀ v F' H', Ext F H F' H' → Rp K F' v d → Q v H'
def tA (f : FL) : TA := fun σ H Q => ∃ F ρ ds, SR K F0 H0 F H σ ρ ∧ f ρ = some ds ∧ ∀ vs F' H', Ext F H F' H' → Rps K F' vs ds → Q vs H'
def tB1 (f : FT) : TT := fun σ H Q => ∃ F ρ b, SR K F0 H0 F H σ ρ ∧ f ρ = some b ∧ ∀ F' H', Ext F H F' H' → Q b H'
/-- a new list, nobody else's -/
def tN (f : FL) : TE := fun σ H Q => ∃ F ρ ds, SR K F0 H0 F H σ ρ ∧ f ρ = some ds ∧ ∀ a vs F' H', Ext F H F' H' → H a = none → H' a = some (.lst vs) → F' a = none → Rps K F' vs ds → Q (.ref a) H'
end

/-! ### functions of data -/
def fVar (i : Nat) : FE := fun ρ => match ρ[i]? with
  | some (.dat d) => some d
  | _ => none
def fK (d : D) : FE := fun _ => some d
def f1 (g : D → Option D) (a : FE) : FE := fun ρ => (a ρ).bind g
def f2 (g : D → D → Option D) (a b : FE) : FE := fun ρ => (a ρ).bind fun x => (b ρ).bind fun y => g x y
def fNil : FL := fun _ => some []
def fCons (a : FE) (r : FL) : FL := fun ρ => (a ρ).bind fun x => (r ρ).bind fun xs => some (x :: xs)
def D.items : D → Option (List D)
  | .tup ds => some ds
  | .lst ds => some ds
  | _ => none
def fStar (a : FE) (r : FL) : FL := fun ρ => (a ρ).bind fun x => (D.items x).bind fun ys => (r ρ).bind fun xs => some (ys ++ xs)
def chk (ds : List D) : Option (List D) := if ds.length ≤ 100000 then some ds else none
def fTup (r : FL) : FE := fun ρ => ((r ρ).bind chk).bind fun ds => some (.tup ds)
def fLst (r : FL) : FL := fun ρ => (r ρ).bind chk
def fFrz (r : FL) : FE := fun ρ => (r ρ).bind fun ds => some (.lst ds)
def fCall (Phi : List D → Option D) (r : FL) : FE := fun ρ => (r ρ).bind Phi
def D.toB : D → Option Bool
  | .bl b => some b
  | _ => none
def fIf (t : FT) (a b : FE) : FE := fun ρ => (t ρ).bind fun c => if c = true then a ρ else b ρ
def fAnd (a b : FE) : FE := fun ρ => ((a ρ).bind D.toB).bind fun c => if c = true then b ρ else some (.bl false)
def fOr (a b : FE) : FE := fun ρ => ((a ρ).bind D.toB).bind fun c => if c = true then some (.bl true) else b ρ
def D.not (x : D) : Option D := (D.toB x).bind fun c => some (.bl !c)
def bVal (a : FE) : FT := fun ρ => (a ρ).bind D.toB
def bAnd (a b : FT) : FT := fun ρ => (a ρ).bind fun c => if c = true then b ρ else some false
def bOr (a b : FT) : FT := fun ρ => (a ρ).bind fun c => if c = true then some true else b ρ
def bNot (a : FT) : FT := fun ρ => (a ρ).bind fun c => some (!c)
def fChain (g g' : D → D → Option D) (a b c : FE) : FE := fun ρ => (a ρ).bind fun x => (b ρ).bind fun y => ((g x y).bind D.toB).bind fun k => if k = true then (c ρ).bind fun z => g' y z else some (.bl false)

/-! ### operations on data -/
def D.add : D → D → Option D
  | .int i, .int j => some (.int (i + j))
  | _, _ => none
def D.sub : D → D → Option D
  | .int i, .int j => some (.int (i - j))
  | _, _ => none
def small (j : Int) : Bool := decide (-(2 ^ 64) < j ∧ j < 2 ^ 64)
def D.mul : D → D → Option D
  | .int i, .int j => if small i || small j then some (.int (i * j)) else none
  | _, _ => none
def D.neg : D → Option D
  | .int i => some (.int (-i))
  | _ => none
def D.lt : D → D → Option D
  | .int i, .int j => some (.bl (decide (i < j)))
  | _, _ => none
def D.le : D → D → Option D
  | .int i, .int j => some (.bl (decide (i ≤ j)))
  | _, _ => none
def D.gt : D → D → Option D
  | .int i, .int j => some (.bl (decide (j < i)))
  | _, _ => none
def D.ge : D → D → Option D
  | .int i, .int j => some (.bl (decide (j ≤ i)))
  | _, _ => none
mutual
def toPy : D → PyData
  | .non => .none
  | .bl b => .bool b
  | .int i => .int i
  | .str x => .str x
  | .tup ds => .tuple (toPys ds)
  | .lst ds => .list (toPys ds)
def toPys : List D → List PyData
  | [] => []
  | d :: ds => toPy d :: toPys ds
end
def D.eqq : D → D → Option Bool
  | .int i, .int j => some (decide (i = j))
  | .str i, .str j => some (decide (i = j))
  | .bl i, .bl j => some (decide (i = j))
  | .non, .int _ => some false
  | .int _, .non => some false
  | .non, .non => some true
  | .lst ds, .lst [] => if PyData.canLayAll0 (toPys ds) then some ds.isEmpty else none
  | _, _ => none
def D.eq (x y : D) : Option D := (D.eqq x y).bind fun b => some (.bl b)
def D.ne (x y : D) : Option D := (D.eqq x y).bind fun b => some (.bl !b)
def D.isNone : D → D → Option D
  | .non, .non => some (.bl true)
  | _, .non => some (.bl false)
  | _, _ => none
def D.notNone : D → D → Option D
  | .non, .non => some (.bl false)
  | _, .non => some (.bl true)
  | _, _ => none
def D.cat : D → D → Option D
  | .tup a, .tup b => if a.length + b.length ≤ 100000 then some (.tup (a ++ b)) else none
  | _, _ => none
def D.ix : D → D → Option D
  | .tup ds, .int i => atI ds i
  | .lst ds, .int i => atI ds i
  | _, _ => none
def flatD : D → Bool
  | .int _ => true
  | .str _ => true
  | _ => false
def eqF : D → D → Bool
  | .int a, .int b => a == b
  | .str a, .str b => a == b
  | _, _ => false
def D.isIn (x : D) : D → Option D
  | .tup ds => if flatD x && ds.all flatD then some (.bl (ds.any fun y => eqF y x)) else none
  | _ => none
def D.notIn (x : D) : D → Option D
  | .tup ds => if flatD x && ds.all flatD then some (.bl (!ds.any fun y => eqF y x)) else none
  | _ => none
def D.ints : List D → Option (List Int)
  | [] => some []
  | .int i :: r => (D.ints r).bind fun is => some (i :: is)
  | _ => none
def D.bools : List D → Option (List Bool)
  | [] => some []
  | .bl i :: r => (D.bools r).bind fun is => some (i :: is)
  | _ => none
def g1 (g : D → Option D) : List D → Option D
  | [x] => g x
  | _ => none
def g2 (g : D → D → Option D) : List D → Option D
  | [x, y] => g x y
  | _ => none
def D.len : D → Option D
  | .tup ds => some (.int ds.length)
  | .lst ds => some (.int ds.length)
  | _ => none
def D.sum : D → Option D
  | .lst ds => (D.ints ds).bind fun is => some (.int is.sum)
  | _ => none
def D.all : D → Option D
  | .lst ds => (D.bools ds).bind fun bs => some (.bl (bs.all id))
  | _ => none
def D.min2 : D → D → Option D
  | .int i, .int j => some (.int (if j < i then j else i))
  | _, _ => none
def D.max2 : D → D → Option D
  | .int i, .int j => some (.int (if j > i then j else i))
  | _, _ => none
def maxL : List Int → Int
  | [] => 0
  | [x] => x
  | x :: r => max x (maxL r)
def minL : List Int → Int
  | [] => 0
  | [x] => x
  | x :: r => min x (minL r)
def D.max1 : D → Option D
  | .lst ds => (D.ints ds).bind fun is => if is.isEmpty then none else some (.int (maxL is))
  | _ => none
def D.min1 : D → Option D
  | .lst ds => (D.ints ds).bind fun is => if is.isEmpty then none else some (.int (minL is))
  | _ => none
def D.tuple : D → Option D
  | .tup ds => some (.tup ds)
  | .lst ds => some (.tup ds)
  | _ => none
def D.abs : D → Option D
  | .int i => some (.int (if i < 0 then -i else i))
  | _ => none
def D.toI : D → Option D
  | .int i => some (.int i)
  | .bl k => some (.int (if k then 1 else 0))
  | _ => none
def D.isInt : D → Option D
  | .int _ => some (.bl true)
  | .bl _ => some (.bl true)
  | _ => some (.bl false)
def D.isBool : D → Option D
  | .bl _ => some (.bl true)
  | _ => some (.bl false)
def D.isTuple : D → Option D
  | .tup _ => some (.bl true)
  | _ => some (.bl false)
def D.isStr : D → Option D
  | .str _ => some (.bl true)
  | _ => some (.bl false)
def cutD (xs : List D) (lo hi : Option Int) : List D := (xs.drop (HT.sIx xs.length 0 lo)).take (HT.sIx xs.length xs.length hi - HT.sIx xs.length 0 lo)

/-! ### small facts -/
section
variable {K : PySem.W.Frag} {F F' F0 H0 H H' : Hp} {σ : L2.St} {ρ : Rho}
theorem _root_.L2.PE.imp {X : Cx} {e : Expr} {t t' : TE} (h : PE X e t) (i : ∀ σ H Q, t' σ H Q → t σ H Q) : PE X e t' := ⟨fun pins s σ H Q I q => h.run pins s σ H Q I (i σ H Q q)⟩
theorem _root_.L2.PT.imp {X : Cx} {e : Expr} {t t' : TT} (h : PT X e t) (i : ∀ σ H Q, t' σ H Q → t σ H Q) : PT X e t' := ⟨fun pins s σ H Q I q => h.run pins s σ H Q I (i σ H Q q)⟩
theorem _root_.L2.PW.imp {X : Cx} {e : Expr} {t t' : TT} (h : PW X e t) (i : ∀ σ H Q, t' σ H Q → t σ H Q) : PW X e t' := ⟨fun wh pins s σ H Q I q => h.run wh pins s σ H Q I (i σ H Q q)⟩
theorem _root_.L2.PA.imp {X : Cx} {es : List Expr} {t t' : TA} (h : PA X es t) (i : ∀ σ H Q, t' σ H Q → t σ H Q) : PA X es t' := ⟨fun pos pins s σ H Q I q => h.run pos pins s σ H Q I (i σ H Q q)⟩
theorem _root_.L2.PS.imp {X : Cx} {st : Stmt} {t t' : TS} (h : PS X st t) (i : ∀ D σ H, t' D σ H → t D σ H) : PS X st t' := ⟨fun pins s σ H D I q => h.run pins s σ H D I (i D σ H q)⟩
theorem _root_.L2.PSs.imp {X : Cx} {st : List Stmt} {t t' : TS} (h : PSs X st t) (i : ∀ D σ H, t' D σ H → t D σ H) : PSs X st t' := ⟨fun pins s σ H D I q => h.run pins s σ H D I (i D σ H q)⟩

theorem sz {n : Nat} (h : n ≤ 100000) : n ≤ sizeLine := Nat.le_trans h (by decide)
theorem sz1 {n : Nat} (h : n < 100000) : n < sizeLine := Nat.lt_of_lt_of_le h (by decide)
theorem chk_some {ds es : List D} (h : chk ds = some es) : es = ds ∧ ds.length ≤ 100000 := by
  unfold chk at h
  split at h
  · rename_i q
    cases h
    exact ⟨rfl, q⟩
  · cases h
theorem bind_some' {α β : Type} {x : Option α} {f : α → Option β} {b : β} (h : x.bind f = some b) : ∃ a, x = some a ∧ f a = some b := Option.bind_eq_some_iff.mp h
theorem Rps.ints : ∀ {vs : List V} {ds : List D} {is : List Int}, Rps K F vs ds → D.ints ds = some is → vs = is.map V.int
  | _, _, _, .nil, h => by cases h; rfl
  | _, _, _, .cons (.int i) r, h => by
    obtain ⟨js, e1, e2⟩ := bind_some' h
    cases e2
    rw [Rps.ints r e1]
    rfl
  | _, _, _, .cons .non r, h => by cases h
  | _, _, _, .cons (.bl _) r, h => by cases h
  | _, _, _, .cons (.str _) r, h => by cases h
  | _, _, _, .cons (.tup _ _) r, h => by cases h
  | _, _, _, .cons (.lst _ _) r, h => by cases h
theorem Rps.bools : ∀ {vs : List V} {ds : List D} {is : List Bool}, Rps K F vs ds → D.bools ds = some is → vs = is.map V.bl
  | _, _, _, .nil, h => by cases h; rfl
  | _, _, _, .cons (.bl i) r, h => by
    obtain ⟨js, e1, e2⟩ := bind_some' h
    cases e2
    rw [Rps.bools r e1]
    rfl
  | _, _, _, .cons .non r, h => by cases h
  | _, _, _, .cons (.int _) r, h => by cases h
  | _, _, _, .cons (.str _) r, h => by cases h
  | _, _, _, .cons (.tup _ _) r, h => by cases h
  | _, _, _, .cons (.lst _ _) r, h => by cases h
theorem rps_ints : ∀ (is : List Int), Rps K F (is.map V.int) (is.map D.int)
  | [] => .nil
  | i :: r => .cons (.int i) (rps_ints r)
theorem Rps.at {vs : List V} {ds : List D} {i : Int} {d : D} (r : Rps K F vs ds) (h : atI ds i = some d) : ∃ v, atI vs i = some v ∧ Rp K F v d := by
  unfold atI at h ⊢
  obtain ⟨j, e1, e2⟩ := bind_some' h
  rw [r.length, e1]
  obtain ⟨v, e3, rv⟩ := r.get e2
  exact ⟨v, e3, rv⟩
mutual
theorem Rp.dp (s : Same F H) : ∀ {v : V} {d : D}, Rp K F v d → Dp K H v (toPy d)
  | _, _, .non => by unfold toPy; exact .non
  | _, _, .bl b => by unfold toPy; exact .bl b
  | _, _, .int i => by unfold toPy; exact .int i
  | _, _, .str x => by unfold toPy; exact .str x
  | _, _, .tup h r => by unfold toPy; exact .tup (sqT_mono s h) (Rps.dp s r)
  | _, _, .lst h r => by unfold toPy; exact .lst (.inl (.inl (s _ _ h))) (Rps.dp s r)
theorem Rps.dp (s : Same F H) : ∀ {vs : List V} {ds : List D}, Rps K F vs ds → DpAll K H vs (toPys ds)
  | _, _, .nil => by unfold toPys; exact .nil
  | _, _, .cons h r => by unfold toPys; exact .cons (Rp.dp s h) (Rps.dp s r)
end
end

/-! ### names, constants, displays -/
section
variable {X : Cx} {F0 H0 : Hp} {a b c e : Expr} {es : List Expr} {fa fb fc fe : FE} {fl : FL} {ta tb tc : FT} {pos p : Pos}
theorem e_var (i : Nat) {x : Str} {pos : Pos} (hN : X.N[i]? = some x := by rfl) (hv : Vis X.env.scope x := by first | exact Or.inl rfl | exact Or.inr (Or.inl rfl) | exact Or.inr (Or.inr rfl)) (hd : (x == ("__debug__" : Str)) = false := by decide)
    (hcd : (x == ("__classdict__" : Str)) = false := by decide) : PE X (.Name x pos) (tD X.K F0 H0 (fVar i)) :=
  (pe_var hN hv hd hcd).imp fun σ H Q ⟨F, ρ, d, S, e, q⟩ => by
    unfold fVar at e
    split at e
    · rename_i d' h
      cases e
      obtain ⟨v, e1, r⟩ := S.dat h
      exact ⟨v, e1, q v F H (Ext.refl S.fh) r⟩
    · cases e
theorem e_k {v : V} {d : D} (h : PE X e (tC v)) (r : ∀ F, Rp X.K F v d) : PE X e (tD X.K F0 H0 (fK d)) :=
  h.imp fun σ H Q ⟨F, ρ, d', S, e, q⟩ => by
    cases e
    exact q v F H (Ext.refl S.fh) (r F)
theorem e_int {i : Int} {j : Nat} : PE X (.Constant (.int i) j pos) (tD X.K F0 H0 (fK (.int i))) := e_k pe_int fun _ => .int i
theorem e_bl {i : Bool} {j : Nat} : PE X (.Constant (.bool i) j pos) (tD X.K F0 H0 (fK (.bl i))) := e_k pe_bl fun _ => .bl i
theorem e_non {j : Nat} : PE X (.Constant .none j pos) (tD X.K F0 H0 (fK .non)) := e_k pe_non fun _ => .non
theorem e_str {x : Str} {j : Nat} : PE X (.Constant (.str x) j pos) (tD X.K F0 H0 (fK (.str x))) := e_k pe_str fun _ => .str x
theorem e_gstr {x z : Str} (hm : ∃ t, X.mg x = some (.str z t)) (hg : Gl X x := by rfl) (hd : (x == ("__debug__" : Str)) = false := by decide) : PE X (.Name x pos) (tD X.K F0 H0 (fK (.str z))) := by
  obtain ⟨t, hm⟩ := hm
  exact e_k (pe_glob (v := .str z) hg hm ⟨t, rfl⟩ hd) fun _ => .str z
theorem e_gint {x : Str} {i : Int} (hm : ∃ t, X.mg x = some (.int i t)) (hg : Gl X x := by rfl) (hd : (x == ("__debug__" : Str)) = false := by decide) : PE X (.Name x pos) (tD X.K F0 H0 (fK (.int i))) := by
  obtain ⟨t, hm⟩ := hm
  exact e_k (pe_glob (v := .int i) hg hm ⟨t, rfl⟩ hd) fun _ => .int i
/-- a tuple of the module's top -/
theorem e_gtup {x : Str} {d : D} (hm : ∃ v, X.mg x = some (.ref v) ∧ ∀ F, Rp X.K F (.ref v) d) (hg : Gl X x := by rfl) (hd : (x == ("__debug__" : Str)) = false := by decide) : PE X (.Name x pos) (tD X.K F0 H0 (fK d)) := by
  obtain ⟨v, hm, r⟩ := hm
  exact e_k (pe_glob (v := .ref v) hg hm rfl hd) r
theorem a_nil : PA X [] (tA X.K F0 H0 fNil) := pa_nil.imp fun σ H Q ⟨F, ρ, d, S, e, q⟩ => by
  cases e
  exact q [] F H (Ext.refl S.fh) .nil
theorem a_cons (ha : PE X e (tD X.K F0 H0 fa)) (hr : PA X es (tA X.K F0 H0 fl)) (hs : starEach (e :: es) X.env = (false, eval e X.env) :: starEach es X.env := by rfl) : PA X (e :: es) (tA X.K F0 H0 (fCons fa fl)) :=
  (pa_cons ha hr hs).imp fun σ H Q ⟨F, ρ, d, S, e, q⟩ => by
    obtain ⟨x, e1, e⟩ := bind_some' e
    obtain ⟨xs, e2, e⟩ := bind_some' e
    cases e
    exact ⟨F, ρ, x, S, e1, fun v F1 H1 X1 r1 => ⟨F1, ρ, xs, S.to X1, e2, fun vs F2 H2 X2 r2 => q _ F2 H2 (X1.trans X2) (.cons (r1.mono X2.f) r2)⟩⟩
theorem a_star (ha : PE X e (tD X.K F0 H0 fa)) (hr : PA X es (tA X.K F0 H0 fl)) (hs : starEach (.Starred e p :: es) X.env = (true, eval e X.env) :: starEach es X.env := by rfl) : PA X (.Starred e p :: es) (tA X.K F0 H0 (fStar fa fl)) :=
  (pa_star ha hr hs).imp fun σ H Q ⟨F, ρ, d, S, e, q⟩ => by
    obtain ⟨x, e1, e⟩ := bind_some' e
    obtain ⟨ys, e2, e⟩ := bind_some' e
    obtain ⟨xs, e3, e⟩ := bind_some' e
    cases e
    refine ⟨F, ρ, x, S, e1, fun v F1 H1 X1 r1 => ?_⟩
    cases r1 with
    | @tup a vs ds h r =>
      cases e2
      exact ⟨a, vs, rfl, .inl (sqT_mono X1.fh h), F1, ρ, xs, S.to X1, e3, fun us F2 H2 X2 r2 => q _ F2 H2 (X1.trans X2) ((r.mono X2.f).append r2)⟩
    | @lst a vs ds h r =>
      cases e2
      exact ⟨a, vs, rfl, .inr (.inl (.inl (X1.fh _ _ h))), F1, ρ, xs, S.to X1, e3, fun us F2 H2 X2 r2 => q _ F2 H2 (X1.trans X2) ((r.mono X2.f).append r2)⟩
    | _ => cases e2
theorem e_tup {k : Nat} (h : PA X es (tA X.K F0 H0 fl)) : PE X (.Tuple es k pos) (tD X.K F0 H0 (fTup fl)) :=
  (pe_tup h).imp fun σ H Q ⟨F, ρ, d, S, e, q⟩ => by
    obtain ⟨ds, e1, e⟩ := bind_some' e
    obtain ⟨ds', e2, e3⟩ := bind_some' e1
    obtain ⟨rfl, hz⟩ := chk_some e3
    cases e
    refine ⟨F, ρ, _, S, e2, fun vs F1 H1 X1 r1 => ⟨by rw [r1.length]; exact sz hz, fun p hp => ?_⟩⟩
    have y := Ext.new (o := .tup vs) X1.fh hp
    exact q _ _ _ (X1.trans y) (.tup (SqT.of upd_same) (r1.mono y.f))
/-- a list that is written: new -/
theorem n_lst (h : PA X es (tA X.K F0 H0 fl)) : PE X (.List es pos) (tN X.K F0 H0 (fLst fl)) :=
  (pe_lst h).imp fun σ H Q ⟨F, ρ, d, S, e, q⟩ => by
    obtain ⟨ds', e2, e3⟩ := bind_some' e
    obtain ⟨rfl, hz⟩ := chk_some e3
    refine ⟨F, ρ, _, S, e2, fun vs F1 H1 X1 r1 => ⟨by rw [r1.length]; exact sz hz, fun p hp => ?_⟩⟩
    have y := Ext.free (o := .lst vs) X1.fh hp
    exact q p vs F1 _ (X1.trans y) (X1.fresh hp) upd_same (X1.fh.free hp) r1
/-- a new list, frozen at once -/
theorem e_frz (h : PE X e (tN X.K F0 H0 fl)) : PE X e (tD X.K F0 H0 (fFrz fl)) :=
  h.imp fun σ H Q ⟨F, ρ, d, S, e, q⟩ => by
    obtain ⟨ds, e1, e⟩ := bind_some' e
    cases e
    refine ⟨F, ρ, ds, S, e1, fun a vs F1 H1 X1 hn ha hf r => ?_⟩
    have y := X1.freeze hn ha hf
    have sm : Same F1 (upd F1 a (.lst vs)) := same_upd hf
    exact q _ _ _ y (.lst upd_same (r.mono sm))

/-! ### operators -/
def RD (K : PySem.W.Frag) (r : R2) (g : D → D → Option D) : Prop := ∀ (F H : Hp) (x y : V) (dx dy dz : D) (Q : VK), Same F H → Rp K F x dx → Rp K F y dy → g dx dy = some dz → (∀ v F' H', Ext F H F' H' → Rp K F' v dz → Q v H') → r x y H Q
def RU1 (K : PySem.W.Frag) (r : V → Hp → VK → Prop) (g : D → Option D) : Prop := ∀ (F H : Hp) (x : V) (dx dz : D) (Q : VK), Same F H → Rp K F x dx → g dx = some dz → (∀ v F' H', Ext F H F' H' → Rp K F' v dz → Q v H') → r x H Q
def RC (K : PySem.W.Frag) (r : List V → Hp → VK → Prop) (g : List D → Option D) : Prop := ∀ (F H : Hp) (vs : List V) (ds : List D) (dz : D) (Q : VK), Same F H → Rps K F vs ds → g ds = some dz → (∀ v F' H', Ext F H F' H' → Rp K F' v dz → Q v H') → r vs H Q
theorem tOp_of {r : R2} {g : D → D → Option D} (hr : RD X.K r g) {σ : L2.St} {H : Hp} {Q : VK} (h : tD X.K F0 H0 (f2 g fa fb) σ H Q) : tOp r (tD X.K F0 H0 fa) (tD X.K F0 H0 fb) σ H Q := by
  obtain ⟨F, ρ, d, S, e, q⟩ := h
  obtain ⟨x, e1, e⟩ := bind_some' e
  obtain ⟨y, e2, e⟩ := bind_some' e
  exact ⟨F, ρ, x, S, e1, fun v F1 H1 X1 r1 => ⟨F1, ρ, y, S.to X1, e2, fun u F2 H2 X2 r2 => hr F2 H2 v u x y d Q X2.fh (r1.mono X2.f) r2 e fun w F3 H3 X3 r3 => q w F3 H3 (X1.trans (X2.trans X3)) r3⟩⟩
theorem e_op {op : Operator} {r : R2} {g : D → D → Option D} (ho : OpR X (binaryOp op) r) (hr : RD X.K r g) (ha : PE X a (tD X.K F0 H0 fa)) (hb : PE X b (tD X.K F0 H0 fb)) : PE X (.BinOp a op b pos) (tD X.K F0 H0 (f2 g fa fb)) :=
  (pe_op ho ha hb).imp fun σ H Q h => tOp_of hr h
theorem e_un {op : UnaryOp} {r : V → Hp → VK → Prop} {g : D → Option D} (ho : UnR X (unaryOp op) r) (hr : RU1 X.K r g) (ha : PE X a (tD X.K F0 H0 fa)) : PE X (.UnaryOp op a pos) (tD X.K F0 H0 (f1 g fa)) :=
  (pe_un ho ha).imp fun σ H Q ⟨F, ρ, d, S, e, q⟩ => by
    obtain ⟨x, e1, e⟩ := bind_some' e
    exact ⟨F, ρ, x, S, e1, fun v F1 H1 X1 r1 => hr F1 H1 v x d Q X1.fh r1 e fun w F3 H3 X3 r3 => q w F3 H3 (X1.trans X3) r3⟩
theorem e_cmp {op : CmpOp} {r : R2} {g : D → D → Option D} (ho : OpR X (compareOp op) r) (hr : RD X.K r g) (ha : PE X a (tD X.K F0 H0 fa)) (hb : PE X b (tD X.K F0 H0 fb)) (hm : behindInMarks op b = false := by rfl) :
    PE X (.Compare a [op] [b] pos) (tD X.K F0 H0 (f2 g fa fb)) :=
  (pe_cmpR ho ha hb hm).imp fun σ H Q h => tOp_of hr h
theorem toB_some {d : D} {b : Bool} (h : D.toB d = some b) : d = .bl b := by
  cases d <;> first | (cases h; rfl) | cases h
theorem tB_of {g : FE} {t : TE} (hi : ∀ σ H Q, tD X.K F0 H0 g σ H Q → t σ H Q) : ∀ σ H (Q : Bool → Hp → Prop), tB1 X.K F0 H0 (bVal g) σ H Q → t σ H fun x H' => ∃ k, x = .bl k ∧ Q k H' := by
  intro σ H Q ⟨F, ρ, b, S, e, q⟩
  obtain ⟨d, e1, e⟩ := bind_some' e
  cases toB_some e
  exact hi _ _ _ ⟨F, ρ, _, S, e1, fun v F1 H1 X1 r1 => by cases r1; exact ⟨b, rfl, q F1 H1 X1⟩⟩
theorem t_cmp {op : CmpOp} {r : R2} {g : D → D → Option D} (ho : OpR X (compareOp op) r) (hr : RD X.K r g) (ha : PE X a (tD X.K F0 H0 fa)) (hb : PE X b (tD X.K F0 H0 fb)) (hm : behindInMarks op b = false := by rfl) :
    PT X (.Compare a [op] [b] pos) (tB1 X.K F0 H0 (bVal (f2 g fa fb))) :=
  (pt_cmpR ho ha hb hm).imp fun σ H Q h => tB_of (fun _ _ _ z => tOp_of hr z) σ H Q h
theorem t_val (h : PE X e (tD X.K F0 H0 fe)) (he : ∀ whole, isTrue e X.env whole = (do let v ← whole; standAt e.pos; holding [v] (truthy v)) := by intro _; rfl) : PT X e (tB1 X.K F0 H0 (bVal fe)) :=
  (pt_val h he).imp fun σ H Q z => tB_of (fun _ _ _ z => z) σ H Q z
theorem tChain_of {r r' : R2} {g g' : D → D → Option D} (hr : RD X.K r g) (hr' : RD X.K r' g') {σ : L2.St} {H : Hp} {Q : VK} (h : tD X.K F0 H0 (fChain g g' fa fb fc) σ H Q) : tChain r r' (tD X.K F0 H0 fa) (tD X.K F0 H0 fb) (tD X.K F0 H0 fc) σ H Q := by
  obtain ⟨F, ρ, d, S, e, q⟩ := h
  obtain ⟨x, e1, e⟩ := bind_some' e
  obtain ⟨y, e2, e⟩ := bind_some' e
  obtain ⟨k, e3, e⟩ := bind_some' e
  obtain ⟨z, e4, e5⟩ := bind_some' e3
  cases toB_some e5
  refine ⟨F, ρ, x, S, e1, fun v F1 H1 X1 r1 => ⟨F1, ρ, y, S.to X1, e2, fun u F2 H2 X2 r2 => hr F2 H2 v u x y _ _ X2.fh (r1.mono X2.f) r2 e4 fun w F3 H3 X3 r3 => ?_⟩⟩
  cases r3
  refine ⟨k, rfl, ?_⟩
  cases k with
  | true =>
    rw [if_pos rfl] at e ⊢
    obtain ⟨z, e6, e⟩ := bind_some' e
    exact ⟨F3, ρ, z, S.to (X1.trans (X2.trans X3)), e6, fun w F4 H4 X4 r4 => hr' F4 H4 u w y z d Q X4.fh (r2.mono (X3.trans X4).f) r4 e fun w' F5 H5 X5 r5 => q w' F5 H5 (X1.trans (X2.trans (X3.trans (X4.trans X5)))) r5⟩
  | false =>
    rw [if_neg Bool.false_ne_true] at e ⊢
    cases e
    exact q _ F3 H3 (X1.trans (X2.trans X3)) (.bl false)
theorem e_chain {op op' : CmpOp} {r r' : R2} {g g' : D → D → Option D} (ho : OpR X (compareOp op) r) (hr : RD X.K r g) (ho' : OpR X (compareOp op') r') (hr' : RD X.K r' g') (ha : PE X a (tD X.K F0 H0 fa)) (hb : PE X b (tD X.K F0 H0 fb)) (hc : PE X c (tD X.K F0 H0 fc))
    (hm : lastMarks [op, op'] [b, c] = false := by with_unfolding_all rfl) : PE X (.Compare a [op, op'] [b, c] pos) (tD X.K F0 H0 (fChain g g' fa fb fc)) :=
  (pe_chain ho ho' ha hb hc hm).imp fun σ H Q h => tChain_of hr hr' h
theorem t_chain {op op' : CmpOp} {r r' : R2} {g g' : D → D → Option D} (ho : OpR X (compareOp op) r) (hr : RD X.K r g) (ho' : OpR X (compareOp op') r') (hr' : RD X.K r' g') (ha : PE X a (tD X.K F0 H0 fa)) (hb : PE X b (tD X.K F0 H0 fb)) (hc : PE X c (tD X.K F0 H0 fc))
    (hm : lastMarks [op, op'] [b, c] = false := by with_unfolding_all rfl) : PT X (.Compare a [op, op'] [b, c] pos) (tB1 X.K F0 H0 (bVal (fChain g g' fa fb fc))) :=
  (pt_chain ho ho' ha hb hc hm).imp fun σ H Q h => tB_of (fun _ _ _ z => tChain_of hr hr' z) σ H Q h

/-! ### and, or, not, if -/
theorem e_one {op} (h : PE X a (tD X.K F0 H0 fa)) : PE X (.BoolOp op [a] pos) (tD X.K F0 H0 fa) := pe_one h
theorem e_and {rest : List Expr} (ha : PE X a (tD X.K F0 H0 fa)) (hb : PE X (.BoolOp .And (b :: rest) pos) (tD X.K F0 H0 fb)) : PE X (.BoolOp .And (a :: b :: rest) pos) (tD X.K F0 H0 (fAnd fa fb)) :=
  (pe_and ha hb).imp fun σ H Q ⟨F, ρ, d, S, e, q⟩ => by
    obtain ⟨k, e1, e⟩ := bind_some' e
    obtain ⟨z, e4, e5⟩ := bind_some' e1
    cases toB_some e5
    refine ⟨F, ρ, _, S, e4, fun v F1 H1 X1 r1 => ?_⟩
    cases r1
    refine ⟨k, rfl, ?_⟩
    cases k with
    | true =>
      rw [if_pos rfl] at e ⊢
      exact ⟨F1, ρ, d, S.to X1, e, fun w F4 H4 X4 r4 => q w F4 H4 (X1.trans X4) r4⟩
    | false =>
      rw [if_neg Bool.false_ne_true] at e ⊢
      cases e
      exact q _ F1 H1 X1 (.bl false)
theorem e_or {rest : List Expr} (ha : PE X a (tD X.K F0 H0 fa)) (hb : PE X (.BoolOp .Or (b :: rest) pos) (tD X.K F0 H0 fb)) : PE X (.BoolOp .Or (a :: b :: rest) pos) (tD X.K F0 H0 (fOr fa fb)) :=
  (pe_or ha hb).imp fun σ H Q ⟨F, ρ, d, S, e, q⟩ => by
    obtain ⟨k, e1, e⟩ := bind_some' e
    obtain ⟨z, e4, e5⟩ := bind_some' e1
    cases toB_some e5
    refine ⟨F, ρ, _, S, e4, fun v F1 H1 X1 r1 => ?_⟩
    cases r1
    refine ⟨k, rfl, ?_⟩
    cases k with
    | false =>
      rw [if_neg Bool.false_ne_true] at e ⊢
      exact ⟨F1, ρ, d, S.to X1, e, fun w F4 H4 X4 r4 => q w F4 H4 (X1.trans X4) r4⟩
    | true =>
      rw [if_pos rfl] at e ⊢
      cases e
      exact q _ F1 H1 X1 (.bl true)
theorem e_not (ha : PE X a (tD X.K F0 H0 fa)) : PE X (.UnaryOp .Not a pos) (tD X.K F0 H0 (f1 D.not fa)) :=
  (pe_not ha).imp fun σ H Q ⟨F, ρ, d, S, e, q⟩ => by
    obtain ⟨z, e1, e⟩ := bind_some' e
    obtain ⟨k, e5, e⟩ := bind_some' e
    cases toB_some e5
    cases e
    refine ⟨F, ρ, _, S, e1, fun v F1 H1 X1 r1 => ?_⟩
    cases r1
    exact ⟨k, rfl, q _ F1 H1 X1 (.bl _)⟩
theorem t_not (ha : PT X a (tB1 X.K F0 H0 ta)) : PT X (.UnaryOp .Not a pos) (tB1 X.K F0 H0 (bNot ta)) :=
  (pt_not ha).imp fun σ H Q ⟨F, ρ, b, S, e, q⟩ => by
    obtain ⟨c, e1, e⟩ := bind_some' e
    cases e
    exact ⟨F, ρ, c, S, e1, fun F1 H1 X1 => q F1 H1 X1⟩
theorem w_and1 (ha : PT X a (tB1 X.K F0 H0 ta)) : PW X (.BoolOp .And [a] pos) (tB1 X.K F0 H0 ta) := pw_and1 ha
theorem w_or1 (ha : PT X a (tB1 X.K F0 H0 ta)) : PW X (.BoolOp .Or [a] pos) (tB1 X.K F0 H0 ta) := pw_or1 ha
theorem w_and {rest : List Expr} (ha : PT X a (tB1 X.K F0 H0 ta)) (hb : PW X (.BoolOp .And (b :: rest) pos) (tB1 X.K F0 H0 tb)) : PW X (.BoolOp .And (a :: b :: rest) pos) (tB1 X.K F0 H0 (bAnd ta tb)) :=
  (pw_and ha hb).imp fun σ H Q ⟨F, ρ, b, S, e, q⟩ => by
    obtain ⟨c, e1, e⟩ := bind_some' e
    refine ⟨F, ρ, c, S, e1, fun F1 H1 X1 => ?_⟩
    cases c with
    | true =>
      rw [if_pos rfl] at e ⊢
      exact ⟨F1, ρ, b, S.to X1, e, fun F2 H2 X2 => q F2 H2 (X1.trans X2)⟩
    | false =>
      rw [if_neg Bool.false_ne_true] at e ⊢
      cases e
      exact q F1 H1 X1
theorem w_or {rest : List Expr} (ha : PT X a (tB1 X.K F0 H0 ta)) (hb : PW X (.BoolOp .Or (b :: rest) pos) (tB1 X.K F0 H0 tb)) : PW X (.BoolOp .Or (a :: b :: rest) pos) (tB1 X.K F0 H0 (bOr ta tb)) :=
  (pw_or ha hb).imp fun σ H Q ⟨F, ρ, b, S, e, q⟩ => by
    obtain ⟨c, e1, e⟩ := bind_some' e
    refine ⟨F, ρ, c, S, e1, fun F1 H1 X1 => ?_⟩
    cases c with
    | false =>
      rw [if_neg Bool.false_ne_true] at e ⊢
      exact ⟨F1, ρ, b, S.to X1, e, fun F2 H2 X2 => q F2 H2 (X1.trans X2)⟩
    | true =>
      rw [if_pos rfl] at e ⊢
      cases e
      exact q F1 H1 X1
theorem e_if (hc : PT X c (tB1 X.K F0 H0 tc)) (ha : PE X a (tD X.K F0 H0 fa)) (hb : PE X b (tD X.K F0 H0 fb)) : PE X (.IfExp c a b pos) (tD X.K F0 H0 (fIf tc fa fb)) :=
  (pe_ifExp hc ha hb).imp fun σ H Q ⟨F, ρ, d, S, e, q⟩ => by
    obtain ⟨c, e1, e⟩ := bind_some' e
    refine ⟨F, ρ, c, S, e1, fun F1 H1 X1 => ?_⟩
    cases c with
    | true =>
      rw [if_pos rfl] at e ⊢
      exact ⟨F1, ρ, d, S.to X1, e, fun v F2 H2 X2 r => q v F2 H2 (X1.trans X2) r⟩
    | false =>
      rw [if_neg Bool.false_ne_true] at e ⊢
      exact ⟨F1, ρ, d, S.to X1, e, fun v F2 H2 X2 r => q v F2 H2 (X1.trans X2) r⟩

/-! ### calls of built-ins -/
theorem e_callB {id : String} {x : Str} {r : List V → Hp → VK → Prop} {g : List D → Option D} (hc : CallR X (.builtin id) r) (hr : RC X.K r g) (hm : X.mg x = none) (hv : bootBuiltins x = some (.builtin id)) (ha : PA X (e :: es) (tA X.K F0 H0 fl)) (hg : Gl X x := by rfl)
    (hn : x ≠ "__name__" := by decide) (hdb : (x == ("__debug__" : Str)) = false := by decide)
    (he : starEach (e :: es) X.env = (false, eval e X.env) :: starEach es X.env := by rfl) (hpl : (backTo pos (starEach es X.env)).any (·.1) = false := by rfl) : PE X (.Call (.Name x p) (e :: es) [] pos) (tD X.K F0 H0 (fCall g fl)) :=
  (pe_callB hc hg hm hv ha hn hdb he hpl).imp fun σ H Q ⟨F, ρ, d, S, e, q⟩ => by
    obtain ⟨ds, e1, e⟩ := bind_some' e
    exact ⟨F, ρ, ds, S, e1, fun vs F1 H1 X1 r1 => hr F1 H1 vs ds d Q X1.fh r1 e fun w F3 H3 X3 r3 => q w F3 H3 (X1.trans X3) r3⟩
theorem e_callT {T : String} {x : Str} {r : List V → Hp → VK → Prop} {g : List D → Option D} (hc : CallR X (.type T) r) (hr : RC X.K r g) (hm : X.mg x = none) (hv : bootBuiltins x = some (.type T)) (ha : PA X (e :: es) (tA X.K F0 H0 fl)) (hg : Gl X x := by rfl)
    (hn : x ≠ "__name__" := by decide) (hdb : (x == ("__debug__" : Str)) = false := by decide)
    (he : starEach (e :: es) X.env = (false, eval e X.env) :: starEach es X.env := by rfl) (hpl : (backTo pos (starEach es X.env)).any (·.1) = false := by rfl) : PE X (.Call (.Name x p) (e :: es) [] pos) (tD X.K F0 H0 (fCall g fl)) :=
  (pe_callTy hc hg hm hv ha hn hdb he hpl).imp fun σ H Q ⟨F, ρ, d, S, e, q⟩ => by
    obtain ⟨ds, e1, e⟩ := bind_some' e
    exact ⟨F, ρ, ds, S, e1, fun vs F1 H1 X1 r1 => hr F1 H1 vs ds d Q X1.fh r1 e fun w F3 H3 X3 r3 => q w F3 H3 (X1.trans X3) r3⟩
end
end FD
end

section
set_option Elab.async false
set_option linter.all false
set_option maxRecDepth 100000
set_option maxHeartbeats 1000000
/-! FDc: the operators' and built-ins' instances; subscripts, slices; own lists read. -/
namespace FD
open PySem PySem.Spec PyProof.Rows L2 StX

section
variable {K : PySem.W.Frag}
theorem rd_ii {g : Int → Int → V} {gd : D → D → Option D} (h : ∀ dx dy dz, gd dx dy = some dz → ∃ i j, dx = .int i ∧ dy = .int j ∧ ∀ F, Rp K F (g i j) dz) : RD K (rI0 g) gd := by
  intro F H x y dx dy dz Q s rx ry e q
  obtain ⟨i, j, rfl, rfl, r⟩ := h _ _ _ e
  cases rx
  cases ry
  exact ⟨i, j, rfl, rfl, q _ F H (Ext.refl s) (r F)⟩
theorem rd_add : RD K (rI0 fun i j => .int (i + j)) D.add := rd_ii fun dx dy dz e => by
  cases dx <;> cases dy <;> first | (cases e; exact ⟨_, _, rfl, rfl, fun _ => .int _⟩) | cases e
theorem rd_sub : RD K (rI0 fun i j => .int (i - j)) D.sub := rd_ii fun dx dy dz e => by
  cases dx <;> cases dy <;> first | (cases e; exact ⟨_, _, rfl, rfl, fun _ => .int _⟩) | cases e
theorem rd_lt : RD K (rI0 fun i j => .bl (decide (i < j))) D.lt := rd_ii fun dx dy dz e => by
  cases dx <;> cases dy <;> first | (cases e; exact ⟨_, _, rfl, rfl, fun _ => .bl _⟩) | cases e
theorem rd_le : RD K (rI0 fun i j => .bl (decide (i ≤ j))) D.le := rd_ii fun dx dy dz e => by
  cases dx <;> cases dy <;> first | (cases e; exact ⟨_, _, rfl, rfl, fun _ => .bl _⟩) | cases e
theorem rd_gt : RD K (rI0 fun i j => .bl (decide (j < i))) D.gt := rd_ii fun dx dy dz e => by
  cases dx <;> cases dy <;> first | (cases e; exact ⟨_, _, rfl, rfl, fun _ => .bl _⟩) | cases e
theorem rd_ge : RD K (rI0 fun i j => .bl (decide (j ≤ i))) D.ge := rd_ii fun dx dy dz e => by
  cases dx <;> cases dy <;> first | (cases e; exact ⟨_, _, rfl, rfl, fun _ => .bl _⟩) | cases e
theorem rd_mul : RD K (rI CMul fun i j => .int (i * j)) D.mul := by
  intro F H x y dx dy dz Q s rx ry e q
  cases rx <;> cases ry <;> first
    | (unfold D.mul at e
       dsimp only at e
       split at e
       · rename_i i j c
         cases e
         refine ⟨i, j, rfl, rfl, ?_, q _ F H (Ext.refl s) (.int _)⟩
         rcases Bool.or_eq_true_iff.mp c with c | c
         · exact .inl (of_decide_eq_true c)
         · exact .inr (of_decide_eq_true c)
       · cases e)
    | cases e
theorem ru_neg : RU1 K (rU fun i => .int (-i)) D.neg := by
  intro F H x dx dz Q s rx e q
  cases rx <;> first | (cases e; exact ⟨_, rfl, q _ F H (Ext.refl s) (.int _)⟩) | cases e
theorem rd_isN : RD K (fun x y H Q => y = .non ∧ Q (.bl (decide (x = .non))) H) D.isNone := by
  intro F H x y dx dy dz Q s rx ry e q
  cases rx <;> cases ry <;> first | (cases e; exact ⟨rfl, q _ F H (Ext.refl s) (.bl _)⟩) | cases e
theorem rd_notN : RD K (fun x y H Q => y = .non ∧ Q (.bl (!decide (x = .non))) H) D.notNone := by
  intro F H x y dx dy dz Q s rx ry e q
  cases rx <;> cases ry <;> first | (cases e; exact ⟨rfl, q _ F H (Ext.refl s) (.bl _)⟩) | cases e
/-! ### ==, != -/
def rEqL (K : PySem.W.Frag) : R2 := fun x y H Q => ∃ d, Dp K H x (.list d) ∧ Dp K H y (.list []) ∧ PyData.canLayAll0 d = true ∧ Q (.bl d.isEmpty) H
def rNeL (K : PySem.W.Frag) : R2 := fun x y H Q => ∃ d, Dp K H x (.list d) ∧ Dp K H y (.list []) ∧ PyData.canLayAll0 d = true ∧ Q (.bl (!d.isEmpty)) H
theorem eqv_nil (d : List PyData) : PyData.eqv (.list d) (.list []) = d.isEmpty := by
  cases d <;> simp [PyData.eqv, PyData.eqvAll]
theorem depth_nil (d : PyData) : min d.depth (PyData.depth (.list [])) ≤ 64 := by
  have : PyData.depth (.list []) = 1 := by simp [PyData.depth, PyData.depthAll]
  omega
theorem op_eqL {X : Cx} (hu : X.A.units + 64 < cLine) : OpR X (compareOp .Eq) (rEqL X.K) := by
  intro pins s σ H x y v u Q I rx ry h
  obtain ⟨d, hd, he, sd, q⟩ := h
  obtain ⟨as, r1⟩ := Dp.reads I _ x v hd rx
  obtain ⟨bs, r2⟩ := Dp.reads I _ y u he ry
  have h3 := depth_nil (.list d)
  refine SeqAt.compareEq_reads r1 r2 (by simpa [PyData.canLay0] using sd) (by simp [PyData.canLay0, PyData.canLayAll0]) (by omega) ⟨.bl _, H, I, rfl, ?_⟩
  rw [eqv_nil]; exact q
theorem op_neL {X : Cx} (hu : X.A.units + 64 < cLine) : OpR X (compareOp .NotEq) (rNeL X.K) := by
  intro pins s σ H x y v u Q I rx ry h
  obtain ⟨d, hd, he, sd, q⟩ := h
  obtain ⟨as, r1⟩ := Dp.reads I _ x v hd rx
  obtain ⟨bs, r2⟩ := Dp.reads I _ y u he ry
  have h3 := depth_nil (.list d)
  refine SeqAt.compareNe_reads r1 r2 (by simpa [PyData.canLay0] using sd) (by simp [PyData.canLay0, PyData.canLayAll0]) (by omega) ⟨.bl _, H, I, rfl, ?_⟩
  rw [eqv_nil]; exact q
def rEqA (K : PySem.W.Frag) : R2 := fun x y H Q => rEq x y H Q ∨ rEqL K x y H Q
def rNeA (K : PySem.W.Frag) : R2 := fun x y H Q => rNe x y H Q ∨ rNeL K x y H Q
theorem op_eqA {X : Cx} (hu : X.A.units + 64 < cLine) : OpR X (compareOp .Eq) (rEqA X.K) := OpR.or op_eq (op_eqL hu)
theorem op_neA {X : Cx} (hu : X.A.units + 64 < cLine) : OpR X (compareOp .NotEq) (rNeA X.K) := OpR.or op_ne (op_neL hu)
theorem toPys_empty (ds : List D) : (toPys ds).isEmpty = ds.isEmpty := by cases ds <;> simp [toPys]
theorem toPys_nil {ds : List D} (h : toPys ds = []) : ds = [] := by cases ds <;> simp_all [toPys]
theorem dp_lst {F H : Hp} {x : V} {ds : List D} (s : Same F H) (r : Rp K F x (.lst ds)) : Dp K H x (.list (toPys ds)) := by
  have h := r.dp s
  simpa [toPy] using h
theorem eqq_cases {F H : Hp} {x y : V} {dx dy : D} {b : Bool} (s : Same F H) (rx : Rp K F x dx) (ry : Rp K F y dy) (e : D.eqq dx dy = some b) :
    (scal x y = true ∧ b = decide (x = y)) ∨ ∃ d, Dp K H x (.list d) ∧ Dp K H y (.list []) ∧ PyData.canLayAll0 d = true ∧ b = d.isEmpty := by
  cases rx with
  | int i => cases ry <;> first | (cases e; exact .inl ⟨rfl, by simp⟩) | cases e
  | str i => cases ry <;> first | (cases e; exact .inl ⟨rfl, by simp⟩) | cases e
  | bl i => cases ry <;> first | (cases e; exact .inl ⟨rfl, by simp⟩) | cases e
  | non => cases ry <;> first | (cases e; exact .inl ⟨rfl, by simp⟩) | cases e
  | tup h r => cases ry <;> cases e
  | @lst a vs ds h r =>
    cases ry with
    | @lst a2 vs2 es h2 r2 =>
      cases es with
      | nil =>
        have e' : (if PyData.canLayAll0 (toPys ds) then some ds.isEmpty else none) = some b := e
        split at e'
        · rename_i hc
          cases e'
          exact .inr ⟨_, dp_lst s (.lst h r), by have := dp_lst s (Rp.lst h2 r2); simpa [toPys] using this, hc, (toPys_empty ds).symm⟩
        · cases e'
      | cons z zs => cases e
    | _ => cases e
theorem rd_eq : RD K (rEqA K) D.eq := by
  intro F H x y dx dy dz Q s rx ry e q
  obtain ⟨b, e1, e2⟩ := bind_some' e
  cases e2
  rcases eqq_cases s rx ry e1 with ⟨h, rfl⟩ | ⟨d, h1, h2, h3, rfl⟩
  · exact .inl ⟨h, q _ F H (Ext.refl s) (.bl _)⟩
  · exact .inr ⟨d, h1, h2, h3, q _ F H (Ext.refl s) (.bl _)⟩
theorem rd_ne : RD K (rNeA K) D.ne := by
  intro F H x y dx dy dz Q s rx ry e q
  obtain ⟨b, e1, e2⟩ := bind_some' e
  cases e2
  rcases eqq_cases s rx ry e1 with ⟨h, rfl⟩ | ⟨d, h1, h2, h3, rfl⟩
  · exact .inl ⟨h, q _ F H (Ext.refl s) (.bl _)⟩
  · exact .inr ⟨d, h1, h2, h3, q _ F H (Ext.refl s) (.bl _)⟩
theorem rd_cat : RD K (rCatA K) D.cat := by
  intro F H x y dx dy dz Q s rx ry e q
  cases rx with
  | @tup a vs ds h r =>
    cases ry with
    | @tup a2 vs2 es h2 r2 =>
      have e' : (if ds.length + es.length ≤ 100000 then some (D.tup (ds ++ es)) else none) = some dz := e
      split at e'
      · rename_i hz
        cases e'
        refine ⟨a, a2, vs, vs2, rfl, rfl, sqT_mono s h, sqT_mono s h2, by rw [r.length, r2.length]; exact sz hz, fun z => ?_, fun _ z => ?_, fun _ _ p hp => ?_⟩
        · subst z; cases r
          exact q _ F H (Ext.refl s) (.tup h2 r2)
        · subst z; cases r2
          refine q _ F H (Ext.refl s) (.tup h ?_)
          rw [List.append_nil]; exact r
        · have y := Ext.new (o := .tup (vs ++ vs2)) s hp
          exact q _ _ _ y (.tup (SqT.of upd_same) ((r.append r2).mono y.f))
      · cases e'
    | _ => cases e
  | _ => cases ry <;> cases e
/-! ### in, not in -/
theorem flat_of {F : Hp} {x : V} {d : D} (r : Rp K F x d) (h : flatD d = true) : flatV x = true := by
  cases r <;> first | rfl | cases h
theorem flats_of {F : Hp} : ∀ {vs : List V} {ds : List D}, Rps K F vs ds → ds.all flatD = true → vs.all flatV = true
  | _, _, .nil, _ => rfl
  | _, _, .cons r t, h => by
    rw [List.all_cons, Bool.and_eq_true] at h ⊢
    exact ⟨flat_of r h.1, flats_of t h.2⟩
theorem eqF_of {F : Hp} {x y : V} {d e : D} (r : Rp K F x d) (r2 : Rp K F y e) (h : flatD d = true) (h2 : flatD e = true) : eqV x y = eqF d e := by
  cases r <;> cases r2 <;> simp_all [flatD, eqV, eqF]
theorem inV_of {F : Hp} {x : V} {d : D} (r : Rp K F x d) (h : flatD d = true) : ∀ {vs : List V} {ds : List D}, Rps K F vs ds → ds.all flatD = true → inV x vs = ds.any fun y => eqF y d
  | _, _, .nil, _ => rfl
  | _, _, .cons r2 t, h2 => by
    rw [List.all_cons, Bool.and_eq_true] at h2
    show (eqV _ x || inV x _) = (eqF _ d || _)
    rw [eqF_of r2 r h2.1 h, inV_of r h t h2.2]
theorem rd_in : RD K (rIn K false) D.isIn := by
  intro F H x y dx dy dz Q s rx ry e q
  cases ry with
  | @tup a vs ds h r =>
    have e' : (if flatD dx && ds.all flatD then some (D.bl (ds.any fun y => eqF y dx)) else none) = some dz := e
    split at e'
    · rename_i c
      rw [Bool.and_eq_true] at c
      cases e'
      refine ⟨a, vs, rfl, .inr (sqT_mono s h), flat_of rx c.1, flats_of r c.2, ?_⟩
      rw [inV_of rx c.1 r c.2]
      exact q _ F H (Ext.refl s) (.bl _)
    · cases e'
  | _ => cases e
theorem rd_notIn : RD K (rIn K true) D.notIn := by
  intro F H x y dx dy dz Q s rx ry e q
  cases ry with
  | @tup a vs ds h r =>
    have e' : (if flatD dx && ds.all flatD then some (D.bl (!ds.any fun y => eqF y dx)) else none) = some dz := e
    split at e'
    · rename_i c
      rw [Bool.and_eq_true] at c
      cases e'
      refine ⟨a, vs, rfl, .inr (sqT_mono s h), flat_of rx c.1, flats_of r c.2, ?_⟩
      rw [inV_of rx c.1 r c.2]
      exact q _ F H (Ext.refl s) (.bl _)
    · cases e'
  | _ => cases e

/-! ### built-ins -/
theorem rc1 {r : List V → Hp → VK → Prop} {g : D → Option D} (h : ∀ (F H : Hp) (x : V) (dx dz : D) (Q : VK), Same F H → Rp K F x dx → g dx = some dz → (∀ v F' H', Ext F H F' H' → Rp K F' v dz → Q v H') → r [x] H Q) : RC K r (g1 g) := by
  intro F H vs ds dz Q s rs e q
  cases rs with
  | nil => cases e
  | cons r1 r2 =>
    cases r2 with
    | nil => exact h F H _ _ dz Q s r1 e q
    | cons _ _ => cases e
theorem rc2 {r : List V → Hp → VK → Prop} {g : D → D → Option D} (h : ∀ (F H : Hp) (x y : V) (dx dy dz : D) (Q : VK), Same F H → Rp K F x dx → Rp K F y dy → g dx dy = some dz → (∀ v F' H', Ext F H F' H' → Rp K F' v dz → Q v H') → r [x, y] H Q) : RC K r (g2 g) := by
  intro F H vs ds dz Q s rs e q
  cases rs with
  | nil => cases e
  | cons r1 r2 =>
    cases r2 with
    | nil => cases e
    | cons r2 r3 =>
      cases r3 with
      | nil => exact h F H _ _ _ _ dz Q s r1 r2 e q
      | cons _ _ => cases e
theorem sq_any {F H : Hp} {a : Addr} {vs : List V} (s : Same F H) (h : F a = some (.lst vs)) : SqL K H a vs := .inl (.inl (s _ _ h))
theorem rc_len : RC K (fun xs H Q => ∃ p ys, xs = [.ref p] ∧ (SqL K H p ys ∨ SqT K H p ys) ∧ Q (.int ys.length) H) (g1 D.len) := rc1 fun F H x dx dz Q s rx e q => by
  cases rx with
  | @tup a vs ds h r =>
    cases e
    refine ⟨a, vs, rfl, .inr (sqT_mono s h), ?_⟩
    rw [r.length]
    exact q _ F H (Ext.refl s) (.int _)
  | @lst a vs ds h r =>
    cases e
    refine ⟨a, vs, rfl, .inl (sq_any s h), ?_⟩
    rw [r.length]
    exact q _ F H (Ext.refl s) (.int _)
  | _ => cases e
theorem rc_sum : RC K (rSum K) (g1 D.sum) := rc1 fun F H x dx dz Q s rx e q => by
  cases rx with
  | @lst a vs ds h r =>
    obtain ⟨is, e1, e⟩ := bind_some' e
    cases e
    cases r.ints e1
    exact ⟨a, is, rfl, sq_any s h, q _ F H (Ext.refl s) (.int _)⟩
  | _ => cases e
theorem rc_all : RC K (rAll K) (g1 D.all) := rc1 fun F H x dx dz Q s rx e q => by
  cases rx with
  | @lst a vs ds h r =>
    obtain ⟨is, e1, e⟩ := bind_some' e
    cases e
    cases r.bools e1
    exact ⟨a, is, rfl, sq_any s h, q _ F H (Ext.refl s) (.bl _)⟩
  | _ => cases e
theorem rc_min2 : RC K (fun xs H Q => ∃ i j, xs = [.int i, .int j] ∧ Q (.int (if j < i then j else i)) H) (g2 D.min2) := rc2 fun F H x y dx dy dz Q s rx ry e q => by
  cases rx <;> cases ry <;> first | (cases e; exact ⟨_, _, rfl, q _ F H (Ext.refl s) (.int _)⟩) | cases e
theorem rc_max2 : RC K (fun xs H Q => ∃ i j, xs = [.int i, .int j] ∧ Q (.int (if j > i then j else i)) H) (g2 D.max2) := rc2 fun F H x y dx dy dz Q s rx ry e q => by
  cases rx <;> cases ry <;> first | (cases e; exact ⟨_, _, rfl, q _ F H (Ext.refl s) (.int _)⟩) | cases e
theorem maxL_spec : ∀ (l : List Int), l ≠ [] → maxL l ∈ l ∧ ∀ y ∈ l, y ≤ maxL l
  | [], h => absurd rfl h
  | [x], _ => ⟨List.mem_cons_self, fun y hy => Int.le_of_eq (List.mem_singleton.mp hy)⟩
  | x :: y :: r, _ => by
    obtain ⟨h1, h2⟩ := maxL_spec (y :: r) (List.cons_ne_nil _ _)
    show max x (maxL (y :: r)) ∈ _ ∧ ∀ z ∈ _, z ≤ max x (maxL (y :: r))
    refine ⟨?_, fun z hz => ?_⟩
    · rcases Int.le_total x (maxL (y :: r)) with h | h
      · rw [Int.max_eq_right h]; exact List.mem_cons_of_mem _ h1
      · rw [Int.max_eq_left h]; exact List.mem_cons_self
    · rcases List.mem_cons.mp hz with rfl | hz
      · exact Int.le_max_left _ _
      · exact Int.le_trans (h2 z hz) (Int.le_max_right _ _)
theorem minL_spec : ∀ (l : List Int), l ≠ [] → minL l ∈ l ∧ ∀ y ∈ l, minL l ≤ y
  | [], h => absurd rfl h
  | [x], _ => ⟨List.mem_cons_self, fun y hy => Int.le_of_eq (List.mem_singleton.mp hy).symm⟩
  | x :: y :: r, _ => by
    obtain ⟨h1, h2⟩ := minL_spec (y :: r) (List.cons_ne_nil _ _)
    show min x (minL (y :: r)) ∈ _ ∧ ∀ z ∈ _, min x (minL (y :: r)) ≤ z
    refine ⟨?_, fun z hz => ?_⟩
    · rcases Int.le_total x (minL (y :: r)) with h | h
      · rw [Int.min_eq_left h]; exact List.mem_cons_self
      · rw [Int.min_eq_right h]; exact List.mem_cons_of_mem _ h1
    · rcases List.mem_cons.mp hz with rfl | hz
      · exact Int.min_le_left _ _
      · exact Int.le_trans (Int.min_le_right _ _) (h2 z hz)
theorem rc_max1 : RC K (rMax K) (g1 D.max1) := rc1 fun F H x dx dz Q s rx e q => by
  cases rx with
  | @lst a vs ds h r =>
    obtain ⟨is, e1, e⟩ := bind_some' e
    cases r.ints e1
    split at e
    · cases e
    · rename_i ne
      cases e
      have ne' : is ≠ [] := fun z => by subst z; exact ne rfl
      obtain ⟨m1, m2⟩ := maxL_spec is ne'
      refine ⟨a, is, rfl, sq_any s h, List.length_pos_iff.mpr ne', fun m h1 h2 => ?_⟩
      have em : m = maxL is := Int.le_antisymm (m2 m h1) (h2 _ m1)
      rw [em]
      exact q _ F H (Ext.refl s) (.int _)
  | _ => cases e
theorem rc_min1 : RC K (rMin K) (g1 D.min1) := rc1 fun F H x dx dz Q s rx e q => by
  cases rx with
  | @lst a vs ds h r =>
    obtain ⟨is, e1, e⟩ := bind_some' e
    cases r.ints e1
    split at e
    · cases e
    · rename_i ne
      cases e
      have ne' : is ≠ [] := fun z => by subst z; exact ne rfl
      obtain ⟨m1, m2⟩ := minL_spec is ne'
      refine ⟨a, is, rfl, sq_any s h, List.length_pos_iff.mpr ne', fun m h1 h2 => ?_⟩
      have em : m = minL is := Int.le_antisymm (h2 _ m1) (m2 m h1)
      rw [em]
      exact q _ F H (Ext.refl s) (.int _)
  | _ => cases e
theorem rc_tuple : RC K (fun xs H Q => ∃ p ys, xs = [.ref p] ∧ ((SqL K H p ys ∧ ∀ l, H l = none → Q (.ref l) (upd H l (.tup ys))) ∨ (SqT K H p ys ∧ Q (.ref p) H))) (g1 D.tuple) := rc1 fun F H x dx dz Q s rx e q => by
  cases rx with
  | @tup a vs ds h r =>
    cases e
    exact ⟨a, vs, rfl, .inr ⟨sqT_mono s h, q _ F H (Ext.refl s) (.tup h r)⟩⟩
  | @lst a vs ds h r =>
    cases e
    refine ⟨a, vs, rfl, .inl ⟨sq_any s h, fun p hp => ?_⟩⟩
    have y := Ext.new (o := .tup vs) s hp
    exact q _ _ _ y (.tup (SqT.of upd_same) (r.mono y.f))
  | _ => cases e
theorem rc_abs : RC K (fun xs H Q => ∃ i, xs = [.int i] ∧ Q (.int (if i < 0 then -i else i)) H) (g1 D.abs) := rc1 fun F H x dx dz Q s rx e q => by
  cases rx <;> first | (cases e; exact ⟨_, rfl, q _ F H (Ext.refl s) (.int _)⟩) | cases e
theorem rc_int : RC K (fun xs H Q => (∃ i, xs = [.int i] ∧ Q (.int i) H) ∨ ∃ k, xs = [.bl k] ∧ Q (.int (if k then 1 else 0)) H) (g1 D.toI) := rc1 fun F H x dx dz Q s rx e q => by
  cases rx <;> first | (cases e; exact .inl ⟨_, rfl, q _ F H (Ext.refl s) (.int _)⟩) | (cases e; exact .inr ⟨_, rfl, q _ F H (Ext.refl s) (.int _)⟩) | cases e
/-! ### isinstance against a built-in type -/
def tyN : D → String
  | .non => "NoneType"
  | .bl _ => "bool"
  | .int _ => "int"
  | .str _ => "str"
  | .tup _ => "tuple"
  | .lst _ => "list"
theorem ty_of {F H : Hp} {x : V} {d : D} (s : Same F H) (r : Rp K F x d) : TyX K H x (.type (tyN d)) := by
  cases r with
  | non => exact .base .non
  | bl b => exact .base (.bl b)
  | int i => exact .base (.int i)
  | str z => exact .base (.str z)
  | lst h r => exact .base (.lst (s _ _ h))
  | tup h r =>
    rcases h with (h | ⟨o, h⟩) | ⟨o, its, n, hk, hc, _⟩
    · exact .base (.tup (s _ _ h))
    · exact .fTuple (s _ _ h)
    · exact .kTuple hk hc
def isT (T : String) (x : D) : Option D := (kitB (tyN x) T).bind fun b => some (.bl b)
end
section
variable {X : Cx} {F0 H0 : Hp} {a b c e : Expr} {es : List Expr} {fa fb fc fe : FE} {fl fm : FL} {ta tb tc : FT} {pos p p2 : Pos}
theorem e_isinst {x2 : Str} (T : String) (hm : X.mg "isinstance" = none) (hm2 : X.mg x2 = none) (hv : bootBuiltins x2 = some (.type T)) (ha : PE X e (tD X.K F0 H0 fe)) (hg : Gl X "isinstance" := by rfl) (hg2 : Gl X x2 := by rfl)
    (hn : x2 ≠ "__name__" := by decide) (hd : (x2 == ("__debug__" : Str)) = false := by decide)
    (he : starEach [e, .Name x2 p2] X.env = (false, eval e X.env) :: starEach [.Name x2 p2] X.env := by rfl) (hpl : (backTo pos (starEach [.Name x2 p2] X.env)).any (·.1) = false := by rfl) :
    PE X (.Call (.Name "isinstance" p) [e, .Name x2 p2] [] pos) (tD X.K F0 H0 (f1 (isT T) fe)) :=
  (pe_callB call_isi hg hm (by decide +kernel) (pa_cons ha (pa_cons (pe_bltn (v := .ty T) hg2 hm2 hv rfl hn hd) pa_nil) he) (by decide) (by decide) he hpl).imp fun σ H Q ⟨F, ρ, d, S, e, q⟩ => by
    obtain ⟨dx, e1, e⟩ := bind_some' e
    obtain ⟨b, e2, e⟩ := bind_some' e
    cases e
    exact ⟨F, ρ, dx, S, e1, fun v F1 H1 X1 r1 => ⟨v, .ty T, .type (tyN dx), .type T, b, rfl, .ty T, ty_of X1.fh r1, kit_ty e2, q _ F1 H1 X1 (.bl b)⟩⟩

/-! ### subscripts -/
theorem e_ix (ha : PE X a (tD X.K F0 H0 fa)) (hb : PE X b (tD X.K F0 H0 fb)) (hs : PlainIx b := by intro _ _; rfl) : PE X (.Subscript a b pos) (tD X.K F0 H0 (f2 D.ix fa fb)) :=
  (pe_ix ix_seq ha hb hs).imp fun σ H Q h => tOp_of (fun F H x y dx dy dz Q s rx ry e q => by
    cases rx with
    | @tup a vs ds h r =>
      cases ry with
      | int i =>
        obtain ⟨v, e1, rv⟩ := r.at (show atI ds i = some dz from e)
        exact .inr (.inl ⟨a, vs, i, v, rfl, rfl, sqT_mono s h, e1, q _ F H (Ext.refl s) rv⟩)
      | _ => cases e
    | @lst a vs ds h r =>
      cases ry with
      | int i =>
        obtain ⟨v, e1, rv⟩ := r.at (show atI ds i = some dz from e)
        exact .inl ⟨a, vs, i, v, rfl, rfl, sq_any s h, e1, q _ F H (Ext.refl s) rv⟩
      | _ => cases e
    | _ => cases ry <;> cases e) h
/-- found[e], found an own list -/
def fIxO (i : Nat) (fb : FE) : FE := fun ρ => match ρ[i]? with
  | some (.own ds) => (fb ρ).bind fun y => D.ix (.lst ds) y
  | _ => none
theorem e_ixO (i : Nat) {x : Str} (hb : PE X b (tD X.K F0 H0 fb)) (hN : X.N[i]? = some x := by rfl) (hv : Vis X.env.scope x := by first | exact Or.inl rfl | exact Or.inr (Or.inl rfl) | exact Or.inr (Or.inr rfl)) (hd : (x == ("__debug__" : Str)) = false := by decide)
    (hcd : (x == ("__classdict__" : Str)) = false := by decide) (hs : PlainIx b := by intro _ _; rfl) : PE X (.Subscript (.Name x p) b pos) (tD X.K F0 H0 (fIxO i fb)) :=
  (pe_ix ix_list (pe_var hN hv hd hcd) hb hs).imp fun σ H Q ⟨F, ρ, d, S, e, q⟩ => by
    unfold fIxO at e
    split at e
    · rename_i ds h
      obtain ⟨y, e1, e⟩ := bind_some' e
      obtain ⟨a, vs, e2, ha, hf, h0, r⟩ := S.own h
      refine ⟨_, e2, F, ρ, y, S, e1, fun v F1 H1 X1 r1 => ?_⟩
      cases r1 with
      | int k =>
        obtain ⟨u, e3, ru⟩ := r.at (show atI ds k = some d from e)
        exact ⟨a, vs, k, u, rfl, rfl, .inl (.inl (X1.h _ _ ha)), e3, q _ F1 H1 X1 (ru.mono X1.f)⟩
      | _ => cases e
    · cases e
/-- len of an own list -/
def fLenO (i : Nat) : FE := fun ρ => match ρ[i]? with
  | some (.own ds) => some (.int ds.length)
  | _ => none
theorem e_lenO (i : Nat) {x : Str} (hm : X.mg "len" = none) (hg : Gl X "len" := by rfl) (hN : X.N[i]? = some x := by rfl) (hv : Vis X.env.scope x := by first | exact Or.inl rfl | exact Or.inr (Or.inl rfl) | exact Or.inr (Or.inr rfl)) (hd : (x == ("__debug__" : Str)) = false := by decide)
    (hcd : (x == ("__classdict__" : Str)) = false := by decide) (he : starEach [.Name x p2] X.env = (false, eval (.Name x p2) X.env) :: starEach [] X.env := by rfl) (hpl : (backTo pos (starEach [] X.env)).any (·.1) = false := by rfl) :
    PE X (.Call (.Name "len" p) [.Name x p2] [] pos) (tD X.K F0 H0 (fLenO i)) :=
  (pe_callB call_len_seq hg hm PySem.boot_len (pa_cons (pe_var hN hv hd hcd) pa_nil he) (by decide) (by decide) he hpl).imp fun σ H Q ⟨F, ρ, d, S, e, q⟩ => by
    unfold fLenO at e
    split at e
    · rename_i ds h
      cases e
      obtain ⟨a, vs, e2, ha, hf, h0, r⟩ := S.own h
      refine ⟨_, e2, a, vs, rfl, .inl (.inl (.inl ha)), ?_⟩
      rw [r.length]
      exact q _ F H (Ext.refl S.fh) (.int _)
    · cases e
/-- own != [] -/
def bNeO (i : Nat) : FT := fun ρ => match ρ[i]? with
  | some (.own ds) => if PyData.canLayAll0 (toPys ds) then some (!ds.isEmpty) else none
  | _ => none
theorem t_neO (i : Nat) {x : Str} {p3 : Pos} (hu : X.A.units + 64 < cLine) (hN : X.N[i]? = some x := by rfl) (hv : Vis X.env.scope x := by first | exact Or.inl rfl | exact Or.inr (Or.inl rfl) | exact Or.inr (Or.inr rfl)) (hd : (x == ("__debug__" : Str)) = false := by decide)
    (hcd : (x == ("__classdict__" : Str)) = false := by decide) : PT X (.Compare (.Name x p) [.NotEq] [.List [] p3] pos) (tB1 X.K F0 H0 (bNeO i)) :=
  (pt_cmpR (op_neL hu) (pe_var hN hv hd hcd) (pe_lst pa_nil) rfl).imp fun σ H Q ⟨F, ρ, d, S, e, q⟩ => by
    unfold bNeO at e
    split at e
    · rename_i ds h
      split at e
      · rename_i hc
        cases e
        obtain ⟨a, vs, e2, ha, hf, h0, r⟩ := S.own h
        refine ⟨_, e2, Nat.zero_le _, fun p hp => ?_⟩
        have y := Ext.free (o := .lst []) S.fh hp
        refine ⟨toPys ds, .lst (.inl (.inl (y.h _ _ ha))) (r.dp y.fh), .lst (.inl (.inl upd_same)) .nil, hc, _, rfl, ?_⟩
        rw [toPys_empty]
        exact q F _ y
      · cases e
    · cases e

/-! ### slices -/
abbrev FO := Rho → Option (Option Int)
def oNone : FO := fun _ => some none
def oSome (a : FE) : FO := fun ρ => (a ρ).bind fun x => match x with
  | .int i => some (some i)
  | _ => none
def tO (K : PySem.W.Frag) (F0 H0 : Hp) (f : FO) : TO := fun σ H Q => ∃ F ρ o, SR K F0 H0 F H σ ρ ∧ f ρ = some o ∧ ∀ F' H', Ext F H F' H' → Q o H'
theorem _root_.L2.PO.imp {X : Cx} {e : Option Expr} {t t' : TO} (h : PO X e t) (i : ∀ σ H Q, t' σ H Q → t σ H Q) : PO X e t' := ⟨fun pins s σ H Q I q => h.run pins s σ H Q I (i σ H Q q)⟩
theorem o_none : PO X none (tO X.K F0 H0 oNone) := po_none.imp fun σ H Q ⟨F, ρ, o, S, e, q⟩ => by
  cases e
  exact q F H (Ext.refl S.fh)
theorem o_some (h : PE X e (tD X.K F0 H0 fe)) : PO X (some e) (tO X.K F0 H0 (oSome fe)) := (po_some h).imp fun σ H Q ⟨F, ρ, o, S, e, q⟩ => by
  obtain ⟨x, e1, e⟩ := bind_some' e
  refine ⟨F, ρ, x, S, e1, fun v F1 H1 X1 r1 => ?_⟩
  cases r1 with
  | int i => cases e; exact ⟨i, rfl, q F1 H1 X1⟩
  | _ => cases e
/-- t[lo:hi], t a tuple -/
def fSlT (a : FE) (lo hi : FO) : FE := fun ρ => (a ρ).bind fun x => (lo ρ).bind fun l => (hi ρ).bind fun h => match x with
  | .tup ds => some (.tup (cutD ds l h))
  | _ => none
theorem Rps.cut {K : PySem.W.Frag} {F : Hp} {vs : List V} {ds : List D} {l h : Option Int} (r : Rps K F vs ds) : Rps K F (cutV vs l h) (cutD ds l h) := by
  unfold cutV cutD
  rw [r.length]
  exact (r.drop _).take _
theorem cut_whole {ds : List D} {l h : Option Int} (w : HT.sIx ds.length 0 l = 0 ∧ HT.sIx ds.length ds.length h = ds.length) : cutD ds l h = ds := by
  unfold cutD
  rw [w.1, w.2]
  simp
theorem e_slT {lo hi : Option Expr} {fo fh : FO} (ha : PE X a (tD X.K F0 H0 fa)) (hl : PO X lo (tO X.K F0 H0 fo)) (hh : PO X hi (tO X.K F0 H0 fh)) : PE X (.Subscript a (.Slice lo hi none p2) pos) (tD X.K F0 H0 (fSlT fa fo fh)) :=
  (pe_slice sl_tupA ha hl hh).imp fun σ H Q ⟨F, ρ, d, S, e, q⟩ => by
    obtain ⟨x, e1, e⟩ := bind_some' e
    obtain ⟨l, e2, e⟩ := bind_some' e
    obtain ⟨h, e3, e⟩ := bind_some' e
    refine ⟨F, ρ, x, S, e1, fun v F1 H1 X1 r1 => ⟨F1, ρ, l, S.to X1, e2, fun F2 H2 X2 => ⟨F2, ρ, h, S.to (X1.trans X2), e3, fun F3 H3 X3 => ?_⟩⟩⟩
    cases r1 with
    | @tup a vs ds ht r =>
      cases e
      have Y := X1.trans (X2.trans X3)
      have ht' := sqT_mono X3.fh (sqT_mono (X2.trans X3).f ht)
      have r' := r.mono (X2.trans X3).f
      refine ⟨a, vs, rfl, ht', fun w => ?_, fun w p hp => ?_⟩
      · rw [r.length] at w
        refine q _ F3 H3 Y ?_
        rw [cut_whole w]
        exact .tup (sqT_mono (X2.trans X3).f ht) r'
      · have y := Ext.new (o := .tup (cutV vs l h)) X3.fh hp
        exact q _ _ _ (Y.trans y) (.tup (SqT.of upd_same) (r'.cut.mono y.f))
    | _ => cases e
/-- xs[lo:hi], xs a list: new -/
def fSlL (a : FE) (lo hi : FO) : FL := fun ρ => (a ρ).bind fun x => (lo ρ).bind fun l => (hi ρ).bind fun h => match x with
  | .lst ds => some (cutD ds l h)
  | _ => none
theorem n_slL {lo hi : Option Expr} {fo fh : FO} (ha : PE X a (tD X.K F0 H0 fa)) (hl : PO X lo (tO X.K F0 H0 fo)) (hh : PO X hi (tO X.K F0 H0 fh)) : PE X (.Subscript a (.Slice lo hi none p2) pos) (tN X.K F0 H0 (fSlL fa fo fh)) :=
  (pe_slice sl_list ha hl hh).imp fun σ H Q ⟨F, ρ, d, S, e, q⟩ => by
    obtain ⟨x, e1, e⟩ := bind_some' e
    obtain ⟨l, e2, e⟩ := bind_some' e
    obtain ⟨h, e3, e⟩ := bind_some' e
    refine ⟨F, ρ, x, S, e1, fun v F1 H1 X1 r1 => ⟨F1, ρ, l, S.to X1, e2, fun F2 H2 X2 => ⟨F2, ρ, h, S.to (X1.trans X2), e3, fun F3 H3 X3 => ?_⟩⟩⟩
    cases r1 with
    | @lst a vs ds ht r =>
      cases e
      have Y := X1.trans (X2.trans X3)
      have r' := r.mono (X2.trans X3).f
      refine ⟨a, vs, rfl, .inl (.inl ((X2.trans X3).h _ _ (X1.fh _ _ ht))), fun p hp => ?_⟩
      have y := Ext.free (o := .lst (cutV vs l h)) X3.fh hp
      exact q p _ F3 _ (Y.trans y) (Y.fresh hp) upd_same (X3.fh.free hp) r'.cut
    | _ => cases e
/-- xs[::-1]: new -/
def fRev (a : FE) : FL := fun ρ => (a ρ).bind fun x => match x with
  | .lst ds => some ds.reverse
  | _ => none
theorem n_rev {k : Nat} {p1 p3 : Pos} (ha : PE X a (tD X.K F0 H0 fa)) : PE X (.Subscript a (.Slice none none (some (.UnaryOp .USub (.Constant (.int 1) k p1) p2)) p3) pos) (tN X.K F0 H0 (fRev fa)) :=
  (pe_revL ha).imp fun σ H Q ⟨F, ρ, d, S, e, q⟩ => by
    obtain ⟨x, e1, e⟩ := bind_some' e
    refine ⟨F, ρ, x, S, e1, fun v F1 H1 X1 r1 => ?_⟩
    cases r1 with
    | @lst a vs ds ht r =>
      cases e
      refine ⟨a, vs, rfl, .inl (.inl (X1.fh _ _ ht)), fun p hp => ?_⟩
      have y := Ext.free (o := .lst vs.reverse) X1.fh hp
      exact q p _ F1 _ (X1.trans y) (X1.fresh hp) upd_same (X1.fh.free hp) r.reverse
    | _ => cases e
/-- xs + ys, lists: new -/
def fCatL (a b : FE) : FL := fun ρ => (a ρ).bind fun x => (b ρ).bind fun y => match x, y with
  | .lst ds, .lst es => if ds.length + es.length ≤ 100000 then some (ds ++ es) else none
  | _, _ => none
theorem n_cat (ha : PE X a (tD X.K F0 H0 fa)) (hb : PE X b (tD X.K F0 H0 fb)) : PE X (.BinOp a .Add b pos) (tN X.K F0 H0 (fCatL fa fb)) :=
  (pe_op op_cat ha hb).imp fun σ H Q ⟨F, ρ, d, S, e, q⟩ => by
    obtain ⟨x, e1, e⟩ := bind_some' e
    obtain ⟨y, e2, e⟩ := bind_some' e
    refine ⟨F, ρ, x, S, e1, fun v F1 H1 X1 r1 => ⟨F1, ρ, y, S.to X1, e2, fun u F2 H2 X2 r2 => ?_⟩⟩
    cases r1 with
    | @lst a vs ds ht r =>
      cases r2 with
      | @lst a2 vs2 es ht2 r2 =>
        have e' : (if ds.length + es.length ≤ 100000 then some (ds ++ es) else none) = some d := e
        split at e'
        · rename_i hz
          cases e'
          refine ⟨a, a2, vs, vs2, rfl, rfl, X2.h _ _ (X1.fh _ _ ht), X2.fh _ _ ht2, by rw [r.length, r2.length]; exact sz hz, fun p hp => ?_⟩
          have y := Ext.free (o := .lst (vs ++ vs2)) X2.fh hp
          have Y := X1.trans X2
          exact q p _ F2 _ (Y.trans y) (Y.fresh hp) upd_same (X2.fh.free hp) ((r.mono X2.f).append r2)
        · cases e'
      | _ => cases e
    | _ => cases e
/-- list(xs): new -/
def fList (a : FE) : FL := fun ρ => (a ρ).bind D.items
theorem n_list (hm : X.mg "list" = none) (ha : PE X a (tD X.K F0 H0 fa)) (hg : Gl X "list" := by rfl) (he : starEach [a] X.env = (false, eval a X.env) :: starEach [] X.env := by rfl) (hpl : (backTo pos (starEach [] X.env)).any (·.1) = false := by rfl) :
    PE X (.Call (.Name "list" p) [a] [] pos) (tN X.K F0 H0 (fList fa)) :=
  (pe_callTy call_list_of hg hm (by decide +kernel) (pa_cons ha pa_nil he) (by decide) (by decide) he hpl).imp fun σ H Q ⟨F, ρ, d, S, e, q⟩ => by
    obtain ⟨x, e1, e⟩ := bind_some' e
    refine ⟨F, ρ, x, S, e1, fun v F1 H1 X1 r1 => ?_⟩
    cases r1 with
    | @lst a vs ds ht r =>
      cases e
      refine ⟨a, vs, rfl, .inl (.inl (.inl (X1.fh _ _ ht))), fun p hp => ?_⟩
      have y := Ext.free (o := .lst vs) X1.fh hp
      exact q p _ F1 _ (X1.trans y) (X1.fresh hp) upd_same (X1.fh.free hp) r
    | @tup a vs ds ht r =>
      cases e
      refine ⟨a, vs, rfl, .inr (sqT_mono X1.fh ht), fun p hp => ?_⟩
      have y := Ext.free (o := .lst vs) X1.fh hp
      exact q p _ F1 _ (X1.trans y) (X1.fresh hp) upd_same (X1.fh.free hp) r
    | _ => cases e
/-! ### calls of defs -/
def FLen (f : FL) (n : Nat) : Prop := ∀ ρ ds, f ρ = some ds → ds.length = n
theorem flen_nil : FLen fNil 0 := fun ρ ds h => by cases h; rfl
theorem flen_cons {a : FE} {r : FL} {n : Nat} (h : FLen r n) : FLen (fCons a r) (n + 1) := fun ρ ds e => by
  obtain ⟨x, e1, e⟩ := bind_some' e
  obtain ⟨xs, e2, e⟩ := bind_some' e
  cases e
  rw [List.length_cons, h ρ xs e2]
def spD (K : PySem.W.Frag) (n : Nat) (Phi : List D → Option D) : Sp := fun vs H Q _ => ∃ F ds d, vs.length = n ∧ Same F H ∧ Rps K F vs ds ∧ Phi ds = some d ∧ ∀ v F' H', Ext F H F' H' → Rp K F' v d → Q v H'
theorem e_call {CX : CXT} {k n : Nat} {f : Addr} {fd : FuncData} {ps : List Str} {Phi : List D → Option D} {E : XK} {x : Str} (G : FnOk X.prog X.w X.K X.mg X.base CX k f fd ps (spD X.K n Phi)) (hr : Room k X.A) (hm : X.mg x = some (.ref f)) (hk : PySem.W.keepIn X.K (.ref f) = true) (hb : Binds X.K fd ps []) (hx : Passes CX X E)
    (ha : PA X (e :: es) (tA X.K F0 H0 fl)) (hln : (e :: es).length = n := by rfl) (hl : FLen fl n := by repeat (first | exact flen_nil | refine flen_cons ?_)) (hg : Gl X x := by rfl) (hdb : (x == ("__debug__" : Str)) = false := by decide)
    (he : starEach (e :: es) X.env = (false, eval e X.env) :: starEach es X.env := by rfl) (hpl : (backTo pos (starEach es X.env)).any (·.1) = false := by rfl) : PE X (.Call (.Name x p) (e :: es) [] pos) (tD X.K F0 H0 (fCall Phi fl)) :=
  (pe_call G hr hg hm hk hb .nil hx ha hdb he hpl).imp fun σ H Q ⟨F, ρ, d, S, e, q⟩ => by
    obtain ⟨ds, e1, e⟩ := bind_some' e
    refine ⟨F, ρ, ds, S, e1, fun vs F1 H1 X1 r1 => ⟨F1, ds, d, ?_, X1.fh, ?_, e, fun v F2 H2 X2 r2 => q v F2 H2 (X1.trans X2) r2⟩⟩
    · rw [List.append_nil, r1.length]; exact hl ρ ds e1
    · rw [List.append_nil]; exact r1
end
end FD
end

section
set_option Elab.async false
set_option linter.all false
set_option maxRecDepth 100000
set_option maxHeartbeats 1000000
/-! FDd: walks, targets, comprehensions, statements, loops, a def. -/
namespace FD
open PySem PySem.Spec PyProof.Rows L2 StX

/-! ### what is walked -/
structure Wk (K : PySem.W.Frag) (J : It) (F : Hp) (ds : List D) : Prop where
  go : ∀ i F1 H1, Same F F1 → Same F1 H1 → i < ds.length → J.go i H1
  stop : ∀ i F1 H1, Same F F1 → Same F1 H1 → i = ds.length → J.stop i H1
  yld : ∀ i F1 H1 x H2 d, Same F F1 → Same F1 H1 → ds[i]? = some d → J.yld i H1 x H2 → ∃ F2, Ext F1 H1 F2 H2 ∧ Rp K F2 x d
def iD (K : PySem.W.Frag) (F0 H0 : Hp) (f : FL) : TI := fun σ H R => ∃ F ρ ds, SR K F0 H0 F H σ ρ ∧ f ρ = some ds ∧ ∀ J F' H', Ext F H F' H' → Wk K J F' ds → R J H'
theorem _root_.L2.PI.imp {X : Cx} {tg e : Expr} {t t' : TI} (h : PI X tg e t) (i : ∀ σ H R, t' σ H R → t σ H R) : PI X tg e t' := ⟨fun pins s σ H R I q => h.run pins s σ H R I (i σ H R q)⟩
theorem _root_.L2.PI.or {X : Cx} {tg e : Expr} {t t' : TI} (h : PI X tg e t) (h' : PI X tg e t') : PI X tg e (fun σ H R => t σ H R ∨ t' σ H R) := ⟨fun pins s σ H R I q => q.elim (h.run pins s σ H R I) (h'.run pins s σ H R I)⟩
theorem _root_.L2.PG.imp {X : Cx} {e : Expr} {t t' : TG} (h : PG X e t) (i : ∀ v σ H Q, t' v σ H Q → t v σ H Q) : PG X e t' := ⟨fun pins s σ H v u Q I r q => h.run pins s σ H v u Q I r (i v σ H Q q)⟩
theorem _root_.L2.PGs.imp {X : Cx} {e : List Expr} {t t' : TGs} (h : PGs X e t) (i : ∀ v σ H Q, t' v σ H Q → t v σ H Q) : PGs X e t' := ⟨fun pins s σ H v u Q I r q => h.run pins s σ H v u Q I r (i v σ H Q q)⟩
section
variable {K : PySem.W.Frag} {F : Hp}
theorem wk_list {a : Addr} {vs : List V} {ds : List D} (h : F a = some (.lst vs)) (r : Rps K F vs ds) : Wk K (Itl K a) F ds where
  go := fun i F1 H1 s1 s2 hi => by
    obtain ⟨v, hv, _⟩ := r.get (List.getElem?_eq_getElem hi)
    exact ⟨vs, v, .inl (.inl (s2 _ _ (s1 _ _ h))), hv⟩
  stop := fun i F1 H1 s1 s2 hi => ⟨vs, .inl (.inl (s2 _ _ (s1 _ _ h))), by rw [r.length]; omega⟩
  yld := fun i F1 H1 x H2 d s1 s2 hd y => by
    obtain ⟨rfl, y⟩ := y
    obtain ⟨v, hv, rv⟩ := r.get hd
    have e := (y vs (.inl (.inl (s2 _ _ (s1 _ _ h))))).symm.trans hv
    cases e
    exact ⟨F1, Ext.refl s2, rv.mono s1⟩
theorem wk_tup {a : Addr} {vs : List V} {ds : List D} (h : SqT K F a vs) (r : Rps K F vs ds) : Wk K (Itt K a) F ds where
  go := fun i F1 H1 s1 s2 hi => by
    obtain ⟨v, hv, _⟩ := r.get (List.getElem?_eq_getElem hi)
    exact ⟨vs, v, sqT_mono s2 (sqT_mono s1 h), hv⟩
  stop := fun i F1 H1 s1 s2 hi => ⟨vs, sqT_mono s2 (sqT_mono s1 h), by rw [r.length]; omega⟩
  yld := fun i F1 H1 x H2 d s1 s2 hd y => by
    obtain ⟨rfl, y⟩ := y
    obtain ⟨v, hv, rv⟩ := r.get hd
    have e := (y vs (sqT_mono s2 (sqT_mono s1 h))).symm.trans hv
    cases e
    exact ⟨F1, Ext.refl s2, rv.mono s1⟩
def rangeD (lo c : Int) (n : Nat) : List D := (List.range n).map fun (k : Nat) => D.int (lo + (k : Int) * c)
theorem rangeD_len (lo c : Int) (n : Nat) : (rangeD lo c n).length = n := by simp [rangeD]
theorem rangeD_get {lo c : Int} {n i : Nat} {d : D} (h : (rangeD lo c n)[i]? = some d) : d = .int (lo + (i : Int) * c) := by
  unfold rangeD at h
  rw [List.getElem?_map] at h
  by_cases hi : i < n
  · rw [List.getElem?_range hi] at h
    exact (Option.some.inj h).symm
  · rw [List.getElem?_eq_none (by simpa using hi)] at h
    cases h
theorem wk_range (lo : Int) (n : Nat) : Wk K (Itr lo n) F (rangeD lo 1 n) where
  go := fun i F1 H1 s1 s2 hi => by rw [rangeD_len] at hi; exact hi
  stop := fun i F1 H1 s1 s2 hi => by rw [rangeD_len] at hi; show n ≤ i; omega
  yld := fun i F1 H1 x H2 d s1 s2 hd y => by
    obtain ⟨rfl, rfl⟩ := y
    rw [rangeD_get hd]
    refine ⟨F1, Ext.refl s2, ?_⟩
    rw [Int.mul_one]
    exact .int _
theorem wk_rangeC (lo c : Int) (n : Nat) : Wk K (Itc lo c n) F (rangeD lo c n) where
  go := fun i F1 H1 s1 s2 hi => by rw [rangeD_len] at hi; exact hi
  stop := fun i F1 H1 s1 s2 hi => by rw [rangeD_len] at hi; show n ≤ i; omega
  yld := fun i F1 H1 x H2 d s1 s2 hd y => by
    obtain ⟨rfl, rfl⟩ := y
    rw [rangeD_get hd]
    exact ⟨F1, Ext.refl s2, .int _⟩
def zipD : List D → List D → List D
  | x :: xs, y :: ys => .tup [x, y] :: zipD xs ys
  | _, _ => []
theorem zipD_len : ∀ xs ys : List D, (zipD xs ys).length = min xs.length ys.length
  | [], _ => by simp [zipD]
  | _ :: _, [] => by simp [zipD]
  | x :: xs, y :: ys => by simp [zipD, zipD_len xs ys]
theorem zipD_get : ∀ {xs ys : List D} {i : Nat} {d : D}, (zipD xs ys)[i]? = some d → ∃ x y, xs[i]? = some x ∧ ys[i]? = some y ∧ d = .tup [x, y]
  | [], _, _, _, h => by simp [zipD] at h
  | _ :: _, [], _, _, h => by simp [zipD] at h
  | x :: xs, y :: ys, 0, d, h => by
    simp [zipD] at h
    exact ⟨x, y, rfl, rfl, h.symm⟩
  | x :: xs, y :: ys, i + 1, d, h => by
    obtain ⟨a, b, h1, h2, h3⟩ := zipD_get (xs := xs) (ys := ys) (i := i) (d := d) (by simpa [zipD] using h)
    exact ⟨a, b, by simpa using h1, by simpa using h2, h3⟩
theorem wk_zipL {a b : Addr} {vs ws : List V} {xs ys : List D} (h : F a = some (.lst vs)) (h2 : F b = some (.lst ws)) (r : Rps K F vs xs) (r2 : Rps K F ws ys) : Wk K (Itz K a b) F (zipD xs ys) where
  go := fun i F1 H1 s1 s2 hi => by
    rw [zipD_len] at hi
    obtain ⟨v, hv, _⟩ := r.get (List.getElem?_eq_getElem (show i < xs.length by omega))
    obtain ⟨w, hw, _⟩ := r2.get (List.getElem?_eq_getElem (show i < ys.length by omega))
    exact ⟨vs, ws, v, w, .inl (.inl (s2 _ _ (s1 _ _ h))), .inl (.inl (s2 _ _ (s1 _ _ h2))), hv, hw⟩
  stop := fun i F1 H1 s1 s2 hi => by
    rw [zipD_len] at hi
    refine ⟨vs, ws, .inl (.inl (s2 _ _ (s1 _ _ h))), .inl (.inl (s2 _ _ (s1 _ _ h2))), ?_⟩
    rw [r.length, r2.length]; omega
  yld := fun i F1 H1 x H2 d s1 s2 hd y => by
    obtain ⟨T, x', y', rfl, hT, rfl, f1, f2⟩ := y
    obtain ⟨dx, dy, e1, e2, rfl⟩ := zipD_get hd
    obtain ⟨v, hv, rv⟩ := r.get e1
    obtain ⟨w, hw, rw'⟩ := r2.get e2
    cases (f1 vs (.inl (.inl (s2 _ _ (s1 _ _ h))))).symm.trans hv
    cases (f2 ws (.inl (.inl (s2 _ _ (s1 _ _ h2))))).symm.trans hw
    have y := Ext.new (o := .tup [x', y']) s2 hT
    exact ⟨_, y, .tup (SqT.of upd_same) (.cons ((rv.mono s1).mono y.f) (.cons ((rw'.mono s1).mono y.f) .nil))⟩
theorem wk_zipT {a b : Addr} {vs ws : List V} {xs ys : List D} (h : SqT K F a vs) (h2 : SqT K F b ws) (r : Rps K F vs xs) (r2 : Rps K F ws ys) : Wk K (RZ.ItzT K a b) F (zipD xs ys) where
  go := fun i F1 H1 s1 s2 hi => by
    rw [zipD_len] at hi
    obtain ⟨v, hv, _⟩ := r.get (List.getElem?_eq_getElem (show i < xs.length by omega))
    obtain ⟨w, hw, _⟩ := r2.get (List.getElem?_eq_getElem (show i < ys.length by omega))
    exact ⟨vs, ws, v, w, sqT_mono s2 (sqT_mono s1 h), sqT_mono s2 (sqT_mono s1 h2), hv, hw⟩
  stop := fun i F1 H1 s1 s2 hi => by
    rw [zipD_len] at hi
    refine ⟨vs, ws, sqT_mono s2 (sqT_mono s1 h), sqT_mono s2 (sqT_mono s1 h2), ?_⟩
    rw [r.length, r2.length]; omega
  yld := fun i F1 H1 x H2 d s1 s2 hd y => by
    obtain ⟨T, x', y', rfl, hT, rfl, f1, f2⟩ := y
    obtain ⟨dx, dy, e1, e2, rfl⟩ := zipD_get hd
    obtain ⟨v, hv, rv⟩ := r.get e1
    obtain ⟨w, hw, rw'⟩ := r2.get e2
    cases (f1 vs (sqT_mono s2 (sqT_mono s1 h))).symm.trans hv
    cases (f2 ws (sqT_mono s2 (sqT_mono s1 h2))).symm.trans hw
    have y := Ext.new (o := .tup [x', y']) s2 hT
    exact ⟨_, y, .tup (SqT.of upd_same) (.cons ((rv.mono s1).mono y.f) (.cons ((rw'.mono s1).mono y.f) .nil))⟩
end
def fItems (a : FE) : FL := fun ρ => (a ρ).bind D.items
def inR (j : Int) : Bool := decide (-(2 ^ 62) ≤ j ∧ j < 2 ^ 62)
def fRng1 (a : FE) : FL := fun ρ => (a ρ).bind fun x => match x with
  | .int j => if inR j then some (rangeD 0 1 j.toNat) else none
  | _ => none
/-- range(a, -1, -1) -/
def fRngDn (a : FE) : FL := fun ρ => (a ρ).bind fun x => match x with
  | .int j => if inR j then some (rangeD j (-1) (j + 1).toNat) else none
  | _ => none
def fZip (a b : FE) : FL := fun ρ => (a ρ).bind fun x => (b ρ).bind fun y => match x, y with
  | .lst xs, .lst ys => some (zipD xs ys)
  | .tup xs, .tup ys => some (zipD xs ys)
  | _, _ => none
section
variable {X : Cx} {F0 H0 : Hp} {tg a b c e : Expr} {es : List Expr} {fa fb fc fe : FE} {fl fm : FL} {ta tb tc : FT} {pos p p2 : Pos}
theorem i_seq (ha : PE X a (tD X.K F0 H0 fa)) : PI X tg a (iD X.K F0 H0 (fItems fa)) :=
  ((pi_list ha).or (pi_tup ha)).imp fun σ H R ⟨F, ρ, ds, S, e, q⟩ => by
    obtain ⟨x, e1, e⟩ := bind_some' e
    cases x with
    | tup es =>
      cases e
      refine .inr ⟨F, ρ, _, S, e1, fun v F1 H1 X1 r1 => ?_⟩
      cases r1 with
      | @tup a vs ds h r => exact ⟨a, rfl, ⟨vs, sqT_mono X1.fh h⟩, q _ F1 H1 X1 (wk_tup h r)⟩
    | lst es =>
      cases e
      refine .inl ⟨F, ρ, _, S, e1, fun v F1 H1 X1 r1 => ?_⟩
      cases r1 with
      | @lst a vs ds h r => exact ⟨a, rfl, ⟨vs, .inl (.inl (X1.fh _ _ h))⟩, q _ F1 H1 X1 (wk_list h r)⟩
    | _ => cases e
theorem inR_ok {j : Int} (h : inR j = true) : -(2 ^ 62) ≤ j ∧ j < 2 ^ 62 := of_decide_eq_true h
theorem i_rng1 (hm : X.mg "range" = none) (ha : PE X a (tD X.K F0 H0 fa)) (hg : Gl X "range" := by rfl) (hs : starEach [a] X.env = [(false, eval a X.env)] := by rfl) (he : starEach [a] X.env = (false, eval a X.env) :: starEach [] X.env := by rfl) :
    PI X tg (.Call (.Name "range" p) [a] [] pos) (iD X.K F0 H0 (fRng1 fa)) :=
  (pi_range1 hg hm (pa_cons ha pa_nil he) hs).imp fun σ H R ⟨F, ρ, ds, S, e, q⟩ => by
    obtain ⟨x, e1, e⟩ := bind_some' e
    cases x with
    | int j =>
      have e' : (if inR j then some (rangeD 0 1 j.toNat) else none) = some ds := e
      split at e'
      · rename_i hj
        cases e'
        refine ⟨F, ρ, _, S, e1, fun v F1 H1 X1 r1 => ?_⟩
        cases r1
        exact ⟨j, rfl, (inR_ok hj).1, (inR_ok hj).2, q _ F1 H1 X1 (wk_range 0 _)⟩
      · cases e'
    | _ => cases e
theorem i_rngDn {k k2 : Nat} {q1 q2 q3 q4 : Pos} (hm : X.mg "range" = none) (ha : PE X a (tD X.K F0 H0 fa)) (hg : Gl X "range" := by rfl)
    (hs : starEach [a, .UnaryOp .USub (.Constant (.int 1) k q1) q2, .UnaryOp .USub (.Constant (.int 1) k2 q3) q4] X.env = (false, eval a X.env) :: starEach [.UnaryOp .USub (.Constant (.int 1) k q1) q2, .UnaryOp .USub (.Constant (.int 1) k2 q3) q4] X.env := by rfl)
    (hpl : (backTo pos (starEach [.UnaryOp .USub (.Constant (.int 1) k q1) q2, .UnaryOp .USub (.Constant (.int 1) k2 q3) q4] X.env)).any (·.1) = false := by rfl) :
    PI X tg (.Call (.Name "range" p) [a, .UnaryOp .USub (.Constant (.int 1) k q1) q2, .UnaryOp .USub (.Constant (.int 1) k2 q3) q4] [] pos) (iD X.K F0 H0 (fRngDn fa)) :=
  (pi_range3 hg hm (pa_cons ha (pa_cons (pe_un un_neg pe_int) (pa_cons (pe_un un_neg pe_int) pa_nil)) hs) hs hpl).imp fun σ H R ⟨F, ρ, ds, S, e, q⟩ => by
    obtain ⟨x, e1, e⟩ := bind_some' e
    cases x with
    | int j =>
      have e' : (if inR j then some (rangeD j (-1) (j + 1).toNat) else none) = some ds := e
      split at e'
      · rename_i hj
        cases e'
        refine ⟨F, ρ, _, S, e1, fun v F1 H1 X1 r1 => ?_⟩
        cases r1
        refine ⟨1, rfl, 1, rfl, j, -1, -1, _, rfl, RgC.neg (inR_ok hj).1 (inR_ok hj).2 (by decide) (by decide), ?_⟩
        rw [show (j - -1).toNat = (j + 1).toNat by congr 1]
        exact q _ F1 H1 X1 (wk_rangeC _ _ _)
      · cases e'
    | _ => cases e
theorem i_zip {elts : List Expr} {kk : Nat} {tpos : Pos} (hm : X.mg "zip" = none) (ha : PE X a (tD X.K F0 H0 fa)) (hb : PE X b (tD X.K F0 H0 fb)) (hg : Gl X "zip" := by rfl)
    (hs : starEach [a, b] X.env = (false, eval a X.env) :: starEach [b] X.env := by rfl) (hs2 : starEach [b] X.env = (false, eval b X.env) :: starEach [] X.env := by rfl) (hpl : (backTo pos (starEach [b] X.env)).any (·.1) = false := by rfl) :
    PI X (.Tuple elts kk tpos) (.Call (.Name "zip" p) [a, b] [] pos) (iD X.K F0 H0 (fZip fa fb)) :=
  (RZ.pi_zipA hg hm (pa_cons ha (pa_cons hb pa_nil hs2) hs) hs hpl).imp fun σ H R ⟨F, ρ, ds, S, e, q⟩ => by
    obtain ⟨x, e1, e⟩ := bind_some' e
    obtain ⟨y, e2, e⟩ := bind_some' e
    refine ⟨F, ρ, x, S, e1, fun v F1 H1 X1 r1 => ⟨F1, ρ, y, S.to X1, e2, fun u F2 H2 X2 r2 => ?_⟩⟩
    cases r1 with
    | @tup a vs ds1 h r =>
      cases r2 with
      | @tup a2 vs2 ds2 h2 r2 =>
        cases e
        have h' := sqT_mono X2.f h
        exact ⟨a, a2, vs, vs2, rfl, .inr ⟨sqT_mono X2.fh h', sqT_mono X2.fh h2, q _ F2 H2 (X1.trans X2) (wk_zipT h' h2 (r.mono X2.f) r2)⟩⟩
      | _ => cases e
    | @lst a vs ds1 h r =>
      cases r2 with
      | @lst a2 vs2 ds2 h2 r2 =>
        cases e
        have h' := X2.f _ _ h
        exact ⟨a, a2, vs, vs2, rfl, .inl ⟨.inl (.inl (X2.fh _ _ h')), .inl (.inl (X2.fh _ _ h2)), q _ F2 H2 (X1.trans X2) (wk_zipL h' h2 (r.mono X2.f) r2)⟩⟩
      | _ => cases e
    | _ => cases r2 <;> cases e
end

/-! ### targets -/
abbrev FG := D → Rho → Option Rho
abbrev FGs := List D → Rho → Option Rho
def gN (i : Nat) : FG := fun d ρ => some (ρ.set i (.dat d))
def gE : FGs := fun ds ρ => match ds with
  | [] => some ρ
  | _ => none
def gC (g : FG) (gs : FGs) : FGs := fun ds ρ => match ds with
  | d :: r => (g d ρ).bind fun ρ' => gs r ρ'
  | _ => none
def gT (gs : FGs) : FG := fun d ρ => match d with
  | .tup ds => gs ds ρ
  | _ => none
section
variable (K : PySem.W.Frag) (F0 H0 : Hp)
def tG (g : FG) (is : List Nat) : TG := fun v σ H Q => ∃ F ρ d ρ', SR K F0 H0 F H σ ρ ∧ Rp K F v d ∧ g d ρ = some ρ' ∧ ∀ σ' F' H', Ext F H F' H' → SR K F0 H0 F' H' σ' ρ' → (∀ vs, (∀ i ∈ is, i ∈ vs) → wipe σ' vs = wipe σ vs) → Q σ' H'
def tGs (g : FGs) (is : List Nat) : TGs := fun vs σ H Q => ∃ F ρ ds ρ', SR K F0 H0 F H σ ρ ∧ Rps K F vs ds ∧ g ds ρ = some ρ' ∧ ∀ σ' F' H', Ext F H F' H' → SR K F0 H0 F' H' σ' ρ' → (∀ vs, (∀ i ∈ is, i ∈ vs) → wipe σ' vs = wipe σ vs) → Q σ' H'
end
theorem wipe_set {i : Nat} {o : Option V} : ∀ {vs : List Nat} {σ : L2.St}, i ∈ vs → wipe (σ.set i o) vs = wipe σ vs
  | [], _, h => by cases h
  | v :: vs, σ, h => by
    by_cases hv : i ∈ vs
    · show (wipe (σ.set i o) vs).set v none = (wipe σ vs).set v none
      rw [wipe_set hv]
    · have e : i = v := (List.mem_cons.mp h).resolve_right hv
      subst e
      have z : ∀ (ws : List Nat) (σ : L2.St), i ∉ ws → wipe (σ.set i o) ws = (wipe σ ws).set i o := by
        intro ws
        induction ws with
        | nil => intro σ _; rfl
        | cons w ws ih =>
          intro σ hw
          have h1 : i ≠ w := fun z => hw (by rw [z]; exact List.mem_cons_self)
          show (wipe (σ.set i o) ws).set w none = ((wipe σ ws).set w none).set i o
          rw [ih σ (fun z => hw (List.mem_cons_of_mem _ z)), List.set_comm _ _ h1]
      show (wipe (σ.set i o) vs).set i none = (wipe σ vs).set i none
      rw [z vs σ hv, List.set_set]
section
variable {X : Cx} {F0 H0 : Hp} {tg a b c e : Expr} {es : List Expr} {fa fb fc fe : FE} {fl fm : FL} {ta tb tc : FT} {pos p p2 : Pos} {g : FG} {gs : FGs} {is js : List Nat}
theorem g_name (i : Nat) {x : Str} (hN : X.N.Nodup) (hi : X.N[i]? = some x := by rfl) (hx : Loc X.env.scope x := by first | exact Or.inl rfl | exact Or.inr rfl) (hf : X.fn x = true ∨ X.env.scope.names.lookup x = some .local := by first | exact .inl rfl | exact .inr rfl) : PG X (.Name x pos) (tG X.K F0 H0 (gN i) [i]) :=
  (pg_name hN hi hx hf).imp fun v σ H Q ⟨F, ρ, d, ρ', S, r, e, q⟩ => by
    cases e
    exact q _ F H (Ext.refl S.fh) (S.set r) fun vs h => wipe_set (h i List.mem_cons_self)
theorem gs_nil : PGs X [] (tGs X.K F0 H0 gE []) := pgs_nil.imp fun vs σ H Q ⟨F, ρ, ds, ρ', S, r, e, q⟩ => by
  cases r with
  | nil =>
    cases e
    exact ⟨rfl, q σ F H (Ext.refl S.fh) S fun _ _ => rfl⟩
  | cons _ _ => cases e
theorem gs_cons (h1 : PG X e (tG X.K F0 H0 g is)) (h2 : PGs X es (tGs X.K F0 H0 gs js)) (hs : (assignEach (e :: es) X.env).map (·.2) = assign e X.env :: (assignEach es X.env).map (·.2) := by rfl) : PGs X (e :: es) (tGs X.K F0 H0 (gC g gs) (is ++ js)) :=
  (pgs_cons h1 h2 hs).imp fun vs σ H Q ⟨F, ρ, ds, ρ', S, r, e, q⟩ => by
    cases r with
    | nil => cases e
    | cons r1 r2 =>
      obtain ⟨ρ1, e1, e⟩ := bind_some' e
      refine ⟨_, _, rfl, F, ρ, _, ρ1, S, r1, e1, fun σ1 F1 H1 X1 S1 w1 => ⟨F1, ρ1, _, ρ', S1, r2.mono X1.f, e, fun σ2 F2 H2 X2 S2 w2 => ?_⟩⟩
      exact q σ2 F2 H2 (X1.trans X2) S2 fun vs h => (w2 vs fun i hi => h i (List.mem_append_right _ hi)).trans (w1 vs fun i hi => h i (List.mem_append_left _ hi))
def GLen (gs : FGs) (n : Nat) : Prop := ∀ ds ρ ρ', gs ds ρ = some ρ' → ds.length = n
theorem glen_nil : GLen gE 0 := fun ds ρ ρ' h => by
  cases ds with
  | nil => rfl
  | cons _ _ => cases h
theorem glen_cons {g : FG} {gs : FGs} {n : Nat} (h : GLen gs n) : GLen (gC g gs) (n + 1) := fun ds ρ ρ' e => by
  cases ds with
  | nil => cases e
  | cons d r =>
    obtain ⟨ρ1, _, e⟩ := bind_some' e
    rw [List.length_cons, h r ρ1 ρ' e]
theorem g_tup {k n : Nat} (hc : X.calm = true) (h : PGs X es (tGs X.K F0 H0 gs is)) (hn : (assignEach es X.env).length = n := by rfl) (hst : (assignEach es X.env).findIdx? (·.1) = none := by rfl) (hl : GLen gs n := by repeat (first | exact glen_nil | refine glen_cons ?_)) : PG X (.Tuple es k pos) (tG X.K F0 H0 (gT gs) is) :=
  (pg_tup hc h hn hst).imp fun v σ H Q ⟨F, ρ, d, ρ', S, r, e, q⟩ => by
    cases r with
    | @tup a vs ds h r => exact ⟨a, vs, rfl, sqT_mono S.fh h, by rw [r.length]; exact hl ds ρ ρ' e, F, ρ, ds, ρ', S, r, e, q⟩
    | _ => cases e

/-! ### comprehensions -/
def wipeR (ρ : Rho) : List Nat → Rho
  | [] => ρ
  | v :: vs => (wipeR ρ vs).set v .un
theorem SR.wipe {K : PySem.W.Frag} {F F0 H0 H : Hp} {σ : L2.St} {ρ : Rho} (S : SR K F0 H0 F H σ ρ) : ∀ vs : List Nat, SR K F0 H0 F H (L2.wipe σ vs) (wipeR ρ vs)
  | [] => S
  | v :: vs => (S.wipe vs).unset
def compL (g : FG) (t : FT) (el : FE) (ρ : Rho) : List D → Option (List D)
  | [] => some []
  | d :: r => (g d ρ).bind fun ρ' => (t ρ').bind fun b => if b = true then (el ρ').bind fun y => (compL g t el ρ r).bind fun ys => some (y :: ys) else compL g t el ρ r
def fComp (vs : List Nat) (it : FL) (g : FG) (t : FT) (el : FE) : FL := fun ρ => (it ρ).bind fun ds => if ds.length ≤ 100000 then compL g t el (wipeR ρ vs) ds else none
def bYes : FT := fun _ => some true
theorem _root_.L2.PTs.imp {X : Cx} {e : List Expr} {t t' : TT} (h : PTs X e t) (i : ∀ σ H Q, t' σ H Q → t σ H Q) : PTs X e t' := ⟨fun pins s σ H Q I q => h.run pins s σ H Q I (i σ H Q q)⟩
theorem ts_nil : PTs X [] (tB1 X.K F0 H0 bYes) := pts_nil.imp fun σ H Q ⟨F, ρ, b, S, e, q⟩ => by
  cases e
  exact q F H (Ext.refl S.fh)
theorem ts_one (h : PT X c (tB1 X.K F0 H0 tc)) : PTs X [c] (tB1 X.K F0 H0 tc) := pts_one h
theorem lc_of {K : PySem.W.Frag} {vs : List Nat} (his : ∀ i ∈ is, i ∈ vs) {σ : L2.St} {H : Hp} {Q : VK} (h : tN K F0 H0 (fComp vs fl g ta fe) σ H Q) : tLc (iD K F0 H0 fl) (tG K F0 H0 g is) (tB1 K F0 H0 ta) (tD K F0 H0 fe) vs σ H Q := by
  obtain ⟨F, ρ, res, S, e, q⟩ := h
  obtain ⟨ds, e1, e⟩ := bind_some' e
  split at e
  · rename_i hz
    refine ⟨F, ρ, ds, S, e1, fun J F1 H1 X1 wk D hD => ?_⟩
    refine ⟨fun i m H2 => m = ds.length - i ∧ i ≤ ds.length ∧ ∃ F2 acc out rest, Ext F1 H1 F2 H2 ∧ F2 D = none ∧ H2 D = some (.lst acc) ∧ Rps K F2 acc out ∧ out ++ rest = res ∧ compL g ta fe (wipeR ρ vs) (ds.drop i) = some rest ∧ acc.length ≤ i,
      ⟨ds.length, rfl, Nat.zero_le _, F1, [], [], res, Ext.free X1.fh hD, X1.fh.free hD, upd_same, .nil, rfl, e, Nat.zero_le _⟩, ?_⟩
    rintro i m H2 ⟨rfl, hi, F2, acc, out, rest, X2, fD, hD2, ra, eo, ec, hl⟩
    by_cases hlt : i < ds.length
    · refine .inr ⟨wk.go i F2 H2 X2.f X2.fh hlt, fun H' => ∃ F2 acc out rest, Ext F1 H1 F2 H' ∧ F2 D = none ∧ H' D = some (.lst acc) ∧ Rps K F2 acc out ∧ out ++ rest = res ∧ compL g ta fe (wipeR ρ vs) (ds.drop (i + 1)) = some rest ∧ acc.length ≤ i + 1, fun H' h' => ⟨ds.length - (i + 1), by omega, rfl, hlt, h'⟩, fun x H3 y => ?_⟩
      obtain ⟨F3, X3, rx⟩ := wk.yld i F2 H2 x H3 _ X2.f X2.fh (List.getElem?_eq_getElem hlt) y
      rw [List.drop_eq_getElem_cons hlt] at ec
      obtain ⟨ρ', ec1, ec⟩ := bind_some' ec
      obtain ⟨b, ec2, ec⟩ := bind_some' ec
      have Y3 := X1.trans (X2.trans X3)
      refine ⟨F3, _, _, ρ', (S.to Y3).wipe vs, rx, ec1, fun σ4 F4 H4 X4 S4 w4 => ⟨?_, F4, ρ', b, S4, ec2, fun F5 H5 X5 => ?_⟩⟩
      · rw [w4 vs his]
        clear w4
        have z : ∀ (ws : List Nat) (σ : L2.St), (∀ i ∈ ws, i ∈ vs) → L2.wipe (L2.wipe σ ws) vs = L2.wipe σ vs := by
          intro ws
          induction ws with
          | nil => intro σ _; rfl
          | cons w ws ih =>
            intro σ hw
            show L2.wipe ((L2.wipe σ ws).set w none) vs = _
            rw [wipe_set (hw w List.mem_cons_self), ih σ fun i hi => hw i (List.mem_cons_of_mem _ hi)]
        have z2 : ∀ (ws : List Nat) (σ : L2.St), (∀ i ∈ ws, σ[i]? = some none ∨ σ.length ≤ i) → L2.wipe σ ws = σ := by
          intro ws
          induction ws with
          | nil => intro σ _; rfl
          | cons w ws ih =>
            intro σ hw
            show (L2.wipe σ ws).set w none = σ
            rw [ih σ fun i hi => hw i (List.mem_cons_of_mem _ hi)]
            rcases hw w List.mem_cons_self with h | h
            · apply List.ext_getElem?
              intro j
              by_cases hj : w = j
              · subst hj
                rw [h, List.getElem?_set_self (List.getElem?_eq_some_iff.mp h).1]
              · rw [List.getElem?_set_ne hj]
            · exact List.set_eq_of_length_le h
        exact z vs σ fun _ h => h
      have D5 : F5 D = none ∧ H5 D = some (.lst acc) := by
        have n2 : H2 D ≠ none := by rw [hD2]; exact fun z => nomatch z
        have X25 := X3.trans (X4.trans X5)
        exact ⟨X25.nw D fD n2, X25.h _ _ hD2⟩
      have X15 := X2.trans (X3.trans (X4.trans X5))
      have ra5 := ra.mono (X3.trans (X4.trans X5)).f
      cases b with
      | false =>
        rw [if_neg Bool.false_ne_true] at ec
        refine iteF ?_
        exact ⟨F5, acc, out, rest, X15, D5.1, D5.2, ra5, eo, ec, by omega⟩
      | true =>
        rw [if_pos rfl] at ec
        refine iteT ?_
        obtain ⟨yv, ec3, ec⟩ := bind_some' ec
        obtain ⟨ys, ec4, ec⟩ := bind_some' ec
        cases ec
        refine ⟨F5, ρ', yv, S4.to X5, ec3, fun v F6 H6 X6 r6 => ?_⟩
        have n5 : H5 D ≠ none := by rw [D5.2]; exact fun z => nomatch z
        have h6 := X6.h _ _ D5.2
        have f6 := X6.nw D D5.1 n5
        have X16 := X15.trans X6
        refine ⟨acc, h6, sz1 (by omega), F6, acc ++ [v], out ++ [yv], ys, ⟨X16.f, fun b u eb => ?_, fun b u eb => ?_, X16.nw⟩, f6, upd_same, (ra5.mono X6.f).append (.one r6), by rw [List.append_assoc]; exact eo, ec4, by rw [List.length_append]; simp; omega⟩
        · rw [upd_ne (fun z => by subst z; rw [hD] at eb; cases eb)]; exact X16.h b u eb
        · rw [upd_ne (fun z => by subst z; rw [f6] at eb; cases eb)]; exact X16.fh b u eb
    · have ei : i = ds.length := by omega
      refine .inl ⟨wk.stop i F2 H2 X2.f X2.fh (by omega), ?_⟩
      rw [ei, List.drop_length] at ec
      cases ec
      rw [List.append_nil] at eo
      subst eo
      exact q D acc F2 H2 (X1.trans X2) (X1.fresh hD) hD2 fD ra
  · cases e
theorem n_lc {elt iter : Expr} {ifs : List Expr} {scope : Scope} {own : List (Str × Nat)} (hc : X.calm = true) (hN : X.N.Nodup) (hi : PI X tg iter (iD X.K F0 H0 fl)) (ok : BlkOk X.N X.env.scope scope own) (his : ∀ i ∈ is, i ∈ own.map (·.2))
    (hg : ∀ (s : Shared) (H : Hp) (C : Addr) (cl : List (Str × Addr)) (fp : List Addr), PG (X.blk s H scope (compEnvC scope cl C X.env) fp) tg (tG X.K F0 H0 g is)) (ht : ∀ (s : Shared) (H : Hp) (C : Addr) (cl : List (Str × Addr)) (fp : List Addr), PTs (X.blk s H scope (compEnvC scope cl C X.env) fp) ifs (tB1 X.K F0 H0 ta))
    (he : ∀ (s : Shared) (H : Hp) (C : Addr) (cl : List (Str × Addr)) (fp : List Addr), PE (X.blk s H scope (compEnvC scope cl C X.env) fp) elt (tD X.K F0 H0 fe)) (hs : ∀ x, foldedSetIterable iter X.env x = pure x := by intro _; rfl) :
    PE X (.ListComp elt [⟨tg, iter, ifs, 0⟩] scope pos) (tN X.K F0 H0 (fComp (own.map (·.2)) fl g ta fe)) :=
  (pe_lc hc hN hi ok hg ht he hs).imp fun σ H Q h => lc_of his h
end

/-! ### statements -/
inductive Out where
  | nx (ρ : Rho) | bk (ρ : Rho) | ct (ρ : Rho) | rt (d : D)
abbrev FS := Rho → Option Out
def OutOk (K : PySem.W.Frag) (F0 H0 F : Hp) (Dn : Ends) : Out → Prop
  | .nx ρ' => ∀ σ' F' H', Same F F' → SR K F0 H0 F' H' σ' ρ' → Dn.nx σ' H'
  | .bk ρ' => ∀ σ' F' H', Same F F' → SR K F0 H0 F' H' σ' ρ' → Dn.bk σ' H'
  | .ct ρ' => ∀ σ' F' H', Same F F' → SR K F0 H0 F' H' σ' ρ' → Dn.ct σ' H'
  | .rt d => ∀ v F' H', Ext F0 H0 F' H' → Rp K F' v d → Dn.rt v H'
theorem OutOk.mono {K : PySem.W.Frag} {F0 H0 F F' : Hp} {Dn : Ends} {o : Out} (h : OutOk K F0 H0 F Dn o) (s : Same F F') : OutOk K F0 H0 F' Dn o := by
  cases o with
  | nx ρ => exact fun σ F1 H1 s1 S => h σ F1 H1 (s.trans s1) S
  | bk ρ => exact fun σ F1 H1 s1 S => h σ F1 H1 (s.trans s1) S
  | ct ρ => exact fun σ F1 H1 s1 S => h σ F1 H1 (s.trans s1) S
  | rt d => exact h
def tS (K : PySem.W.Frag) (F0 H0 : Hp) (f : FS) : TS := fun Dn σ H => ∃ F ρ o, SR K F0 H0 F H σ ρ ∧ f ρ = some o ∧ OutOk K F0 H0 F Dn o
def sNil : FS := fun ρ => some (.nx ρ)
def sSeq (f g : FS) : FS := fun ρ => (f ρ).bind fun o => match o with
  | .nx ρ' => g ρ'
  | o => some o
def sSet (i : Nat) (fe : FE) : FS := fun ρ => (fe ρ).bind fun d => some (.nx (ρ.set i (.dat d)))
def sSetN (i : Nat) (fl : FL) : FS := fun ρ => (fl ρ).bind fun ds => some (.nx (ρ.set i (.own ds)))
def sAsg (g : FG) (fe : FE) : FS := fun ρ => (fe ρ).bind fun d => (g d ρ).bind fun ρ' => some (.nx ρ')
def sPar2 (i j : Nat) (a b : FE) : FS := fun ρ => (a ρ).bind fun x => (b ρ).bind fun y => some (.nx ((ρ.set i (.dat x)).set j (.dat y)))
def sPar3 (i j l : Nat) (a b c : FE) : FS := fun ρ => (a ρ).bind fun x => (b ρ).bind fun y => (c ρ).bind fun z => some (.nx (((ρ.set i (.dat x)).set j (.dat y)).set l (.dat z)))
def sParN2 (i j : Nat) (a : FL) (b : FE) : FS := fun ρ => (a ρ).bind fun x => (b ρ).bind fun y => some (.nx ((ρ.set i (.own x)).set j (.dat y)))
def sParN3 (i j l : Nat) (a : FL) (b c : FE) : FS := fun ρ => (a ρ).bind fun x => (b ρ).bind fun y => (c ρ).bind fun z => some (.nx (((ρ.set i (.own x)).set j (.dat y)).set l (.dat z)))
def sAug (i : Nat) (g : D → D → Option D) (fe : FE) : FS := fun ρ => match ρ[i]? with
  | some (.dat x) => (fe ρ).bind fun y => (g x y).bind fun z => some (.nx (ρ.set i (.dat z)))
  | _ => none
def sIf (t : FT) (f g : FS) : FS := fun ρ => (t ρ).bind fun b => if b = true then f ρ else g ρ
def sRet (fe : FE) : FS := fun ρ => (fe ρ).bind fun d => some (.rt d)
def sNo : FS := fun _ => none
def sApp (i : Nat) (fe : FE) : FS := fun ρ => match ρ[i]? with
  | some (.own ds) => (fe ρ).bind fun y => if ds.length < 100000 then some (.nx (ρ.set i (.own (ds ++ [y])))) else none
  | _ => none
def sExt (i : Nat) (fe : FE) : FS := fun ρ => match ρ[i]? with
  | some (.own ds) => (fe ρ).bind fun y => match y with
    | .lst es => if ds.length + es.length ≤ 100000 then some (.nx (ρ.set i (.own (ds ++ es)))) else none
    | _ => none
  | _ => none
def sDo (fe : FE) : FS := fun ρ => (fe ρ).bind fun _ => some (.nx ρ)
def sPut (i : Nat) (fi fe : FE) : FS := fun ρ => match ρ[i]? with
  | some (.own ds) => (fe ρ).bind fun y => (fi ρ).bind fun k => match k with
    | .int k => (ixN ds.length k).bind fun j => some (.nx (ρ.set i (.own (ds.set j y))))
    | _ => none
  | _ => none
/-- found[e1] op= e2 -/
def sAugI (i : Nat) (g : D → D → Option D) (fi fe : FE) : FS := fun ρ => match ρ[i]? with
  | some (.own ds) => (fi ρ).bind fun k => match k with
    | .int k => (atI ds k).bind fun x => (fe ρ).bind fun y => (g x y).bind fun z => (ixN ds.length k).bind fun j => some (.nx (ρ.set i (.own (ds.set j z))))
    | _ => none
  | _ => none
/-- a list of one's own is not changed from here on -/
def sFrz (i : Nat) : FS := fun ρ => match ρ[i]? with
  | some (.own ds) => some (.nx (ρ.set i (.dat (.lst ds))))
  | _ => none
def forL (g : FG) (body : FS) (els : FS) : List D → Rho → Option Out
  | [], ρ => els ρ
  | d :: r, ρ => (g d ρ).bind fun ρ1 => (body ρ1).bind fun o => match o with
    | .nx ρ2 => forL g body els r ρ2
    | .ct ρ2 => forL g body els r ρ2
    | .bk ρ2 => some (.nx ρ2)
    | .rt d => some (.rt d)
def sFor (it : FL) (g : FG) (body els : FS) : FS := fun ρ => (it ρ).bind fun ds => forL g body els ds ρ
end FD
end

section
set_option Elab.async false
set_option linter.all false
set_option maxRecDepth 100000
set_option maxHeartbeats 1000000
/-! FDe: statements' rules, loops, a def. -/
namespace FD
open PySem PySem.Spec PyProof.Rows L2 StX
section
variable {X : Cx} {F0 H0 : Hp} {tg a b c e : Expr} {es : List Expr} {fa fb fc fe : FE} {fl fm : FL} {ta tb tc : FT} {pos p p2 : Pos} {g : FG} {gs : FGs} {is js : List Nat} {f f' : FS} {st : Stmt} {sts : List Stmt} {i j l : Nat} {x y z : Str}
theorem s_nil : PSs X [] (tS X.K F0 H0 sNil) := pss_nil.imp fun Dn σ H ⟨F, ρ, o, S, e, q⟩ => by
  cases e
  exact q σ F H (Same.refl F) S
theorem s_cons (h1 : PS X st (tS X.K F0 H0 f)) (h2 : PSs X sts (tS X.K F0 H0 f')) : PSs X (st :: sts) (tS X.K F0 H0 (sSeq f f')) :=
  (pss_cons h1 h2).imp fun Dn σ H ⟨F, ρ, o, S, e, q⟩ => by
    obtain ⟨o1, e1, e⟩ := bind_some' e
    refine ⟨F, ρ, o1, S, e1, ?_⟩
    cases o1 with
    | nx ρ1 => exact fun σ1 F1 H1 s1 S1 => ⟨F1, ρ1, o, S1, e, q.mono s1⟩
    | bk ρ1 => cases e; exact q
    | ct ρ1 => cases e; exact q
    | rt d => cases e; exact q
theorem s_one (h1 : PS X st (tS X.K F0 H0 f)) : PSs X [st] (tS X.K F0 H0 f) :=
  (pss_one h1).imp fun Dn σ H ⟨F, ρ, o, S, e, q⟩ => ⟨F, ρ, o, S, e, by cases o <;> exact q⟩
theorem frz_of {t : TS} {Dn : Ends} {σ : L2.St} {H : Hp} {K : PySem.W.Frag} (h : tS K F0 H0 (sSeq (sFrz i) f) Dn σ H) : tS K F0 H0 f Dn σ H := by
  obtain ⟨F, ρ, o, S, e, q⟩ := h
  obtain ⟨o1, e1, e⟩ := bind_some' e
  unfold sFrz at e1
  split at e1
  · rename_i ds h
    cases e1
    obtain ⟨F', s, S'⟩ := S.freeze h
    exact ⟨F', _, o, S', e, q.mono s⟩
  · cases e1
/-- ghost: the own list in slot i is frozen -/
theorem s_frz (i : Nat) (h : PSs X sts (tS X.K F0 H0 f)) : PSs X sts (tS X.K F0 H0 (sSeq (sFrz i) f)) := h.imp fun Dn σ H q => frz_of (t := tNext) q
theorem s_set (i : Nat) {pos' : Pos} (hN : X.N.Nodup) (he : PE X e (tD X.K F0 H0 fe)) (hi : X.N[i]? = some x := by rfl) (hx : Loc X.env.scope x := by first | exact Or.inl rfl | exact Or.inr rfl) (hs : swapsWith e (some (.Name x pos')) pos.line X.env = pure false := by rfl)
    (hf : X.fn x = true ∨ X.env.scope.names.lookup x = some .local := by first | exact .inl rfl | exact .inr rfl) : PS X (.Assign [.Name x pos'] e pos) (tS X.K F0 H0 (sSet i fe)) :=
  (ps_set hN hi hx he hs hf).imp fun Dn σ H ⟨F, ρ, o, S, e, q⟩ => by
    obtain ⟨d, e1, e⟩ := bind_some' e
    cases e
    exact ⟨F, ρ, d, S, e1, fun v F1 H1 X1 r1 => q _ F1 H1 X1.f ((S.to X1).set r1)⟩
theorem s_setN (i : Nat) {pos' : Pos} (hN : X.N.Nodup) (he : PE X e (tN X.K F0 H0 fl)) (hi : X.N[i]? = some x := by rfl) (hx : Loc X.env.scope x := by first | exact Or.inl rfl | exact Or.inr rfl) (hs : swapsWith e (some (.Name x pos')) pos.line X.env = pure false := by rfl)
    (hf : X.fn x = true ∨ X.env.scope.names.lookup x = some .local := by first | exact .inl rfl | exact .inr rfl) : PS X (.Assign [.Name x pos'] e pos) (tS X.K F0 H0 (sSetN i fl)) :=
  (ps_set hN hi hx he hs hf).imp fun Dn σ H ⟨F, ρ, o, S, e, q⟩ => by
    obtain ⟨ds, e1, e⟩ := bind_some' e
    cases e
    exact ⟨F, ρ, ds, S, e1, fun a vs F1 H1 X1 hn ha hf r1 => q _ F1 H1 X1.f (S.setOwn X1 hn ha hf r1)⟩
theorem s_asg (he : PE X e (tD X.K F0 H0 fe)) (hg : PG X tg (tG X.K F0 H0 g is)) (hs : swapsWithSole [tg] e pos.line X.env = pure false := by rfl) (hw : swappedStores [tg] e X.env = pure none := by rfl)
    (h1 : (assignEach [tg] X.env).map (·.2) = [assign tg X.env] := by rfl) : PS X (.Assign [tg] e pos) (tS X.K F0 H0 (sAsg g fe)) :=
  (ps_asg he hg hs hw h1).imp fun Dn σ H ⟨F, ρ, o, S, e, q⟩ => by
    obtain ⟨d, e1, e⟩ := bind_some' e
    obtain ⟨ρ', e2, e⟩ := bind_some' e
    cases e
    exact ⟨F, ρ, d, S, e1, fun v F1 H1 X1 r1 => ⟨F1, ρ, d, ρ', S.to X1, r1, e2, fun σ2 F2 H2 X2 S2 _ => q σ2 F2 H2 (X1.trans X2).f S2⟩⟩
/-- name = [.. for ..] on one line, the name a local: kept as data, or as a list of one's own -/
theorem s_setLc (i : Nat) {py : Pos} {elt iter : Expr} {ifs : List Expr} {scope : Scope} {own : List (Str × Nat)} {spos : Pos} (hc : X.calm = true) (hN : X.N.Nodup) (hyl : X.env.scope.names.lookup y = some .local)
    (hsw : swapsWith (.ListComp elt [⟨tg, iter, ifs, 0⟩] scope pos) (some (.Name y py)) spos.line X.env = pure true) (hi : PI X tg iter (iD X.K F0 H0 fl)) (ok : BlkOk X.N X.env.scope scope own) (his : ∀ i ∈ is, i ∈ own.map (·.2))
    (hg : ∀ (s : Shared) (H : Hp) (C : Addr) (cl : List (Str × Addr)) (fp : List Addr), PG (X.blk s H scope (compEnvC scope cl C X.env) fp) tg (tG X.K F0 H0 g is)) (ht : ∀ (s : Shared) (H : Hp) (C : Addr) (cl : List (Str × Addr)) (fp : List Addr), PTs (X.blk s H scope (compEnvC scope cl C X.env) fp) ifs (tB1 X.K F0 H0 ta))
    (he : ∀ (s : Shared) (H : Hp) (C : Addr) (cl : List (Str × Addr)) (fp : List Addr), PE (X.blk s H scope (compEnvC scope cl C X.env) fp) elt (tD X.K F0 H0 fe)) (hy : X.N[i]? = some y := by rfl) (hs : ∀ x, foldedSetIterable iter X.env x = pure x := by intro _; rfl) :
    PS X (.Assign [.Name y py] (.ListComp elt [⟨tg, iter, ifs, 0⟩] scope pos) spos) (tS X.K F0 H0 (sSetN i (fComp (own.map (·.2)) fl g ta fe))) :=
  (ps_setLc hc hN hy hyl hsw hi ok hg ht he hs).imp fun Dn σ H ⟨F, ρ, o, S, e, q⟩ => by
    obtain ⟨ds, e1, e⟩ := bind_some' e
    cases e
    exact lc_of his ⟨F, ρ, ds, S, e1, fun a vs F1 H1 X1 hn ha hf r1 => q _ F1 H1 X1.f (S.setOwn X1 hn ha hf r1)⟩
theorem s_par2 (i j : Nat) {px py pt : Pos} {kt k2 pt2} (hc : X.calm = true) (hN : X.N.Nodup) (ha : PE X a (tD X.K F0 H0 fa)) (hb : PE X b (tD X.K F0 H0 fb)) (hw : swappedStores [.Tuple [.Name x px, .Name y py] kt pt] (.Tuple [a, b] k2 pt2) X.env = pure (some [x, y]) := by rfl)
    (hi : X.N[i]? = some x := by rfl) (hj : X.N[j]? = some y := by rfl) (hij : i ≠ j := by decide) (hx : X.env.scope.names.lookup x = some .local := by rfl) (hy : X.env.scope.names.lookup y = some .local := by rfl)
    (h1 : starEach [a, b] X.env = (false, eval a X.env) :: starEach [b] X.env := by rfl) (h2 : starEach [b] X.env = (false, eval b X.env) :: starEach [] X.env := by rfl)
    (hs : swapsWithSole [.Tuple [.Name x px, .Name y py] kt pt] (.Tuple [a, b] k2 pt2) pos.line X.env = pure false := by rfl) : PS X (.Assign [.Tuple [.Name x px, .Name y py] kt pt] (.Tuple [a, b] k2 pt2) pos) (tS X.K F0 H0 (sPar2 i j fa fb)) :=
  (ps_par hc hN hi hj hij hx hy (pa_cons ha (pa_cons hb pa_nil h2) h1) hw hs).imp fun Dn σ H ⟨F, ρ, o, S, e, q⟩ => by
    obtain ⟨d, e1, e⟩ := bind_some' e
    obtain ⟨d', e2, e⟩ := bind_some' e
    cases e
    exact ⟨F, ρ, d, S, e1, fun v F1 H1 X1 r1 => ⟨F1, ρ, d', S.to X1, e2, fun w F2 H2 X2 r2 => ⟨v, w, rfl, q _ F2 H2 (X1.trans X2).f (((S.to (X1.trans X2)).set (r1.mono X2.f)).set r2)⟩⟩⟩
theorem s_par3 (i j l : Nat) {px py pz pt : Pos} {kt k2 pt2} (hc : X.calm = true) (hN : X.N.Nodup) (ha : PE X a (tD X.K F0 H0 fa)) (hb : PE X b (tD X.K F0 H0 fb)) (hd : PE X c (tD X.K F0 H0 fc)) (hw : swappedStores [.Tuple [.Name x px, .Name y py, .Name z pz] kt pt] (.Tuple [a, b, c] k2 pt2) X.env = pure (some [x, y, z]) := by rfl)
    (hi : X.N[i]? = some x := by rfl) (hj : X.N[j]? = some y := by rfl) (hl : X.N[l]? = some z := by rfl) (hij : i ≠ j := by decide) (hil : i ≠ l := by decide) (hjl : j ≠ l := by decide) (hx : X.env.scope.names.lookup x = some .local := by rfl) (hy : X.env.scope.names.lookup y = some .local := by rfl) (hz : X.env.scope.names.lookup z = some .local := by rfl)
    (h1 : starEach [a, b, c] X.env = (false, eval a X.env) :: starEach [b, c] X.env := by rfl) (h2 : starEach [b, c] X.env = (false, eval b X.env) :: starEach [c] X.env := by rfl) (h3 : starEach [c] X.env = (false, eval c X.env) :: starEach [] X.env := by rfl)
    (hs : swapsWithSole [.Tuple [.Name x px, .Name y py, .Name z pz] kt pt] (.Tuple [a, b, c] k2 pt2) pos.line X.env = pure false := by rfl) : PS X (.Assign [.Tuple [.Name x px, .Name y py, .Name z pz] kt pt] (.Tuple [a, b, c] k2 pt2) pos) (tS X.K F0 H0 (sPar3 i j l fa fb fc)) :=
  (ps_par3 hc hN hi hj hl hij hil hjl hx hy hz (pa_cons ha (pa_cons hb (pa_cons hd pa_nil h3) h2) h1) hw hs).imp fun Dn σ H ⟨F, ρ, o, S, e, q⟩ => by
    obtain ⟨d, e1, e⟩ := bind_some' e
    obtain ⟨d', e2, e⟩ := bind_some' e
    obtain ⟨d'', e3, e⟩ := bind_some' e
    cases e
    exact ⟨F, ρ, d, S, e1, fun v F1 H1 X1 r1 => ⟨F1, ρ, d', S.to X1, e2, fun w F2 H2 X2 r2 => ⟨F2, ρ, d'', S.to (X1.trans X2), e3, fun u F3 H3 X3 r3 => ⟨v, w, u, rfl, q _ F3 H3 (X1.trans (X2.trans X3)).f ((((S.to (X1.trans (X2.trans X3))).set (r1.mono (X2.trans X3).f)).set (r2.mono X3.f)).set r3)⟩⟩⟩⟩
theorem s_parN2 (i j : Nat) {px py pt : Pos} {kt k2 pt2} (hc : X.calm = true) (hN : X.N.Nodup) (ha : PE X a (tN X.K F0 H0 fl)) (hb : PE X b (tD X.K F0 H0 fb)) (hw : swappedStores [.Tuple [.Name x px, .Name y py] kt pt] (.Tuple [a, b] k2 pt2) X.env = pure (some [x, y]) := by rfl)
    (hi : X.N[i]? = some x := by rfl) (hj : X.N[j]? = some y := by rfl) (hij : i ≠ j := by decide) (hx : X.env.scope.names.lookup x = some .local := by rfl) (hy : X.env.scope.names.lookup y = some .local := by rfl)
    (h1 : starEach [a, b] X.env = (false, eval a X.env) :: starEach [b] X.env := by rfl) (h2 : starEach [b] X.env = (false, eval b X.env) :: starEach [] X.env := by rfl)
    (hs : swapsWithSole [.Tuple [.Name x px, .Name y py] kt pt] (.Tuple [a, b] k2 pt2) pos.line X.env = pure false := by rfl) : PS X (.Assign [.Tuple [.Name x px, .Name y py] kt pt] (.Tuple [a, b] k2 pt2) pos) (tS X.K F0 H0 (sParN2 i j fl fb)) :=
  (ps_par hc hN hi hj hij hx hy (pa_cons ha (pa_cons hb pa_nil h2) h1) hw hs).imp fun Dn σ H ⟨F, ρ, o, S, e, q⟩ => by
    obtain ⟨d, e1, e⟩ := bind_some' e
    obtain ⟨d', e2, e⟩ := bind_some' e
    cases e
    refine ⟨F, ρ, d, S, e1, fun a vs F1 H1 X1 hn ha hf r1 => ⟨F1, ρ, d', S.to X1, e2, fun w F2 H2 X2 r2 => ⟨_, w, rfl, q _ F2 H2 (X1.trans X2).f ?_⟩⟩⟩
    exact (S.setOwn (X1.trans X2) hn (X2.h _ _ ha) (X2.nw _ hf (by rw [ha]; exact fun z => nomatch z)) (r1.mono X2.f)).set r2
theorem s_parN3 (i j l : Nat) {px py pz pt : Pos} {kt k2 pt2} (hc : X.calm = true) (hN : X.N.Nodup) (ha : PE X a (tN X.K F0 H0 fl)) (hb : PE X b (tD X.K F0 H0 fb)) (hd : PE X c (tD X.K F0 H0 fc)) (hw : swappedStores [.Tuple [.Name x px, .Name y py, .Name z pz] kt pt] (.Tuple [a, b, c] k2 pt2) X.env = pure (some [x, y, z]) := by rfl)
    (hi : X.N[i]? = some x := by rfl) (hj : X.N[j]? = some y := by rfl) (hl : X.N[l]? = some z := by rfl) (hij : i ≠ j := by decide) (hil : i ≠ l := by decide) (hjl : j ≠ l := by decide) (hx : X.env.scope.names.lookup x = some .local := by rfl) (hy : X.env.scope.names.lookup y = some .local := by rfl) (hz : X.env.scope.names.lookup z = some .local := by rfl)
    (h1 : starEach [a, b, c] X.env = (false, eval a X.env) :: starEach [b, c] X.env := by rfl) (h2 : starEach [b, c] X.env = (false, eval b X.env) :: starEach [c] X.env := by rfl) (h3 : starEach [c] X.env = (false, eval c X.env) :: starEach [] X.env := by rfl)
    (hs : swapsWithSole [.Tuple [.Name x px, .Name y py, .Name z pz] kt pt] (.Tuple [a, b, c] k2 pt2) pos.line X.env = pure false := by rfl) : PS X (.Assign [.Tuple [.Name x px, .Name y py, .Name z pz] kt pt] (.Tuple [a, b, c] k2 pt2) pos) (tS X.K F0 H0 (sParN3 i j l fl fb fc)) :=
  (ps_par3 hc hN hi hj hl hij hil hjl hx hy hz (pa_cons ha (pa_cons hb (pa_cons hd pa_nil h3) h2) h1) hw hs).imp fun Dn σ H ⟨F, ρ, o, S, e, q⟩ => by
    obtain ⟨d, e1, e⟩ := bind_some' e
    obtain ⟨d', e2, e⟩ := bind_some' e
    obtain ⟨d'', e3, e⟩ := bind_some' e
    cases e
    refine ⟨F, ρ, d, S, e1, fun a vs F1 H1 X1 hn ha hf r1 => ⟨F1, ρ, d', S.to X1, e2, fun w F2 H2 X2 r2 => ⟨F2, ρ, d'', S.to (X1.trans X2), e3, fun u F3 H3 X3 r3 => ⟨_, w, u, rfl, q _ F3 H3 (X1.trans (X2.trans X3)).f ?_⟩⟩⟩⟩
    exact ((S.setOwn (X1.trans (X2.trans X3)) hn ((X2.trans X3).h _ _ ha) ((X2.trans X3).nw _ hf (by rw [ha]; exact fun z => nomatch z)) (r1.mono (X2.trans X3).f)).set (r2.mono X3.f)).set r3
def RI (K : PySem.W.Frag) (r : TIp) (g : D → D → Option D) : Prop := RD K r g
theorem ri_add {K : PySem.W.Frag} : RI K (ipI fun i j => i + j) D.add := by
  intro F H x y dx dy dz Q s rx ry e q
  cases rx <;> cases ry <;> first | (cases e; exact ⟨_, _, rfl, rfl, q _ F H (Ext.refl s) (.int _)⟩) | cases e
theorem ri_sub {K : PySem.W.Frag} : RI K (ipI fun i j => i - j) D.sub := by
  intro F H x y dx dy dz Q s rx ry e q
  cases rx <;> cases ry <;> first | (cases e; exact ⟨_, _, rfl, rfl, q _ F H (Ext.refl s) (.int _)⟩) | cases e
theorem s_aug (i : Nat) {op : Operator} {ti : TIp} {gd : D → D → Option D} {pos' : Pos} (hN : X.N.Nodup) (he : PE X e (tD X.K F0 H0 fe)) (ho : PIp X op ti) (hr : RI X.K ti gd) (hi : X.N[i]? = some x := by rfl) (hx : Loc X.env.scope x := by first | exact Or.inl rfl | exact Or.inr rfl)
    (hf : X.fn x = true ∨ X.env.scope.names.lookup x = some .local := by first | exact .inl rfl | exact .inr rfl) : PS X (.AugAssign (.Name x pos') op e pos) (tS X.K F0 H0 (sAug i gd fe)) :=
  (ps_aug hN hi hx he ho hf).imp fun Dn σ H ⟨F, ρ, o, S, e, q⟩ => by
    unfold sAug at e
    split at e
    · rename_i dx h
      obtain ⟨dy, e1, e⟩ := bind_some' e
      obtain ⟨dz, e2, e⟩ := bind_some' e
      cases e
      obtain ⟨v, ev, rv⟩ := S.dat h
      exact ⟨v, ev, F, ρ, dy, S, e1, fun u F1 H1 X1 r1 => hr F1 H1 v u dx dy dz _ X1.fh (rv.mono X1.f) r1 e2 fun w F2 H2 X2 r2 => q _ F2 H2 (X1.trans X2).f ((S.to (X1.trans X2)).set r2)⟩
    · cases e
theorem s_if {A B : List Stmt} (hc : PT X c (tB1 X.K F0 H0 tc)) (ha : PSs X A (tS X.K F0 H0 f)) (hb : PSs X B (tS X.K F0 H0 f')) : PS X (.If c A B pos) (tS X.K F0 H0 (sIf tc f f')) :=
  (ps_if hc ha hb).imp fun Dn σ H ⟨F, ρ, o, S, e, q⟩ => by
    obtain ⟨b, e1, e⟩ := bind_some' e
    refine ⟨F, ρ, b, S, e1, fun F1 H1 X1 => ?_⟩
    cases b with
    | true =>
      rw [if_pos rfl] at e
      exact iteT ⟨F1, ρ, o, S.to X1, e, q.mono X1.f⟩
    | false =>
      rw [if_neg Bool.false_ne_true] at e
      exact iteF ⟨F1, ρ, o, S.to X1, e, q.mono X1.f⟩
theorem s_ret (he : PE X e (tD X.K F0 H0 fe)) : PS X (.Return (some e) pos) (tS X.K F0 H0 (sRet fe)) :=
  (ps_ret he).imp fun Dn σ H ⟨F, ρ, o, S, e, q⟩ => by
    obtain ⟨d, e1, e⟩ := bind_some' e
    cases e
    exact ⟨F, ρ, d, S, e1, fun v F1 H1 X1 r1 => q v F1 H1 (S.ext.trans X1) r1⟩
theorem s_no : PS X st (tS X.K F0 H0 sNo) := ps_never.imp fun Dn σ H ⟨F, ρ, o, S, e, q⟩ => by cases e
theorem s_do (he : PE X e (tD X.K F0 H0 fe)) (hs : swapsWith e none pos.line X.env = pure false := by rfl) : PS X (.Expr e pos) (tS X.K F0 H0 (sDo fe)) :=
  (ps_expr he hs).imp fun Dn σ H ⟨F, ρ, o, S, e, q⟩ => by
    obtain ⟨d, e1, e⟩ := bind_some' e
    cases e
    exact ⟨F, ρ, d, S, e1, fun v F1 H1 X1 r1 => q σ F1 H1 X1.f (S.to X1)⟩
theorem own_ty {K : PySem.W.Frag} {H : Hp} {a : Addr} {vs : List V} (h : H a = some (.lst vs)) : tyV K "list" (.ref a) H := .inl ⟨rfl, _, .inl (.inl h)⟩
theorem s_app (i : Nat) {p3 p4 : Pos} (he : PE X e (tD X.K F0 H0 fe)) (hN : X.N[i]? = some x := by rfl) (hv : Vis X.env.scope x := by first | exact Or.inl rfl | exact Or.inr (Or.inl rfl) | exact Or.inr (Or.inr rfl)) (hd : (x == ("__debug__" : Str)) = false := by decide)
    (hcd : (x == ("__classdict__" : Str)) = false := by decide) (hs1 : starEach [e] X.env = (false, eval e X.env) :: starEach [] X.env := by rfl) (hs : swapsWith (.Call (.Attribute (.Name x p) "append" p3) [e] [] p4) none pos.line X.env = pure false := by rfl)
    (h : ∀ te ta, PE X (.Name x p) te → PA X [e] ta → PE X (.Call (.Attribute (.Name x p) "append" p3) [e] [] p4) (tBM X.K "list" rAppend te ta) := by
      intro _ _ h1 h2; exact pe_bm PySem.F.plainAttrs_list PySem.F.slot_list_append PySem.F.type_list_append mt_append h1 h2) : PS X (.Expr (.Call (.Attribute (.Name x p) "append" p3) [e] [] p4) pos) (tS X.K F0 H0 (sApp i fe)) :=
  (ps_expr (h _ _ (pe_var hN hv hd hcd) (pa_cons he pa_nil hs1)) hs).imp fun Dn σ H ⟨F, ρ, o, S, e, q⟩ => by
    unfold sApp at e
    split at e
    · rename_i ds h
      obtain ⟨d, e1, e⟩ := bind_some' e
      split at e
      · rename_i hz
        cases e
        obtain ⟨a, vs, ev, ha, hf, h0, r⟩ := S.own h
        refine ⟨_, ev, own_ty ha, F, ρ, d, S, e1, fun v F1 H1 X1 r1 => ⟨a, vs, v, rfl, rfl, X1.h _ _ ha, by rw [r.length]; exact sz1 hz, ?_⟩⟩
        exact q σ F1 _ X1.f ((S.to X1).mut ev h ((r.mono X1.f).append (.one r1)))
      · cases e
    · cases e
theorem s_ext (i : Nat) {p3 p4 : Pos} (he : PE X e (tD X.K F0 H0 fe)) (hN : X.N[i]? = some x := by rfl) (hv : Vis X.env.scope x := by first | exact Or.inl rfl | exact Or.inr (Or.inl rfl) | exact Or.inr (Or.inr rfl)) (hd : (x == ("__debug__" : Str)) = false := by decide)
    (hcd : (x == ("__classdict__" : Str)) = false := by decide) (hs1 : starEach [e] X.env = (false, eval e X.env) :: starEach [] X.env := by rfl) (hs : swapsWith (.Call (.Attribute (.Name x p) "extend" p3) [e] [] p4) none pos.line X.env = pure false := by rfl)
    (h : ∀ te ta, PE X (.Name x p) te → PA X [e] ta → PE X (.Call (.Attribute (.Name x p) "extend" p3) [e] [] p4) (tBM X.K "list" rExtend te ta) := by
      intro _ _ h1 h2; exact pe_bm PySem.F.plainAttrs_list PySem.F.slot_list_extend PySem.F.type_list_extend mt_extend h1 h2) : PS X (.Expr (.Call (.Attribute (.Name x p) "extend" p3) [e] [] p4) pos) (tS X.K F0 H0 (sExt i fe)) :=
  (ps_expr (h _ _ (pe_var hN hv hd hcd) (pa_cons he pa_nil hs1)) hs).imp fun Dn σ H ⟨F, ρ, o, S, e, q⟩ => by
    unfold sExt at e
    split at e
    · rename_i ds h
      obtain ⟨d, e1, e⟩ := bind_some' e
      obtain ⟨a, vs, ev, ha, hf, h0, r⟩ := S.own h
      refine ⟨_, ev, own_ty ha, F, ρ, d, S, e1, fun v F1 H1 X1 r1 => ?_⟩
      cases r1 with
      | @lst b ws es hb rb =>
        have e' : (if ds.length + es.length ≤ 100000 then some (Out.nx (ρ.set i (.own (ds ++ es)))) else none) = some o := e
        split at e'
        · rename_i hz
          cases e'
          refine ⟨a, b, vs, ws, rfl, rfl, X1.h _ _ ha, X1.fh _ _ hb, by rw [r.length, rb.length]; exact sz hz, ?_⟩
          exact q σ F1 _ X1.f ((S.to X1).mut ev h ((r.mono X1.f).append rb))
        · cases e'
      | _ => cases e
    · cases e
theorem s_put (i : Nat) {p3 : Pos} (he : PE X e (tD X.K F0 H0 fe)) (hb : PE X b (tD X.K F0 H0 fb)) (hN : X.N[i]? = some x := by rfl) (hv : Vis X.env.scope x := by first | exact Or.inl rfl | exact Or.inr (Or.inl rfl) | exact Or.inr (Or.inr rfl)) (hd : (x == ("__debug__" : Str)) = false := by decide)
    (hcd : (x == ("__classdict__" : Str)) = false := by decide)
    (ha : ∀ v, assign (.Subscript (.Name x p) b p3) X.env v = (do
      let ov ← holding [v] (eval (.Name x p) X.env)
      let iv ← holding [v, ov] (eval b X.env)
      standAt p3
      holding [v, ov, iv] (setItem ov iv v)
      release [v, ov, iv] []) := by intro _; rfl) (hs : swapsWithSole [.Subscript (.Name x p) b p3] e pos.line X.env = pure false := by rfl) (hw : swappedStores [.Subscript (.Name x p) b p3] e X.env = pure none := by rfl)
    (h1 : (assignEach [.Subscript (.Name x p) b p3] X.env).map (·.2) = [assign (.Subscript (.Name x p) b p3) X.env] := by rfl) : PS X (.Assign [.Subscript (.Name x p) b p3] e pos) (tS X.K F0 H0 (sPut i fb fe)) :=
  (ps_asg he (pg_sub (pe_var hN hv hd hcd) hb set_list ha) hs hw h1).imp fun Dn σ H ⟨F, ρ, o, S, e, q⟩ => by
    unfold sPut at e
    split at e
    · rename_i ds h
      obtain ⟨d, e1, e⟩ := bind_some' e
      obtain ⟨k, e2, e⟩ := bind_some' e
      obtain ⟨a, vs, ev, ha, hf, h0, r⟩ := S.own h
      refine ⟨F, ρ, d, S, e1, fun v F1 H1 X1 r1 => ⟨_, ev, F1, ρ, k, S.to X1, e2, fun w F2 H2 X2 r2 => ?_⟩⟩
      cases r2 with
      | int k =>
        obtain ⟨j, e3, e⟩ := bind_some' e
        cases e
        have Y := X1.trans X2
        refine ⟨a, vs, k, j, rfl, rfl, Y.h _ _ ha, by rw [r.length]; exact e3, ?_⟩
        exact q σ F2 _ Y.f ((S.to Y).mut ev h ((r.mono Y.f).set j (r1.mono X2.f)))
      | _ => cases e
    · cases e
/-- xs[i] by values, for an augmented store -/
theorem pget_list : PGet X (rIxL X.K) := by
  intro pins s σ H o i ov iv Q I rx ry h
  obtain ⟨p, xs, i, z, rfl, rfl, hq, he, q⟩ := h
  cases rx
  obtain ⟨t, rfl⟩ := ry
  obtain ⟨its, r, pl, hz⟩ := I.list hq
  obtain ⟨j, h1, h2, h3, h4, h5⟩ := atI_get he
  obtain ⟨w, ew, rw'⟩ := r.get h2
  have hl := r.length
  have hn := line63
  have fin : EP X pins σ Q w s := ⟨z, H, I, rw', q⟩
  by_cases h0 : 0 ≤ i
  · have hj : i.toNat = j := by
      rw [seqIndex_of h0 h5] at h1
      exact Option.some.inj h1
    exact wpAny_getItem_list pl.isList h0 (by omega) (by rw [hj]; simpa using ew) fin
  · have hj : (i + (its.toArray.size : Int)).toNat = j := by
      rw [seqIndex_neg (by omega) h4] at h1
      rw [List.size_toArray, ← hl]
      exact Option.some.inj h1
    exact wpAny_getItem_list_neg pl.isList (by omega) (by rw [List.size_toArray] <;> omega) (by omega) (by rw [hj]; simpa using ew) fin
theorem s_augI (i : Nat) {op : Operator} {ti : TIp} {gd : D → D → Option D} {p3 : Pos} (hg : PGet X (rIxL X.K)) (hb : PE X b (tD X.K F0 H0 fb)) (he : PE X e (tD X.K F0 H0 fe)) (ho : PIp X op ti) (hr : RI X.K ti gd) (hN : X.N[i]? = some x := by rfl) (hv : Vis X.env.scope x := by first | exact Or.inl rfl | exact Or.inr (Or.inl rfl) | exact Or.inr (Or.inr rfl)) (hd : (x == ("__debug__" : Str)) = false := by decide)
    (hcd : (x == ("__classdict__" : Str)) = false := by decide)
    (ha : ∀ ov iv new, augStore b ov iv new = (do holding [new, ov, iv] (setItem ov iv new); release [new, ov, iv] []; pure .next) := by intros; rfl) : PS X (.AugAssign (.Subscript (.Name x p) b p3) op e pos) (tS X.K F0 H0 (sAugI i gd fb fe)) :=
  (ps_augS (pe_var hN hv hd hcd) hb hg he ho set_list ha).imp fun Dn σ H ⟨F, ρ, o, S, e, q⟩ => by
    unfold sAugI at e
    split at e
    · rename_i ds h
      obtain ⟨k, e2, e⟩ := bind_some' e
      obtain ⟨a, vs, ev, ha, hf, h0, r⟩ := S.own h
      refine ⟨_, ev, F, ρ, k, S, e2, fun w F1 H1 X1 r2 => ?_⟩
      cases r2 with
      | int k =>
        obtain ⟨dx, e3, e⟩ := bind_some' e
        obtain ⟨dy, e4, e⟩ := bind_some' e
        obtain ⟨dz, e5, e⟩ := bind_some' e
        obtain ⟨j, e6, e⟩ := bind_some' e
        cases e
        obtain ⟨u, e7, ru⟩ := r.at e3
        refine ⟨a, vs, k, u, rfl, rfl, .inl (.inl (X1.h _ _ ha)), e7, F1, ρ, dy, S.to X1, e4, fun v F2 H2 X2 r3 => ?_⟩
        refine hr F2 H2 u v dx dy dz _ X2.fh (ru.mono (X1.trans X2).f) r3 e5 fun z F3 H3 X3 r4 => ?_
        have Y := X1.trans (X2.trans X3)
        refine ⟨a, vs, k, j, rfl, rfl, Y.h _ _ ha, by rw [r.length]; exact e6, ?_⟩
        exact q σ F3 _ Y.f ((S.to Y).mut ev h ((r.mono Y.f).set j r4))
      | _ => cases e
    · cases e
/-! ### for -/
theorem for_of {K : PySem.W.Frag} {Dn : Ends} {σ : L2.St} {H : Hp} {h : FS} (q : tS K F0 H0 (sFor fl g f h) Dn σ H) : tForE (iD K F0 H0 fl) (tG K F0 H0 g is) (tS K F0 H0 f) (tS K F0 H0 h) Dn σ H := by
  obtain ⟨F, ρ, o, S, e, q⟩ := q
  obtain ⟨ds, e1, e⟩ := bind_some' e
  refine ⟨F, ρ, ds, S, e1, fun J F1 H1 X1 wk => ?_⟩
  refine ⟨fun i m σ' H' => m = ds.length - i ∧ i ≤ ds.length ∧ ∃ F' ρ', Same F1 F' ∧ SR K F0 H0 F' H' σ' ρ' ∧ forL g f h (ds.drop i) ρ' = some o, ⟨ds.length, rfl, Nat.zero_le _, F1, ρ, Same.refl F1, S.to X1, e⟩, ?_⟩
  rintro i m σ' H' ⟨rfl, hi, F', ρ', s', S', e'⟩
  have qq := q.mono (X1.f.trans s')
  by_cases hlt : i < ds.length
  · refine .inr ⟨wk.go i F' H' s' S'.fh hlt, fun σ2 H2 => ∃ F2 ρ2, Same F1 F2 ∧ SR K F0 H0 F2 H2 σ2 ρ2 ∧ forL g f h (ds.drop (i + 1)) ρ2 = some o, fun σ2 H2 h2 => ⟨ds.length - (i + 1), by omega, rfl, hlt, h2⟩, fun x H2 y => ?_⟩
    obtain ⟨F3, X3, rx⟩ := wk.yld i F' H' x H2 _ s' S'.fh (List.getElem?_eq_getElem hlt) y
    rw [List.drop_eq_getElem_cons hlt] at e'
    obtain ⟨ρ1, e2, e'⟩ := bind_some' e'
    obtain ⟨o1, e3, e'⟩ := bind_some' e'
    refine ⟨F3, ρ', _, ρ1, S'.to X3, rx, e2, fun σ4 F4 H4 X4 S4 _ => ⟨F4, ρ1, o1, S4, e3, ?_⟩⟩
    have s4 : Same F1 F4 := s'.trans (X3.trans X4).f
    cases o1 with
    | nx ρ5 => exact fun σ5 F5 H5 s5 S5 => ⟨F5, ρ5, s4.trans s5, S5, e'⟩
    | ct ρ5 => exact fun σ5 F5 H5 s5 S5 => ⟨F5, ρ5, s4.trans s5, S5, e'⟩
    | bk ρ5 =>
      cases e'
      exact fun σ5 F5 H5 s5 S5 => qq σ5 F5 H5 ((X3.trans X4).f.trans s5) S5
    | rt d =>
      cases e'
      exact qq
  · have ei : i = ds.length := by omega
    refine .inl ⟨wk.stop i F' H' s' S'.fh (by omega), ?_⟩
    rw [ei, List.drop_length] at e'
    exact ⟨F', ρ', o, S', e', qq⟩
theorem s_for {body orelse : List Stmt} {iter : Expr} {h : FS} (hp : PassesOwn (model X.prog X.w) X.A X.env X.xe) (hc : X.calm = true) (hi : PI X tg iter (iD X.K F0 H0 fl)) (hg : PG X tg (tG X.K F0 H0 g is)) (hb : PSs X body (tS X.K F0 H0 f)) (ho : PSs X orelse (tS X.K F0 H0 h))
    (hs : ∀ x, foldedSetIterable iter X.env x = pure x := by intro _; rfl) : PS X (.For tg iter body orelse pos) (tS X.K F0 H0 (sFor fl g f h)) :=
  (ps_forE hp hc hi hg hb ho hs).imp fun Dn σ H q => for_of q
end
/-! ### a def -/
def startR (n : Nat) (ds : List D) : Rho := ds.map .dat ++ List.replicate (n - ds.length) .un
theorem sr_start {K : PySem.W.Frag} {F H : Hp} {N : List Str} {vs : List V} {ds : List D} (s : Same F H) (r : Rps K F vs ds) (hn : vs.length ≤ N.length) : SR K F H F H (L2.start N vs) (startR N.length ds) := by
  have hl := r.length
  refine ⟨Ext.refl s, ?_, fun i o sl h1 h2 => ?_, fun i a ds' h1 h2 => ?_, fun i j a ds' es h1 h2 h3 h4 => ?_⟩
  · unfold L2.start startR
    simp only [List.length_append, List.length_map, List.length_replicate]
    omega
  · unfold L2.start at h1
    unfold startR at h2
    by_cases hi : i < vs.length
    · rw [List.getElem?_append_left (by simpa using hi), List.getElem?_map] at h1
      rw [List.getElem?_append_left (by simpa [← hl] using hi), List.getElem?_map] at h2
      obtain ⟨d, e, rd⟩ := r.get' (List.getElem?_eq_getElem hi)
      rw [e] at h2
      rw [List.getElem?_eq_getElem hi] at h1
      cases h1
      cases h2
      exact .dat rd
    · rw [List.getElem?_append_right (by simpa [← hl] using hi), List.getElem?_replicate] at h2
      split at h2
      · cases h2; exact .un _
      · cases h2
  · have no : (startR N.length ds)[i]? ≠ some (.own ds') := fun h => by
      unfold startR at h
      by_cases hi : i < ds.length
      · rw [List.getElem?_append_left (by simpa using hi), List.getElem?_map] at h
        cases e : ds[i]? with
        | none => rw [e] at h; cases h
        | some d => rw [e] at h; cases h
      · rw [List.getElem?_append_right (by simpa using hi), List.getElem?_replicate] at h
        split at h <;> cases h
    exact absurd h2 no
  · have no : (startR N.length ds)[i]? ≠ some (.own ds') := fun h => by
      unfold startR at h
      by_cases hi : i < ds.length
      · rw [List.getElem?_append_left (by simpa using hi), List.getElem?_map] at h
        cases e : ds[i]? with
        | none => rw [e] at h; cases h
        | some d => rw [e] at h; cases h
      · rw [List.getElem?_append_right (by simpa using hi), List.getElem?_replicate] at h
        split at h <;> cases h
    exact absurd h3 no
/-- the function of data that a body is -/
def runD (np n : Nat) (f : FS) : List D → Option D := fun ds => if ds.length = np then (f (startR n ds)).bind fun o => match o with
  | .rt d => some d
  | .nx _ => some .non
  | _ => none else none
section
variable {P : Program} {w : World} {K : PySem.W.Frag} {mg : Str → Option Value} {base : Heap}
theorem ok_def {x qual : Str} {params : Arguments} {body : List Stmt} {scope : Scope} {f : Addr} {fd : FuncData} {N ps : List Str} {k : Nat} {fs : FS} (Fn : FunD K x qual params body scope [] [] f fd) (S : FnScope N ps scope)
    (h : ∀ (cdv : Value) (A : Around) (outer : List Env) (s : Shared) (H : Hp) (E : XK) (F0 H0 : Hp), Room k (A.deeper (envOfC qual scope s.heap.objs.size f cdv)) → PSs (cxOf CX0 P w K mg base N qual scope f cdv A outer s H E).nox body (tS K F0 H0 fs)) :
    FnOk P w K mg base CX0 (k + 1) f fd ps (spD K ps.length (runD ps.length N.length fs)) := by
  refine Fn.ok S (fun vs H Q E h => ?_) (fun cdv A outer s H vs Q E hr hsp => ?_)
  · obtain ⟨F, ds, d, e, _⟩ := h
    exact e
  · obtain ⟨F, ds, d, el, sm, r, e, q⟩ := hsp
    refine ⟨tS K F H fs, (h cdv A outer s H E F H hr).nox, ?_⟩
    unfold runD at e
    split at e
    · obtain ⟨o, e1, e⟩ := bind_some' e
      have hn : vs.length ≤ N.length := by
        have := congrArg List.length S.pre
        rw [List.length_take] at this
        omega
      refine ⟨F, _, o, sr_start sm r hn, e1, ?_⟩
      cases o with
      | nx ρ => cases e; exact fun σ' F' H' s' S' => q _ F' H' S'.ext .non
      | rt d' => cases e; exact fun v F' H' X' r' => q v F' H' X' r'
      | bk ρ => cases e
      | ct ρ => cases e
    · cases e
end
end FD
end

section
set_option Elab.async false
set_option linter.all false
set_option maxRecDepth 100000
set_option maxHeartbeats 1000000
/-! FDt: what the walk knows of the program's top; a call of a def by what it is. -/
namespace FD
open PySem PySem.Spec PyProof.Rows L2 StX
structure Ok (P : Program) (w : World) (K : PySem.W.Frag) (mg : Str → Option Value) (base : Heap) (x : Str) (k n : Nat) (Phi : List D → Option D) : Prop where
  ex : ∃ (f : Addr) (fd : FuncData) (ps : List Str), mg x = some (.ref f) ∧ PySem.W.keepIn K (.ref f) = true ∧ Binds K fd ps [] ∧ FnOk P w K mg base CX0 k f fd ps (spD K n Phi)
/-- a def of the top: its name, its place -/
abbrev DefAt (K : PySem.W.Frag) (mg : Str → Option Value) (x : Str) (i : Nat) : Prop :=
  ∃ fd, FunD K x x (defArgs (topS i)) (defBody (topS i)) (defScope (topS i)) [] [] (He.ga K x) fd ∧ mg x = some (.ref (He.ga K x))
structure Txt (K : PySem.W.Frag) (mg : Str → Option Value) : Prop where
  d : ∀ (j : Nat) (x : Str) (i : Nat), defL[j]? = some (x, i) → DefAt K mg x i
  fr : ∀ (j : Nat) (x : Str), freeL[j]? = some x → mg x = none
  st : ∀ (j : Nat) (x z : Str), strL[j]? = some (x, z) → ∃ t, mg x = some (.str z t)
  great : ∃ t, mg "GREAT" = some (.int 1000000000000000000000000000000 t)
  ends : ∃ v, mg "NO_ENDS" = some (.ref v) ∧ ∀ F, Rp K F (.ref v) (.tup [.non, .non])
section
variable {X : Cx} {F0 H0 : Hp} {e : Expr} {es : List Expr} {fl : FL} {pos p : Pos} {x : Str} {k kc n : Nat} {Phi : List D → Option D}
theorem e_callO (G : Ok X.prog X.w X.K X.mg X.base x kc n Phi) (hr : Room k X.A) (hk : kc ≤ k) (ha : PA X (e :: es) (tA X.K F0 H0 fl)) (hl : FLen fl n := by repeat (first | exact flen_nil | refine flen_cons ?_)) (hg : Gl X x := by rfl) (hdb : (x == ("__debug__" : Str)) = false := by decide)
    (hln : (e :: es).length = n := by rfl) (he : starEach (e :: es) X.env = (false, eval e X.env) :: starEach es X.env := by rfl) (hpl : (backTo pos (starEach es X.env)).any (·.1) = false := by rfl) : PE X (.Call (.Name x p) (e :: es) [] pos) (tD X.K F0 H0 (fCall Phi fl)) := by
  obtain ⟨f, fd, ps, hm, hkp, hb, hF⟩ := G.ex
  exact e_call hF (hr.mono hk) hm hkp hb pass0 ha hln hl hg hdb he hpl
end
section
variable {P : Program} {w : World} {K : PySem.W.Frag} {mg : Str → Option Value} {base : Heap}
theorem ok_mk {x : Str} {i k : Nat} {N ps : List Str} {fs : FS} (Fn : DefAt K mg x i) (S : FnScope N ps (defScope (topS i)))
    (hb : ∀ (dV kV doc pm : Value) (an : Option Addr) (cdv ct : Value) (us : List Value), us.length = ps.length → bindArgs (PySem.W.fnOf x x (defArgs (topS i)) (defBody (topS i)) (defScope (topS i)) .none kV doc pm an cdv ct) ⟨us, []⟩ = pure (ps.zip us))
    (h : ∀ (f : Addr) (cdv : Value) (A : Around) (outer : List Env) (s : Shared) (H : Hp) (E : XK) (F0 H0 : Hp), Room k (A.deeper (envOfC x (defScope (topS i)) s.heap.objs.size f cdv)) → PSs (cxOf CX0 P w K mg base N x (defScope (topS i)) f cdv A outer s H E).nox (defBody (topS i)) (tS K F0 H0 fs)) :
    Ok P w K mg base x (k + 1) ps.length (runD ps.length N.length fs) := by
  obtain ⟨fd, F, hm⟩ := Fn
  exact ⟨_, fd, ps, hm, F.kp, F.bindsN fun kV doc pm an cdv ct us hl => hb .none kV doc pm an cdv ct us hl, ok_def F S fun cdv A outer s H E F0 H0 hr => h _ cdv A outer s H E F0 H0 hr⟩
end
end FD
end

section
set_option Elab.async false
set_option linter.all false
set_option maxRecDepth 100000
set_option maxHeartbeats 2000000
/-! FDh: zip of three tuples, walked by a for, and made into a list. -/
namespace FD
open PySem PySem.Spec PyProof.Rows L2 StX

/-! ### zip(a, b, c), walked -/
def ItZ3 (K : PySem.W.Frag) (a b c : Addr) : It :=
  ⟨fun i H => ∃ (xs ys us : List V) (x y u : V), SqT K H a xs ∧ SqT K H b ys ∧ SqT K H c us ∧ xs[i]? = some x ∧ ys[i]? = some y ∧ us[i]? = some u,
    fun i H v H' => ∃ T x y u, v = .ref T ∧ H T = none ∧ H' = upd H T (.tup [x, y, u]) ∧ (∀ xs, SqT K H a xs → xs[i]? = some x) ∧ (∀ ys, SqT K H b ys → ys[i]? = some y) ∧ ∀ us, SqT K H c us → us[i]? = some u,
    fun i H => ∃ xs ys us : List V, SqT K H a xs ∧ SqT K H b ys ∧ SqT K H c us ∧ xs.length = i ∧ ys.length = i ∧ us.length = i⟩
/-- the six cells of a zip of three, made at N -/
abbrev cells6 (N : Addr) : List Addr := [N + 5, N + 3, N + 4, N, N + 1, N + 2]
/-- how these cells stand at turn i -/
def Z3At (N a b c : Addr) (i : Nat) (h : Heap) : Prop :=
  IsZip h (N + 5) (N + 3) (N + 4) .none ∧ IsTupOf3 h (N + 3) (.ref N) (.ref (N + 1)) (.ref (N + 2)) ∧ (∃ u1 u2 u3, IsTupOf3 h (N + 4) u1 u2 u3) ∧ h.IsTupleIter N a i ∧ h.IsTupleIter (N + 1) b i ∧ h.IsTupleIter (N + 2) c i
theorem mem6 {N b : Addr} (h : b ∈ cells6 N) : b = N + 5 ∨ b = N + 3 ∨ b = N + 4 ∨ b = N ∨ b = N + 1 ∨ b = N + 2 := by simpa [cells6] using h
theorem Z3At.obj {N a b c : Addr} {i : Nat} {h : Heap} (z : Z3At N a b c i h) {d : Addr} (hd : d ∈ cells6 N) : ∃ o, h.get? d = some o ∧ ∀ v, o.data ≠ .cell v := by
  obtain ⟨z1, z2, ⟨u1, u2, u3, z3⟩, ⟨o1, e1, _, d1⟩, ⟨o2, e2, _, d2⟩, ⟨o3, e3, _, d3⟩⟩ := z
  rcases mem6 hd with q | q | q | q | q | q
  · refine ⟨_, by rw [q]; exact z1, ?_⟩
    intro v e
    cases e
  · refine ⟨_, by rw [q]; exact z2, ?_⟩
    intro v e
    cases e
  · refine ⟨_, by rw [q]; exact z3, ?_⟩
    intro v e
    cases e
  · exact ⟨o1, by rw [q]; exact e1, fun v q => by rw [d1] at q; cases q⟩
  · exact ⟨o2, by rw [q]; exact e2, fun v q => by rw [d2] at q; cases q⟩
  · exact ⟨o3, by rw [q]; exact e3, fun v q => by rw [d3] at q; cases q⟩
theorem Z3At.keep {N a b c : Addr} {i : Nat} {h h' : Heap} (z : Z3At N a b c i h) (k : ∀ d ∈ cells6 N, ∀ o, h.get? d = some o → h'.get? d = some o) : Z3At N a b c i h' := by
  obtain ⟨z1, z2, ⟨u1, u2, u3, z3⟩, h1, h2, h3⟩ := z
  exact ⟨k _ (by simp [cells6]) _ z1, k _ (by simp [cells6]) _ z2, ⟨u1, u2, u3, k _ (by simp [cells6]) _ z3⟩, h1.at fun o e => k _ (by simp [cells6]) o e, h2.at fun o e => k _ (by simp [cells6]) o e, h3.at fun o e => k _ (by simp [cells6]) o e⟩
section
variable {P : Program} {w : World} {K : PySem.W.Frag} {elts : List Expr} {kk : Nat} {tpos : Pos} {N a b c : Addr}
theorem wr6 {N d : Addr} (h : d ∈ ([N + 5, N + 4, N, N + 1, N + 2] : List Addr)) : d ∈ cells6 N := by
  simp only [List.mem_cons, List.not_mem_nil, or_false] at h
  simp only [cells6, List.mem_cons, List.not_mem_nil, or_false]
  rcases h with h | h | h | h | h <;> simp [h]
theorem turn_zip3 (ha : a < N) (hb : b < N) (hc : c < N) : Turn P w K (.Tuple elts kk tpos) (ItZ3 K a b c) (cells6 N) (N + 5) (Z3At N a b c) where
  mem := by simp [cells6]
  obj := fun i h st d hd => st.obj hd
  keep := fun i h h' st k => st.keep k
  item := by
    intro X hP hw hK hcl i pins s σ H E I hf st hg
    subst hP hw hK
    obtain ⟨xs, ys, us, x, y, u, hx, hy, hu, ex, ey, eu⟩ := hg
    obtain ⟨i1, r1, p1, _⟩ := I.tuple hx
    obtain ⟨i2, r2, p2, _⟩ := I.tuple hy
    obtain ⟨i3, r3, p3, _⟩ := I.tuple hu
    have hh : X.A.handled = none := I.ok.hd hcl
    obtain ⟨z1, z2, z3, t1, t2, t3⟩ := st
    have W := GoesN.zip3 (prog := X.prog) (w := X.w) (A := X.A) (elts := elts) (x1 := kk) (pos := tpos) (zip_sep3 (N := N) (fp1 := [a]) (fp2 := [b]) (fp3 := [c]) (by simpa using ha) (by simpa using hb) (by simpa using hc))
      (Draws.tuple (prog := X.prog) (w := X.w) (A := X.A.in1) hh N a (Nat.ne_of_lt ha) i1.toArray) (Draws.tuple (A := X.A.in1) hh (N + 1) b (Nat.ne_of_lt (Nat.lt_succ_of_lt hb)) i2.toArray) (Draws.tuple (A := X.A.in1) hh (N + 2) c (Nat.ne_of_lt (Nat.lt_succ_of_lt (Nat.lt_succ_of_lt hc))) i3.toArray)
    have lx := (List.getElem?_eq_some_iff.mp ex).1
    have ly := (List.getElem?_eq_some_iff.mp ey).1
    have lu := (List.getElem?_eq_some_iff.mp eu).1
    have q1 := r1.length
    have q2 := r2.length
    have q3 := r3.length
    refine thn (W.goes i s (fun v s2 => ∃ x H', Inv X pins σ H' s2 ∧ RelV x v ∧ (ItZ3 X.K a b c).yld i H x H' ∧ Z3At N a b c (i + 1) s2.heap ∧ ∀ b ∈ cells6 N, H' b = none) E (by simp only [List.size_toArray]; omega) ⟨z1, z2, z3, ⟨t1, p1⟩, ⟨t2, p2⟩, ⟨t3, p3⟩⟩ fun v h' tk hY st' hk htk => ?_) fun r s1 h1 => ?_
    · obtain ⟨T, v1, v2, v3, rfl, hT, e1, e2, e3, hTup⟩ := hY
      obtain ⟨w1, f1, rw1⟩ := r1.get ex
      obtain ⟨w2, f2, rw2⟩ := r2.get ey
      obtain ⟨w3, f3, rw3⟩ := r3.get eu
      have g1 : w1 = v1 := by
        have := e1
        simp only [List.getElem?_toArray] at this
        exact Option.some.inj (f1.symm.trans this)
      have g2 : w2 = v2 := by
        have := e2
        simp only [List.getElem?_toArray] at this
        exact Option.some.inj (f2.symm.trans this)
      have g3 : w3 = v3 := by
        have := e3
        simp only [List.getElem?_toArray] at this
        exact Option.some.inj (f3.symm.trans this)
      subst g1 g2 g3
      have new : ObjOk X.prog X.w (upd H T (.tup [x, y, u])) h' T (.tup [x, y, u]) := ⟨by show 3 ≤ sizeLine; decide, [w1, w2, w3], .cons rw1 (.cons rw2 (.cons rw3 .nil)), hTup⟩
      have I1 : Inv X pins σ (upd H T (.tup [x, y, u])) { s with heap := h', toks := tk } :=
        I.turnedNew (t' := tk) (ch := cells6 N) (fun d o hd e => hk d o (fun q => hd (wr6 q)) e) hf hT new
      obtain ⟨s1, s2, s3, ⟨m1, _⟩, ⟨m2, _⟩, ⟨m3, _⟩⟩ := st'
      refine ⟨.ref T, _, I1, rfl, ⟨T, x, y, u, rfl, I.hok.fresh hT, rfl, fun l hl => by rw [I.tuple_inj hl hx]; exact ex, fun l hl => by rw [I.tuple_inj hl hy]; exact ey, fun l hl => by rw [I.tuple_inj hl hu]; exact eu⟩, ⟨s1, s2, s3, m1, m2, m3⟩, fun d hd => ?_⟩
      obtain ⟨o, ho, _⟩ := Z3At.obj ⟨z1, z2, z3, t1, t2, t3⟩ hd
      rw [upd_ne (Nat.ne_of_lt (Nat.lt_of_lt_of_le (Heap.lt_size ho) hT))]
      exact (hf d hd).1
    · obtain ⟨v, rfl, h2⟩ := h1
      exact ⟨v, rfl, h2⟩
  done := by
    intro X hP hw hK hcl i pins s σ H E I hf st hg
    subst hP hw hK
    obtain ⟨xs, ys, us, hx, hy, hu, ex, ey, eu⟩ := hg
    obtain ⟨i1, r1, p1, _⟩ := I.tuple hx
    obtain ⟨i2, r2, p2, _⟩ := I.tuple hy
    obtain ⟨i3, r3, p3, _⟩ := I.tuple hu
    have hh : X.A.handled = none := I.ok.hd hcl
    obtain ⟨z1, z2, z3, t1, t2, t3⟩ := st
    have W := GoesN.zip3 (prog := X.prog) (w := X.w) (A := X.A) (elts := elts) (x1 := kk) (pos := tpos) (zip_sep3 (N := N) (fp1 := [a]) (fp2 := [b]) (fp3 := [c]) (by simpa using ha) (by simpa using hb) (by simpa using hc))
      (Draws.tuple (prog := X.prog) (w := X.w) (A := X.A.in1) hh N a (Nat.ne_of_lt ha) i1.toArray) (Draws.tuple (A := X.A.in1) hh (N + 1) b (Nat.ne_of_lt (Nat.lt_succ_of_lt hb)) i2.toArray) (Draws.tuple (A := X.A.in1) hh (N + 2) c (Nat.ne_of_lt (Nat.lt_succ_of_lt (Nat.lt_succ_of_lt hc))) i3.toArray)
    have q1 := r1.length
    have q2 := r2.length
    have q3 := r3.length
    have en : min (min i1.toArray.size i2.toArray.size) i3.toArray.size = i := by simp only [List.size_toArray]; omega
    refine thn (W.stops s (fun s1 => Inv X pins σ H s1) E (by rw [en]; exact ⟨z1, z2, z3, ⟨t1, p1⟩, ⟨t2, p2⟩, ⟨t3, p3⟩⟩) fun h' tk hk htk => ?_) fun r s1 h1 => h1
    exact I.turnedL (t' := tk) (ch := cells6 N) (fun d o hd e => hk d o (fun q => hd (wr6 q)) e) hf
  self := fun A i s Q E st h => wpAny_pyIter_zip st.1 h
end
def iZip3 (K : PySem.W.Frag) (ta : TA) : TI := fun σ H R => ta σ H fun vs H1 => ∃ a b c xs ys us, vs = [.ref a, .ref b, .ref c] ∧ SqT K H1 a xs ∧ SqT K H1 b ys ∧ SqT K H1 c us ∧ R (ItZ3 K a b c) H1
theorem lt_of_tup {h : Heap} {a : Addr} {items : Array Value} (t : IsTup h a items) : a < h.objs.size := by
  obtain ⟨o, ho, _⟩ := t
  exact Heap.lt_size ho
theorem pi_zip3 {X : Cx} {e e2 e3 : Expr} {ta : TA} {p pos tpos : Pos} {elts : List Expr} {kk : Nat} (hg : Gl X "zip") (hm : X.mg "zip" = none) (ha : PA X [e, e2, e3] ta)
    (hs : starEach [e, e2, e3] X.env = (false, eval e X.env) :: starEach [e2, e3] X.env := by rfl) (hpl : (backTo pos (starEach [e2, e3] X.env)).any (·.1) = false := by rfl) : PI X (.Tuple elts kk tpos) (.Call (.Name "zip" p) [e, e2, e3] [] pos) (iZip3 X.K ta) := by
  refine ⟨fun pins s σ H R I h => ?_⟩
  refine Call_ (ld_blt I hg hm boot_zip (callWith_type1 (thn (ha.run pos pins s σ H _ I h) fun ws s1 ⟨vs, H1, I1, r, q⟩ => ?_) hs hpl))
  obtain ⟨a, b, c, xs, ys, us, rfl, hx, hy, hu, q⟩ := q
  cases r with
  | cons e1 r =>
    cases r with
    | cons e2' r =>
      cases r with
      | cons e3' r =>
        cases r
        cases e1
        cases e2'
        cases e3'
        obtain ⟨i1, r1, p1, _⟩ := I1.tuple hx
        obtain ⟨i2, r2, p2, _⟩ := I1.tuple hy
        obtain ⟨i3, r3, p3, _⟩ := I1.tuple hu
        refine zip_begins3 (begins_tuple a i1.toArray) (begins_tuple b i2.toArray) (begins_tuple c i3.toArray) p1 p2 p3 fun h' z1 z2 z3 g1 g2 g3 hsz hk => wpAny_pyIter_zip z1 ?_
        have I2 : Inv X pins σ H1 { s1 with heap := h' } := I1.kept (t' := s1.toks) hk
        refine ⟨s1.heap.objs.size + 5, cells6 s1.heap.objs.size, _, _, H1, rfl, I2, turn_zip3 (lt_of_tup p1) (lt_of_tup p2) (lt_of_tup p3), ⟨z1, z2, ⟨_, _, _, z3⟩, ⟨_, g1, rfl, rfl⟩, ⟨_, g2, rfl, rfl⟩, ⟨_, g3, rfl, rfl⟩⟩, fun d hd => ?_, q⟩
        have hle : s1.heap.objs.size ≤ d := by
          rcases mem6 hd with z | z | z | z | z | z <;> rw [z] <;> first | exact Nat.le_refl _ | exact Nat.le_add_right _ _
        exact I1.fpOk hle (I1.hok.fresh hle)

/-! ### the same by data -/
def zip3D : List D → List D → List D → List D
  | x :: xs, y :: ys, u :: us => .tup [x, y, u] :: zip3D xs ys us
  | _, _, _ => []
def zip3E (xs ys us : List D) : Option (List D) := if xs.length = ys.length ∧ xs.length = us.length then some (zip3D xs ys us) else none
theorem zip3D_len : ∀ {xs ys us : List D}, xs.length = ys.length → xs.length = us.length → (zip3D xs ys us).length = xs.length
  | [], _, _, _, _ => by simp [zip3D]
  | x :: xs, [], _, h, _ => by simp at h
  | x :: xs, y :: ys, [], _, h => by simp at h
  | x :: xs, y :: ys, u :: us, h1, h2 => by
    simp only [zip3D, List.length_cons]
    rw [zip3D_len (by simpa using h1) (by simpa using h2)]
theorem zip3D_get : ∀ {xs ys us : List D} {i : Nat} {d : D}, (zip3D xs ys us)[i]? = some d → ∃ x y u, xs[i]? = some x ∧ ys[i]? = some y ∧ us[i]? = some u ∧ d = .tup [x, y, u]
  | [], _, _, _, _, h => by simp [zip3D] at h
  | _ :: _, [], _, _, _, h => by simp [zip3D] at h
  | _ :: _, _ :: _, [], _, _, h => by simp [zip3D] at h
  | x :: xs, y :: ys, u :: us, 0, d, h => by
    simp [zip3D] at h
    exact ⟨x, y, u, rfl, rfl, rfl, h.symm⟩
  | x :: xs, y :: ys, u :: us, i + 1, d, h => by
    obtain ⟨a, b, c, h1, h2, h3, h4⟩ := zip3D_get (xs := xs) (ys := ys) (us := us) (i := i) (d := d) (by simpa [zip3D] using h)
    exact ⟨a, b, c, by simpa using h1, by simpa using h2, by simpa using h3, h4⟩
theorem wk_zip3 {K : PySem.W.Frag} {F : Hp} {a b c : Addr} {vs ws zs : List V} {xs ys us : List D} (h1 : SqT K F a vs) (h2 : SqT K F b ws) (h3 : SqT K F c zs) (r1 : Rps K F vs xs) (r2 : Rps K F ws ys) (r3 : Rps K F zs us) (l1 : xs.length = ys.length) (l2 : xs.length = us.length) :
    Wk K (ItZ3 K a b c) F (zip3D xs ys us) where
  go := fun i F1 H1 s1 s2 hi => by
    rw [zip3D_len l1 l2] at hi
    obtain ⟨v, hv, _⟩ := r1.get (List.getElem?_eq_getElem hi)
    obtain ⟨w, hw, _⟩ := r2.get (List.getElem?_eq_getElem (show i < ys.length by omega))
    obtain ⟨z, hz, _⟩ := r3.get (List.getElem?_eq_getElem (show i < us.length by omega))
    exact ⟨vs, ws, zs, v, w, z, sqT_mono s2 (sqT_mono s1 h1), sqT_mono s2 (sqT_mono s1 h2), sqT_mono s2 (sqT_mono s1 h3), hv, hw, hz⟩
  stop := fun i F1 H1 s1 s2 hi => by
    rw [zip3D_len l1 l2] at hi
    exact ⟨vs, ws, zs, sqT_mono s2 (sqT_mono s1 h1), sqT_mono s2 (sqT_mono s1 h2), sqT_mono s2 (sqT_mono s1 h3), by rw [r1.length]; omega, by rw [r2.length]; omega, by rw [r3.length]; omega⟩
  yld := fun i F1 H1 x H2 d s1 s2 hd y => by
    obtain ⟨T, x', y', z', rfl, hT, rfl, f1, f2, f3⟩ := y
    obtain ⟨dx, dy, du, e1, e2, e3, rfl⟩ := zip3D_get hd
    obtain ⟨v, hv, rv⟩ := r1.get e1
    obtain ⟨w, hw, rw'⟩ := r2.get e2
    obtain ⟨z, hz, rz⟩ := r3.get e3
    cases (f1 vs (sqT_mono s2 (sqT_mono s1 h1))).symm.trans hv
    cases (f2 ws (sqT_mono s2 (sqT_mono s1 h2))).symm.trans hw
    cases (f3 zs (sqT_mono s2 (sqT_mono s1 h3))).symm.trans hz
    have y := Ext.new (o := .tup [x', y', z']) s2 hT
    exact ⟨_, y, .tup (SqT.of upd_same) (.cons ((rv.mono s1).mono y.f) (.cons ((rw'.mono s1).mono y.f) (.cons ((rz.mono s1).mono y.f) .nil)))⟩
def fZip3 (a b c : FE) : FL := fun ρ => (a ρ).bind fun x => (b ρ).bind fun y => (c ρ).bind fun z => match x, y, z with
  | .tup xs, .tup ys, .tup us => zip3E xs ys us
  | _, _, _ => none
theorem i_zip3 {X : Cx} {F0 H0 : Hp} {a b c : Expr} {fa fb fc : FE} {p pos : Pos} {elts : List Expr} {kk : Nat} {tpos : Pos} (hm : X.mg "zip" = none) (ha : PE X a (tD X.K F0 H0 fa)) (hb : PE X b (tD X.K F0 H0 fb)) (hc : PE X c (tD X.K F0 H0 fc)) (hg : Gl X "zip" := by rfl)
    (hs : starEach [a, b, c] X.env = (false, eval a X.env) :: starEach [b, c] X.env := by rfl) (hs2 : starEach [b, c] X.env = (false, eval b X.env) :: starEach [c] X.env := by rfl) (hs3 : starEach [c] X.env = (false, eval c X.env) :: starEach [] X.env := by rfl)
    (hpl : (backTo pos (starEach [b, c] X.env)).any (·.1) = false := by rfl) : PI X (.Tuple elts kk tpos) (.Call (.Name "zip" p) [a, b, c] [] pos) (iD X.K F0 H0 (fZip3 fa fb fc)) :=
  (pi_zip3 hg hm (pa_cons ha (pa_cons hb (pa_cons hc pa_nil hs3) hs2) hs) hs hpl).imp fun σ H R ⟨F, ρ, ds, S, e, q⟩ => by
    obtain ⟨x, e1, e⟩ := bind_some' e
    obtain ⟨y, e2, e⟩ := bind_some' e
    obtain ⟨z, e3, e⟩ := bind_some' e
    refine ⟨F, ρ, x, S, e1, fun v F1 H1 X1 r1 => ⟨F1, ρ, y, S.to X1, e2, fun u F2 H2 X2 r2 => ⟨F2, ρ, z, S.to (X1.trans X2), e3, fun w F3 H3 X3 r3 => ?_⟩⟩⟩
    cases r1 with
    | @tup a vs xs h1 r1 =>
      cases r2 with
      | @tup b ws ys h2 r2 =>
        cases r3 with
        | @tup c zs us h3 r3 =>
          have e' : zip3E xs ys us = some ds := e
          unfold zip3E at e'
          split at e'
          · rename_i hl
            cases e'
            have s23 := (X2.trans X3).f
            have h1' := sqT_mono s23 h1
            have h2' := sqT_mono X3.f h2
            exact ⟨a, b, c, vs, ws, zs, rfl, sqT_mono X3.fh h1', sqT_mono X3.fh h2', sqT_mono X3.fh h3, q _ F3 H3 (X1.trans (X2.trans X3)) (wk_zip3 h1' h2' h3 (r1.mono s23) (r2.mono X3.f) r3 hl.1 hl.2)⟩
          · cases e'
        | _ => cases e
      | _ => cases e
    | _ => cases e
end FD
end

section
set_option Elab.async false
set_option linter.all false
set_option maxRecDepth 100000
set_option maxHeartbeats 2000000
/-! FDi: list(zip(a, b, c)), three tuples of one length, not empty. -/
namespace FD
open PySem PySem.Spec PyProof.Rows L2 StX PySem.W

section
variable {prog : Program} {w : World} {A : Around} {E : Value → Shared → Prop} {s : Shared} {z TI TO T i1 i2 i3 : Addr} {fp1 fp2 fp3 : List Addr} {n1 n2 n3 i : Nat} {P1 P2 P3 : Nat → Value → Prop} {St1 St2 St3 : Nat → Heap → Prop} {f : Bool} {oT : Obj}
/-- next of a zip of three whose first tuple is still held: an item -/
theorem held3_item {Q : Value → Shared → Prop} (S : ZipSep3 z TI TO i1 i2 i3 fp1 fp2 fp3) (D1 : Draws prog w A i1 fp1 n1 P1 St1) (D2 : Draws prog w A i2 fp2 n2 P2 St2) (D3 : Draws prog w A i3 fp3 n3 P3 St3)
    (hz : IsZipHeld s.heap z TI TO T f) (hT : s.heap.get? T = some oT) (hTI : IsTupOf3 s.heap TI (.ref i1) (.ref i2) (.ref i3)) (st1 : St1 i s.heap) (st2 : St2 i s.heap) (st3 : St3 i s.heap) (l1 : i < n1) (l2 : i < n2) (l3 : i < n3)
    (hQ : ∀ x1 x2 x3 h' tk, P1 i x1 → P2 i x2 → P3 i x3 → IsZipHeld h' z TI TO T true → St1 (i + 1) h' → St2 (i + 1) h' → St3 (i + 1) h' → IsTupOf3 h' s.heap.objs.size x1 x2 x3 →
      (∀ c o, c ≠ z → c ≠ i1 → c ≠ i2 → c ≠ i3 → s.heap.get? c = some o → h'.get? c = some o) → Q (.ref s.heap.objs.size) { s with heap := h', toks := tk }) :
    wpAny (model prog w) A (Builtin.«zip.__next__» ⟨[.ref z], []⟩) (fun fin s' => ∃ v, fin = .done (.ret v) ∧ Q v s') E s := by
  obtain ⟨hp, g, d, tk0, os⟩ := s
  show wpAny _ _ (field (.ref z) 2 >>= _) _ _ _
  refine wpAny_bind (wpAny_field hz rfl (x := .bool false) rfl ?_)
  show wpAny _ _ (field (.ref z) 3 >>= _) _ _ _
  refine wpAny_bind (wpAny_field hz rfl (x := .ref TI) rfl (wpAny_bind (wpAny_seqItems hTI rfl ?_)))
  show wpAny _ _ (Builtin.SmallTypes.ownedTupleIsFree (.ref z) >>= _) _ _ _
  refine wpAny_bind (wpAny_tupleHeld_zip hz hT fun g0 hz0 k0 => ?_)
  simp only [Bool.false_eq_true, if_false]
  replace k0 : Heap.SameBut z hp g0 := k0
  refine wpAny_bind ?_
  rw [← Array.forIn_toList]
  simp only [List.forIn_cons, List.forIn_nil]
  refine wpAny_bind (wpAny_bind (wpAny_holding ?_))
  show wpAny _ _ (Builtin.SmallTypes.nextOf (.ref i1) >>= _) _ _ ⟨g0, g, d, tk0, os⟩
  refine wpAny_bind (D1.item i _ _ _ l1 (D1.over st1 k0 S.zf1) fun x1 g1 t1 y1 m1 k1 => wpAny_pure (wpAny_pure ?_))
  replace k1 : Heap.SameBut i1 g0 g1 := k1
  refine wpAny_bind (wpAny_bind (wpAny_holding ?_))
  show wpAny _ _ (Builtin.SmallTypes.nextOf (.ref i2) >>= _) _ _ ⟨g1, g, d, t1, os⟩
  refine wpAny_bind (D2.item i _ _ _ l2 (D2.over (D2.over st2 k0 S.zf2) k1 S.sep1_2) fun x2 g2 t2 y2 m2 k2 => wpAny_pure (wpAny_pure ?_))
  replace k2 : Heap.SameBut i2 g1 g2 := k2
  refine wpAny_bind (wpAny_bind (wpAny_holding ?_))
  show wpAny _ _ (Builtin.SmallTypes.nextOf (.ref i3) >>= _) _ _ ⟨g2, g, d, t2, os⟩
  refine wpAny_bind (D3.item i _ _ _ l3 (D3.over (D3.over (D3.over st3 k0 S.zf3) k1 S.sep1_3) k2 S.sep2_3) fun x3 g3 t3 y3 m3 k3 => wpAny_pure (wpAny_pure (wpAny_pure ?_)))
  replace k3 : Heap.SameBut i3 g2 g3 := k3
  show wpAny _ _ (newTuple [x1, x2, x3] >>= _) _ _ _
  refine wpAny_bind (wpAny_newTuple (wpAny_pure ⟨_, rfl, ?_⟩))
  have hn : g3.objs.size = hp.objs.size := by rw [k3.1, k2.1, k1.1, k0.1]
  have hz3 : IsZipHeld g3 z TI TO T true := k3.extBut _ _ S.zi3 (k2.extBut _ _ S.zi2 (k1.extBut _ _ S.zi1 hz0))
  have up : ∀ {c o}, g3.get? c = some o → (g3.push { cls := .type "tuple", data := .seq #[x1, x2, x3] }).get? c = some o := fun e => Heap.get?_push_of_some _ e
  have hq := hQ x1 x2 x3 (g3.push { cls := .type "tuple", data := .seq #[x1, x2, x3] }) t3 y1 y2 y3 (up hz3)
    (D1.frame _ _ _ (D1.over (D1.over m1 k2 S.sep2_1) k3 S.sep3_1) fun _ _ _ e => up e) (D2.frame _ _ _ (D2.over m2 k3 S.sep3_2) fun _ _ _ e => up e) (D3.frame _ _ _ m3 fun _ _ _ e => up e)
    (by show IsTupOf3 _ hp.objs.size _ _ _; rw [← hn]; exact Heap.get?_push_size _ rfl)
    fun c o c0 c1 c2 c3 e => up (k3.extBut _ _ c3 (k2.extBut _ _ c2 (k1.extBut _ _ c1 (k0.extBut _ _ c0 e))))
  show Q (.ref g3.objs.size) _
  rw [hn]
  exact hq
/-- .. its end, all three at once -/
theorem held3_end {Q : Fin → Shared → Prop} (S : ZipSep3 z TI TO i1 i2 i3 fp1 fp2 fp3) (D1 : Draws prog w A i1 fp1 n1 P1 St1)
    (hz : IsZipHeld s.heap z TI TO T f) (hT : s.heap.get? T = some oT) (hTI : IsTupOf3 s.heap TI (.ref i1) (.ref i2) (.ref i3)) (st1 : St1 n1 s.heap)
    (hE : ∀ h' e, (∀ c o, c ≠ z → c ≠ i1 → s.heap.get? c = some o → h'.get? c = some o) → (∃ o, h'.get? e = some o ∧ o.cls = .type "StopIteration") → E (.ref e) { s with heap := h' }) :
    wpAny (model prog w) A (Builtin.«zip.__next__» ⟨[.ref z], []⟩) Q E s := by
  obtain ⟨hp, g, d, tk0, os⟩ := s
  show wpAny _ _ (field (.ref z) 2 >>= _) _ _ _
  refine wpAny_bind (wpAny_field hz rfl (x := .bool false) rfl ?_)
  show wpAny _ _ (field (.ref z) 3 >>= _) _ _ _
  refine wpAny_bind (wpAny_field hz rfl (x := .ref TI) rfl (wpAny_bind (wpAny_seqItems hTI rfl ?_)))
  show wpAny _ _ (Builtin.SmallTypes.ownedTupleIsFree (.ref z) >>= _) _ _ _
  refine wpAny_bind (wpAny_tupleHeld_zip hz hT fun g0 hz0 k0 => ?_)
  simp only [Bool.false_eq_true, if_false]
  replace k0 : Heap.SameBut z hp g0 := k0
  refine wpAny_bind ?_
  rw [← Array.forIn_toList]
  simp only [List.forIn_cons, List.forIn_nil]
  refine wpAny_bind (wpAny_bind (wpAny_holding ?_))
  show wpAny _ _ (Builtin.SmallTypes.nextOf (.ref i1) >>= _) _ _ ⟨g0, g, d, tk0, os⟩
  refine wpAny_bind (D1.done ⟨g0, g, d, tk0, os⟩ _ _ (D1.over st1 k0 S.zf1) fun h' e he hs => ?_)
  replace he : Heap.ExtBut i1 g0 h' := he
  exact hE h' e (fun c o c0 c1 x => he _ _ c1 (k0.extBut _ _ c0 x)) hs
theorem next3_item {Q : Option Value → Shared → Prop} (S : ZipSep3 z TI TO i1 i2 i3 fp1 fp2 fp3) (D1 : Draws prog w A.in1 i1 fp1 n1 P1 St1) (D2 : Draws prog w A.in1 i2 fp2 n2 P2 St2) (D3 : Draws prog w A.in1 i3 fp3 n3 P3 St3)
    (hz : IsZipHeld s.heap z TI TO T f) (hT : s.heap.get? T = some oT) (hTI : IsTupOf3 s.heap TI (.ref i1) (.ref i2) (.ref i3)) (st1 : St1 i s.heap) (st2 : St2 i s.heap) (st3 : St3 i s.heap) (l1 : i < n1) (l2 : i < n2) (l3 : i < n3)
    (hQ : ∀ x1 x2 x3 h' tk, P1 i x1 → P2 i x2 → P3 i x3 → IsZipHeld h' z TI TO T true → St1 (i + 1) h' → St2 (i + 1) h' → St3 (i + 1) h' → IsTupOf3 h' s.heap.objs.size x1 x2 x3 →
      (∀ c o, c ≠ z → c ≠ i1 → c ≠ i2 → c ≠ i3 → s.heap.get? c = some o → h'.get? c = some o) → Q (some (.ref s.heap.objs.size)) { s with heap := h', toks := tk }) : wpAny (model prog w) A (pyNext (.ref z)) Q E s := by
  have hT' : s.TypeIs (.ref z) "zip" := ⟨_, hz, rfl⟩
  unfold pyNext
  refine wpAny_bind (wpAny_attempt (wpAny_callSpecial?_slot (name := Str.ofString "__next__") hT' F.slot_zip_next (wpAny_call_entry F.slot_zip_next hT' F.entry_zip_next ?_ (F.args_zip_next_1 _))))
  exact held3_item S D1 D2 D3 hz hT hTI st1 st2 st3 l1 l2 l3 fun x1 x2 x3 h' tk q1 q2 q3 q4 q5 q6 q7 q8 q9 => wpAny_pure (hQ x1 x2 x3 h' tk q1 q2 q3 q4 q5 q6 q7 q8 q9)
theorem next3_end {Q : Option Value → Shared → Prop} (S : ZipSep3 z TI TO i1 i2 i3 fp1 fp2 fp3) (D1 : Draws prog w A.in1 i1 fp1 n1 P1 St1)
    (hz : IsZipHeld s.heap z TI TO T f) (hT : s.heap.get? T = some oT) (hTI : IsTupOf3 s.heap TI (.ref i1) (.ref i2) (.ref i3)) (st1 : St1 n1 s.heap)
    (hQ : ∀ h', (∀ c o, c ≠ z → c ≠ i1 → s.heap.get? c = some o → h'.get? c = some o) → Q none { s with heap := h' }) : wpAny (model prog w) A (pyNext (.ref z)) Q E s := by
  have hT' : s.TypeIs (.ref z) "zip" := ⟨_, hz, rfl⟩
  unfold pyNext
  refine wpAny_bind (wpAny_attempt (wpAny_callSpecial?_slot (name := Str.ofString "__next__") hT' F.slot_zip_next (wpAny_call_entry F.slot_zip_next hT' F.entry_zip_next (held3_end S D1 hz hT hTI st1 fun h' e hk he => ?_) (F.args_zip_next_1 _))))
  obtain ⟨o, ho, hc⟩ := he
  exact wpAny_bind (wpAny_isInstance (T := "StopIteration") (b := true) ⟨o, ho, hc⟩ isSubtype_stop (wpAny_pure (hQ _ hk)))
end
theorem zip_no_len : typeLookup (.type "zip") "__len__" = pure none := by rw [typeLookup_type, builtinLookup_eq_fast]; kernel_rfl
theorem zip_no_hint : typeLookup (.type "zip") "__length_hint__" = pure none := by rw [typeLookup_type, builtinLookup_eq_fast]; kernel_rfl

/-! ### the loop that fills the list -/
/-- the state at turn i: S the list; N where the zip's cells begin; F, H as they stood before the list -/
structure L3 (X : Cx) (pins : List (Addr × Obj)) (σ : L2.St) (F H : Hp) (N S a b c : Addr) (dz : List D) (acc : List V) (Hi : Hp) (s : Shared) : Prop where
  inv : Inv X pins σ Hi s
  ext : ∃ Fi : Hp, Ext F H Fi Hi ∧ Fi S = none ∧ Rps X.K Fi acc (dz.take acc.length)
  lst : Hi S = some (.lst acc)
  len : acc.length ≤ dz.length
  fp : ∀ d ∈ cells6 N, FpOk X pins Hi d
  ti : IsTupOf3 s.heap (N + 3) (.ref N) (.ref (N + 1)) (.ref (N + 2))
  to : ∃ u1 u2 u3, IsTupOf3 s.heap (N + 4) u1 u2 u3
  t1 : s.heap.IsTupleIter N a acc.length
  t2 : s.heap.IsTupleIter (N + 1) b acc.length
  t3 : s.heap.IsTupleIter (N + 2) c acc.length
  zp : IsZip s.heap (N + 5) (N + 3) (N + 4) .none ∨ ∃ T f us, IsZipHeld s.heap (N + 5) (N + 3) (N + 4) T f ∧ Hi T = some (.tup us)
section
variable {X : Cx} {pins : List (Addr × Obj)} {σ : L2.St} {F H Hi : Hp} {N S a b c : Addr} {xs ys us : List D} {acc : List V} {s : Shared} {vx vy vu : List V}
theorem tup_there {Hi : Hp} {T : Addr} {us : List V} (I : Inv X pins σ Hi s) (h : Hi T = some (.tup us)) : ∃ o, s.heap.get? T = some o := by
  obtain ⟨_, its, _, o, ho, _⟩ := I.hok _ _ h
  exact ⟨o, ho⟩
/-- what a turn gives -/
def T3 (X : Cx) (pins : List (Addr × Obj)) (σ : L2.St) (F H : Hp) (N S a b c : Addr) (dz : List D) (acc : List V) (r : Option Value) (s' : Shared) : Prop := match r with
  | none => acc.length = dz.length ∧ ∃ H' F', Inv X pins σ H' s' ∧ Ext F H F' H' ∧ F' S = none ∧ H' S = some (.lst acc) ∧ Rps X.K F' acc dz
  | some u => acc.length < dz.length ∧ ∃ v H', Inv X pins σ H' s' ∧ RelV v u ∧ H' S = some (.lst acc) ∧
      ∀ s2 : Shared, Inv X pins σ (upd H' S (.lst (acc ++ [v]))) s2 → (∀ d o, d ≠ S → s'.heap.get? d = some o → s2.heap.get? d = some o) → L3 X pins σ F H N S a b c dz (acc ++ [v]) (upd H' S (.lst (acc ++ [v]))) s2
theorem ext_put {F H F' H' : Hp} {S : Addr} {o : HO} (x : Ext F H F' H') (h : H S = none) (hf : F' S = none) : Ext F H F' (upd H' S o) :=
  ⟨x.f, fun d u e => by rw [upd_ne (fun z => by subst z; rw [h] at e; cases e)]; exact x.h d u e, fun d u e => by rw [upd_ne (fun z => by subst z; rw [hf] at e; cases e)]; exact x.fh d u e, x.nw⟩
theorem ne4 (N : Nat) : N + 4 ≠ N ∧ N + 4 ≠ N + 1 ∧ N + 4 ≠ N + 2 := by omega
theorem get_rel {vs : List V} {its : List Value} {i : Nat} {x : Value} (r : Vals vs its) (e : its.toArray[i]? = some x) : ∃ v, vs[i]? = some v ∧ RelV v x := by
  simp only [List.getElem?_toArray] at e
  have hi : i < its.length := (List.getElem?_eq_some_iff.mp e).1
  have hl := r.length
  obtain ⟨u, g1, g2⟩ := r.get (List.getElem?_eq_getElem (show i < vs.length by omega))
  rw [e] at g1; cases g1
  exact ⟨_, List.getElem?_eq_getElem _, g2⟩
theorem zip3D_at : ∀ {xs ys us : List D} {i : Nat} {x y u : D}, xs[i]? = some x → ys[i]? = some y → us[i]? = some u → (zip3D xs ys us)[i]? = some (.tup [x, y, u])
  | _ :: _, _ :: _, _ :: _, 0, _, _, _, h1, h2, h3 => by
    simp at h1 h2 h3
    subst h1 h2 h3
    rfl
  | _ :: _, _ :: _, _ :: _, i + 1, _, _, _, h1, h2, h3 => by
    have := zip3D_at (i := i) (by simpa using h1) (by simpa using h2) (by simpa using h3)
    simpa [zip3D] using this
theorem l3_turn {A : Around} {E : Value → Shared → Prop} (hS0 : H S = none) (L : L3 X pins σ F H N S a b c (zip3D xs ys us) acc Hi s) (hh : A.handled = none) (ha : a < N) (hb : b < N) (hc : c < N)
    (tx : SqT X.K F a vx) (ty : SqT X.K F b vy) (tu : SqT X.K F c vu) (rx : Rps X.K F vx xs) (ry : Rps X.K F vy ys) (ru : Rps X.K F vu us) (l1 : xs.length = ys.length) (l2 : xs.length = us.length) :
    wpAny (model X.prog X.w) A (pyNext (.ref (N + 5))) (T3 X pins σ F H N S a b c (zip3D xs ys us) acc) E s := by
  obtain ⟨I, ⟨Fi, Ex, fS, rv⟩, hS, hl, fp, z2, ⟨w1, w2, w3, z3⟩, t1, t2, t3, hz⟩ := L
  have tx' := sqT_mono Ex.fh (sqT_mono Ex.f tx)
  have ty' := sqT_mono Ex.fh (sqT_mono Ex.f ty)
  have tu' := sqT_mono Ex.fh (sqT_mono Ex.f tu)
  obtain ⟨ia, ra, pa, _⟩ := I.tuple tx'
  obtain ⟨ib, rb, pb, _⟩ := I.tuple ty'
  obtain ⟨ic, rc, pc, _⟩ := I.tuple tu'
  have q1 := ra.length
  have q2 := rb.length
  have q3 := rc.length
  have q4 := rx.length
  have q5 := ry.length
  have q6 := ru.length
  have q7 := zip3D_len l1 l2
  have Sp := zip_sep3 (N := N) (fp1 := [a]) (fp2 := [b]) (fp3 := [c]) (by simpa using ha) (by simpa using hb) (by simpa using hc)
  have D1 := Draws.tuple (prog := X.prog) (w := X.w) (A := A.in1) hh N a (Nat.ne_of_lt ha) ia.toArray
  have D2 := Draws.tuple (prog := X.prog) (w := X.w) (A := A.in1) hh (N + 1) b (Nat.ne_of_lt (Nat.lt_succ_of_lt hb)) ib.toArray
  have D3 := Draws.tuple (prog := X.prog) (w := X.w) (A := A.in1) hh (N + 2) c (Nat.ne_of_lt (Nat.lt_succ_of_lt (Nat.lt_succ_of_lt hc))) ic.toArray
  have n1 : ia.toArray.size = xs.length := by simp only [List.size_toArray]; omega
  have n2 : ib.toArray.size = xs.length := by simp only [List.size_toArray]; omega
  have n3 : ic.toArray.size = xs.length := by simp only [List.size_toArray]; omega
  have hfr : Hi s.heap.objs.size = none := I.hok.fresh (Nat.le_refl _)
  have neS : S ≠ s.heap.objs.size := ne_of_none hS hfr
  have nS : ∀ d ∈ cells6 N, d ≠ S := fun d hd z => by
    have := (fp d hd).1
    rw [z, hS] at this; cases this
  have lt6 : ∀ d ∈ cells6 N, d < s.heap.objs.size := fun d hd => by
    rcases mem6 hd with q | q | q | q | q | q
    · rcases hz with hz | ⟨T, f, us, hz, _⟩
      · rw [q]; exact Heap.lt_size hz
      · rw [q]; exact Heap.lt_size hz
    · rw [q]; exact Heap.lt_size z2
    · rw [q]; exact Heap.lt_size z3
    · obtain ⟨_, e, _⟩ := t1
      rw [q]; exact Heap.lt_size e
    · obtain ⟨_, e, _⟩ := t2
      rw [q]; exact Heap.lt_size e
    · obtain ⟨_, e, _⟩ := t3
      rw [q]; exact Heap.lt_size e
  by_cases hi : acc.length < xs.length
  · -- what follows a tuple of three, however it came
    have fin : ∀ (x1 x2 x3 : Value) (h' : Heap) (tk : Nat) (f : Bool) (T0 : Addr), ia.toArray[acc.length]? = some x1 → ib.toArray[acc.length]? = some x2 → ic.toArray[acc.length]? = some x3 → IsZipHeld h' (N + 5) (N + 3) (N + 4) T0 f → (T0 = s.heap.objs.size ∨ ∃ us, Hi T0 = some (.tup us)) →
        h'.IsTupleIter N a (acc.length + 1) → h'.IsTupleIter (N + 1) b (acc.length + 1) → h'.IsTupleIter (N + 2) c (acc.length + 1) → IsTupOf3 h' (N + 3) (.ref N) (.ref (N + 1)) (.ref (N + 2)) → (∃ u1 u2 u3, IsTupOf3 h' (N + 4) u1 u2 u3) → IsTupOf3 h' s.heap.objs.size x1 x2 x3 →
        (∀ d o, d ∉ cells6 N → s.heap.get? d = some o → h'.get? d = some o) → T3 X pins σ F H N S a b c (zip3D xs ys us) acc (some (.ref s.heap.objs.size)) { s with heap := h', toks := tk } := by
      intro x1 x2 x3 h' tk f T0 e1 e2 e3 hzh hT0 m1 m2 m3 w2 w3 hT hk
      obtain ⟨v1, f1, r1⟩ := get_rel ra e1
      obtain ⟨v2, f2, r2⟩ := get_rel rb e2
      obtain ⟨v3, f3, r3⟩ := get_rel rc e3
      obtain ⟨d1, k1, p1⟩ := rx.get' f1
      obtain ⟨d2, k2, p2⟩ := ry.get' f2
      obtain ⟨d3, k3, p3⟩ := ru.get' f3
      have new : ObjOk X.prog X.w (upd Hi s.heap.objs.size (.tup [v1, v2, v3])) h' s.heap.objs.size (.tup [v1, v2, v3]) := ⟨by show 3 ≤ sizeLine; decide, [x1, x2, x3], .cons r1 (.cons r2 (.cons r3 .nil)), ⟨_, hT, rfl, _, rfl⟩⟩
      have I1 : Inv X pins σ (upd Hi s.heap.objs.size (.tup [v1, v2, v3])) { s with heap := h', toks := tk } := I.turnedNew (t' := tk) (ch := cells6 N) (fun d o hd e => hk d o hd e) fp (Nat.le_refl _) new
      have Y := Ext.new (o := .tup [v1, v2, v3]) Ex.fh hfr
      have fS' : upd Fi s.heap.objs.size (.tup [v1, v2, v3]) S = none := by rw [upd_ne neS]; exact fS
      refine ⟨by rw [q7]; exact hi, .ref s.heap.objs.size, _, I1, rfl, by rw [upd_ne neS]; exact hS, fun s2 I2 hk2 => ?_⟩
      have up : ∀ {d o}, d ∈ cells6 N → h'.get? d = some o → s2.heap.get? d = some o := fun {d o} hd e => hk2 d o (nS d hd) e
      refine ⟨I2, ⟨_, ext_put (Ex.trans Y) hS0 fS', fS', ?_⟩, upd_same, by rw [List.length_append, q7, List.length_singleton]; omega, fun d hd => ⟨?_, (fp d hd).2⟩, up (by simp [cells6]) w2, ?_, ?_, ?_, ?_, .inr ⟨T0, f, ?_⟩⟩
      · rw [List.length_append, List.length_singleton, List.take_succ, zip3D_at k1 k2 k3]
        refine (rv.mono Y.f).append (.one (.tup (SqT.of upd_same) (.cons ((p1.mono Ex.f).mono Y.f) (.cons ((p2.mono Ex.f).mono Y.f) (.cons ((p3.mono Ex.f).mono Y.f) .nil)))))
      · rw [upd_ne (nS d hd), upd_ne (Nat.ne_of_lt (lt6 d hd))]; exact (fp d hd).1
      · obtain ⟨u1, u2, u3, w3⟩ := w3
        exact ⟨u1, u2, u3, up (by simp [cells6]) w3⟩
      · rw [List.length_append]; exact m1.at fun o e => up (by simp [cells6]) e
      · rw [List.length_append]; exact m2.at fun o e => up (by simp [cells6]) e
      · rw [List.length_append]; exact m3.at fun o e => up (by simp [cells6]) e
      · rcases hT0 with rfl | ⟨us', e⟩
        · exact ⟨[v1, v2, v3], up (by simp [cells6]) hzh, by rw [upd_ne (Ne.symm neS)]; exact upd_same⟩
        · refine ⟨us', up (by simp [cells6]) hzh, ?_⟩
          rw [upd_ne (fun z => by rw [z, hS] at e; cases e), upd_ne (ne_of_none e hfr)]; exact e
    rcases hz with hz | ⟨T, f, us', hz, hTH⟩
    · refine wpAny_pyNext_zipD3_item Sp D1 D2 D3 hz z2 z3 ⟨t1, pa⟩ ⟨t2, pb⟩ ⟨t3, pc⟩ (by omega) (by omega) (by omega) fun x1 x2 x3 h' tk y1 y2 y3 b1 b2 m1 m2 m3 b5 b6 hk => ?_
      exact fin x1 x2 x3 h' tk false s.heap.objs.size y1 y2 y3 b1 (.inl rfl) m1.1 m2.1 m3.1 (hk _ _ Sp.TIz Sp.TITO Sp.TIi1 Sp.TIi2 Sp.TIi3 z2) ⟨_, _, _, b2⟩ b5 fun d o hd e => hk d o (fun z => hd (by simp [cells6, z])) (fun z => hd (by simp [cells6, z])) (fun z => hd (by simp [cells6, z])) (fun z => hd (by simp [cells6, z])) (fun z => hd (by simp [cells6, z])) e
    · obtain ⟨oT, hT⟩ := tup_there I hTH
      refine next3_item Sp D1 D2 D3 hz hT z2 ⟨t1, pa⟩ ⟨t2, pb⟩ ⟨t3, pc⟩ (by omega) (by omega) (by omega) fun x1 x2 x3 h' tk y1 y2 y3 b1 m1 m2 m3 b5 hk => ?_
      exact fin x1 x2 x3 h' tk true T y1 y2 y3 b1 (.inr ⟨us', hTH⟩) m1.1 m2.1 m3.1 (hk _ _ Sp.TIz Sp.TIi1 Sp.TIi2 Sp.TIi3 z2) ⟨_, _, _, hk _ _ (Nat.ne_of_lt (Nat.lt_succ_self _)) (ne4 N).1 (ne4 N).2.1 (ne4 N).2.2 z3⟩ b5 fun d o hd e => hk d o (fun z => hd (by simp [cells6, z])) (fun z => hd (by simp [cells6, z])) (fun z => hd (by simp [cells6, z])) (fun z => hd (by simp [cells6, z])) e
  · have ei : acc.length = xs.length := by omega
    have fin : ∀ (h' : Heap) (tk : Nat), (∀ d o, d ∉ cells6 N → s.heap.get? d = some o → h'.get? d = some o) → T3 X pins σ F H N S a b c (zip3D xs ys us) acc none { s with heap := h', toks := tk } := fun h' tk hk => by
      refine ⟨by omega, Hi, Fi, I.turnedL (t' := tk) (ch := cells6 N) (fun d o hd e => hk d o hd e) fp, Ex, fS, hS, ?_⟩
      rw [ei, ← q7, List.take_length] at rv
      exact rv
    rcases hz with hz | ⟨T, f, us', hz, hTH⟩
    · exact wpAny_pyNext_zipD3_end Sp D1 D2 D3 hz z2 z3 ⟨t1, pa⟩ ⟨t2, pb⟩ ⟨t3, pc⟩ (by omega) (by omega) (by omega) (by omega) fun h' tk hk => fin h' tk fun d o hd e => hk d o (fun z => hd (by simp [cells6, z])) (fun z => hd (by simp [cells6, z])) (fun z => hd (by simp [cells6, z])) (fun z => hd (by simp [cells6, z])) (fun z => hd (by simp [cells6, z])) e
    · obtain ⟨oT, hT⟩ := tup_there I hTH
      exact next3_end Sp D1 hz hT z2 (by rw [n1, ← ei]; exact ⟨t1, pa⟩) fun h' hk => fin h' s.toks fun d o hd e => hk d o (fun z => hd (by simp [cells6, z])) (fun z => hd (by simp [cells6, z])) e
/-- the whole loop -/
theorem l3_loop {A : Around} {Rs : Result → Shared → Prop} {fin : Value} (hS0 : H S = none) (hh : A.in1.handled = none) (ha : a < N) (hb : b < N) (hc : c < N)
    (tx : SqT X.K F a vx) (ty : SqT X.K F b vy) (tu : SqT X.K F c vu) (rx : Rps X.K F vx xs) (ry : Rps X.K F vy ys) (ru : Rps X.K F vu us) (l1 : xs.length = ys.length) (l2 : xs.length = us.length) (hz : xs.length ≤ 100000)
    (hQ : ∀ s' H' F' acc, Inv X pins σ H' s' → Ext F H F' H' → F' S = none → H' S = some (.lst acc) → Rps X.K F' acc (zip3D xs ys us) → Rs (.ok (.ret fin)) s') :
    ∀ (k : Nat) (acc : List V) (Hi : Hp) (s : Shared), xs.length - acc.length = k → L3 X pins σ F H N S a b c (zip3D xs ys us) acc Hi s → codeAny (model X.prog X.w) A (.builtin "list.extend.loop" ⟨[.ref S, .ref (N + 5), fin], []⟩) Rs s := by
  intro k
  induction k using Nat.strongRecOn with
  | _ k ih =>
    intro acc Hi s hk L
    refine codeAny_builtin PySem.F.entry_extend_loop ?_
    rw [Around.under_plainId PySem.F.plain_extend_loop _]
    show wpAny _ A.in1 (pyNext (.ref (N + 5)) >>= _) _ _ s
    refine wpAny_bind (wpAny_mono (l3_turn (E := fun _ _ => False) hS0 L hh ha hb hc tx ty tu rx ry ru l1 l2) (fun r s' hr => ?_) fun e s' he => he.elim)
    cases r with
    | none =>
      obtain ⟨_, H', F', I', X', f', h', r'⟩ := hr
      exact wpAny_pure (hQ s' H' F' acc I' X' f' h' r')
    | some u =>
      obtain ⟨hlt, v, H', I', rv, hS', hL⟩ := hr
      rw [zip3D_len l1 l2] at hlt
      show wpAny _ A.in1 (updateSeq S (·.push u) >>= _) _ _ _
      obtain ⟨z, its, n, r2, hl, e⟩ := I'.lstM hS'
      have sz : 100000 < sizeLine := by rw [sizeLine_eq]; decide
      refine wpAny_bind (wpAny_updateSeq e rfl (wpAny_pure ⟨plainId_quiet PySem.F.plain_extend_loop _, ?_⟩) (by rw [List.size_toArray]; omega) (by show (its.toArray.push u).size ≤ sizeLine + 1; rw [Array.size_push, List.size_toArray]; omega))
      refine ih (xs.length - (acc.length + 1)) (by omega) (acc ++ [v]) _ _ (by rw [List.length_append]; rfl) (hL _ (I'.lset (its' := its ++ [u]) (t' := s'.toks) hS' e (by simp) (r2.append (.cons rv .nil)) (by rw [List.length_append, List.length_singleton]; omega)) fun d o hd q => ?_)
      exact (Heap.get?_update_other _ _ (Ne.symm hd)).trans q
/-- extend: the empty list at S takes what the zip gives -/
theorem l3_extend {A : Around} {Rs : Result → Shared → Prop} (hS0 : H S = none) (hh : A.in1.handled = none) (ha : a < N) (hb : b < N) (hc : c < N)
    (tx : SqT X.K F a vx) (ty : SqT X.K F b vy) (tu : SqT X.K F c vu) (rx : Rps X.K F vx xs) (ry : Rps X.K F vy ys) (ru : Rps X.K F vu us) (l1 : xs.length = ys.length) (l2 : xs.length = us.length) (hz : xs.length ≤ 100000)
    (hQ : ∀ s' H' F' acc, Inv X pins σ H' s' → Ext F H F' H' → F' S = none → H' S = some (.lst acc) → Rps X.K F' acc (zip3D xs ys us) → Rs (.ok (.ret .none)) s') (L : L3 X pins σ F H N S a b c (zip3D xs ys us) [] Hi s)
    (hzp : IsZip s.heap (N + 5) (N + 3) (N + 4) .none) :
    wpAny (model X.prog X.w) A.in1 (Builtin.List.listExtendWith (.ref S) (.ref (N + 5)) .none)
      (fun fin s' => match fin with | .done f => Rs (.ok f) s' | .again c' => c'.quiet = true ∧ codeAny (model X.prog X.w) A c' Rs s') (fun e s' => Rs (.error e) s') s := by
  have I := L.inv
  have hS := L.lst
  have nS : ∀ d ∈ cells6 N, d ≠ S := fun d hd z => by
    have := (L.fp d hd).1
    rw [z, hS] at this; cases this
  have hT : s.TypeIs (.ref (N + 5)) "zip" := ⟨_, hzp, rfl⟩
  unfold Builtin.List.listExtendWith
  refine wpAny_bind (wpAny_typeOf hT ?_)
  have h1 : Builtin.List.listSameRef (.ref S) (.ref (N + 5)) = false := by simp [Builtin.List.listSameRef, (nS (N + 5) (by simp [cells6])).symm]
  have h2 : (Value.type "zip" == Value.type "list") = false := by decide
  have h3 : (Value.type "zip" == Value.type "tuple") = false := by decide
  simp only [h1, h2, h3, Bool.or_false, Bool.false_eq_true, if_false]
  refine wpAny_bind (wpAny_pyIter_zip hzp ?_)
  refine wpAny_bind (wpAny_holding ?_)
  unfold Builtin.List.listLengthHint
  refine wpAny_bind (wpAny_specialOf hT zip_no_len ?_)
  show wpAny _ A.in1 (specialOf (Value.ref (N + 5)) (Str.ofString "__length_hint__") >>= _) _ _ _
  refine wpAny_bind (wpAny_specialOf hT zip_no_hint ?_)
  refine wpAny_pure ?_
  obtain ⟨z, its, k, r3, hl3, e3⟩ := I.lstM hS
  cases r3
  refine wpAny_ite_split (fun _ => ?_) (fun _ => wpAny_pure ⟨plainId_quiet PySem.F.plain_extend_loop _, l3_loop hS0 hh ha hb hc tx ty tu rx ry ru l1 l2 hz hQ _ [] Hi s rfl L⟩)
  refine wpAny_bind (wpAny_rule ?_)
  refine wpAny_bind ?_
  show wpAny _ _ (updateSeq S (·.push .none) >>= fun _ => updateSeq S (·.pop)) _ _ _
  refine wpAny_bind (wpAny_updateSeq e3 rfl ?_)
  have I2 := I.lset (f := (·.push Value.none)) (its' := [Value.none]) (ys := [.non]) (t' := s.toks) hS e3 (by simp) (.cons rfl .nil) (by rw [List.length_singleton, sizeLine_eq]; decide)
  obtain ⟨z4, its4, k4, r4, hl4, e4⟩ := I2.lstM upd_same
  obtain ⟨u4, rfl, ru4⟩ := r4.one
  refine wpAny_updateSeq e4 rfl ?_ (by show 1 ≤ sizeLine; rw [sizeLine_eq]; decide) (by show 0 ≤ sizeLine + 1; exact Nat.zero_le _)
  have I3 := I2.lset (f := (·.pop)) (its := [u4]) (its' := []) (ys := []) (t' := s.toks) upd_same e4 (by rfl) .nil (Nat.zero_le _)
  rw [upd_upd] at I3
  have hH : upd Hi S (.lst []) = Hi := by
    funext b
    by_cases hb : b = S
    · rw [hb, upd_same, hS]
    · rw [upd_ne hb]
  rw [hH] at I3
  have up : ∀ {d o}, d ∈ cells6 N → s.heap.get? d = some o → ((s.heap.update S (Obj.mapSeq (·.push Value.none))).update S (Obj.mapSeq (·.pop))).get? d = some o := fun {d o} hd e =>
    (Heap.get?_update_other _ _ (Ne.symm (nS d hd))).trans ((Heap.get?_update_other _ _ (Ne.symm (nS d hd))).trans e)
  obtain ⟨_, ex, _, hl, fp, z2, ⟨u1, u2, u3, z3⟩, t1, t2, t3, _⟩ := L
  refine wpAny_pure ⟨plainId_quiet PySem.F.plain_extend_loop _, l3_loop hS0 hh ha hb hc tx ty tu rx ry ru l1 l2 hz hQ _ [] Hi _ rfl ⟨I3, ex, hS, hl, fp, up (by simp [cells6]) z2, ⟨u1, u2, u3, up (by simp [cells6]) z3⟩, t1.at fun o e => up (by simp [cells6]) e, t2.at fun o e => up (by simp [cells6]) e, t3.at fun o e => up (by simp [cells6]) e, .inl (up (by simp [cells6]) hzp)⟩⟩
end

def rZip3L (K : PySem.W.Frag) (F : Hp) (a b c : Addr) (dz : List D) : Hp → VK → Prop := fun H Q => ∀ S F' H' acc, Ext F H F' H' → H S = none → H' S = some (.lst acc) → F' S = none → Rps K F' acc dz → Q (.ref S) H'
/-- list(zip(a, b, c)) -/
def tListZip3 (K : PySem.W.Frag) (ta : TA) : TE := fun σ H Q => ta σ H fun vs H1 => ∃ F a b c vx vy vu xs ys us, vs = [.ref a, .ref b, .ref c] ∧ Same F H1 ∧ SqT K F a vx ∧ SqT K F b vy ∧ SqT K F c vu ∧ Rps K F vx xs ∧ Rps K F vy ys ∧ Rps K F vu us ∧ xs.length = ys.length ∧ xs.length = us.length ∧ xs.length ≤ 100000 ∧
  rZip3L K F a b c (zip3D xs ys us) H1 Q
theorem pe_listzip3 {X : Cx} {e e2 e3 : Expr} {ta : TA} {p p2 pos pos2 : Pos} (hc : X.calm = true) (hg0 : Gl X "list") (hm0 : X.mg "list" = none) (hg : Gl X "zip") (hm : X.mg "zip" = none) (ha : PA X [e, e2, e3] ta)
    (hs : starEach [e, e2, e3] X.env = (false, eval e X.env) :: starEach [e2, e3] X.env := by rfl) (hpl : (backTo pos (starEach [e2, e3] X.env)).any (·.1) = false := by rfl)
    (hs0 : starEach [.Call (.Name "zip" p) [e, e2, e3] [] pos] X.env = (false, eval (.Call (.Name "zip" p) [e, e2, e3] [] pos) X.env) :: starEach [] X.env := by rfl) (hpl0 : (backTo pos2 (starEach [] X.env)).any (·.1) = false := by rfl) :
    PE X (.Call (.Name "list" p2) [.Call (.Name "zip" p) [e, e2, e3] [] pos] [] pos2) (tListZip3 X.K ta) := by
  refine ⟨fun pins s σ H Q I h => ?_⟩
  refine wpAny_Call_Name_kw (ld_blt I hg0 hm0 boot_list (PyProof.Rows.callWith_type1 ?_ hs0 hpl0))
  rw [hs0]
  show wpAny _ _ (spliced ((false, eval (.Call (.Name "zip" p) [e, e2, e3] [] pos) X.env) :: backTo pos2 (starEach [] X.env))) _ _ s
  refine Calls.spliced_cons ?_
  refine Call_ (ld_blt I hg hm boot_zip (PyProof.Rows.callWith_type1 (thn (ha.run pos pins s σ H _ I h) fun ws s1 ⟨vs, H1, I1, r, q⟩ => ?_) hs hpl))
  obtain ⟨F, a, b, c, vx, vy, vu, xs, ys, us, rfl, fh, tx, ty, tu, rx, ry, ru, l1, l2, hz, q⟩ := q
  cases r with
  | cons e1 r =>
    cases r with
    | cons e2' r =>
      cases r with
      | cons e3' r =>
        cases r
        cases e1
        cases e2'
        cases e3'
        obtain ⟨i1, r1, p1, _⟩ := I1.tuple (sqT_mono fh tx)
        obtain ⟨i2, r2, p2, _⟩ := I1.tuple (sqT_mono fh ty)
        obtain ⟨i3, r3, p3, _⟩ := I1.tuple (sqT_mono fh tu)
        refine zip_begins3 (begins_tuple a i1.toArray) (begins_tuple b i2.toArray) (begins_tuple c i3.toArray) p1 p2 p3 fun h' z1 z2 z3 g1 g2 g3 hsz hk => Calls.spliced_nil ?_
        have I2 : Inv X pins σ H1 { s1 with heap := h' } := I1.kept (t' := s1.toks) hk
        have hfp : ∀ d ∈ cells6 s1.heap.objs.size, FpOk X pins H1 d := fun d hd => by
          have hle : s1.heap.objs.size ≤ d := by
            rcases mem6 hd with z | z | z | z | z | z <;> rw [z] <;> first | exact Nat.le_refl _ | exact Nat.le_add_right _ _
          exact I1.fpOk hle (I1.hok.fresh hle)
        have la := lt_of_tup p1
        have lb := lt_of_tup p2
        have lc := lt_of_tup p3
        generalize s1.heap.objs.size = N at *
        have fr : H1 h'.objs.size = none := I2.hok.fresh (Nat.le_refl _)
        refine callType_codes (Q₁ := fun obj s₁ => obj = .ref h'.objs.size ∧ s₁ = { s1 with heap := h'.push { cls := .type "list", data := .seq #[] } }) PySem.F.called_list (PySem.F.typeCall_list_1 _) PySem.F.entry_list_init
          (code_list_new _ ⟨rfl, rfl⟩) fun obj s₁ h₁ => ?_
        obtain ⟨rfl, rfl⟩ := h₁
        have hS : (h'.push { cls := .type "list", data := .seq #[] }).get? h'.objs.size = some { cls := .type "list", data := .seq #[] } := Heap.get?_push_size _ rfl
        refine ⟨⟨_, hS, rfl⟩, PySem.F.args_list_init_2 _ _, ?_⟩
        have I3 : Inv X pins σ (upd H1 h'.objs.size (.lst [])) { s1 with heap := h'.push { cls := .type "list", data := .seq #[] } } := I2.lnew (its := []) (t' := s1.toks) .nil (Nat.zero_le _)
        show wpAny _ _ (do let old ← Builtin.List.listItems (.ref h'.objs.size); Builtin.List.listUpdate (.ref h'.objs.size) (fun _ => #[]); letGo old.toList.reverse; Builtin.List.listExtendWith (.ref h'.objs.size) (.ref (N + 5)) .none) _ _ _
        refine wpAny_bind ?_
        unfold Builtin.List.listItems
        refine wpAny_bind (wpAny_seqItems hS rfl (wpAny_pure ?_))
        show wpAny _ _ (updateSeq h'.objs.size (fun _ => #[]) >>= fun _ => letGo (#[] : Array Value).toList.reverse >>= fun _ => Builtin.List.listExtendWith (.ref h'.objs.size) (.ref (N + 5)) .none) _ _ _
        refine wpAny_bind (wpAny_updateSeq hS rfl ?_)
        have I4 := I3.lset (f := fun _ => #[]) (its := []) (its' := []) (ys := []) (t' := s1.toks) upd_same hS rfl .nil (Nat.zero_le _)
        rw [upd_upd] at I4
        refine wpAny_bind (wpAny_letGo ?_)
        have up : ∀ {d o}, h'.get? d = some o → ((h'.push { cls := .type "list", data := .seq #[] }).update h'.objs.size (Obj.mapSeq fun _ => #[])).get? d = some o := fun {d o} e =>
          (Heap.get?_update_other _ _ (Ne.symm (Nat.ne_of_lt (Heap.lt_size e)))).trans (Heap.get?_push_of_some _ e)
        have lt6 : ∀ d ∈ cells6 N, d < h'.objs.size := fun d hd => by
          rcases mem6 hd with z | z | z | z | z | z <;> rw [z]
          · exact Heap.lt_size z1
          · exact Heap.lt_size z2
          · exact Heap.lt_size z3
          · exact Heap.lt_size g1
          · exact Heap.lt_size g2
          · exact Heap.lt_size g3
        have L : L3 X pins σ F H1 N h'.objs.size a b c (zip3D xs ys us) [] (upd H1 h'.objs.size (.lst [])) { s1 with heap := (h'.push { cls := .type "list", data := .seq #[] }).update h'.objs.size (Obj.mapSeq fun _ => #[]) } :=
          ⟨I4, ⟨F, Ext.free fh fr, fh.free fr, .nil⟩, upd_same, Nat.zero_le _, fun d hd => ⟨by rw [upd_ne (Nat.ne_of_lt (lt6 d hd))]; exact (hfp d hd).1, (hfp d hd).2⟩, up z2, ⟨_, _, _, up z3⟩, ⟨_, up g1, rfl, rfl⟩, ⟨_, up g2, rfl, rfl⟩, ⟨_, up g3, rfl, rfl⟩, .inl (up z1)⟩
        refine l3_extend (A := X.A.in1) (Rs := wants (fun r s₂ => r = .none ∧ EP X pins σ Q (.ref h'.objs.size) s₂) X.xe) fr (I1.ok.hd hc) la lb lc tx ty tu rx ry ru l1 l2 hz (fun s' H' F' acc I' X' f' hl' r' => ⟨rfl, .ref h'.objs.size, H', I', rfl, q _ F' H' acc X' fr hl' f' r'⟩) L (up z1)
def fZip3L (a b c : FE) : FL := fun ρ => (a ρ).bind fun x => (b ρ).bind fun y => (c ρ).bind fun z => match x, y, z with
  | .tup xs, .tup ys, .tup us => if xs.length ≤ 100000 then zip3E xs ys us else none
  | _, _, _ => none
theorem n_listzip3 {X : Cx} {F0 H0 : Hp} {a b c : Expr} {fa fb fc : FE} {p p2 pos pos2 : Pos} (hm0 : X.mg "list" = none) (hm : X.mg "zip" = none) (hcl : X.calm = true) (ha : PE X a (tD X.K F0 H0 fa)) (hb : PE X b (tD X.K F0 H0 fb)) (hc : PE X c (tD X.K F0 H0 fc)) (hg0 : Gl X "list" := by rfl) (hg : Gl X "zip" := by rfl)
    (hs : starEach [a, b, c] X.env = (false, eval a X.env) :: starEach [b, c] X.env := by rfl) (hs2 : starEach [b, c] X.env = (false, eval b X.env) :: starEach [c] X.env := by rfl) (hs3 : starEach [c] X.env = (false, eval c X.env) :: starEach [] X.env := by rfl)
    (hpl : (backTo pos (starEach [b, c] X.env)).any (·.1) = false := by rfl) (hs0 : starEach [.Call (.Name "zip" p) [a, b, c] [] pos] X.env = (false, eval (.Call (.Name "zip" p) [a, b, c] [] pos) X.env) :: starEach [] X.env := by rfl) (hpl0 : (backTo pos2 (starEach [] X.env)).any (·.1) = false := by rfl) :
    PE X (.Call (.Name "list" p2) [.Call (.Name "zip" p) [a, b, c] [] pos] [] pos2) (tN X.K F0 H0 (fZip3L fa fb fc)) :=
  (pe_listzip3 hcl hg0 hm0 hg hm (pa_cons ha (pa_cons hb (pa_cons hc pa_nil hs3) hs2) hs) hs hpl hs0 hpl0).imp fun σ H Q ⟨F, ρ, ds, S, e, q⟩ => by
    obtain ⟨x, e1, e⟩ := bind_some' e
    obtain ⟨y, e2, e⟩ := bind_some' e
    obtain ⟨z, e3, e⟩ := bind_some' e
    refine ⟨F, ρ, x, S, e1, fun v F1 H1 X1 r1 => ⟨F1, ρ, y, S.to X1, e2, fun u F2 H2 X2 r2 => ⟨F2, ρ, z, S.to (X1.trans X2), e3, fun w F3 H3 X3 r3 => ?_⟩⟩⟩
    cases r1 with
    | @tup a vs xs h1 r1 =>
      cases r2 with
      | @tup b ws ys h2 r2 =>
        cases r3 with
        | @tup c zs us h3 r3 =>
          have e' : (if xs.length ≤ 100000 then zip3E xs ys us else none) = some ds := e
          split at e'
          · rename_i hsz
            unfold zip3E at e'
            split at e'
            · rename_i hl
              cases e'
              have s23 := (X2.trans X3).f
              refine ⟨F3, a, b, c, vs, ws, zs, xs, ys, us, rfl, X3.fh, sqT_mono s23 h1, sqT_mono X3.f h2, h3, r1.mono s23, r2.mono X3.f, r3, hl.1, hl.2, hsz, fun S F' H' acc Y hS0 hS fS rr => ?_⟩
              have Y3 := X1.trans (X2.trans X3)
              exact q S acc F' H' (Y3.trans Y) (Y3.fresh hS0) hS fS rr
            · cases e'
          · cases e'
        | _ => cases e
      | _ => cases e
    | _ => cases e
end FD
end

section
set_option Elab.async false
set_option linter.all false
set_option maxRecDepth 100000
set_option maxHeartbeats 3200000
/-! FDg: sorted of pairs, sorted(set(ints)), xs[:0:-1]. -/
namespace FD
open PySem PySem.Spec PyProof.Rows L2 StX

/-! ### sorted(rows), rows pairs of ints -/
def lexLe (p q : Int × Int) : Bool := !SrtO.lexB q p
def insP (p : Int × Int) : List (Int × Int) → List (Int × Int)
  | [] => [p]
  | q :: r => if lexLe p q = true then p :: q :: r else q :: insP p r
def sortPs : List (Int × Int) → List (Int × Int)
  | [] => []
  | p :: r => insP p (sortPs r)
def mkP (p : Int × Int) : D := .tup [.int p.1, .int p.2]
def asP : D → Option (Int × Int)
  | .tup [.int a, .int b] => some (a, b)
  | _ => none
def asPs : List D → Option (List (Int × Int))
  | [] => some []
  | d :: r => (asP d).bind fun p => (asPs r).bind fun ps => some (p :: ps)
theorem lexLe_iff {p q : Int × Int} : lexLe p q = true ↔ p.1 < q.1 ∨ (p.1 = q.1 ∧ p.2 ≤ q.2) := by
  unfold lexLe
  have h := SrtO.lexB_no (p := q) (q := p)
  cases hb : SrtO.lexB q p
  · have := h.mp hb
    simp
    omega
  · have : ¬ ¬(q.1 < p.1 ∨ q.1 = p.1 ∧ q.2 < p.2) := fun z => by rw [h.mpr z] at hb; cases hb
    simp
    omega
theorem insP_perm (p : Int × Int) : ∀ l, (insP p l).Perm (p :: l)
  | [] => List.Perm.refl _
  | q :: r => by
    unfold insP
    split
    · exact List.Perm.refl _
    · exact ((insP_perm p r).cons q).trans (List.Perm.swap p q r)
theorem sortPs_perm : ∀ l, (sortPs l).Perm l
  | [] => List.Perm.refl _
  | p :: r => (insP_perm p _).trans ((sortPs_perm r).cons p)
theorem insP_sorted (p : Int × Int) : ∀ l : List (Int × Int), l.Pairwise (fun a b => lexLe a b = true) → (insP p l).Pairwise fun a b => lexLe a b = true
  | [], _ => List.pairwise_singleton _ _
  | q :: r, h => by
    have h' := List.pairwise_cons.mp h
    unfold insP
    split
    · rename_i hl
      refine List.pairwise_cons.mpr ⟨fun x hx => ?_, h⟩
      rcases List.mem_cons.mp hx with e | hx
      · rw [e]; exact hl
      · have a := lexLe_iff.mp hl
        have b := lexLe_iff.mp (h'.1 x hx)
        exact lexLe_iff.mpr (by omega)
    · rename_i hl
      refine List.pairwise_cons.mpr ⟨fun x hx => ?_, insP_sorted p r h'.2⟩
      rcases List.mem_cons.mp ((insP_perm p r).mem_iff.mp hx) with e | hx
      · have a : ¬ _ := fun z => hl (lexLe_iff.mpr z)
        rw [e]
        exact lexLe_iff.mpr (by omega)
      · exact h'.1 x hx
theorem sortPs_sorted : ∀ l, (sortPs l).Pairwise fun a b => lexLe a b = true
  | [] => .nil
  | p :: r => insP_sorted p _ (sortPs_sorted r)
/-- sorted rearrangements of each other are one list -/
theorem sorted_uniq {α : Type} {le : α → α → Prop} (anti : ∀ a b, le a b → le b a → a = b) : ∀ {l m : List α}, l.Perm m → l.Pairwise le → m.Pairwise le → l = m
  | [], m, h, _, _ => (List.Perm.eq_nil h.symm).symm
  | x :: l, [], h, _, _ => absurd h.length_eq (by simp)
  | x :: l, y :: m, h, hl, hm => by
    have hl' := List.pairwise_cons.mp hl
    have hm' := List.pairwise_cons.mp hm
    have e : x = y := by
      rcases List.mem_cons.mp (h.mem_iff.mp (List.mem_cons_self (a := x) (l := l))) with e | hx
      · exact e
      · rcases List.mem_cons.mp (h.mem_iff.mpr (List.mem_cons_self (a := y) (l := m))) with e | hy
        · exact e.symm
        · exact anti x y (hl'.1 y hy) (hm'.1 x hx)
    subst e
    rw [sorted_uniq anti (List.Perm.cons_inv h) hl'.2 hm'.2]
theorem sortPs_uniq {l m : List (Int × Int)} (h : l.Perm m) (hs : l.Pairwise fun a b => SrtO.lexB b a = false) : l = sortPs m := by
  refine sorted_uniq (le := fun a b => lexLe a b = true) (fun a b h1 h2 => ?_) (h.trans (sortPs_perm m).symm) (hs.imp fun {a b} q => ?_) (sortPs_sorted m)
  · have a1 := lexLe_iff.mp h1
    have a2 := lexLe_iff.mp h2
    exact Prod.ext (by omega) (by omega)
  · unfold lexLe
    rw [q]; rfl
def kH (h : Heap) : Value → Int × Int
  | .ref a => match h.get? a with
    | some o => match o.data with
      | .seq x _ => match x.toList with
        | [.int i _, .int j _] => (i, j)
        | _ => (0, 0)
      | _ => (0, 0)
    | none => (0, 0)
  | _ => (0, 0)
/-- xs stand for the pairs ps -/
inductive Prs (K : PySem.W.Frag) (F : Hp) : List V → List (Int × Int) → Prop
  | nil : Prs K F [] []
  | cons {a : Addr} {p : Int × Int} {vs : List V} {ps : List (Int × Int)} : SqT K F a [.int p.1, .int p.2] → Prs K F vs ps → Prs K F (.ref a :: vs) (p :: ps)
theorem Prs.rps {K : PySem.W.Frag} {F : Hp} : ∀ {vs : List V} {ps : List (Int × Int)}, Prs K F vs ps → Rps K F vs (ps.map mkP)
  | _, _, .nil => .nil
  | _, _, .cons h r => .cons (.tup h (.cons (.int _) (.cons (.int _) .nil))) r.rps
theorem asP_some {d : D} {p : Int × Int} (h : asP d = some p) : d = mkP p := by
  unfold asP at h
  split at h
  · cases h; rfl
  · cases h
theorem asPs_prs {K : PySem.W.Frag} {F : Hp} : ∀ {vs : List V} {ds : List D} {ps : List (Int × Int)}, Rps K F vs ds → asPs ds = some ps → Prs K F vs ps
  | _, _, _, .nil, h => by cases h; exact .nil
  | _, _, _, .cons r t, h => by
    obtain ⟨p, e1, h⟩ := bind_some' h
    obtain ⟨ps, e2, h⟩ := bind_some' h
    cases h
    rw [asP_some e1] at r
    cases r with
    | tup h r =>
      cases r with
      | cons r1 r =>
        cases r with
        | cons r2 r =>
          cases r
          cases r1
          cases r2
          exact .cons h (asPs_prs t e2)
theorem Prs.ref {K : PySem.W.Frag} {F : Hp} : ∀ {vs : List V} {ps : List (Int × Int)}, Prs K F vs ps → ∀ x ∈ vs, ∃ a, x = V.ref a
  | _, _, .cons h r, x, hx => by
    rcases List.mem_cons.mp hx with e | hx
    · exact ⟨_, e⟩
    · exact r.ref x hx
def rSortP (K : PySem.W.Frag) : List V → Hp → VK → Prop := fun vs H Q => ∃ F a xs ps, vs = [V.ref a] ∧ SqL K H a xs ∧ Same F H ∧ Prs K F xs ps ∧ ∀ ys p, Prs K F ys (sortPs ps) → H p = none → Q (.ref p) (upd H p (.lst ys))
section
variable {X : Cx}
theorem cr_sortP : CallR X (.builtin "sorted") (rSortP X.K) := by
  intro pins s σ H vs us Q I r h
  obtain ⟨F, a, xs, ps, rfl, hs, sm, hp, q⟩ := h
  obtain ⟨its, rv, hl, hz⟩ := I.list hs
  obtain ⟨u, rfl, ru⟩ := vals1 r
  obtain rfl : u = Value.ref a := ru
  obtain ⟨e1, e2⟩ := refs_back rv hp.ref
  have key : ∀ {xs : List V} {ps : List (Int × Int)} {its : List Value}, Prs X.K F xs ps → Vals xs its → its.map (kH s.heap) = ps ∧ ∀ v ∈ its, Srt.IsPair s.heap v (kH s.heap v).1 (kH s.heap v).2 ∧ SqT X.K F (match v with | .ref a => a | _ => 0) [.int (kH s.heap v).1, .int (kH s.heap v).2] := by
    intro xs ps its h
    induction h generalizing its with
    | nil =>
      intro r
      cases r
      exact ⟨rfl, fun v hv => by cases hv⟩
    | @cons t p vs ps h r ih =>
      intro rv
      cases rv with
      | cons r1 rv =>
        cases r1
        obtain ⟨its2, r2, ⟨o, ho, hc, n, hd⟩, _⟩ := I.tuple (sqT_mono sm h)
        obtain ⟨u1, u2, rfl, ri, rj⟩ := vals2 r2
        obtain ⟨t1, rfl⟩ := ri
        obtain ⟨t2, rfl⟩ := rj
        have ek : kH s.heap (.ref t) = p := by
          unfold kH
          simp only [ho, hd]
        obtain ⟨i1, i2⟩ := ih rv
        refine ⟨by rw [List.map_cons, i1, ek], fun v hv => ?_⟩
        rcases List.mem_cons.mp hv with e | hv
        · subst e
          rw [ek]
          exact ⟨⟨t, o, t1, t2, n, rfl, ho, hc, hd⟩, h⟩
        · exact i2 v hv
  obtain ⟨k1, k2⟩ := key hp rv
  refine SrtO.sorted_pairsO (k := kH s.heap) hl.isList (by rw [← rv.length]; exact hz) (fun v hv => (k2 v hv).1) fun h' d out h1 h2 kp hd hn => ?_
  have h3 : ∀ u ∈ out, ∃ a, u = Value.ref a := fun u hu => e2 u (h2.perm.mem_iff.mp hu)
  obtain ⟨n, hn⟩ := hn
  have eo : out.map (kH s.heap) = sortPs ps := sortPs_uniq (by rw [← k1]; exact h2.perm.map _) (List.pairwise_map.mpr h1)
  have po : ∀ {l : List Value}, (∀ u ∈ l, u ∈ its) → Prs X.K F (l.map backV) (l.map (kH s.heap)) := by
    intro l
    induction l with
    | nil => intro _; exact .nil
    | cons u l ih =>
      intro hm
      have hu := hm u List.mem_cons_self
      obtain ⟨b, rfl⟩ := e2 u hu
      exact .cons (k2 _ hu).2 (ih fun v hv => hm v (List.mem_cons_of_mem _ hv))
  refine ⟨.ref d, upd H d (.lst (out.map backV)), I.laid (t' := s.toks) kp hd ⟨?_, out, n, vals_back h3, hn⟩, rfl, q _ d (by rw [← eo]; exact po fun u hu => h2.perm.mem_iff.mp hu) (I.hok.fresh hd)⟩
  rw [List.length_map, h2.perm.length_eq, ← rv.length]
  exact hz
variable {F0 H0 : Hp} {a : Expr} {fa : FE} {p p2 pos pos2 : Pos}
def fSortP (a : FE) : FL := fun ρ => (a ρ).bind fun x => match x with
  | .lst ds => (asPs ds).bind fun ps => some ((sortPs ps).map mkP)
  | _ => none
theorem n_sortp (hm : X.mg "sorted" = none) (ha : PE X a (tD X.K F0 H0 fa)) (hg : Gl X "sorted" := by rfl) (he : starEach [a] X.env = (false, eval a X.env) :: starEach [] X.env := by rfl) (hpl : (backTo pos (starEach [] X.env)).any (·.1) = false := by rfl) :
    PE X (.Call (.Name "sorted" p) [a] [] pos) (tN X.K F0 H0 (fSortP fa)) :=
  (pe_callB cr_sortP hg hm (by decide +kernel) (pa_cons ha pa_nil he) (by decide) (by decide) he hpl).imp fun σ H Q ⟨F, ρ, d, S, e, q⟩ => by
    obtain ⟨x, e1, e⟩ := bind_some' e
    refine ⟨F, ρ, x, S, e1, fun v F1 H1 X1 r1 => ?_⟩
    cases r1 with
    | @lst a vs ds h r =>
      obtain ⟨ps, e2, e⟩ := bind_some' e
      cases e
      refine ⟨F1, a, vs, ps, rfl, .inl (.inl (X1.fh _ _ h)), X1.fh, asPs_prs r e2, fun ys p hy hp => ?_⟩
      have y := Ext.free (o := .lst ys) X1.fh hp
      exact q p ys F1 _ (X1.trans y) (X1.fresh hp) upd_same (X1.fh.free hp) hy.rps
    | _ => cases e
end

/-! ### sorted(set(ns)) -/
def insI (n : Int) : List Int → List Int
  | [] => [n]
  | m :: r => if n < m then n :: m :: r else if n = m then m :: r else m :: insI n r
def sortSet : List Int → List Int
  | [] => []
  | n :: r => insI n (sortSet r)
theorem insI_mem {n k : Int} : ∀ {l : List Int}, k ∈ insI n l ↔ k = n ∨ k ∈ l
  | [] => by simp [insI]
  | m :: r => by
    unfold insI
    split
    · simp
    · split
      · rename_i e
        subst e
        simp
      · rw [List.mem_cons, insI_mem (l := r), List.mem_cons]
        constructor
        · rintro (h | h | h) <;> simp [h]
        · rintro (h | h | h) <;> simp [h]
theorem insI_sorted {n : Int} : ∀ {l : List Int}, l.Pairwise (· < ·) → (insI n l).Pairwise (· < ·)
  | [], _ => List.pairwise_singleton _ _
  | m :: r, h => by
    have h' := List.pairwise_cons.mp h
    unfold insI
    split
    · rename_i hl
      refine List.pairwise_cons.mpr ⟨fun x hx => ?_, h⟩
      rcases List.mem_cons.mp hx with e | hx
      · rw [e]; exact hl
      · have := h'.1 x hx
        omega
    · split
      · exact h
      · rename_i h1 h2
        refine List.pairwise_cons.mpr ⟨fun x hx => ?_, insI_sorted h'.2⟩
        rcases insI_mem.mp hx with e | hx
        · rw [e]; omega
        · exact h'.1 x hx
theorem sortSet_mem {k : Int} : ∀ {l : List Int}, k ∈ sortSet l ↔ k ∈ l
  | [] => by simp [sortSet]
  | n :: r => by
    unfold sortSet
    rw [insI_mem, sortSet_mem (l := r), List.mem_cons]
theorem sortSet_sorted : ∀ (l : List Int), (sortSet l).Pairwise (· < ·)
  | [] => .nil
  | n :: r => insI_sorted (sortSet_sorted r)
theorem strict_uniq : ∀ {l m : List Int}, l.Pairwise (· < ·) → m.Pairwise (· < ·) → (∀ k, k ∈ l ↔ k ∈ m) → l = m
  | [], [], _, _, _ => rfl
  | [], y :: m, _, _, h => absurd ((h y).mpr List.mem_cons_self) (by simp)
  | x :: l, [], _, _, h => absurd ((h x).mp List.mem_cons_self) (by simp)
  | x :: l, y :: m, hl, hm, h => by
    have hl' := List.pairwise_cons.mp hl
    have hm' := List.pairwise_cons.mp hm
    have e : x = y := by
      rcases List.mem_cons.mp ((h x).mp List.mem_cons_self) with e | hx
      · exact e
      · rcases List.mem_cons.mp ((h y).mpr List.mem_cons_self) with e | hy
        · exact e.symm
        · have a := hl'.1 y hy
          have b := hm'.1 x hx
          omega
    subst e
    rw [strict_uniq hl'.2 hm'.2 fun k => ?_]
    constructor
    · intro hk
      rcases List.mem_cons.mp ((h k).mp (List.mem_cons_of_mem _ hk)) with e | hk'
      · have := hl'.1 k hk
        omega
      · exact hk'
    · intro hk
      rcases List.mem_cons.mp ((h k).mpr (List.mem_cons_of_mem _ hk)) with e | hk'
      · have := hm'.1 k hk
        omega
      · exact hk'
end FD
end

section
set_option Elab.async false
set_option linter.all false
set_option maxRecDepth 100000
set_option maxHeartbeats 3200000
/-! FDj: set of a list of ints (the worked proof for tuples turned to lists), sorted(set(..)), xs[:0:-1]. -/
namespace FD
open PySem PySem.Spec PyProof.Rows L2 StX
section
variable {P : Program} {w : World} {A : Around} {E : Value → Shared → Prop} {s : Shared}
set_option maxRecDepth 100000 in
set_option maxHeartbeats 3200000 in
theorem set_of_list {l : Addr} {items : Array Value} (ns : List Int) {Q : Value → Shared → Prop} (hh : A.handled = none) (hl : s.heap.IsList l items) (hit : IntsAre items.toList ns) (hb : ns.length + 1 < scanBound)
    (h : ∀ (h' : Heap) (tk c : Nat), SetR w h' s.heap.objs.size (fun j => decide (j ∈ ns)) c → c ≤ ns.length → (∀ b o, s.heap.get? b = some o → h'.get? b = some o) → Q (.ref s.heap.objs.size) { s with heap := h', toks := tk }) :
    wpAny (model P w) A (call (.type "set") [.ref l]) Q E s := by
  have hisz : items.size = ns.length := by
    have q := IntsAre.length hit
    rw [Array.length_toList] at q
    exact q
  obtain ⟨c, tl, hmro⟩ := F.called_set.mro
  have hmade := F.called_set.made
  have hsub := F.called_set.sub
  refine wpAny_call (codeAny_of_tree ?_)
  show wpAny _ _ (callAny (.type "set") _) _ _ _
  refine wpAny_pure ⟨Code.quiet_builtin _ (by decide +kernel), codeAny_builtin F.entry_type_call ?_⟩
  rw [Around.under_plain (weight_type_call_type "set" [.ref l] []) rfl]
  have h1 := F.called_set.notType
  have h2 := F.called_set.canCreate
  have hct := F.typeCall_set_1 (.ref l)
  repeat (any_goals (first | assumption | wp_step))

  refine codeAny_mono (code_set_led1 (.ref l) (E := E) (Q₁ := fun obj s₁ => obj = .ref s.heap.objs.size ∧ s₁ = { s with heap := s.heap.push { cls := .type "set", dict := none, data := .set #[] 0 (.fresh 0 0 (!w.params.followText "set-order")) } }) ⟨rfl, rfl⟩) fun r s₁ hr => ?_
  cases r with
  | error e => exact hr
  | ok fl =>
    cases fl with
    | ret obj =>
      obtain ⟨rfl, rfl⟩ := hr
      have hS : (s.heap.push { cls := .type "set", dict := none, data := .set #[] 0 (.fresh 0 0 (!w.params.followText "set-order")) }).get? s.heap.objs.size = some { cls := .type "set", dict := none, data := .set #[] 0 (.fresh 0 0 (!w.params.followText "set-order")) } := Heap.get?_push_size _ rfl
      have hT : Shared.TypeIs { s with heap := s.heap.push { cls := .type "set", dict := none, data := .set #[] 0 (.fresh 0 0 (!w.params.followText "set-order")) } } (.ref s.heap.objs.size) "set" := ⟨_, hS, rfl⟩
      have hli := F.called_set.init.lookup
      have hbi := F.called_set.init.bind (.ref s.heap.objs.size)
      repeat (any_goals (first | assumption | wp_step))

      refine codeAny_mono (codeAny_call_builtin (R := wants (fun r s₂ => r = .none ∧ ∃ h' tk c, s₂ = { s with heap := h', toks := tk } ∧ SetR w h' s.heap.objs.size (fun j => decide (j ∈ ns)) c ∧ c ≤ ns.length ∧
          (∀ b o, s.heap.get? b = some o → h'.get? b = some o)) E) F.called_set.init.plain F.entry_set_init (check_set_init_1 hT ?_)) fun r₂ s₂ hr₂ => ?_
      · obtain ⟨ol, hol, hcl, nl, hdl⟩ := hl
        obtain ⟨ocls, odict, odata, oslots⟩ := ol
        simp only at hcl hdl
        subst hcl; subst hdl
        have hol' : (s.heap.push { cls := .type "set", dict := none, data := .set #[] 0 (.fresh 0 0 (!w.params.followText "set-order")) }).get? l = some { cls := .type "list", dict := odict, data := .seq items nl, slots := oslots } := Heap.get?_push_of_some _ hol
        have hsls := F.sub_list_set
        have hslf := F.sub_list_frozenset
        have hne : (Value.type "list" == Value.type "dict") = false := by decide
        have hl1 : (s.heap.push { cls := .type "set", dict := none, data := .set #[] 0 (.fresh 0 0 (!w.params.followText "set-order")) }).IsList l items := ⟨_, hol', rfl, nl, rfl⟩
        unfold Builtin.«set.__init__» noKeywords Builtin.Frozenset.updateFrom
        generalize hPI : pyIter = PI
        wp_walk
        subst hPI

        refine wpAny_pyIter_list hl1 ?_
        refine wpAny_bind (wpAny_runValue ?_)
        have hlS : l < s.heap.objs.size := Heap.lt_size hol
        have hh3 : A.in1.in1.in1.handled = none := by simp [hh]
        have hz1 : (s.heap.push { cls := .type "set", dict := none, data := .set #[] 0 (.fresh 0 0 (!w.params.followText "set-order")) }).objs.size = s.heap.objs.size + 1 := Heap.size_push ..
        have hneI : l ≠ (s.heap.push { cls := .type "set", dict := none, data := .set #[] 0 (.fresh 0 0 (!w.params.followText "set-order")) }).objs.size := by
          rw [Heap.size_push]; exact Nat.ne_of_lt (Nat.lt_succ_of_lt hlS)
        have hSf : s.heap.objs.size ∉ [(s.heap.push { cls := .type "set", dict := none, data := .set #[] 0 (.fresh 0 0 (!w.params.followText "set-order")) }).objs.size, l] := by
          rw [Heap.size_push]; simp only [List.mem_cons, List.mem_singleton, List.not_mem_nil, or_false, not_or]
          exact ⟨Nat.ne_of_lt (Nat.lt_succ_self _), Nat.ne_of_gt hlS⟩
        have hval : ∀ (i : Nat) (v : Value), items[i]? = some v → ∃ k t, ns[i]? = some k ∧ v = .int k t := fun i v hv => by
          have hi : i < ns.length := by rw [← hisz]; exact (Array.getElem?_eq_some_iff.mp hv).1
          obtain ⟨t, e⟩ := PyProof.Rows.IntsAre.int_at hit i v (by rw [Array.getElem?_toList]; exact hv)
          refine ⟨ns[i], t, List.getElem?_eq_getElem hi, ?_⟩
          rw [e, List.getD_eq_getElem?_getD, List.getElem?_eq_getElem hi] <;> rfl
        refine set_update_ints ((Walks.list hh3 _ l hneI items).toS) s.heap.objs.size
          hSf ns hisz hb hval (items.size - 0) 0 _ (by omega) (Nat.zero_le _)
          ⟨⟨_, Heap.get?_push_size _ rfl, rfl, rfl⟩, (hl1.push _)⟩ ?hS0 ?hR
        case hS0 =>
          have hget : ((s.heap.push { cls := .type "set", dict := none, data := .set #[] 0 (.fresh 0 0 (!w.params.followText "set-order")) }).push { cls := .type "list_iterator", data := .fields #[.ref l, .int 0 0] }).get? s.heap.objs.size
              = some { cls := .type "set", dict := none, data := .set #[] 0 (.fresh 0 0 (!w.params.followText "set-order")) } := Heap.get?_push_of_some _ hS
          exact ⟨0, Nat.le_refl 0, setR_new_at hget⟩
        case hR =>
          intro s' c' hm hc' hS'
          obtain ⟨h', g2, d', tk', os'⟩ := s'
          have eg : g2 = s.gens := hm.gens
          have ed : d' = s.drawn := hm.drawn
          have eo : os' = s.os := hm.os
          subst eg; subst ed; subst eo
          show wpAny _ _ _ _ _ _
          refine wpAny_pure ?_
          show wpAny _ _ (ret Value.none) _ _ _
          rw [hisz] at hc'
          refine wpAny_pure ⟨rfl, h', tk', c', rfl, hS', hc', fun b o e => ?_⟩
          have hb0 : b < s.heap.objs.size := Heap.lt_size e
          have hb1 : b ≠ s.heap.objs.size := Nat.ne_of_lt hb0
          have hb2 : b ≠ (s.heap.push { cls := .type "set", dict := none, data := .set #[] 0 (.fresh 0 0 (!w.params.followText "set-order")) }).objs.size := by
            rw [Heap.size_push]; exact Nat.ne_of_lt (Nat.lt_succ_of_lt hb0)
          exact hm.heap b o (by simp only [List.mem_cons, List.mem_singleton, List.not_mem_nil, or_false, not_or]; exact ⟨hb1, hb2⟩) (Heap.get?_push_of_some _ (Heap.get?_push_of_some _ e))

      · cases r₂ with
        | error e => exact hr₂
        | ok fl₂ =>
          cases fl₂ with
          | ret r =>
            obtain ⟨rfl, h', tk, c', rfl, hS', hc', hk'⟩ := hr₂
            repeat (any_goals (first | assumption | wp_step))
            exact h _ _ _ hS' hc' hk'
          | _ => exact hr₂.elim
    | _ => exact hr.elim

end
end FD
end

section
set_option Elab.async false
set_option linter.all false
set_option maxRecDepth 100000
set_option maxHeartbeats 3200000
/-! FDk: sorted(set(..)), xs[:0:-1]. -/
namespace FD
open PySem PySem.Spec PyProof.Rows L2 StX
/-- sorted(set(xs)) -/
def tSortSet (K : PySem.W.Frag) (te : TE) : TE := fun σ H Q => te σ H fun x H1 => ∃ a ns, x = .ref a ∧ SqL K H1 a (ns.map V.int) ∧ ns.length < 64 ∧ ∀ p, H1 p = none → Q (.ref p) (upd H1 p (.lst ((sortSet ns).map V.int)))
section
variable {X : Cx} {F0 H0 : Hp} {a e : Expr} {fa : FE} {p p2 pos pos2 : Pos}
theorem pe_sortset {te : TE} (hc : X.calm = true) (hg0 : Gl X "sorted") (hm0 : X.mg "sorted" = none) (hg : Gl X "set") (hm : X.mg "set" = none) (ha : PE X e te)
    (hs : starEach [e] X.env = (false, eval e X.env) :: starEach [] X.env := by rfl) (hpl : (backTo pos (starEach [] X.env)).any (·.1) = false := by rfl)
    (hs0 : starEach [.Call (.Name "set" p) [e] [] pos] X.env = (false, eval (.Call (.Name "set" p) [e] [] pos) X.env) :: starEach [] X.env := by rfl) (hpl0 : (backTo pos2 (starEach [] X.env)).any (·.1) = false := by rfl) :
    PE X (.Call (.Name "sorted" p2) [.Call (.Name "set" p) [e] [] pos] [] pos2) (tSortSet X.K te) := by
  refine ⟨fun pins s σ H Q I h => ?_⟩
  refine wpAny_Call_Name_kw (ld_blt I hg0 hm0 (show bootBuiltins "sorted" = some (.builtin "sorted") by decide +kernel) ?_)
  refine PyProof.Rows.callWith_builtin1 ?_ hs0 hpl0
  rw [hs0]
  show wpAny _ _ (spliced ((false, eval (.Call (.Name "set" p) [e] [] pos) X.env) :: backTo pos2 (starEach [] X.env))) _ _ s
  refine Calls.spliced_cons ?_
  refine wpAny_Call_Name_kw (ld_blt I hg hm (show bootBuiltins "set" = some (.type "set") by decide +kernel) (PyProof.Rows.callWith_type1 ?_ hs hpl))
  rw [hs]
  show wpAny _ _ (spliced ((false, eval e X.env) :: backTo pos (starEach [] X.env))) _ _ s
  refine Calls.spliced_cons (thn (ha.run pins s σ H _ I h) fun u s1 ⟨x, H1, I1, r1, a, ns, ex, hx, hn, q⟩ => Calls.spliced_nil ?_)
  subst ex
  cases r1
  obtain ⟨its, r, hl, hz⟩ := I1.list hx
  refine set_of_list ns (I1.ok.hd hc) hl.isList (by simpa using r.ints) (by unfold scanBound; omega) fun h' tk c R1 hcn k => Calls.spliced_nil ?_
  have I2 : Inv X pins σ H1 { s1 with heap := h', toks := tk } := I1.kept k
  refine sorted_set R1 (I2.ok.hd hc) (by omega) fun s' p out c ns' k2 g o hp hg hi hs hm hl => ?_
  have en : ns' = sortSet ns := strict_uniq hs (sortSet_sorted ns) fun j => by rw [hm j, sortSet_mem]; simp
  subst en
  have hlen : ((sortSet ns).map V.int).length ≤ sizeLine := by rw [List.length_map, hl, sizeLine_eq]; omega
  have hn : H1 p = none := I2.hok.fresh hp
  have J : Inv X pins σ (upd H1 p (.lst ((sortSet ns).map V.int))) { s1 with heap := s'.heap, gens := s'.gens, drawn := s'.drawn, toks := s'.toks } :=
    Inv.call (s := { s1 with heap := h', toks := tk }) (h' := s'.heap) (g' := s'.gens) (t' := s'.toks) (d' := s'.drawn) (ch := []) I2 (Un.laid k2 hp hn) (I2.hok.laid k2 hp ⟨hlen, out.toList, c, vals_of_ints hi, hg⟩) (by rw [g]; exact I2.bare) (fun _ z => nomatch z)
  have e : s' = { s1 with heap := s'.heap, gens := s'.gens, drawn := s'.drawn, toks := s'.toks } := by
    cases s'
    cases s1
    cases o
    rfl
  rw [e]
  exact ⟨.ref p, _, J, rfl, q p hn⟩
def fSortSet (a : FE) : FL := fun ρ => (a ρ).bind fun x => match x with
  | .lst ds => (D.ints ds).bind fun ns => if ns.length < 64 then some ((sortSet ns).map D.int) else none
  | _ => none
theorem n_sortset (hm0 : X.mg "sorted" = none) (hm : X.mg "set" = none) (hc : X.calm = true) (ha : PE X a (tD X.K F0 H0 fa)) (hg0 : Gl X "sorted" := by rfl) (hg : Gl X "set" := by rfl)
    (hs : starEach [a] X.env = (false, eval a X.env) :: starEach [] X.env := by rfl) (hpl : (backTo pos (starEach [] X.env)).any (·.1) = false := by rfl)
    (hs0 : starEach [.Call (.Name "set" p) [a] [] pos] X.env = (false, eval (.Call (.Name "set" p) [a] [] pos) X.env) :: starEach [] X.env := by rfl) (hpl0 : (backTo pos2 (starEach [] X.env)).any (·.1) = false := by rfl) :
    PE X (.Call (.Name "sorted" p2) [.Call (.Name "set" p) [a] [] pos] [] pos2) (tN X.K F0 H0 (fSortSet fa)) :=
  (pe_sortset hc hg0 hm0 hg hm ha hs hpl hs0 hpl0).imp fun σ H Q ⟨F, ρ, d, S, e, q⟩ => by
    obtain ⟨x, e1, e⟩ := bind_some' e
    refine ⟨F, ρ, x, S, e1, fun v F1 H1 X1 r1 => ?_⟩
    cases r1 with
    | @lst a vs ds h r =>
      obtain ⟨ns, e2, e⟩ := bind_some' e
      cases r.ints e2
      split at e
      · rename_i hn
        cases e
        refine ⟨a, ns, rfl, .inl (.inl (X1.fh _ _ h)), hn, fun p hp => ?_⟩
        have y := Ext.free (o := .lst ((sortSet ns).map V.int)) X1.fh hp
        exact q p _ F1 _ (X1.trans y) (X1.fresh hp) upd_same (X1.fh.free hp) (rps_ints _)
      · cases e
    | _ => cases e

/-! ### xs[:0:-1] -/
theorem rev0_bounds (n : Nat) (h : 0 < n) : sliceBounds none (some 0) (some (-1)) n = ((n : Int) - 1, 0, -1) := by
  simp [sliceBounds]
  omega
theorem rev0_range (n : Nat) (h : 0 < n) : sliceRange ((n : Int) - 1) 0 (-1) = (List.range (n - 1)).map fun k => n - 1 - k := by
  unfold sliceRange
  have h1 : ¬ ((-1 : Int) > 0) := by decide
  by_cases h2 : (n : Int) - 1 > 0
  · have e : ((n : Int) - 1 - 0 - -1 - 1) / (- -1) = ((n - 1 : Nat) : Int) := by
      rw [show (- -1 : Int) = 1 by decide, Int.ediv_one]
      omega
    simp only [h1, if_false, h2, if_true, e, Int.toNat_natCast]
    apply List.map_congr_left
    intro k hk
    have := List.mem_range.mp hk
    omega
  · have e : n = 1 := by omega
    subst e
    simp
theorem rev0_pick (xs : Array Value) : slicePick xs none (some 0) (some (-1)) = (xs.toList.drop 1).reverse.toArray := by
  unfold slicePick
  by_cases h : xs.size = 0
  · have : xs = #[] := Array.eq_empty_of_size_eq_zero h
    subst this
    rfl
  · rw [rev0_bounds xs.size (by omega)]
    show ((sliceRange ((xs.size : Int) - 1) 0 (-1)).filterMap (xs[·]?)).toArray = _
    rw [rev0_range xs.size (by omega)]
    congr 1
    have e : (List.range (xs.size - 1)).map (fun k => xs.size - 1 - k) = ((List.range (xs.size - 1)).map (1 + ·)).reverse := by
      apply List.ext_getElem
      · simp
      · intro i h1 h2
        simp at h1
        simp
        omega
    rw [e, List.filterMap_reverse]
    congr 1
    have h2 := pick_run xs 1 (xs.size - 1)
    rw [h2, List.take_of_length_le (by rw [List.length_drop, Array.length_toList]; exact Nat.le_refl _)]
def tRev0 (K : PySem.W.Frag) (te : TE) : TE := fun σ H Q => te σ H fun x H1 => ∃ a xs, x = .ref a ∧ SqL K H1 a xs ∧ ∀ p, H1 p = none → Q (.ref p) (upd H1 p (.lst (xs.drop 1).reverse))
theorem vals_drop : ∀ {vs : List V} {us : List Value} (n : Nat), Vals vs us → Vals (vs.drop n) (us.drop n)
  | _, _, 0, r => r
  | _, _, _ + 1, .nil => .nil
  | _, _, n + 1, .cons _ t => vals_drop n t
theorem pe_rev0 {te : TE} {k k0 : Nat} {p0 p1 p2 p3 pos : Pos} (he : PE X e te) : PE X (.Subscript e (.Slice none (some (.Constant (.int 0) k0 p0)) (some (.UnaryOp .USub (.Constant (.int 1) k p1) p2)) p3) pos) (tRev0 X.K te) := by
  refine ⟨fun pins s σ H Q I h => ?_⟩
  refine Subscript_ (thn (he.run pins s σ H _ I h) fun v s1 ⟨x, H1, I1, r1, q1⟩ => ?_)
  obtain ⟨a, xs, ex, hx, q⟩ := q1
  subst ex
  cases r1
  have hst : PO X (some (.UnaryOp .USub (.Constant (.int 1) k p1) p2)) (tPart (tUn (rU fun i => .int (-i)) (tC (.int 1)))) := po_some (pe_un un_neg pe_int)
  have hz0 : PO X (some (.Constant (.int 0) k0 p0)) (tPart (tC (.int 0))) := po_some pe_int
  refine wpAny_Slice (thn (po_none.run pins s1 σ H1 (fun o H2 => o = none ∧ H2 = H1) I1 ⟨rfl, rfl⟩) fun vl s2 ⟨l, H2, I2, pl, el, e2⟩ => ?_)
  subst el e2
  refine thn (hz0.run pins s2 σ H2 (fun o H3 => o = some 0 ∧ H3 = H2) I2 ⟨0, rfl, rfl, rfl⟩) fun vu s3 ⟨u, H3, I3, pu, eu, e3⟩ => ?_
  subst eu e3
  refine thn (hst.run pins s3 σ H3 (fun o H4 => o = some (-1) ∧ H4 = H3) I3 ⟨1, rfl, -1, rfl, rfl, rfl⟩) fun vs s4 ⟨o, H4, I4, ps, eo, e4⟩ => ?_
  subst eo e4
  have I5 : Inv X pins σ H4 { s4 with heap := s4.heap.push { cls := .type "slice", data := .fields #[vl, vu, vs] } } := I4.kept (t' := s4.toks) fun b ob q => Heap.get?_push_of_some _ q
  obtain ⟨its, r, ht, hz⟩ := I5.list hx
  have hlen := r.length
  show wpAny (model X.prog X.w) X.A (subscriptTail e (.Slice none (some (.Constant (.int 0) k0 p0)) (some (.UnaryOp .USub (.Constant (.int 1) k p1) p2)) p3) (.ref a) (.ref s4.heap.objs.size)) (EP X pins σ Q) X.xe { s4 with heap := s4.heap.push { cls := .type "slice", data := .fields #[vl, vu, vs] } }
  refine tail_any (ops := [.ref a, .ref s4.heap.objs.size]) ht.isList.typeIs (PySem.slot_list_getitem.lookup) ?_ (by with_unfolding_all rfl)
  refine wpAny_getItem_list_slice ht.isList (Heap.IsSliceOf.new _ vl vu vs) pl pu ps (by decide) ?_ (by rw [List.size_toArray]; omega)
  rw [rev0_pick]
  refine ⟨.ref _, _, I5.laid (t' := s4.toks) (o := .lst (xs.drop 1).reverse) (fun b ob q => Heap.get?_push_of_some _ q) (Nat.le_refl _) ?_, rfl, q _ (I5.hok.fresh (Nat.le_refl _))⟩
  exact ⟨by rw [List.length_reverse, List.length_drop]; omega, _, 0, (vals_drop 1 r).reverse, Heap.get?_push_size _ rfl⟩
def fRev0 (a : FE) : FL := fun ρ => (a ρ).bind fun x => match x with
  | .lst ds => some (ds.drop 1).reverse
  | _ => none
theorem n_rev0 {k k0 : Nat} {p0 p1 p3 : Pos} (ha : PE X a (tD X.K F0 H0 fa)) : PE X (.Subscript a (.Slice none (some (.Constant (.int 0) k0 p0)) (some (.UnaryOp .USub (.Constant (.int 1) k p1) p2)) p3) pos) (tN X.K F0 H0 (fRev0 fa)) :=
  (pe_rev0 ha).imp fun σ H Q ⟨F, ρ, d, S, e, q⟩ => by
    obtain ⟨x, e1, e⟩ := bind_some' e
    refine ⟨F, ρ, x, S, e1, fun v F1 H1 X1 r1 => ?_⟩
    cases r1 with
    | @lst a vs ds h r =>
      cases e
      refine ⟨a, vs, rfl, .inl (.inl (X1.fh _ _ h)), fun p hp => ?_⟩
      have y := Ext.free (o := .lst (vs.drop 1).reverse) X1.fh hp
      exact q p _ F1 _ (X1.trans y) (X1.fresh hp) upd_same (X1.fh.free hp) (r.drop 1).reverse
    | _ => cases e
end
end FD
end

section
set_option Elab.async false
set_option linter.all false
set_option maxRecDepth 100000
set_option maxHeartbeats 3200000
/-! FDl: word, *parts = t (a tuple). -/
namespace FD
open PySem PySem.Spec PyProof.Rows L2 StX
section
variable {X : Cx}
theorem unpack_star {pins : List (Addr × Obj)} {σ : L2.St} {H : Hp} {s : Shared} {A : Around} {E : Value → Shared → Prop} {l : Addr} {v : V} {vs : List V} {Q : List Value → Shared → Prop} (I : Inv X pins σ H s) (hh : A.handled = none) (ht : SqT X.K H l (v :: vs)) (hz : vs.length ≤ 16000)
    (h : ∀ u D s', Inv X pins σ (upd H D (.lst vs)) s' → H D = none → RelV v u → Q [u, .ref D] s') : wpAny (model X.prog X.w) A (unpackItems (.ref l) 2 (some 1)) Q E s := by
  obtain ⟨its, rv, hl, hz2⟩ := I.tuple ht
  have hlt : l ≠ s.heap.objs.size := by obtain ⟨o, ho, _⟩ := hl; exact Nat.ne_of_lt (Heap.lt_size ho)
  cases rv with
  | @cons _ u _ us r1 rv =>
    have hlen := rv.length
    unfold unpackItems
    refine wpAny_bind ?_
    unfold notIterableAtAll
    refine wpAny_bind (wpAny_specialOf hl.typeIs slot_tuple_iter.lookup ?_)
    refine wpAny_pure ?_
    simp only [Bool.false_eq_true, if_false]
    refine wpAny_bind (wpAny_holding (iter_tuple hl ?_))
    refine wpAny_bind (wpAny_holding (draw_tuple hlt 1 0 _ _ ⟨_, Heap.get?_push_size _ rfl, rfl, rfl⟩ (hl.push _) (by simp) fun h₁ hit₁ hs₁ => ?_))
    have hl₁ : IsTup h₁ l (u :: us).toArray := (hl.push _).extBut hs₁.extBut hlt
    rw [Nat.zero_add] at hit₁
    have hit₁' := hit₁
    obtain ⟨oi, hoi, _⟩ := hit₁'
    have hl₁' := hl₁
    obtain ⟨ol, hol, _⟩ := hl₁'
    show wpAny _ _ (if (1 : Nat) < 1 then _ else _) _ _ _
    rw [if_neg (Nat.lt_irrefl _)]
    refine wpAny_bind (wpAny_holding (PySem.W.kun_collect (s := { s with heap := h₁ }) (T := "tuple_iterator") (.inr (.inr (.inr rfl))) (Walks.tuple (A := A.in1) hh s.heap.objs.size l hlt (u :: us).toArray) (fun j u st => st.1.typeIs) (k := 1) (by simp) ⟨hit₁, hl₁⟩ (Heap.lt_size hoi) (Heap.lt_size hol) (fun h₂ tk hk => ?_) (by rw [sizeLine_eq]; simp; omega)))
    have he : Heap.ExtBut s.heap.objs.size s.heap h₂ := fun b o hb e => hk b o hb (hs₁.extBut b o hb (Heap.get?_push_of_some _ e))
    have I2 : Inv X pins σ H { s with heap := h₂, toks := tk } := I.kept (t' := tk) fun b o e => he b o (Nat.ne_of_lt (Heap.lt_size e)) e
    show wpAny _ _ (if us.length < 0 then _ else _) _ _ _
    rw [if_neg (Nat.not_lt_zero _)]
    show wpAny _ _ (newList (us.take us.length) >>= fun d => pure ([u] ++ [d] ++ us.drop us.length)) _ _ _
    rw [List.take_length, List.drop_length]
    have hsz : us.length ≤ sizeLine := by rw [sizeLine_eq]; omega
    have I3 := I2.lnew (its := us) (t' := tk) rv (by omega)
    exact wpAny_bind (wpAny_newList (wpAny_pure (h u h₂.objs.size _ I3 (I2.hok.fresh (Nat.le_refl _)) r1)) hsz)
def gStar (i j : Nat) : FG := fun d ρ => match d with
  | .tup (x :: r) => if r.length ≤ 16000 then some ((ρ.set i (.dat x)).set j (.dat (.lst r))) else none
  | _ => none
theorem g_star {F0 H0 : Hp} {k : Nat} {pos px py ps : Pos} (i j : Nat) {x y : Str} (hc : X.calm = true) (hN : X.N.Nodup) (hi : X.N[i]? = some x := by rfl) (hj : X.N[j]? = some y := by rfl) (hx : Loc X.env.scope x := by first | exact Or.inl rfl | exact Or.inr rfl) (hy : Loc X.env.scope y := by first | exact Or.inl rfl | exact Or.inr rfl)
    (hf : X.fn x = true ∨ X.env.scope.names.lookup x = some .local := by first | exact .inl rfl | exact .inr rfl) (hg : X.fn y = true ∨ X.env.scope.names.lookup y = some .local := by first | exact .inl rfl | exact .inr rfl)
    (hn : (assignEach [.Name x px, .Starred (.Name y py) ps] X.env).length = 2 := by rfl) (hst : (assignEach [.Name x px, .Starred (.Name y py) ps] X.env).findIdx? (·.1) = some 1 := by rfl)
    (he : (assignEach [.Name x px, .Starred (.Name y py) ps] X.env).map (·.2) = [assign (.Name x px) X.env, assign (.Name y py) X.env] := by rfl) :
    PG X (.Tuple [.Name x px, .Starred (.Name y py) ps] k pos) (tG X.K F0 H0 (gStar i j) [i, j]) := by
  refine ⟨fun pins s σ H v u Q I r ⟨F, ρ, d, ρ', S, rd, e, q⟩ => ?_⟩
  unfold gStar at e
  split at e
  · rename_i x0 r0
    split at e
    · rename_i hz
      cases e
      cases rd with
      | @tup a vs ds h rs =>
        cases rs with
        | @cons v1 vs d1 ds r1 rs =>
          cases r
          rw [assign_Tuple]
          refine wpAny_bind (wpAny_standAt ?_)
          unfold unpack
          rw [hn, hst, he]
          refine wpAny_bind (wpAny_holding (unpack_star I (I.ok.hd hc) (sqT_mono S.fh h) (by rw [rs.length]; exact hz) fun u1 D s' I' hD ru => ?_))
          have y := Ext.new (o := .lst vs) S.fh hD
          refine assignInOrder_cons (thn ((g_name (X := X) (F0 := F0) (H0 := H0) (pos := px) i hN hi hx hf).run pins s' σ _ v1 u1 (fun σ1 H1 => ∃ F1, Ext (upd F D (.lst vs)) (upd H D (.lst vs)) F1 H1 ∧ SR X.K F0 H0 F1 H1 σ1 (ρ.set i (.dat x0)) ∧ ∀ vs, (∀ k ∈ [i], k ∈ vs) → wipe σ1 vs = wipe σ vs) I' ru
            ⟨_, ρ, x0, _, S.to y, r1.mono y.f, rfl, fun σ1 F1 H1 X1 S1 w1 => ⟨F1, X1, S1, w1⟩⟩) fun _ s1 ⟨σ1, H1, I1, F1, X1, S1, w1⟩ => ?_)
          refine assignInOrder_cons (thn ((g_name (X := X) (F0 := F0) (H0 := H0) (pos := py) j hN hj hy hg).run pins s1 σ1 _ (.ref D) (.ref D) Q I1 rfl
            ⟨F1, _, .lst r0, _, S1, .lst (X1.f _ _ upd_same) (rs.mono (y.trans X1).f), rfl, fun σ2 F2 H2 X2 S2 w2 => q σ2 F2 H2 (y.trans (X1.trans X2)) S2 fun vs hv => ?_⟩) fun _ s2 z => ?_)
          · exact (w2 vs fun k hk => hv k (by simp at hk; simp [hk])).trans (w1 vs fun k hk => hv k (by simp at hk; simp [hk]))
          · exact wpAny_pure z
    · cases e
  · cases e
end
end FD
end

section
set_option Elab.async false
set_option linter.all false
set_option maxRecDepth 100000
set_option maxHeartbeats 3200000
/-! FDm: if (x := e) is not None; [.. for .. for ..]; enumerate. -/
namespace FD
open PySem PySem.Spec PyProof.Rows L2 StX
section
variable {X : Cx} {F0 H0 : Hp} {tg a b c e : Expr} {fa fb fc fe : FE} {ta tb tc ta1 : FT} {fl fm : FL} {g g1 : FG} {pos p p2 : Pos} {is is1 : List Nat} {f f' : FS} {x y : Str}
def sIfW (i : Nat) (fe : FE) (f g : FS) : FS := fun ρ => (fe ρ).bind fun d => (D.notNone d .non).bind fun b => match b with
  | .bl true => f (ρ.set i (.dat d))
  | .bl false => g (ρ.set i (.dat d))
  | _ => none
theorem s_ifW (i : Nat) {A B : List Stmt} {k : Nat} {p3 pc : Pos} (hN : X.N.Nodup) (he : PE X e (tD X.K F0 H0 fe)) (ha : PSs X A (tS X.K F0 H0 f)) (hb : PSs X B (tS X.K F0 H0 f')) (hi : X.N[i]? = some x := by rfl) (hx : Loc X.env.scope x := by first | exact Or.inl rfl | exact Or.inr rfl)
    (hf : X.fn x = true ∨ X.env.scope.names.lookup x = some .local := by first | exact .inl rfl | exact .inr rfl) (hm : behindInMarks .IsNot (.Constant .none k p3) = false := by rfl) :
    PS X (.If (.Compare (.NamedExpr (.Name x p) e p2) [.IsNot] [.Constant .none k p3] pc) A B pos) (tS X.K F0 H0 (sIfW i fe f f')) :=
  (ps_ifW (ptw_cmp op_notN (pew_named hN hi hx (pew_of he) hf) pe_non hm) ha hb).imp fun Dn σ H ⟨F, ρ, o, S, e, q⟩ => by
    obtain ⟨d, e1, e⟩ := bind_some' e
    obtain ⟨b, e2, e⟩ := bind_some' e
    refine ⟨F, ρ, d, S, e1, fun v F1 H1 X1 r1 => ?_⟩
    refine (show _ ∧ _ from rd_notN (K := X.K) F1 H1 v .non d .non b (fun z H3 => ∃ k, z = V.bl k ∧ if k = true then tS X.K F0 H0 f Dn (σ.set i (some v)) H3 else tS X.K F0 H0 f' Dn (σ.set i (some v)) H3) X1.fh r1 .non e2 fun z F2 H2 X2 r2 => ?_)
    have S2 := ((S.to X1).set (i := i) r1).to X2
    have q2 := q.mono (X1.trans X2).f
    cases r2 with
    | bl b =>
      refine ⟨b, rfl, ?_⟩
      cases b with
      | true => exact iteT ⟨F2, _, o, S2, e, q2⟩
      | false => exact iteF ⟨F2, _, o, S2, e, q2⟩
    | _ => cases e

/-! ### two for in a comprehension -/
def noOwn (ρ : Rho) : Bool := ρ.all fun s => match s with
  | .own _ => false
  | _ => true
theorem noOwn_get {ρ : Rho} (h : noOwn ρ = true) {i : Nat} {ds : List D} : ρ[i]? ≠ some (.own ds) := fun e => by
  have := List.all_eq_true.mp h _ (List.mem_of_getElem? e)
  cases this
theorem SR.noOwn {K : PySem.W.Frag} {F F' H H' : Hp} {σ : L2.St} {ρ : Rho} (S : SR K F0 H0 F H σ ρ) (h : FD.noOwn ρ = true) (x : Same F F') (y : Ext F0 H0 F' H') : SR K F0 H0 F' H' σ ρ :=
  ⟨y, S.len, fun i o s h1 h2 => by
    have q := S.sl i o s h1 h2
    cases q with
    | un => exact .un _
    | ad a => exact .ad a
    | dat r => exact .dat (r.mono x)
    | own _ _ _ => exact absurd h2 (noOwn_get h), fun i a ds h1 h2 => absurd h2 (noOwn_get h), fun i j a ds es h1 h2 h3 h4 => absurd h3 (noOwn_get h)⟩
theorem noOwn_set {ρ : Rho} (h : noOwn ρ = true) {i : Nat} : noOwn (ρ.set i .un) = true := by
  refine List.all_eq_true.mpr fun s hs => ?_
  rcases List.mem_or_eq_of_mem_set hs with q | q
  · exact List.all_eq_true.mp h s q
  · rw [q]
theorem noOwn_wipe {ρ : Rho} (h : noOwn ρ = true) : ∀ vs : List Nat, noOwn (wipeR ρ vs) = true
  | [] => h
  | v :: vs => noOwn_set (noOwn_wipe h vs)
theorem wipe_twice {vs : List Nat} {σ : L2.St} : ∀ (ws : List Nat), (∀ i ∈ ws, i ∈ vs) → L2.wipe (L2.wipe σ ws) vs = L2.wipe σ vs
  | [], _ => rfl
  | w :: ws, h => by
    show L2.wipe ((L2.wipe σ ws).set w none) vs = _
    rw [wipe_set (h w List.mem_cons_self), wipe_twice ws fun i hi => h i (List.mem_cons_of_mem _ hi)]
def compL2 (vs1 : List Nat) (g : FG) (t : FT) (fl : FL) (g1 : FG) (t1 : FT) (el : FE) (ρ : Rho) : List D → Option (List D)
  | [] => some []
  | d :: r => (g d ρ).bind fun ρ' => if noOwn ρ' = true then (t ρ').bind fun b => if b = true then (fl ρ').bind fun ds => (compL g1 t1 el (wipeR ρ' vs1) ds).bind fun ys => (compL2 vs1 g t fl g1 t1 el ρ r).bind fun zs => some (ys ++ zs)
      else compL2 vs1 g t fl g1 t1 el ρ r else none
def fComp2 (vs vs1 : List Nat) (it : FL) (g : FG) (t : FT) (it1 : FL) (g1 : FG) (t1 : FT) (el : FE) : FL := fun ρ => (it ρ).bind fun ds => (compL2 vs1 g t it1 g1 t1 el (wipeR ρ vs) ds).bind fun res => if res.length ≤ 100000 then some res else none
theorem lc2_of {K : PySem.W.Frag} {vs vs1 : List Nat} (his : ∀ i ∈ is, i ∈ vs) (his1 : ∀ i ∈ is1, i ∈ vs1) {σ : L2.St} {H : Hp} {Q : VK} (h : tN K F0 H0 (fComp2 vs vs1 fl g ta fm g1 ta1 fe) σ H Q) :
    tLc2 (iD K F0 H0 fl) (tG K F0 H0 g is) (tB1 K F0 H0 ta) (iD K F0 H0 fm) (tG K F0 H0 g1 is1) (tB1 K F0 H0 ta1) (tD K F0 H0 fe) vs vs1 σ H Q := by
  obtain ⟨F, ρ, res, S, e, q⟩ := h
  obtain ⟨ds, e1, e⟩ := bind_some' e
  obtain ⟨res', e2, e⟩ := bind_some' e
  split at e
  · rename_i hz
    cases e
    refine ⟨F, ρ, ds, S, e1, fun J F1 H1 X1 wk D hD => ?_⟩
    refine ⟨fun i m H2 => m = ds.length - i ∧ i ≤ ds.length ∧ ∃ F2 acc out rest, Ext F1 H1 F2 H2 ∧ F2 D = none ∧ H2 D = some (.lst acc) ∧ Rps K F2 acc out ∧ out ++ rest = res ∧ compL2 vs1 g ta fm g1 ta1 fe (wipeR ρ vs) (ds.drop i) = some rest,
      ⟨ds.length, rfl, Nat.zero_le _, F1, [], [], res, Ext.free X1.fh hD, X1.fh.free hD, upd_same, .nil, rfl, e2⟩, ?_⟩
    rintro i m H2 ⟨rfl, hi, F2, acc, out, rest, X2, fD, hD2, ra, eo, ec⟩
    by_cases hlt : i < ds.length
    · refine .inr ⟨wk.go i F2 H2 X2.f X2.fh hlt, fun H' => ∃ F2 acc out rest, Ext F1 H1 F2 H' ∧ F2 D = none ∧ H' D = some (.lst acc) ∧ Rps K F2 acc out ∧ out ++ rest = res ∧ compL2 vs1 g ta fm g1 ta1 fe (wipeR ρ vs) (ds.drop (i + 1)) = some rest, fun H' h' => ⟨ds.length - (i + 1), by omega, rfl, hlt, h'⟩, fun x H3 y => ?_⟩
      obtain ⟨F3, X3, rx⟩ := wk.yld i F2 H2 x H3 _ X2.f X2.fh (List.getElem?_eq_getElem hlt) y
      rw [List.drop_eq_getElem_cons hlt] at ec
      obtain ⟨ρ', ec1, ec⟩ := bind_some' ec
      split at ec
      · rename_i hno
        obtain ⟨b, ec2, ec⟩ := bind_some' ec
        have Y3 := X1.trans (X2.trans X3)
        refine ⟨F3, _, _, ρ', (S.to Y3).wipe vs, rx, ec1, fun σ4 F4 H4 X4 S4 w4 => ⟨(w4 vs his).trans (wipe_twice vs fun _ h => h), F4, ρ', b, S4, ec2, fun F5 H5 X5 => ?_⟩⟩
        have n2 : H2 D ≠ none := by rw [hD2]; exact fun z => nomatch z
        have X25 := X3.trans (X4.trans X5)
        have f5 := X25.nw D fD n2
        have h5 := X25.h _ _ hD2
        have X15 := X2.trans X25
        have ra5 := ra.mono X25.f
        cases b with
        | false =>
          rw [if_neg Bool.false_ne_true] at ec
          exact iteF ⟨F5, acc, out, rest, X15, f5, h5, ra5, eo, ec⟩
        | true =>
          rw [if_pos rfl] at ec
          refine iteT ?_
          obtain ⟨ds1, ec3, ec⟩ := bind_some' ec
          obtain ⟨ys, ec4, ec⟩ := bind_some' ec
          obtain ⟨zs, ec5, ec⟩ := bind_some' ec
          cases ec
          refine ⟨F5, ρ', ds1, S4.to X5, ec3, fun J1 F6 H6 X6 wk1 => ?_⟩
          have S6 := (S4.to X5).to X6
          have n5 : H5 D ≠ none := by rw [h5]; exact fun z => nomatch z
          refine ⟨fun j k H' => k = ds1.length - j ∧ j ≤ ds1.length ∧ ∃ F2 acc out rest, Ext F1 H1 F2 H' ∧ Same F6 F2 ∧ F2 D = none ∧ H' D = some (.lst acc) ∧ Rps K F2 acc out ∧ out ++ (rest ++ zs) = res ∧ compL g1 ta1 fe (wipeR ρ' vs1) (ds1.drop j) = some rest,
            ⟨ds1.length, rfl, Nat.zero_le _, F6, acc, out, ys, X15.trans X6, Same.refl _, X6.nw D f5 n5, X6.h _ _ h5, ra5.mono X6.f, eo, ec4⟩, ?_⟩
          rintro j k H7 ⟨rfl, hj, F7, acc7, out7, rest7, X7, s67, f7, h7, ra7, eo7, ec7⟩
          by_cases hj1 : j < ds1.length
          · refine .inr ⟨wk1.go j F7 H7 s67 X7.fh hj1, fun H' => ∃ F2 acc out rest, Ext F1 H1 F2 H' ∧ Same F6 F2 ∧ F2 D = none ∧ H' D = some (.lst acc) ∧ Rps K F2 acc out ∧ out ++ (rest ++ zs) = res ∧ compL g1 ta1 fe (wipeR ρ' vs1) (ds1.drop (j + 1)) = some rest,
              fun H' h' => ⟨ds1.length - (j + 1), by omega, rfl, hj1, h'⟩, fun x1 H8 y1 => ?_⟩
            obtain ⟨F8, X8, rx1⟩ := wk1.yld j F7 H7 x1 H8 _ s67 X7.fh (List.getElem?_eq_getElem hj1) y1
            rw [List.drop_eq_getElem_cons hj1] at ec7
            obtain ⟨ρ9, ed1, ec7⟩ := bind_some' ec7
            obtain ⟨b9, ed2, ec7⟩ := bind_some' ec7
            have S8 : SR K F0 H0 F8 H8 σ4 ρ' := S6.noOwn hno (s67.trans X8.f) ((S.to X1).ext.trans (X7.trans X8))
            refine ⟨F8, _, _, ρ9, S8.wipe vs1, rx1, ed1, fun σ10 F10 H10 X10 S10 w10 => ⟨(w10 vs1 his1).trans (wipe_twice vs1 fun _ h => h), F10, ρ9, b9, S10, ed2, fun F11 H11 X11 => ?_⟩⟩
            have X711 := X8.trans (X10.trans X11)
            have n7 : H7 D ≠ none := by rw [h7]; exact fun z => nomatch z
            have f11 := X711.nw D f7 n7
            have h11 := X711.h _ _ h7
            have X1_11 := X7.trans X711
            cases b9 with
            | false =>
              rw [if_neg Bool.false_ne_true] at ec7
              exact iteF ⟨F11, acc7, out7, rest7, X1_11, s67.trans X711.f, f11, h11, ra7.mono X711.f, eo7, ec7⟩
            | true =>
              rw [if_pos rfl] at ec7
              refine iteT ?_
              obtain ⟨yv, ed3, ec7⟩ := bind_some' ec7
              obtain ⟨ys', ed4, ec7⟩ := bind_some' ec7
              cases ec7
              refine ⟨F11, ρ9, yv, S10.to X11, ed3, fun v F12 H12 X12 r12 => ?_⟩
              have n11 : H11 D ≠ none := by rw [h11]; exact fun z => nomatch z
              have h12 := X12.h _ _ h11
              have f12 := X12.nw D f11 n11
              have X1_12 := X1_11.trans X12
              have hlen : acc7.length < 100000 := by
                have := congrArg List.length eo7
                simp only [List.length_append, List.length_cons] at this
                rw [ra7.length]
                omega
              refine ⟨acc7, h12, sz1 hlen, F12, acc7 ++ [v], out7 ++ [yv], ys', ⟨X1_12.f, fun b u eb => ?_, fun b u eb => ?_, X1_12.nw⟩, s67.trans (X711.f.trans X12.f), f12, upd_same, ((ra7.mono X711.f).mono X12.f).append (.one r12), by rw [List.append_assoc]; exact eo7, ed4⟩
              · rw [upd_ne (fun z => by subst z; rw [hD] at eb; cases eb)]; exact X1_12.h b u eb
              · rw [upd_ne (fun z => by subst z; rw [f12] at eb; cases eb)]; exact X1_12.fh b u eb
          · have ej : j = ds1.length := by omega
            refine .inl ⟨wk1.stop j F7 H7 s67 X7.fh ej, ?_⟩
            rw [ej, List.drop_length] at ec7
            cases ec7
            exact ⟨F7, acc7, out7, zs, X7, f7, h7, ra7, eo7, ec5⟩
      · cases ec
    · have ei : i = ds.length := by omega
      refine .inl ⟨wk.stop i F2 H2 X2.f X2.fh (by omega), ?_⟩
      rw [ei, List.drop_length] at ec
      cases ec
      rw [List.append_nil] at eo
      subst eo
      exact q D acc F2 H2 (X1.trans X2) (X1.fresh hD) hD2 fD ra
  · cases e
theorem n_lc2 {elt iter tg1 iter1 : Expr} {ifs ifs1 : List Expr} {scope : Scope} {own : List (Str × Nat)} {vs1 : List Nat} (hc : X.calm = true) (hN : X.N.Nodup) (hi : PI X tg iter (iD X.K F0 H0 fl)) (ok : BlkOk X.N X.env.scope scope own) (his : ∀ i ∈ is, i ∈ own.map (·.2)) (hv : ∀ i ∈ vs1, i ∈ own.map (·.2)) (his1 : ∀ i ∈ is1, i ∈ vs1)
    (hg : ∀ (s : Shared) (H : Hp) (C : Addr) (cl : List (Str × Addr)) (fp : List Addr), PG (X.blk s H scope (compEnvC scope cl C X.env) fp) tg (tG X.K F0 H0 g is)) (ht : ∀ (s : Shared) (H : Hp) (C : Addr) (cl : List (Str × Addr)) (fp : List Addr), PTs (X.blk s H scope (compEnvC scope cl C X.env) fp) ifs (tB1 X.K F0 H0 ta))
    (hi1 : ∀ (s : Shared) (H : Hp) (C : Addr) (cl : List (Str × Addr)) (fp : List Addr), PI (X.blk s H scope (compEnvC scope cl C X.env) fp) tg1 iter1 (iD X.K F0 H0 fm))
    (hg1 : ∀ (s : Shared) (H : Hp) (C : Addr) (cl : List (Str × Addr)) (fp : List Addr), PG (X.blk s H scope (compEnvC scope cl C X.env) fp) tg1 (tG X.K F0 H0 g1 is1)) (ht1 : ∀ (s : Shared) (H : Hp) (C : Addr) (cl : List (Str × Addr)) (fp : List Addr), PTs (X.blk s H scope (compEnvC scope cl C X.env) fp) ifs1 (tB1 X.K F0 H0 ta1))
    (he : ∀ (s : Shared) (H : Hp) (C : Addr) (cl : List (Str × Addr)) (fp : List Addr), PE (X.blk s H scope (compEnvC scope cl C X.env) fp) elt (tD X.K F0 H0 fe)) (hs : ∀ x, foldedSetIterable iter X.env x = pure x := by intro _; rfl) (hs1 : ∀ env x, foldedSetIterable iter1 env x = pure x := by intro _ _; rfl) :
    PE X (.ListComp elt [⟨tg, iter, ifs, 0⟩, ⟨tg1, iter1, ifs1, 0⟩] scope pos) (tN X.K F0 H0 (fComp2 (own.map (·.2)) vs1 fl g ta fm g1 ta1 fe)) :=
  (pe_lc2 hc hN hi ok hv hg ht hi1 hg1 ht1 he hs hs1).imp fun σ H Q h => lc2_of his his1 h
theorem s_setLc2 (i : Nat) {py : Pos} {elt iter tg1 iter1 : Expr} {ifs ifs1 : List Expr} {scope : Scope} {own : List (Str × Nat)} {vs1 : List Nat} {spos : Pos} (hc : X.calm = true) (hN : X.N.Nodup) (hyl : X.env.scope.names.lookup y = some .local)
    (hsw : swapsWith (.ListComp elt [⟨tg, iter, ifs, 0⟩, ⟨tg1, iter1, ifs1, 0⟩] scope pos) (some (.Name y py)) spos.line X.env = pure true) (hi : PI X tg iter (iD X.K F0 H0 fl)) (ok : BlkOk X.N X.env.scope scope own) (his : ∀ i ∈ is, i ∈ own.map (·.2)) (hv : ∀ i ∈ vs1, i ∈ own.map (·.2)) (his1 : ∀ i ∈ is1, i ∈ vs1)
    (hg : ∀ (s : Shared) (H : Hp) (C : Addr) (cl : List (Str × Addr)) (fp : List Addr), PG (X.blk s H scope (compEnvC scope cl C X.env) fp) tg (tG X.K F0 H0 g is)) (ht : ∀ (s : Shared) (H : Hp) (C : Addr) (cl : List (Str × Addr)) (fp : List Addr), PTs (X.blk s H scope (compEnvC scope cl C X.env) fp) ifs (tB1 X.K F0 H0 ta))
    (hi1 : ∀ (s : Shared) (H : Hp) (C : Addr) (cl : List (Str × Addr)) (fp : List Addr), PI (X.blk s H scope (compEnvC scope cl C X.env) fp) tg1 iter1 (iD X.K F0 H0 fm))
    (hg1 : ∀ (s : Shared) (H : Hp) (C : Addr) (cl : List (Str × Addr)) (fp : List Addr), PG (X.blk s H scope (compEnvC scope cl C X.env) fp) tg1 (tG X.K F0 H0 g1 is1)) (ht1 : ∀ (s : Shared) (H : Hp) (C : Addr) (cl : List (Str × Addr)) (fp : List Addr), PTs (X.blk s H scope (compEnvC scope cl C X.env) fp) ifs1 (tB1 X.K F0 H0 ta1))
    (he : ∀ (s : Shared) (H : Hp) (C : Addr) (cl : List (Str × Addr)) (fp : List Addr), PE (X.blk s H scope (compEnvC scope cl C X.env) fp) elt (tD X.K F0 H0 fe)) (hy : X.N[i]? = some y := by rfl) (hs : ∀ x, foldedSetIterable iter X.env x = pure x := by intro _; rfl) (hs1 : ∀ env x, foldedSetIterable iter1 env x = pure x := by intro _ _; rfl) :
    PS X (.Assign [.Name y py] (.ListComp elt [⟨tg, iter, ifs, 0⟩, ⟨tg1, iter1, ifs1, 0⟩] scope pos) spos) (tS X.K F0 H0 (sSetN i (fComp2 (own.map (·.2)) vs1 fl g ta fm g1 ta1 fe))) :=
  (ps_setLc2 hc hN hy hyl hsw hi ok hv hg ht hi1 hg1 ht1 he hs hs1).imp fun Dn σ H ⟨F, ρ, o, S, e, q⟩ => by
    obtain ⟨ds, e1, e⟩ := bind_some' e
    cases e
    exact lc2_of his his1 ⟨F, ρ, ds, S, e1, fun a vs F1 H1 X1 hn ha hf r1 => q _ F1 H1 X1.f (S.setOwn X1 hn ha hf r1)⟩
end
end FD
end

section
set_option Elab.async false
set_option linter.all false
set_option maxRecDepth 100000
set_option maxHeartbeats 2000000
namespace FD
open PySem PySem.Spec PyProof.Rows L2 StX
section
variable {P : Program} {w : World} {K : PySem.W.Frag} {mg : Str → Option Value} {base : Heap}
def b_is_integer : FS := (sRet (fAnd (f1 (isT "int") (fVar 0)) (f1 D.not (f1 (isT "bool") (fVar 0)))))
def Phi_is_integer : List D → Option D := runD 1 1 b_is_integer

abbrev N_is_integer : List Str := ["value"]
theorem sc_is_integer : FnScope N_is_integer ["value"] (defScope (topS 9)) := ⟨rfl, rfl, rfl, by decide +kernel, rfl, by decide +kernel, by decide +kernel⟩
theorem ok_is_integer (T : Txt K mg) : Ok P w K mg base "is_integer" 1 1 Phi_is_integer :=
  ok_mk (N := N_is_integer) (ps := ["value"]) (fs := b_is_integer) (T.d 0 "is_integer" 9 rfl) sc_is_integer (fun _ _ _ _ _ _ _ us hl => match us, hl with | [_], _ => rfl) fun f cdv A outer s H E F0 H0 hr =>
  have nd : N_is_integer.Nodup := sc_is_integer.nd
  (s_one (s_ret (e_and (e_isinst "int" (T.fr 10 "isinstance" rfl) (T.fr 13 "int" rfl) (by decide +kernel) (e_var 0)) (e_one (e_not (e_isinst "bool" (T.fr 10 "isinstance" rfl) (T.fr 14 "bool" rfl) (by decide +kernel) (e_var 0)))))))

def b_is_integer_in : FS := (sRet (fAnd (fCall Phi_is_integer (fCons (fVar 0) fNil)) (fChain D.le D.le (fVar 1) (fVar 0) (fVar 2))))
def Phi_is_integer_in : List D → Option D := runD 3 3 b_is_integer_in

abbrev N_is_integer_in : List Str := ["value", "low", "high"]
theorem sc_is_integer_in : FnScope N_is_integer_in ["value", "low", "high"] (defScope (topS 10)) := ⟨rfl, rfl, rfl, by decide +kernel, rfl, by decide +kernel, by decide +kernel⟩
theorem ok_is_integer_in (T : Txt K mg) : Ok P w K mg base "is_integer_in" 2 3 Phi_is_integer_in :=
  ok_mk (N := N_is_integer_in) (ps := ["value", "low", "high"]) (fs := b_is_integer_in) (T.d 1 "is_integer_in" 10 rfl) sc_is_integer_in (fun _ _ _ _ _ _ _ us hl => match us, hl with | [_, _, _], _ => rfl) fun f cdv A outer s H E F0 H0 hr =>
  have nd : N_is_integer_in.Nodup := sc_is_integer_in.nd
  (s_one (s_ret (e_and (e_callO (ok_is_integer T) hr (by decide) (a_cons (e_var 0) a_nil)) (e_one (e_chain op_le rd_le op_le rd_le (e_var 1) (e_var 0) (e_var 2))))))

def b_is_tuple_of : FS := (sRet (fAnd (f1 (isT "tuple") (fVar 0)) (f2 D.eq (fCall (g1 D.len) (fCons (fVar 0) fNil)) (fVar 1))))
def Phi_is_tuple_of : List D → Option D := runD 2 2 b_is_tuple_of

abbrev N_is_tuple_of : List Str := ["value", "many"]
theorem sc_is_tuple_of : FnScope N_is_tuple_of ["value", "many"] (defScope (topS 11)) := ⟨rfl, rfl, rfl, by decide +kernel, rfl, by decide +kernel, by decide +kernel⟩
theorem ok_is_tuple_of (T : Txt K mg) : Ok P w K mg base "is_tuple_of" 1 2 Phi_is_tuple_of :=
  ok_mk (N := N_is_tuple_of) (ps := ["value", "many"]) (fs := b_is_tuple_of) (T.d 2 "is_tuple_of" 11 rfl) sc_is_tuple_of (fun _ _ _ _ _ _ _ us hl => match us, hl with | [_, _], _ => rfl) fun f cdv A outer s H E F0 H0 hr =>
  have nd : N_is_tuple_of.Nodup := sc_is_tuple_of.nd
  (s_one (s_ret (e_and (e_isinst "tuple" (T.fr 10 "isinstance" rfl) (T.fr 4 "tuple" rfl) (by decide +kernel) (e_var 0)) (e_one (e_cmp (op_eqA hr.units) rd_eq (e_callB call_len_seq rc_len (T.fr 0 "len" rfl) PySem.boot_len (a_cons (e_var 0) a_nil)) (e_var 1))))))

def b_last_place : FS := (sRet (f2 D.add (f2 D.ix (fVar 0) (fK (.int 0))) (fCall (g1 D.sum) (fCons (fFrz (fComp [1, 2] (fItems (f2 D.ix (fVar 0) (fK (.int 2)))) (gT (gC (gN 1) (gC (gN 2) gE))) bYes (fVar 1))) fNil))))
def Phi_last_place : List D → Option D := runD 1 3 b_last_place

abbrev N_last_place : List Str := ["data", "count", "price"]
theorem sc_last_place : FnScope N_last_place ["data"] (defScope (topS 13)) := ⟨rfl, rfl, rfl, by decide +kernel, rfl, by decide +kernel, by decide +kernel⟩
theorem ok_last_place (T : Txt K mg) : Ok P w K mg base "last_place" 1 1 Phi_last_place :=
  ok_mk (N := N_last_place) (ps := ["data"]) (fs := b_last_place) (T.d 3 "last_place" 13 rfl) sc_last_place (fun _ _ _ _ _ _ _ us hl => match us, hl with | [_], _ => rfl) fun f cdv A outer s H E F0 H0 hr =>
  have nd : N_last_place.Nodup := sc_last_place.nd
  (s_one (s_ret (e_op op_add rd_add (e_ix (e_var 0) e_int) (e_callB (cr_sum rfl) rc_sum (T.fr 1 "sum" rfl) (by decide +kernel) (a_cons (e_frz (n_lc (own := [("count", 1), ("price", 2)]) rfl nd (i_seq (e_ix (e_var 0) e_int)) (blkOk_by (own := [("count", 1), ("price", 2)]) (N := N_last_place) (sc := defScope (topS 13)) (by decide +kernel)) (by decide) (fun _ _ _ _ _ => (g_tup rfl (gs_cons (g_name 1 nd) (gs_cons (g_name 2 nd) gs_nil)))) (fun _ _ _ _ _ => ts_nil) (fun _ _ _ _ _ => (e_var 1)))) a_nil)))))

def b_cost_at : FS := (sSeq (sAsg (gT (gC (gN 2) (gC (gN 3) (gC (gN 4) gE)))) (fVar 0))
  (sSeq (sSet 5 (f2 D.sub (fVar 1) (fVar 2)))
  (sSeq (sFor (fItems (fVar 4)) (gT (gC (gN 6) (gC (gN 7) gE)))
   (sSeq (sSet 3 (f2 D.add (fVar 3) (f2 D.mul (fVar 7) (fCall (g2 D.min2) (fCons (fVar 6) (fCons (fVar 5) fNil))))))
  (sSet 5 (f2 D.sub (fVar 5) (fCall (g2 D.min2) (fCons (fVar 6) (fCons (fVar 5) fNil))))))
   sNil)
  (sRet (fVar 3)))))
def Phi_cost_at : List D → Option D := runD 2 8 b_cost_at

abbrev N_cost_at : List Str := ["data", "place", "low", "cost", "steps", "left", "count", "price"]
theorem sc_cost_at : FnScope N_cost_at ["data", "place"] (defScope (topS 14)) := ⟨rfl, rfl, rfl, by decide +kernel, rfl, by decide +kernel, by decide +kernel⟩
theorem ok_cost_at (T : Txt K mg) : Ok P w K mg base "cost_at" 1 2 Phi_cost_at :=
  ok_mk (N := N_cost_at) (ps := ["data", "place"]) (fs := b_cost_at) (T.d 4 "cost_at" 14 rfl) sc_cost_at (fun _ _ _ _ _ _ _ us hl => match us, hl with | [_, _], _ => rfl) fun f cdv A outer s H E F0 H0 hr =>
  have nd : N_cost_at.Nodup := sc_cost_at.nd
  (s_cons (s_asg (e_var 0) (g_tup rfl (gs_cons (g_name 2 nd) (gs_cons (g_name 3 nd) (gs_cons (g_name 4 nd) gs_nil)))))
  (s_cons (s_set 5 nd (e_op op_sub rd_sub (e_var 1) (e_var 2)))
  (s_cons (s_for PassesOwn.never rfl (i_seq (e_var 4)) (g_tup rfl (gs_cons (g_name 6 nd) (gs_cons (g_name 7 nd) gs_nil)))
   (s_cons (s_set 3 nd (e_op op_add rd_add (e_var 3) (e_op op_mul rd_mul (e_var 7) (e_callB (call_min2 rfl) rc_min2 (T.fr 2 "min" rfl) (by decide +kernel) (a_cons (e_var 6) (a_cons (e_var 5) a_nil))))))
  (s_one (s_set 5 nd (e_op op_sub rd_sub (e_var 5) (e_callB (call_min2 rfl) rc_min2 (T.fr 2 "min" rfl) (by decide +kernel) (a_cons (e_var 6) (a_cons (e_var 5) a_nil)))))))
   s_nil)
  (s_one (s_ret (e_var 3))))))

def b_price_after : FS := (sSeq (sSet 2 (f2 D.sub (fVar 1) (f2 D.ix (fVar 0) (fK (.int 0)))))
  (sSeq (sFor (fItems (f2 D.ix (fVar 0) (fK (.int 2)))) (gT (gC (gN 3) (gC (gN 4) gE)))
   (sSeq (sIf (bVal (f2 D.lt (fVar 2) (fVar 3)))
   (sRet (fVar 4))
   sNil)
  (sSet 2 (f2 D.sub (fVar 2) (fVar 3))))
   sNil)
  (sRet (fK .non))))
def Phi_price_after : List D → Option D := runD 2 5 b_price_after

abbrev N_price_after : List Str := ["data", "place", "left", "count", "price"]
theorem sc_price_after : FnScope N_price_after ["data", "place"] (defScope (topS 15)) := ⟨rfl, rfl, rfl, by decide +kernel, rfl, by decide +kernel, by decide +kernel⟩
theorem ok_price_after (T : Txt K mg) : Ok P w K mg base "price_after" 1 2 Phi_price_after :=
  ok_mk (N := N_price_after) (ps := ["data", "place"]) (fs := b_price_after) (T.d 5 "price_after" 15 rfl) sc_price_after (fun _ _ _ _ _ _ _ us hl => match us, hl with | [_, _], _ => rfl) fun f cdv A outer s H E F0 H0 hr =>
  have nd : N_price_after.Nodup := sc_price_after.nd
  (s_cons (s_set 2 nd (e_op op_sub rd_sub (e_var 1) (e_ix (e_var 0) e_int)))
  (s_cons (s_for PassesOwn.never rfl (i_seq (e_ix (e_var 0) e_int)) (g_tup rfl (gs_cons (g_name 3 nd) (gs_cons (g_name 4 nd) gs_nil)))
   (s_cons (s_if (t_cmp op_lt rd_lt (e_var 2) (e_var 3))
   (s_one (s_ret (e_var 4)))
   s_nil)
  (s_one (s_set 2 nd (e_op op_sub rd_sub (e_var 2) (e_var 3)))))
   s_nil)
  (s_one (s_ret e_non))))

def b_is_place : FS := (sRet (fCall Phi_is_integer_in (fCons (fVar 1) (fCons (f2 D.ix (fVar 0) (fK (.int 0))) (fCons (fCall Phi_last_place (fCons (fVar 0) fNil)) fNil)))))
def Phi_is_place : List D → Option D := runD 2 2 b_is_place

abbrev N_is_place : List Str := ["data", "value"]
theorem sc_is_place : FnScope N_is_place ["data", "value"] (defScope (topS 16)) := ⟨rfl, rfl, rfl, by decide +kernel, rfl, by decide +kernel, by decide +kernel⟩
theorem ok_is_place (T : Txt K mg) : Ok P w K mg base "is_place" 3 2 Phi_is_place :=
  ok_mk (N := N_is_place) (ps := ["data", "value"]) (fs := b_is_place) (T.d 6 "is_place" 16 rfl) sc_is_place (fun _ _ _ _ _ _ _ us hl => match us, hl with | [_, _], _ => rfl) fun f cdv A outer s H E F0 H0 hr =>
  have nd : N_is_place.Nodup := sc_is_place.nd
  (s_one (s_ret (e_callO (ok_is_integer_in T) hr (by decide) (a_cons (e_var 1) (a_cons (e_ix (e_var 0) e_int) (a_cons (e_callO (ok_last_place T) hr (by decide) (a_cons (e_var 0) a_nil)) a_nil))))))

def b_joined_steps : FS := (sSeq (sSetN 1 (fLst fNil))
  (sSeq (sFor (fItems (fVar 0)) (gT (gC (gN 2) (gC (gN 3) gE)))
   (sIf (bAnd (bNeO 1) (bVal (f2 D.eq (f2 D.ix (fIxO 1 (f1 D.neg (fK (.int 1)))) (fK (.int 1))) (fVar 3))))
   (sPut 1 (f1 D.neg (fK (.int 1))) (fTup (fCons (f2 D.add (f2 D.ix (fIxO 1 (f1 D.neg (fK (.int 1)))) (fK (.int 0))) (fVar 2)) (fCons (fVar 3) fNil))))
   (sIf (bVal (f2 D.gt (fVar 2) (fK (.int 0))))
   (sApp 1 (fTup (fCons (fVar 2) (fCons (fVar 3) fNil))))
   sNil))
   sNil)
  (sSeq (sFrz 1) (sRet (fCall (g1 D.tuple) (fCons (fVar 1) fNil))))))
def Phi_joined_steps : List D → Option D := runD 1 4 b_joined_steps

abbrev N_joined_steps : List Str := ["steps", "found", "count", "price"]
theorem sc_joined_steps : FnScope N_joined_steps ["steps"] (defScope (topS 17)) := ⟨rfl, rfl, rfl, by decide +kernel, rfl, by decide +kernel, by decide +kernel⟩
theorem ok_joined_steps (T : Txt K mg) : Ok P w K mg base "joined_steps" 1 1 Phi_joined_steps :=
  ok_mk (N := N_joined_steps) (ps := ["steps"]) (fs := b_joined_steps) (T.d 7 "joined_steps" 17 rfl) sc_joined_steps (fun _ _ _ _ _ _ _ us hl => match us, hl with | [_], _ => rfl) fun f cdv A outer s H E F0 H0 hr =>
  have nd : N_joined_steps.Nodup := sc_joined_steps.nd
  (s_cons (s_setN 1 nd (n_lst a_nil))
  (s_cons (s_for PassesOwn.never rfl (i_seq (e_var 0)) (g_tup rfl (gs_cons (g_name 2 nd) (gs_cons (g_name 3 nd) gs_nil)))
   (s_one (s_if (PW.pt (w_and (t_neO 1 hr.units) (w_and1 (t_cmp (op_eqA hr.units) rd_eq (e_ix (e_ixO 1 (e_un un_neg ru_neg e_int)) e_int) (e_var 3)))))
   (s_one (s_put 1 (e_tup (a_cons (e_op op_add rd_add (e_ix (e_ixO 1 (e_un un_neg ru_neg e_int)) e_int) (e_var 2)) (a_cons (e_var 3) a_nil))) (e_un un_neg ru_neg e_int)))
   (s_one (s_if (t_cmp op_gt rd_gt (e_var 2) e_int)
   (s_one (s_app 1 (e_tup (a_cons (e_var 2) (a_cons (e_var 3) a_nil)))))
   s_nil))))
   s_nil)
  (s_frz 1 (s_one (s_ret (e_callT call_tuple_of rc_tuple (T.fr 4 "tuple" rfl) (by decide +kernel) (a_cons (e_var 1) a_nil)))))))

def b_sharing_of : FS := (sSeq (sSet 2 (fFrz (fSortP (fFrz (fComp [3, 4] (fItems (f2 D.cat (f2 D.ix (fVar 0) (fK (.int 2))) (f2 D.ix (fVar 1) (fK (.int 2))))) (gT (gC (gN 3) (gC (gN 4) gE))) bYes (fTup (fCons (fVar 4) (fCons (fVar 3) fNil))))))))
  (sRet (fTup (fCons (f2 D.add (f2 D.ix (fVar 0) (fK (.int 0))) (f2 D.ix (fVar 1) (fK (.int 0)))) (fCons (f2 D.add (f2 D.ix (fVar 0) (fK (.int 1))) (f2 D.ix (fVar 1) (fK (.int 1)))) (fCons (fCall Phi_joined_steps (fCons (fFrz (fComp [4, 3] (fItems (fVar 2)) (gT (gC (gN 4) (gC (gN 3) gE))) bYes (fTup (fCons (fVar 3) (fCons (fVar 4) fNil))))) fNil)) fNil))))))
def Phi_sharing_of : List D → Option D := runD 2 5 b_sharing_of

abbrev N_sharing_of : List Str := ["one", "other", "rows", "count", "price"]
theorem sc_sharing_of : FnScope N_sharing_of ["one", "other"] (defScope (topS 18)) := ⟨rfl, rfl, rfl, by decide +kernel, rfl, by decide +kernel, by decide +kernel⟩
theorem ok_sharing_of (T : Txt K mg) : Ok P w K mg base "sharing_of" 2 2 Phi_sharing_of :=
  ok_mk (N := N_sharing_of) (ps := ["one", "other"]) (fs := b_sharing_of) (T.d 8 "sharing_of" 18 rfl) sc_sharing_of (fun _ _ _ _ _ _ _ us hl => match us, hl with | [_, _], _ => rfl) fun f cdv A outer s H E F0 H0 hr =>
  have nd : N_sharing_of.Nodup := sc_sharing_of.nd
  (s_cons (s_set 2 nd (e_frz (n_sortp (T.fr 5 "sorted" rfl) (e_frz (n_lc (own := [("count", 3), ("price", 4)]) rfl nd (i_seq (e_op op_catA rd_cat (e_ix (e_var 0) e_int) (e_ix (e_var 1) e_int))) (blkOk_by (own := [("count", 3), ("price", 4)]) (N := N_sharing_of) (sc := defScope (topS 18)) (by decide +kernel)) (by decide) (fun _ _ _ _ _ => (g_tup rfl (gs_cons (g_name 3 nd) (gs_cons (g_name 4 nd) gs_nil)))) (fun _ _ _ _ _ => ts_nil) (fun _ _ _ _ _ => (e_tup (a_cons (e_var 4) (a_cons (e_var 3) a_nil)))))))))
  (s_one (s_ret (e_tup (a_cons (e_op op_add rd_add (e_ix (e_var 0) e_int) (e_ix (e_var 1) e_int)) (a_cons (e_op op_add rd_add (e_ix (e_var 0) e_int) (e_ix (e_var 1) e_int)) (a_cons (e_callO (ok_joined_steps T) hr (by decide) (a_cons (e_frz (n_lc (own := [("price", 4), ("count", 3)]) rfl nd (i_seq (e_var 2)) (blkOk_by (own := [("price", 4), ("count", 3)]) (N := N_sharing_of) (sc := defScope (topS 18)) (by decide +kernel)) (by decide) (fun _ _ _ _ _ => (g_tup rfl (gs_cons (g_name 4 nd) (gs_cons (g_name 3 nd) gs_nil)))) (fun _ _ _ _ _ => ts_nil) (fun _ _ _ _ _ => (e_tup (a_cons (e_var 3) (a_cons (e_var 4) a_nil)))))) a_nil)) a_nil)))))))

def b_bends_of : FS := (sSeq (sSetN 1 (fLst (fCons (f2 D.ix (fVar 0) (fK (.int 0))) fNil)))
  (sSeq (sFor (fItems (f2 D.ix (fVar 0) (fK (.int 2)))) (gT (gC (gN 2) (gC (gN 3) gE)))
   (sApp 1 (f2 D.add (fIxO 1 (f1 D.neg (fK (.int 1)))) (fVar 2)))
   sNil)
  (sSeq (sFrz 1) (sRet (fVar 1)))))
def Phi_bends_of : List D → Option D := runD 1 4 b_bends_of

abbrev N_bends_of : List Str := ["data", "found", "count", "price"]
theorem sc_bends_of : FnScope N_bends_of ["data"] (defScope (topS 19)) := ⟨rfl, rfl, rfl, by decide +kernel, rfl, by decide +kernel, by decide +kernel⟩
theorem ok_bends_of (T : Txt K mg) : Ok P w K mg base "bends_of" 1 1 Phi_bends_of :=
  ok_mk (N := N_bends_of) (ps := ["data"]) (fs := b_bends_of) (T.d 9 "bends_of" 19 rfl) sc_bends_of (fun _ _ _ _ _ _ _ us hl => match us, hl with | [_], _ => rfl) fun f cdv A outer s H E F0 H0 hr =>
  have nd : N_bends_of.Nodup := sc_bends_of.nd
  (s_cons (s_setN 1 nd (n_lst (a_cons (e_ix (e_var 0) e_int) a_nil)))
  (s_cons (s_for PassesOwn.never rfl (i_seq (e_ix (e_var 0) e_int)) (g_tup rfl (gs_cons (g_name 2 nd) (gs_cons (g_name 3 nd) gs_nil)))
   (s_one (s_app 1 (e_op op_add rd_add (e_ixO 1 (e_un un_neg ru_neg e_int)) (e_var 2))))
   s_nil)
  (s_frz 1 (s_one (s_ret (e_var 1))))))

def b_sum_of : FS := (sSeq (sAsg (gT (gC (gN 2) (gC (gN 3) gE))) (fTup (fCons (fCall (g2 D.max2) (fCons (f2 D.ix (fVar 0) (fK (.int 0))) (fCons (f2 D.ix (fVar 1) (fK (.int 0))) fNil))) (fCons (fCall (g2 D.min2) (fCons (fCall Phi_last_place (fCons (fVar 0) fNil)) (fCons (fCall Phi_last_place (fCons (fVar 1) fNil)) fNil))) fNil))))
  (sSeq (sSet 4 (fFrz (fSortSet (fFrz (fComp [8] (fItems (fFrz (fCatL (fFrz (fCatL (fCall Phi_bends_of (fCons (fVar 0) fNil)) (fCall Phi_bends_of (fCons (fVar 1) fNil)))) (fFrz (fLst (fCons (fVar 2) (fCons (fVar 3) fNil))))))) (gN 8) (bVal (fChain D.le D.le (fVar 2) (fVar 8) (fVar 3))) (fVar 8))))))
  (sSeq (sSetN 5 (fLst fNil))
  (sSeq (sFor (fZip (fVar 4) (fFrz (fSlL (fVar 4) (oSome (fK (.int 1))) oNone))) (gT (gC (gN 6) (gC (gN 7) gE)))
   (sApp 5 (fTup (fCons (f2 D.sub (fVar 7) (fVar 6)) (fCons (f2 D.add (fCall Phi_price_after (fCons (fVar 0) (fCons (fVar 6) fNil))) (fCall Phi_price_after (fCons (fVar 1) (fCons (fVar 6) fNil)))) fNil))))
   sNil)
  (sSeq (sFrz 5) (sRet (fTup (fCons (fVar 2) (fCons (f2 D.add (fCall Phi_cost_at (fCons (fVar 0) (fCons (fVar 2) fNil))) (fCall Phi_cost_at (fCons (fVar 1) (fCons (fVar 2) fNil)))) (fCons (fCall Phi_joined_steps (fCons (fVar 5) fNil)) fNil))))))))))
def Phi_sum_of : List D → Option D := runD 2 9 b_sum_of

abbrev N_sum_of : List Str := ["one", "other", "low", "high", "bends", "steps", "begin", "end", "place"]
theorem sc_sum_of : FnScope N_sum_of ["one", "other"] (defScope (topS 20)) := ⟨rfl, rfl, rfl, by decide +kernel, rfl, by decide +kernel, by decide +kernel⟩
theorem ok_sum_of (T : Txt K mg) : Ok P w K mg base "sum_of" 2 2 Phi_sum_of :=
  ok_mk (N := N_sum_of) (ps := ["one", "other"]) (fs := b_sum_of) (T.d 10 "sum_of" 20 rfl) sc_sum_of (fun _ _ _ _ _ _ _ us hl => match us, hl with | [_, _], _ => rfl) fun f cdv A outer s H E F0 H0 hr =>
  have nd : N_sum_of.Nodup := sc_sum_of.nd
  (s_cons (s_asg (e_tup (a_cons (e_callB (call_max2 rfl) rc_max2 (T.fr 3 "max" rfl) (by decide +kernel) (a_cons (e_ix (e_var 0) e_int) (a_cons (e_ix (e_var 1) e_int) a_nil))) (a_cons (e_callB (call_min2 rfl) rc_min2 (T.fr 2 "min" rfl) (by decide +kernel) (a_cons (e_callO (ok_last_place T) hr (by decide) (a_cons (e_var 0) a_nil)) (a_cons (e_callO (ok_last_place T) hr (by decide) (a_cons (e_var 1) a_nil)) a_nil))) a_nil))) (g_tup rfl (gs_cons (g_name 2 nd) (gs_cons (g_name 3 nd) gs_nil))))
  (s_cons (s_set 4 nd (e_frz (n_sortset (T.fr 5 "sorted" rfl) (T.fr 6 "set" rfl) rfl (e_frz (n_lc (own := [("place", 8)]) rfl nd (i_seq (e_frz (n_cat (e_frz (n_cat (e_callO (ok_bends_of T) hr (by decide) (a_cons (e_var 0) a_nil)) (e_callO (ok_bends_of T) hr (by decide) (a_cons (e_var 1) a_nil)))) (e_frz (n_lst (a_cons (e_var 2) (a_cons (e_var 3) a_nil))))))) (blkOk_by (own := [("place", 8)]) (N := N_sum_of) (sc := defScope (topS 20)) (by decide +kernel)) (by decide) (fun _ _ _ _ _ => (g_name 8 nd)) (fun _ _ _ _ _ => (ts_one (t_chain op_le rd_le op_le rd_le (e_var 2) (e_var 8) (e_var 3)))) (fun _ _ _ _ _ => (e_var 8)))))))
  (s_cons (s_setN 5 nd (n_lst a_nil))
  (s_cons (s_for PassesOwn.never rfl (i_zip (T.fr 8 "zip" rfl) (e_var 4) (e_frz (n_slL (e_var 4) (o_some e_int) o_none))) (g_tup rfl (gs_cons (g_name 6 nd) (gs_cons (g_name 7 nd) gs_nil)))
   (s_one (s_app 5 (e_tup (a_cons (e_op op_sub rd_sub (e_var 7) (e_var 6)) (a_cons (e_op op_add rd_add (e_callO (ok_price_after T) hr (by decide) (a_cons (e_var 0) (a_cons (e_var 6) a_nil))) (e_callO (ok_price_after T) hr (by decide) (a_cons (e_var 1) (a_cons (e_var 6) a_nil)))) a_nil)))))
   s_nil)
  (s_frz 5 (s_one (s_ret (e_tup (a_cons (e_var 2) (a_cons (e_op op_add rd_add (e_callO (ok_cost_at T) hr (by decide) (a_cons (e_var 0) (a_cons (e_var 2) a_nil))) (e_callO (ok_cost_at T) hr (by decide) (a_cons (e_var 1) (a_cons (e_var 2) a_nil)))) (a_cons (e_callO (ok_joined_steps T) hr (by decide) (a_cons (e_var 5) a_nil)) a_nil)))))))))))

def b_moved_by : FS := (sRet (fTup (fCons (f2 D.add (f2 D.ix (fVar 0) (fK (.int 0))) (fVar 1)) (fCons (f2 D.ix (fVar 0) (fK (.int 1))) (fCons (f2 D.ix (fVar 0) (fK (.int 2))) fNil)))))
def Phi_moved_by : List D → Option D := runD 2 2 b_moved_by

abbrev N_moved_by : List Str := ["data", "shift"]
theorem sc_moved_by : FnScope N_moved_by ["data", "shift"] (defScope (topS 21)) := ⟨rfl, rfl, rfl, by decide +kernel, rfl, by decide +kernel, by decide +kernel⟩
theorem ok_moved_by (T : Txt K mg) : Ok P w K mg base "moved_by" 1 2 Phi_moved_by :=
  ok_mk (N := N_moved_by) (ps := ["data", "shift"]) (fs := b_moved_by) (T.d 11 "moved_by" 21 rfl) sc_moved_by (fun _ _ _ _ _ _ _ us hl => match us, hl with | [_, _], _ => rfl) fun f cdv A outer s H E F0 H0 hr =>
  have nd : N_moved_by.Nodup := sc_moved_by.nd
  (s_one (s_ret (e_tup (a_cons (e_op op_add rd_add (e_ix (e_var 0) e_int) (e_var 1)) (a_cons (e_ix (e_var 0) e_int) (a_cons (e_ix (e_var 0) e_int) a_nil))))))

def b_stocks_after : FS := (sSeq (sSet 2 (fTup (fCons (f2 D.ix (fVar 0) (fK (.int 0))) fNil)))
  (sSeq (sFor (fZip (fVar 1) (f2 D.ix (fVar 0) (fK (.int 1)))) (gT (gC (gN 3) (gC (gT (gC (gN 4) (gC (gN 5) (gC (gN 6) gE)))) gE)))
   (sSet 2 (fTup (fStar (fVar 2) (fCons (f2 D.sub (f2 D.add (f2 D.ix (fVar 2) (f1 D.neg (fK (.int 1)))) (fVar 3)) (fVar 5)) fNil))))
   sNil)
  (sRet (fSlT (fVar 2) (oSome (fK (.int 1))) oNone))))
def Phi_stocks_after : List D → Option D := runD 2 7 b_stocks_after

abbrev N_stocks_after : List Str := ["book", "plan", "found", "units", "buy", "want", "keep"]
theorem sc_stocks_after : FnScope N_stocks_after ["book", "plan"] (defScope (topS 25)) := ⟨rfl, rfl, rfl, by decide +kernel, rfl, by decide +kernel, by decide +kernel⟩
theorem ok_stocks_after (T : Txt K mg) : Ok P w K mg base "stocks_after" 1 2 Phi_stocks_after :=
  ok_mk (N := N_stocks_after) (ps := ["book", "plan"]) (fs := b_stocks_after) (T.d 12 "stocks_after" 25 rfl) sc_stocks_after (fun _ _ _ _ _ _ _ us hl => match us, hl with | [_, _], _ => rfl) fun f cdv A outer s H E F0 H0 hr =>
  have nd : N_stocks_after.Nodup := sc_stocks_after.nd
  (s_cons (s_set 2 nd (e_tup (a_cons (e_ix (e_var 0) e_int) a_nil)))
  (s_cons (s_for PassesOwn.never rfl (i_zip (T.fr 8 "zip" rfl) (e_var 1) (e_ix (e_var 0) e_int)) (g_tup rfl (gs_cons (g_name 3 nd) (gs_cons (g_tup rfl (gs_cons (g_name 4 nd) (gs_cons (g_name 5 nd) (gs_cons (g_name 6 nd) gs_nil)))) gs_nil)))
   (s_one (s_set 2 nd (e_tup (a_star (e_var 2) (a_cons (e_op op_sub rd_sub (e_op op_add rd_add (e_ix (e_var 2) (e_un un_neg ru_neg e_int)) (e_var 3)) (e_var 5)) a_nil)))))
   s_nil)
  (s_one (s_ret (e_slT (e_var 2) (o_some e_int) o_none)))))

def b_fits : FS := (sSeq (sAsg (gT (gC (gN 2) (gC (gN 3) gE))) (fVar 0))
  (sSeq (sIf (bNot (bVal (fCall Phi_is_tuple_of (fCons (fVar 1) (fCons (fCall (g1 D.len) (fCons (fVar 3) fNil)) fNil)))))
   (sRet (fK (.bl false)))
   sNil)
  (sSeq (sIf (bNot (bVal (fCall (g1 D.all) (fCons (fFrz (fComp [4, 6] (fZip (fVar 3) (fVar 1)) (gT (gC (gN 4) (gC (gN 6) gE))) bYes (fCall Phi_is_place (fCons (f2 D.ix (fVar 4) (fK (.int 0))) (fCons (fVar 6) fNil))))) fNil))))
   (sRet (fK (.bl false)))
   sNil)
  (sRet (fCall (g1 D.all) (fCons (fFrz (fComp [4, 5] (fZip (fVar 3) (fCall Phi_stocks_after (fCons (fVar 0) (fCons (fVar 1) fNil)))) (gT (gC (gN 4) (gC (gN 5) gE))) bYes (fCall Phi_is_place (fCons (f2 D.ix (fVar 4) (fK (.int 2))) (fCons (fVar 5) fNil))))) fNil))))))
def Phi_fits : List D → Option D := runD 2 7 b_fits

abbrev N_fits : List Str := ["book", "value", "begin", "periods", "period", "stock", "units"]
theorem sc_fits : FnScope N_fits ["book", "value"] (defScope (topS 26)) := ⟨rfl, rfl, rfl, by decide +kernel, rfl, by decide +kernel, by decide +kernel⟩
theorem ok_fits (T : Txt K mg) : Ok P w K mg base "fits" 4 2 Phi_fits :=
  ok_mk (N := N_fits) (ps := ["book", "value"]) (fs := b_fits) (T.d 13 "fits" 26 rfl) sc_fits (fun _ _ _ _ _ _ _ us hl => match us, hl with | [_, _], _ => rfl) fun f cdv A outer s H E F0 H0 hr =>
  have nd : N_fits.Nodup := sc_fits.nd
  (s_cons (s_asg (e_var 0) (g_tup rfl (gs_cons (g_name 2 nd) (gs_cons (g_name 3 nd) gs_nil))))
  (s_cons (s_if (t_not (t_val (e_callO (ok_is_tuple_of T) hr (by decide) (a_cons (e_var 1) (a_cons (e_callB call_len_seq rc_len (T.fr 0 "len" rfl) PySem.boot_len (a_cons (e_var 3) a_nil)) a_nil)))))
   (s_one (s_ret e_bl))
   s_nil)
  (s_cons (s_if (t_not (t_val (e_callB (cr_all rfl) rc_all (T.fr 11 "all" rfl) (by decide +kernel) (a_cons (e_frz (n_lc (own := [("period", 4), ("units", 6)]) rfl nd (i_zip (T.fr 8 "zip" rfl) (e_var 3) (e_var 1)) (blkOk_by (own := [("period", 4), ("units", 6)]) (N := N_fits) (sc := defScope (topS 26)) (by decide +kernel)) (by decide) (fun _ _ _ _ _ => (g_tup rfl (gs_cons (g_name 4 nd) (gs_cons (g_name 6 nd) gs_nil)))) (fun _ _ _ _ _ => ts_nil) (fun _ _ _ _ _ => (e_callO (ok_is_place T) hr (by decide) (a_cons (e_ix (e_var 4) e_int) (a_cons (e_var 6) a_nil)))))) a_nil))))
   (s_one (s_ret e_bl))
   s_nil)
  (s_one (s_ret (e_callB (cr_all rfl) rc_all (T.fr 11 "all" rfl) (by decide +kernel) (a_cons (e_frz (n_lc (own := [("period", 4), ("stock", 5)]) rfl nd (i_zip (T.fr 8 "zip" rfl) (e_var 3) (e_callO (ok_stocks_after T) hr (by decide) (a_cons (e_var 0) (a_cons (e_var 1) a_nil)))) (blkOk_by (own := [("period", 4), ("stock", 5)]) (N := N_fits) (sc := defScope (topS 26)) (by decide +kernel)) (by decide) (fun _ _ _ _ _ => (g_tup rfl (gs_cons (g_name 4 nd) (gs_cons (g_name 5 nd) gs_nil)))) (fun _ _ _ _ _ => ts_nil) (fun _ _ _ _ _ => (e_callO (ok_is_place T) hr (by decide) (a_cons (e_ix (e_var 4) e_int) (a_cons (e_var 5) a_nil)))))) a_nil)))))))

def b_check_plan : FS := (sIf (bNot (bVal (fCall Phi_fits (fCons (fVar 0) (fCons (fVar 1) fNil)))))
   sNo
   sNil)
def Phi_check_plan : List D → Option D := runD 2 2 b_check_plan

abbrev N_check_plan : List Str := ["book", "value"]
theorem sc_check_plan : FnScope N_check_plan ["book", "value"] (defScope (topS 27)) := ⟨rfl, rfl, rfl, by decide +kernel, rfl, by decide +kernel, by decide +kernel⟩
theorem ok_check_plan (T : Txt K mg) : Ok P w K mg base "check_plan" 5 2 Phi_check_plan :=
  ok_mk (N := N_check_plan) (ps := ["book", "value"]) (fs := b_check_plan) (T.d 14 "check_plan" 27 rfl) sc_check_plan (fun _ _ _ _ _ _ _ us hl => match us, hl with | [_, _], _ => rfl) fun f cdv A outer s H E F0 H0 hr =>
  have nd : N_check_plan.Nodup := sc_check_plan.nd
  (s_one (s_if (t_not (t_val (e_callO (ok_fits T) hr (by decide) (a_cons (e_var 0) (a_cons (e_var 1) a_nil)))))
   (s_one s_no)
   s_nil))

def b_plan_cost : FS := (sSeq (sSet 2 (fFrz (fZip3L (f2 D.ix (fVar 0) (fK (.int 1))) (fVar 1) (fCall Phi_stocks_after (fCons (fVar 0) (fCons (fVar 1) fNil))))))
  (sRet (fCall (g1 D.sum) (fCons (fFrz (fComp [3, 4, 5, 6, 7] (fItems (fVar 2)) (gT (gC (gT (gC (gN 3) (gC (gN 4) (gC (gN 5) gE)))) (gC (gN 6) (gC (gN 7) gE)))) bYes (f2 D.add (fCall Phi_cost_at (fCons (fVar 3) (fCons (fVar 6) fNil))) (fCall Phi_cost_at (fCons (fVar 5) (fCons (fVar 7) fNil)))))) fNil))))
def Phi_plan_cost : List D → Option D := runD 2 8 b_plan_cost

abbrev N_plan_cost : List Str := ["book", "plan", "rows", "buy", "want", "keep", "units", "stock"]
theorem sc_plan_cost : FnScope N_plan_cost ["book", "plan"] (defScope (topS 28)) := ⟨rfl, rfl, rfl, by decide +kernel, rfl, by decide +kernel, by decide +kernel⟩
theorem ok_plan_cost (T : Txt K mg) : Ok P w K mg base "plan_cost" 2 2 Phi_plan_cost :=
  ok_mk (N := N_plan_cost) (ps := ["book", "plan"]) (fs := b_plan_cost) (T.d 15 "plan_cost" 28 rfl) sc_plan_cost (fun _ _ _ _ _ _ _ us hl => match us, hl with | [_, _], _ => rfl) fun f cdv A outer s H E F0 H0 hr =>
  have nd : N_plan_cost.Nodup := sc_plan_cost.nd
  (s_cons (s_set 2 nd (e_frz (n_listzip3 (T.fr 9 "list" rfl) (T.fr 8 "zip" rfl) rfl (e_ix (e_var 0) e_int) (e_var 1) (e_callO (ok_stocks_after T) hr (by decide) (a_cons (e_var 0) (a_cons (e_var 1) a_nil))))))
  (s_one (s_ret (e_callB (cr_sum rfl) rc_sum (T.fr 1 "sum" rfl) (by decide +kernel) (a_cons (e_frz (n_lc (own := [("buy", 3), ("want", 4), ("keep", 5), ("units", 6), ("stock", 7)]) rfl nd (i_seq (e_var 2)) (blkOk_by (own := [("buy", 3), ("want", 4), ("keep", 5), ("units", 6), ("stock", 7)]) (N := N_plan_cost) (sc := defScope (topS 28)) (by decide +kernel)) (by decide) (fun _ _ _ _ _ => (g_tup rfl (gs_cons (g_tup rfl (gs_cons (g_name 3 nd) (gs_cons (g_name 4 nd) (gs_cons (g_name 5 nd) gs_nil)))) (gs_cons (g_name 6 nd) (gs_cons (g_name 7 nd) gs_nil))))) (fun _ _ _ _ _ => ts_nil) (fun _ _ _ _ _ => (e_op op_add rd_add (e_callO (ok_cost_at T) hr (by decide) (a_cons (e_var 3) (a_cons (e_var 6) a_nil))) (e_callO (ok_cost_at T) hr (by decide) (a_cons (e_var 5) (a_cons (e_var 7) a_nil))))))) a_nil)))))

def b_cost_of : FS := (sSeq (sDo (fCall Phi_check_plan (fCons (fVar 0) (fCons (fVar 1) fNil))))
  (sRet (fCall Phi_plan_cost (fCons (fVar 0) (fCons (fVar 1) fNil)))))
def Phi_cost_of : List D → Option D := runD 2 2 b_cost_of

abbrev N_cost_of : List Str := ["book", "plan"]
theorem sc_cost_of : FnScope N_cost_of ["book", "plan"] (defScope (topS 29)) := ⟨rfl, rfl, rfl, by decide +kernel, rfl, by decide +kernel, by decide +kernel⟩
theorem ok_cost_of (T : Txt K mg) : Ok P w K mg base "cost_of" 6 2 Phi_cost_of :=
  ok_mk (N := N_cost_of) (ps := ["book", "plan"]) (fs := b_cost_of) (T.d 16 "cost_of" 29 rfl) sc_cost_of (fun _ _ _ _ _ _ _ us hl => match us, hl with | [_, _], _ => rfl) fun f cdv A outer s H E F0 H0 hr =>
  have nd : N_cost_of.Nodup := sc_cost_of.nd
  (s_cons (s_do (e_callO (ok_check_plan T) hr (by decide) (a_cons (e_var 0) (a_cons (e_var 1) a_nil))))
  (s_one (s_ret (e_callO (ok_plan_cost T) hr (by decide) (a_cons (e_var 0) (a_cons (e_var 1) a_nil))))))

def b_end_of : FS := (sRet (fIf (bVal (f2 D.eq (fVar 1) (fK (.str "short")))) (fCall Phi_last_place (fCons (fVar 0) fNil)) (f2 D.ix (fVar 0) (fK (.int 0)))))
def Phi_end_of : List D → Option D := runD 2 2 b_end_of

abbrev N_end_of : List Str := ["data", "word"]
theorem sc_end_of : FnScope N_end_of ["data", "word"] (defScope (topS 30)) := ⟨rfl, rfl, rfl, by decide +kernel, rfl, by decide +kernel, by decide +kernel⟩
theorem ok_end_of (T : Txt K mg) : Ok P w K mg base "end_of" 2 2 Phi_end_of :=
  ok_mk (N := N_end_of) (ps := ["data", "word"]) (fs := b_end_of) (T.d 17 "end_of" 30 rfl) sc_end_of (fun _ _ _ _ _ _ _ us hl => match us, hl with | [_, _], _ => rfl) fun f cdv A outer s H E F0 H0 hr =>
  have nd : N_end_of.Nodup := sc_end_of.nd
  (s_one (s_ret (e_if (t_cmp (op_eqA hr.units) rd_eq (e_var 1) (e_gstr (T.st 0 "SHORT" "short" rfl))) (e_callO (ok_last_place T) hr (by decide) (a_cons (e_var 0) a_nil)) (e_ix (e_var 0) e_int))))

def b_is_reason : FS := (sSeq (sAsg (gT (gC (gN 4) (gC (gN 5) gE))) (fVar 0))
  (sSeq (sSet 6 (fIf (bVal (f2 D.eq (fVar 2) (fK (.int 0)))) (fVar 4) (fCall Phi_end_of (fCons (f2 D.ix (f2 D.ix (fVar 5) (f2 D.sub (fVar 2) (fK (.int 1)))) (fK (.int 2))) (fCons (fVar 1) fNil)))))
  (sSeq (sSet 7 (f2 D.add (fVar 6) (fCall (g1 D.sum) (fCons (fFrz (fComp [9, 10, 8] (fItems (fSlT (fVar 5) (oSome (fVar 2)) (oSome (f2 D.add (fVar 3) (fK (.int 1)))))) (gT (gC (gN 9) (gC (gN 10) (gC (gN 8) gE)))) bYes (f2 D.sub (fCall Phi_end_of (fCons (fVar 9) (fCons (fVar 1) fNil))) (fVar 10)))) fNil))))
  (sSeq (sSet 8 (f2 D.ix (f2 D.ix (fVar 5) (fVar 3)) (fK (.int 2))))
  (sRet (fIf (bVal (f2 D.eq (fVar 1) (fK (.str "short")))) (f2 D.lt (fVar 7) (f2 D.ix (fVar 8) (fK (.int 0)))) (f2 D.gt (fVar 7) (fCall Phi_last_place (fCons (fVar 8) fNil)))))))))
def Phi_is_reason : List D → Option D := runD 4 11 b_is_reason

abbrev N_is_reason : List Str := ["book", "word", "first", "last", "begin", "periods", "entry", "stock", "keep", "buy", "want"]
theorem sc_is_reason : FnScope N_is_reason ["book", "word", "first", "last"] (defScope (topS 31)) := ⟨rfl, rfl, rfl, by decide +kernel, rfl, by decide +kernel, by decide +kernel⟩
theorem ok_is_reason (T : Txt K mg) : Ok P w K mg base "is_reason" 3 4 Phi_is_reason :=
  ok_mk (N := N_is_reason) (ps := ["book", "word", "first", "last"]) (fs := b_is_reason) (T.d 18 "is_reason" 31 rfl) sc_is_reason (fun _ _ _ _ _ _ _ us hl => match us, hl with | [_, _, _, _], _ => rfl) fun f cdv A outer s H E F0 H0 hr =>
  have nd : N_is_reason.Nodup := sc_is_reason.nd
  (s_cons (s_asg (e_var 0) (g_tup rfl (gs_cons (g_name 4 nd) (gs_cons (g_name 5 nd) gs_nil))))
  (s_cons (s_set 6 nd (e_if (t_cmp (op_eqA hr.units) rd_eq (e_var 2) e_int) (e_var 4) (e_callO (ok_end_of T) hr (by decide) (a_cons (e_ix (e_ix (e_var 5) (e_op op_sub rd_sub (e_var 2) e_int)) e_int) (a_cons (e_var 1) a_nil)))))
  (s_cons (s_set 7 nd (e_op op_add rd_add (e_var 6) (e_callB (cr_sum rfl) rc_sum (T.fr 1 "sum" rfl) (by decide +kernel) (a_cons (e_frz (n_lc (own := [("buy", 9), ("want", 10), ("keep", 8)]) rfl nd (i_seq (e_slT (e_var 5) (o_some (e_var 2)) (o_some (e_op op_add rd_add (e_var 3) e_int)))) (blkOk_by (own := [("buy", 9), ("want", 10), ("keep", 8)]) (N := N_is_reason) (sc := defScope (topS 31)) (by decide +kernel)) (by decide) (fun _ _ _ _ _ => (g_tup rfl (gs_cons (g_name 9 nd) (gs_cons (g_name 10 nd) (gs_cons (g_name 8 nd) gs_nil))))) (fun _ _ _ _ _ => ts_nil) (fun _ _ _ _ _ => (e_op op_sub rd_sub (e_callO (ok_end_of T) hr (by decide) (a_cons (e_var 9) (a_cons (e_var 1) a_nil))) (e_var 10))))) a_nil))))
  (s_cons (s_set 8 nd (e_ix (e_ix (e_var 5) (e_var 3)) e_int))
  (s_one (s_ret (e_if (t_cmp (op_eqA hr.units) rd_eq (e_var 1) (e_gstr (T.st 0 "SHORT" "short" rfl))) (e_cmp op_lt rd_lt (e_var 7) (e_ix (e_var 8) e_int)) (e_cmp op_gt rd_gt (e_var 7) (e_callO (ok_last_place T) hr (by decide) (a_cons (e_var 8) a_nil))))))))))

def b_find_reason : FS := (sSeq (sFor (fRng1 (fCall (g1 D.len) (fCons (f2 D.ix (fVar 0) (fK (.int 1))) fNil))) (gN 1)
   (sFor (fRng1 (f2 D.add (fVar 1) (fK (.int 1)))) (gN 2)
   (sFor (fItems (fTup (fCons (fK (.str "short")) (fCons (fK (.str "over")) fNil)))) (gN 3)
   (sIf (bVal (fCall Phi_is_reason (fCons (fVar 0) (fCons (fVar 3) (fCons (fVar 2) (fCons (fVar 1) fNil))))))
   (sRet (fTup (fCons (fVar 3) (fCons (fVar 2) (fCons (fVar 1) fNil)))))
   sNil)
   sNil)
   sNil)
   sNil)
  (sRet (fK .non)))
def Phi_find_reason : List D → Option D := runD 1 4 b_find_reason

abbrev N_find_reason : List Str := ["book", "last", "first", "word"]
theorem sc_find_reason : FnScope N_find_reason ["book"] (defScope (topS 32)) := ⟨rfl, rfl, rfl, by decide +kernel, rfl, by decide +kernel, by decide +kernel⟩
theorem ok_find_reason (T : Txt K mg) : Ok P w K mg base "find_reason" 4 1 Phi_find_reason :=
  ok_mk (N := N_find_reason) (ps := ["book"]) (fs := b_find_reason) (T.d 19 "find_reason" 32 rfl) sc_find_reason (fun _ _ _ _ _ _ _ us hl => match us, hl with | [_], _ => rfl) fun f cdv A outer s H E F0 H0 hr =>
  have nd : N_find_reason.Nodup := sc_find_reason.nd
  (s_cons (s_for PassesOwn.never rfl (i_rng1 (T.fr 7 "range" rfl) (e_callB call_len_seq rc_len (T.fr 0 "len" rfl) PySem.boot_len (a_cons (e_ix (e_var 0) e_int) a_nil))) (g_name 1 nd)
   (s_one (s_for PassesOwn.never rfl (i_rng1 (T.fr 7 "range" rfl) (e_op op_add rd_add (e_var 1) e_int)) (g_name 2 nd)
   (s_one (s_for PassesOwn.never rfl (i_seq (e_tup (a_cons (e_gstr (T.st 0 "SHORT" "short" rfl)) (a_cons (e_gstr (T.st 1 "OVER" "over" rfl)) a_nil)))) (g_name 3 nd)
   (s_one (s_if (t_val (e_callO (ok_is_reason T) hr (by decide) (a_cons (e_var 0) (a_cons (e_var 3) (a_cons (e_var 2) (a_cons (e_var 1) a_nil))))))
   (s_one (s_ret (e_tup (a_cons (e_var 3) (a_cons (e_var 2) (a_cons (e_var 1) a_nil))))))
   s_nil))
   s_nil))
   s_nil))
   s_nil)
  (s_one (s_ret e_non)))

end
end FD
end

section
set_option Elab.async false
set_option linter.all false
set_option maxRecDepth 100000
set_option maxHeartbeats 2000000
namespace FD
open PySem PySem.Spec PyProof.Rows L2 StX
section
variable {P : Program} {w : World} {K : PySem.W.Frag} {mg : Str → Option Value} {base : Heap}
def b_check_way : FS := (sIfW 1 (fCall Phi_find_reason (fCons (fVar 0) fNil)) sNo sNil)
def Phi_check_way : List D → Option D := runD 1 2 b_check_way

abbrev N_check_way : List Str := ["book", "reason"]
theorem sc_check_way : FnScope N_check_way ["book"] (defScope (topS 33)) := ⟨rfl, rfl, rfl, by decide +kernel, rfl, by decide +kernel, by decide +kernel⟩
theorem ok_check_way (T : Txt K mg) : Ok P w K mg base "check_way" 5 1 Phi_check_way :=
  ok_mk (N := N_check_way) (ps := ["book"]) (fs := b_check_way) (T.d 20 "check_way" 33 rfl) sc_check_way (fun _ _ _ _ _ _ _ us hl => match us, hl with | [_], _ => rfl) fun f cdv A outer s H E F0 H0 hr =>
  have nd : N_check_way.Nodup := sc_check_way.nd
  (s_one (s_ifW 1 nd (e_callO (ok_find_reason T) hr (by decide) (a_cons (e_var 0) a_nil)) (s_one s_no) s_nil))

def b_best_of : FS := (sSeq (sPar2 2 3 (f2 D.ix (fVar 0) (fK (.int 0))) (f2 D.ix (fVar 0) (fK (.int 0))))
  (sSeq (sFor (fItems (f2 D.ix (fVar 0) (fK (.int 2)))) (gT (gC (gN 4) (gC (gN 5) gE)))
   (sSeq (sIf (bVal (f2 D.lt (fVar 5) (fVar 1)))
   (sSet 2 (f2 D.add (fVar 2) (fVar 4)))
   sNil)
  (sIf (bVal (f2 D.le (fVar 5) (fVar 1)))
   (sSet 3 (f2 D.add (fVar 3) (fVar 4)))
   sNil))
   sNil)
  (sRet (fTup (fCons (fVar 2) (fCons (fVar 3) fNil))))))
def Phi_best_of : List D → Option D := runD 2 6 b_best_of

abbrev N_best_of : List Str := ["data", "price", "first", "last", "count", "own"]
theorem sc_best_of : FnScope N_best_of ["data", "price"] (defScope (topS 35)) := ⟨rfl, rfl, rfl, by decide +kernel, rfl, by decide +kernel, by decide +kernel⟩
theorem ok_best_of (T : Txt K mg) : Ok P w K mg base "best_of" 1 2 Phi_best_of :=
  ok_mk (N := N_best_of) (ps := ["data", "price"]) (fs := b_best_of) (T.d 21 "best_of" 35 rfl) sc_best_of (fun _ _ _ _ _ _ _ us hl => match us, hl with | [_, _], _ => rfl) fun f cdv A outer s H E F0 H0 hr =>
  have nd : N_best_of.Nodup := sc_best_of.nd
  (s_cons (s_par2 2 3 rfl nd (e_ix (e_var 0) e_int) (e_ix (e_var 0) e_int))
  (s_cons (s_for PassesOwn.never rfl (i_seq (e_ix (e_var 0) e_int)) (g_tup rfl (gs_cons (g_name 4 nd) (gs_cons (g_name 5 nd) gs_nil)))
   (s_cons (s_if (t_cmp op_lt rd_lt (e_var 5) (e_var 1))
   (s_one (s_set 2 nd (e_op op_add rd_add (e_var 2) (e_var 4))))
   s_nil)
  (s_one (s_if (t_cmp op_le rd_le (e_var 5) (e_var 1))
   (s_one (s_set 3 nd (e_op op_add rd_add (e_var 3) (e_var 4))))
   s_nil)))
   s_nil)
  (s_one (s_ret (e_tup (a_cons (e_var 2) (a_cons (e_var 3) a_nil)))))))

def b_gain_of : FS := (sSeq (sSet 2 (f2 D.ix (fCall Phi_best_of (fCons (fVar 0) (fCons (fVar 1) fNil))) (fK (.int 0))))
  (sRet (f2 D.sub (f2 D.mul (fVar 1) (fVar 2)) (fCall Phi_cost_at (fCons (fVar 0) (fCons (fVar 2) fNil))))))
def Phi_gain_of : List D → Option D := runD 2 3 b_gain_of

abbrev N_gain_of : List Str := ["data", "price", "place"]
theorem sc_gain_of : FnScope N_gain_of ["data", "price"] (defScope (topS 36)) := ⟨rfl, rfl, rfl, by decide +kernel, rfl, by decide +kernel, by decide +kernel⟩
theorem ok_gain_of (T : Txt K mg) : Ok P w K mg base "gain_of" 2 2 Phi_gain_of :=
  ok_mk (N := N_gain_of) (ps := ["data", "price"]) (fs := b_gain_of) (T.d 22 "gain_of" 36 rfl) sc_gain_of (fun _ _ _ _ _ _ _ us hl => match us, hl with | [_, _], _ => rfl) fun f cdv A outer s H E F0 H0 hr =>
  have nd : N_gain_of.Nodup := sc_gain_of.nd
  (s_cons (s_set 2 nd (e_ix (e_callO (ok_best_of T) hr (by decide) (a_cons (e_var 0) (a_cons (e_var 1) a_nil))) e_int))
  (s_one (s_ret (e_op op_sub rd_sub (e_op op_mul rd_mul (e_var 1) (e_var 2)) (e_callO (ok_cost_at T) hr (by decide) (a_cons (e_var 0) (a_cons (e_var 2) a_nil)))))))

def b_price_ends : FS := (sSeq (sPar3 2 3 4 (fK .non) (fK .non) (f2 D.ix (fVar 0) (fK (.int 0))))
  (sSeq (sFor (fItems (f2 D.ix (fVar 0) (fK (.int 2)))) (gT (gC (gN 5) (gC (gN 6) gE)))
   (sSeq (sSet 7 (f2 D.add (fVar 4) (fVar 5)))
  (sSeq (sIf (bVal (f2 D.lt (fVar 4) (fVar 1)))
   (sSet 2 (fVar 6))
   sNil)
  (sSeq (sIf (bAnd (bVal (f2 D.isNone (fVar 3) (fK .non))) (bVal (f2 D.lt (fVar 1) (fVar 7))))
   (sSet 3 (fVar 6))
   sNil)
  (sSet 4 (fVar 7)))))
   sNil)
  (sRet (fTup (fCons (fVar 2) (fCons (fVar 3) fNil))))))
def Phi_price_ends : List D → Option D := runD 2 8 b_price_ends

abbrev N_price_ends : List Str := ["data", "place", "low", "high", "begin", "count", "price", "end"]
theorem sc_price_ends : FnScope N_price_ends ["data", "place"] (defScope (topS 37)) := ⟨rfl, rfl, rfl, by decide +kernel, rfl, by decide +kernel, by decide +kernel⟩
theorem ok_price_ends (T : Txt K mg) : Ok P w K mg base "price_ends" 1 2 Phi_price_ends :=
  ok_mk (N := N_price_ends) (ps := ["data", "place"]) (fs := b_price_ends) (T.d 23 "price_ends" 37 rfl) sc_price_ends (fun _ _ _ _ _ _ _ us hl => match us, hl with | [_, _], _ => rfl) fun f cdv A outer s H E F0 H0 hr =>
  have nd : N_price_ends.Nodup := sc_price_ends.nd
  (s_cons (s_par3 2 3 4 rfl nd e_non e_non (e_ix (e_var 0) e_int))
  (s_cons (s_for PassesOwn.never rfl (i_seq (e_ix (e_var 0) e_int)) (g_tup rfl (gs_cons (g_name 5 nd) (gs_cons (g_name 6 nd) gs_nil)))
   (s_cons (s_set 7 nd (e_op op_add rd_add (e_var 4) (e_var 5)))
  (s_cons (s_if (t_cmp op_lt rd_lt (e_var 4) (e_var 1))
   (s_one (s_set 2 nd (e_var 6)))
   s_nil)
  (s_cons (s_if (PW.pt (w_and (t_cmp op_isN rd_isN (e_var 3) e_non) (w_and1 (t_cmp op_lt rd_lt (e_var 1) (e_var 7)))))
   (s_one (s_set 3 nd (e_var 6)))
   s_nil)
  (s_one (s_set 4 nd (e_var 7))))))
   s_nil)
  (s_one (s_ret (e_tup (a_cons (e_var 2) (a_cons (e_var 3) a_nil)))))))

def b_common_price : FS := (sSeq (sSetN 2 (fComp [4, 5] (fItems (fTup (fCons (fVar 0) (fCons (fVar 1) fNil)))) (gT (gC (gN 4) (gC (gN 5) gE))) (bVal (f2 D.notNone (fVar 4) (fK .non))) (fVar 4)))
  (sSeq (sSetN 3 (fComp [4, 5] (fItems (fTup (fCons (fVar 0) (fCons (fVar 1) fNil)))) (gT (gC (gN 4) (gC (gN 5) gE))) (bVal (f2 D.notNone (fVar 5) (fK .non))) (fVar 5)))
  (sSeq (sIf (bNeO 2)
   (sSeq (sFrz 2) (sRet (fCall (g1 D.max1) (fCons (fVar 2) fNil))))
   sNil)
  (sSeq (sFrz 3) (sRet (fIf (bVal (f2 D.ne (fVar 3) (fFrz (fLst fNil)))) (fCall (g1 D.min1) (fCons (fVar 3) fNil)) (fK (.int 0))))))))
def Phi_common_price : List D → Option D := runD 2 6 b_common_price

abbrev N_common_price : List Str := ["one", "other", "lows", "highs", "low", "high"]
theorem sc_common_price : FnScope N_common_price ["one", "other"] (defScope (topS 38)) := ⟨rfl, rfl, rfl, by decide +kernel, rfl, by decide +kernel, by decide +kernel⟩
theorem ok_common_price (T : Txt K mg) : Ok P w K mg base "common_price" 1 2 Phi_common_price :=
  ok_mk (N := N_common_price) (ps := ["one", "other"]) (fs := b_common_price) (T.d 24 "common_price" 38 rfl) sc_common_price (fun _ _ _ _ _ _ _ us hl => match us, hl with | [_, _], _ => rfl) fun f cdv A outer s H E F0 H0 hr =>
  have nd : N_common_price.Nodup := sc_common_price.nd
  (s_cons (s_setLc (own := [("low", 4), ("high", 5)]) 2 rfl nd rfl (sw_true rfl rfl rfl (by decide +kernel)) (i_seq (e_tup (a_cons (e_var 0) (a_cons (e_var 1) a_nil)))) (blkOk_by (own := [("low", 4), ("high", 5)]) (N := N_common_price) (sc := defScope (topS 38)) (by decide +kernel)) (by decide) (fun _ _ _ _ _ => (g_tup rfl (gs_cons (g_name 4 nd) (gs_cons (g_name 5 nd) gs_nil)))) (fun _ _ _ _ _ => (ts_one (t_cmp op_notN rd_notN (e_var 4) e_non))) (fun _ _ _ _ _ => (e_var 4)))
  (s_cons (s_setLc (own := [("low", 4), ("high", 5)]) 3 rfl nd rfl (sw_true rfl rfl rfl (by decide +kernel)) (i_seq (e_tup (a_cons (e_var 0) (a_cons (e_var 1) a_nil)))) (blkOk_by (own := [("low", 4), ("high", 5)]) (N := N_common_price) (sc := defScope (topS 38)) (by decide +kernel)) (by decide) (fun _ _ _ _ _ => (g_tup rfl (gs_cons (g_name 4 nd) (gs_cons (g_name 5 nd) gs_nil)))) (fun _ _ _ _ _ => (ts_one (t_cmp op_notN rd_notN (e_var 5) e_non))) (fun _ _ _ _ _ => (e_var 5)))
  (s_cons (s_if (t_neO 2 hr.units)
   (s_frz 2 (s_one (s_ret (e_callB (cr_max rfl) rc_max1 (T.fr 3 "max" rfl) (by decide +kernel) (a_cons (e_var 2) a_nil)))))
   s_nil)
  (s_frz 3 (s_one (s_ret (e_if (t_cmp (op_neA hr.units) rd_ne (e_var 3) (e_frz (n_lst a_nil))) (e_callB (cr_min rfl) rc_min1 (T.fr 2 "min" rfl) (by decide +kernel) (a_cons (e_var 3) a_nil)) e_int)))))))

def b_costs_so_far : FS := (sSeq (sAsg (gT (gC (gN 1) (gC (gN 2) gE))) (fVar 0))
  (sSeq (sSetN 3 (fLst (fCons (fTup (fCons (fVar 1) (fCons (fK (.int 0)) (fCons (fTup fNil) fNil)))) fNil)))
  (sSeq (sFor (fItems (fVar 2)) (gT (gC (gN 4) (gC (gN 5) (gC (gN 6) gE))))
   (sApp 3 (fCall Phi_sum_of (fCons (fCall Phi_moved_by (fCons (fCall Phi_sharing_of (fCons (fIxO 3 (f1 D.neg (fK (.int 1)))) (fCons (fVar 4) fNil))) (fCons (f2 D.sub (fK (.int 0)) (fVar 5)) fNil))) (fCons (fVar 6) fNil))))
   sNil)
  (sSeq (sFrz 3) (sRet (fVar 3))))))
def Phi_costs_so_far : List D → Option D := runD 1 7 b_costs_so_far

abbrev N_costs_so_far : List Str := ["book", "begin", "periods", "found", "buy", "want", "keep"]
theorem sc_costs_so_far : FnScope N_costs_so_far ["book"] (defScope (topS 47)) := ⟨rfl, rfl, rfl, by decide +kernel, rfl, by decide +kernel, by decide +kernel⟩
theorem ok_costs_so_far (T : Txt K mg) : Ok P w K mg base "costs_so_far" 3 1 Phi_costs_so_far :=
  ok_mk (N := N_costs_so_far) (ps := ["book"]) (fs := b_costs_so_far) (T.d 25 "costs_so_far" 47 rfl) sc_costs_so_far (fun _ _ _ _ _ _ _ us hl => match us, hl with | [_], _ => rfl) fun f cdv A outer s H E F0 H0 hr =>
  have nd : N_costs_so_far.Nodup := sc_costs_so_far.nd
  (s_cons (s_asg (e_var 0) (g_tup rfl (gs_cons (g_name 1 nd) (gs_cons (g_name 2 nd) gs_nil))))
  (s_cons (s_setN 3 nd (n_lst (a_cons (e_tup (a_cons (e_var 1) (a_cons e_int (a_cons (e_tup a_nil) a_nil)))) a_nil)))
  (s_cons (s_for PassesOwn.never rfl (i_seq (e_var 2)) (g_tup rfl (gs_cons (g_name 4 nd) (gs_cons (g_name 5 nd) (gs_cons (g_name 6 nd) gs_nil))))
   (s_one (s_app 3 (e_callO (ok_sum_of T) hr (by decide) (a_cons (e_callO (ok_moved_by T) hr (by decide) (a_cons (e_callO (ok_sharing_of T) hr (by decide) (a_cons (e_ixO 3 (e_un un_neg ru_neg e_int)) (a_cons (e_var 4) a_nil))) (a_cons (e_op op_sub rd_sub e_int (e_var 5)) a_nil))) (a_cons (e_var 6) a_nil)))))
   s_nil)
  (s_frz 3 (s_one (s_ret (e_var 3)))))))

def b_lowest_cost : FS := (sRet (f2 D.sub (fK (.int 0)) (fCall Phi_gain_of (fCons (f2 D.ix (fCall Phi_costs_so_far (fCons (fVar 0) fNil)) (f1 D.neg (fK (.int 1)))) (fCons (fK (.int 0)) fNil)))))
def Phi_lowest_cost : List D → Option D := runD 1 1 b_lowest_cost

abbrev N_lowest_cost : List Str := ["book"]
theorem sc_lowest_cost : FnScope N_lowest_cost ["book"] (defScope (topS 48)) := ⟨rfl, rfl, rfl, by decide +kernel, rfl, by decide +kernel, by decide +kernel⟩
theorem ok_lowest_cost (T : Txt K mg) : Ok P w K mg base "lowest_cost" 4 1 Phi_lowest_cost :=
  ok_mk (N := N_lowest_cost) (ps := ["book"]) (fs := b_lowest_cost) (T.d 26 "lowest_cost" 48 rfl) sc_lowest_cost (fun _ _ _ _ _ _ _ us hl => match us, hl with | [_], _ => rfl) fun f cdv A outer s H E F0 H0 hr =>
  have nd : N_lowest_cost.Nodup := sc_lowest_cost.nd
  (s_one (s_ret (e_op op_sub rd_sub e_int (e_callO (ok_gain_of T) hr (by decide) (a_cons (e_ix (e_callO (ok_costs_so_far T) hr (by decide) (a_cons (e_var 0) a_nil)) (e_un un_neg ru_neg e_int)) (a_cons e_int a_nil))))))

def b_least_cost : FS := (sSeq (sDo (fCall Phi_check_way (fCons (fVar 0) fNil)))
  (sRet (fCall Phi_lowest_cost (fCons (fVar 0) fNil))))
def Phi_least_cost : List D → Option D := runD 1 1 b_least_cost

abbrev N_least_cost : List Str := ["book"]
theorem sc_least_cost : FnScope N_least_cost ["book"] (defScope (topS 49)) := ⟨rfl, rfl, rfl, by decide +kernel, rfl, by decide +kernel, by decide +kernel⟩
theorem ok_least_cost (T : Txt K mg) : Ok P w K mg base "least_cost" 6 1 Phi_least_cost :=
  ok_mk (N := N_least_cost) (ps := ["book"]) (fs := b_least_cost) (T.d 27 "least_cost" 49 rfl) sc_least_cost (fun _ _ _ _ _ _ _ us hl => match us, hl with | [_], _ => rfl) fun f cdv A outer s H E F0 H0 hr =>
  have nd : N_least_cost.Nodup := sc_least_cost.nd
  (s_cons (s_do (e_callO (ok_check_way T) hr (by decide) (a_cons (e_var 0) a_nil)))
  (s_one (s_ret (e_callO (ok_lowest_cost T) hr (by decide) (a_cons (e_var 0) a_nil)))))

def b_is_price : FS := (sRet (fAnd (fCall Phi_is_integer (fCons (fVar 0) fNil)) (fChain D.lt D.lt (f2 D.sub (fK (.int 0)) (fK (.int 1000000000000000000000000000000))) (fVar 0) (fK (.int 1000000000000000000000000000000)))))
def Phi_is_price : List D → Option D := runD 1 1 b_is_price

abbrev N_is_price : List Str := ["value"]
theorem sc_is_price : FnScope N_is_price ["value"] (defScope (topS 50)) := ⟨rfl, rfl, rfl, by decide +kernel, rfl, by decide +kernel, by decide +kernel⟩
theorem ok_is_price (T : Txt K mg) : Ok P w K mg base "is_price" 2 1 Phi_is_price :=
  ok_mk (N := N_is_price) (ps := ["value"]) (fs := b_is_price) (T.d 28 "is_price" 50 rfl) sc_is_price (fun _ _ _ _ _ _ _ us hl => match us, hl with | [_], _ => rfl) fun f cdv A outer s H E F0 H0 hr =>
  have nd : N_is_price.Nodup := sc_is_price.nd
  (s_one (s_ret (e_and (e_callO (ok_is_integer T) hr (by decide) (a_cons (e_var 0) a_nil)) (e_one (e_chain op_lt rd_lt op_lt rd_lt (e_op op_sub rd_sub e_int (e_gint T.great)) (e_var 0) (e_gint T.great))))))

def b_price_bound : FS := (sSeq (sAsg (gT (gC (gN 2) (gC (gN 3) gE))) (fVar 0))
  (sSeq (sIf (bOr (bNot (bVal (fCall Phi_is_tuple_of (fCons (fVar 1) (fCons (fCall (g1 D.len) (fCons (fVar 3) fNil)) fNil))))) (bNot (bVal (fCall (g1 D.all) (fCons (fFrz (fComp [8] (fItems (fVar 1)) (gN 8) bYes (fCall Phi_is_price (fCons (fVar 8) fNil)))) fNil)))))
   (sRet (fK .non))
   sNil)
  (sSeq (sSet 4 (f2 D.sub (fK (.int 0)) (f2 D.mul (fVar 2) (f2 D.ix (fVar 1) (fK (.int 0))))))
  (sSeq (sFor (fZip3 (fVar 3) (fVar 1) (fTup (fStar (fSlT (fVar 1) (oSome (fK (.int 1))) oNone) (fCons (fK (.int 0)) fNil)))) (gT (gC (gT (gC (gN 5) (gC (gN 6) (gC (gN 7) gE)))) (gC (gN 8) (gC (gN 9) gE))))
   (sAug 4 D.add (f2 D.sub (f2 D.sub (f2 D.mul (fVar 8) (fVar 6)) (fCall Phi_gain_of (fCons (fVar 5) (fCons (fVar 8) fNil)))) (fCall Phi_gain_of (fCons (fVar 7) (fCons (f2 D.sub (fVar 9) (fVar 8)) fNil)))))
   sNil)
  (sRet (fVar 4))))))
def Phi_price_bound : List D → Option D := runD 2 10 b_price_bound

abbrev N_price_bound : List Str := ["book", "value", "begin", "periods", "bound", "buy", "want", "keep", "price", "later"]
theorem sc_price_bound : FnScope N_price_bound ["book", "value"] (defScope (topS 51)) := ⟨rfl, rfl, rfl, by decide +kernel, rfl, by decide +kernel, by decide +kernel⟩
theorem ok_price_bound (T : Txt K mg) : Ok P w K mg base "price_bound" 3 2 Phi_price_bound :=
  ok_mk (N := N_price_bound) (ps := ["book", "value"]) (fs := b_price_bound) (T.d 29 "price_bound" 51 rfl) sc_price_bound (fun _ _ _ _ _ _ _ us hl => match us, hl with | [_, _], _ => rfl) fun f cdv A outer s H E F0 H0 hr =>
  have nd : N_price_bound.Nodup := sc_price_bound.nd
  (s_cons (s_asg (e_var 0) (g_tup rfl (gs_cons (g_name 2 nd) (gs_cons (g_name 3 nd) gs_nil))))
  (s_cons (s_if (PW.pt (w_or (t_not (t_val (e_callO (ok_is_tuple_of T) hr (by decide) (a_cons (e_var 1) (a_cons (e_callB call_len_seq rc_len (T.fr 0 "len" rfl) PySem.boot_len (a_cons (e_var 3) a_nil)) a_nil))))) (w_or1 (t_not (t_val (e_callB (cr_all rfl) rc_all (T.fr 11 "all" rfl) (by decide +kernel) (a_cons (e_frz (n_lc (own := [("price", 8)]) rfl nd (i_seq (e_var 1)) (blkOk_by (own := [("price", 8)]) (N := N_price_bound) (sc := defScope (topS 51)) (by decide +kernel)) (by decide) (fun _ _ _ _ _ => (g_name 8 nd)) (fun _ _ _ _ _ => ts_nil) (fun _ _ _ _ _ => (e_callO (ok_is_price T) hr (by decide) (a_cons (e_var 8) a_nil))))) a_nil)))))))
   (s_one (s_ret e_non))
   s_nil)
  (s_cons (s_set 4 nd (e_op op_sub rd_sub e_int (e_op op_mul rd_mul (e_var 2) (e_ix (e_var 1) e_int))))
  (s_cons (s_for PassesOwn.never rfl (i_zip3 (T.fr 8 "zip" rfl) (e_var 3) (e_var 1) (e_tup (a_star (e_slT (e_var 1) (o_some e_int) o_none) (a_cons e_int a_nil)))) (g_tup rfl (gs_cons (g_tup rfl (gs_cons (g_name 5 nd) (gs_cons (g_name 6 nd) (gs_cons (g_name 7 nd) gs_nil)))) (gs_cons (g_name 8 nd) (gs_cons (g_name 9 nd) gs_nil))))
   (s_one (s_aug 4 nd (e_op op_sub rd_sub (e_op op_sub rd_sub (e_op op_mul rd_mul (e_var 8) (e_var 6)) (e_callO (ok_gain_of T) hr (by decide) (a_cons (e_var 5) (a_cons (e_var 8) a_nil)))) (e_callO (ok_gain_of T) hr (by decide) (a_cons (e_var 7) (a_cons (e_op op_sub rd_sub (e_var 9) (e_var 8)) a_nil)))) ip_add ri_add))
   s_nil)
  (s_one (s_ret (e_var 4)))))))

def b_is_change : FS := (sSeq (sIf (bOr (bNot (bVal (f1 (isT "tuple") (fVar 1)))) (bOr (bVal (f2 D.notIn (fCall (g1 D.len) (fCons (fVar 1) fNil)) (fTup (fCons (fK (.int 2)) (fCons (fK (.int 3)) fNil))))) (bNot (bVal (f1 (isT "str") (f2 D.ix (fVar 1) (fK (.int 0))))))))
   (sRet (fK (.bl false)))
   sNil)
  (sSeq (sAsg (gStar 2 3) (fVar 1))
  (sSeq (sIf (bNot (bVal (fCall (g1 D.all) (fCons (fFrz (fComp [4] (fItems (fVar 3)) (gN 4) bYes (fCall Phi_is_integer_in (fCons (fVar 4) (fCons (fK (.int 0)) (fCons (f2 D.sub (fCall (g1 D.len) (fCons (f2 D.ix (fVar 0) (fK (.int 1))) fNil)) (fK (.int 1))) fNil)))))) fNil))))
   (sRet (fK (.bl false)))
   sNil)
  (sSeq (sIf (bVal (f2 D.eq (fCall (g1 D.len) (fCons (fVar 3) fNil)) (fK (.int 1))))
   (sRet (f2 D.isIn (fVar 2) (fTup (fCons (fK (.str "more")) (fCons (fK (.str "less")) fNil)))))
   sNil)
  (sRet (fAnd (f2 D.eq (fVar 2) (fK (.str "shift"))) (f2 D.ne (f2 D.ix (fVar 3) (fK (.int 0))) (f2 D.ix (fVar 3) (fK (.int 1))))))))))
def Phi_is_change : List D → Option D := runD 2 5 b_is_change

abbrev N_is_change : List Str := ["book", "value", "word", "parts", "part"]
theorem sc_is_change : FnScope N_is_change ["book", "value"] (defScope (topS 52)) := ⟨rfl, rfl, rfl, by decide +kernel, rfl, by decide +kernel, by decide +kernel⟩
theorem ok_is_change (T : Txt K mg) : Ok P w K mg base "is_change" 3 2 Phi_is_change :=
  ok_mk (N := N_is_change) (ps := ["book", "value"]) (fs := b_is_change) (T.d 30 "is_change" 52 rfl) sc_is_change (fun _ _ _ _ _ _ _ us hl => match us, hl with | [_, _], _ => rfl) fun f cdv A outer s H E F0 H0 hr =>
  have nd : N_is_change.Nodup := sc_is_change.nd
  (s_cons (s_if (PW.pt (w_or (t_not (t_val (e_isinst "tuple" (T.fr 10 "isinstance" rfl) (T.fr 4 "tuple" rfl) (by decide +kernel) (e_var 1)))) (w_or (t_cmp op_notIn_seq rd_notIn (e_callB call_len_seq rc_len (T.fr 0 "len" rfl) PySem.boot_len (a_cons (e_var 1) a_nil)) (e_tup (a_cons e_int (a_cons e_int a_nil)))) (w_or1 (t_not (t_val (e_isinst "str" (T.fr 10 "isinstance" rfl) (T.fr 15 "str" rfl) (by decide +kernel) (e_ix (e_var 1) e_int))))))))
   (s_one (s_ret e_bl))
   s_nil)
  (s_cons (s_asg (e_var 1) (g_star 2 3 rfl nd))
  (s_cons (s_if (t_not (t_val (e_callB (cr_all rfl) rc_all (T.fr 11 "all" rfl) (by decide +kernel) (a_cons (e_frz (n_lc (own := [("part", 4)]) rfl nd (i_seq (e_var 3)) (blkOk_by (own := [("part", 4)]) (N := N_is_change) (sc := defScope (topS 52)) (by decide +kernel)) (by decide) (fun _ _ _ _ _ => (g_name 4 nd)) (fun _ _ _ _ _ => ts_nil) (fun _ _ _ _ _ => (e_callO (ok_is_integer_in T) hr (by decide) (a_cons (e_var 4) (a_cons e_int (a_cons (e_op op_sub rd_sub (e_callB call_len_seq rc_len (T.fr 0 "len" rfl) PySem.boot_len (a_cons (e_ix (e_var 0) e_int) a_nil)) e_int) a_nil))))))) a_nil))))
   (s_one (s_ret e_bl))
   s_nil)
  (s_cons (s_if (t_cmp (op_eqA hr.units) rd_eq (e_callB call_len_seq rc_len (T.fr 0 "len" rfl) PySem.boot_len (a_cons (e_var 3) a_nil)) e_int)
   (s_one (s_ret (e_cmp op_in_seq rd_in (e_var 2) (e_tup (a_cons (e_gstr (T.st 2 "MORE" "more" rfl)) (a_cons (e_gstr (T.st 3 "LESS" "less" rfl)) a_nil))))))
   s_nil)
  (s_one (s_ret (e_and (e_cmp (op_eqA hr.units) rd_eq (e_var 2) (e_gstr (T.st 4 "SHIFT" "shift" rfl))) (e_one (e_cmp (op_neA hr.units) rd_ne (e_ix (e_var 3) e_int) (e_ix (e_var 3) e_int))))))))))

def b_changed : FS := (sSeq (sAsg (gStar 2 3) (fVar 1))
  (sSeq (sSetN 4 (fLst (fStar (fVar 0) fNil)))
  (sSeq (sAugI 4 D.add (f2 D.ix (fVar 3) (fK (.int 0))) (fIf (bVal (f2 D.eq (fVar 2) (fK (.str "less")))) (f1 D.neg (fK (.int 1))) (fK (.int 1))))
  (sSeq (sIf (bVal (f2 D.eq (fVar 2) (fK (.str "shift"))))
   (sAugI 4 D.sub (f2 D.ix (fVar 3) (fK (.int 1))) (fK (.int 1)))
   sNil)
  (sSeq (sFrz 4) (sRet (fCall (g1 D.tuple) (fCons (fVar 4) fNil))))))))
def Phi_changed : List D → Option D := runD 2 5 b_changed

abbrev N_changed : List Str := ["plan", "change", "word", "parts", "units"]
theorem sc_changed : FnScope N_changed ["plan", "change"] (defScope (topS 53)) := ⟨rfl, rfl, rfl, by decide +kernel, rfl, by decide +kernel, by decide +kernel⟩
theorem ok_changed (T : Txt K mg) : Ok P w K mg base "changed" 1 2 Phi_changed :=
  ok_mk (N := N_changed) (ps := ["plan", "change"]) (fs := b_changed) (T.d 31 "changed" 53 rfl) sc_changed (fun _ _ _ _ _ _ _ us hl => match us, hl with | [_, _], _ => rfl) fun f cdv A outer s H E F0 H0 hr =>
  have nd : N_changed.Nodup := sc_changed.nd
  (s_cons (s_asg (e_var 1) (g_star 2 3 rfl nd))
  (s_cons (s_setN 4 nd (n_lst (a_star (e_var 0) a_nil)))
  (s_cons (s_augI 4 pget_list (e_ix (e_var 3) e_int) (e_if (t_cmp (op_eqA hr.units) rd_eq (e_var 2) (e_gstr (T.st 3 "LESS" "less" rfl))) (e_un un_neg ru_neg e_int) e_int) ip_add ri_add)
  (s_cons (s_if (t_cmp (op_eqA hr.units) rd_eq (e_var 2) (e_gstr (T.st 4 "SHIFT" "shift" rfl)))
   (s_one (s_augI 4 pget_list (e_ix (e_var 3) e_int) e_int ip_sub ri_sub))
   s_nil)
  (s_frz 4 (s_one (s_ret (e_callT call_tuple_of rc_tuple (T.fr 4 "tuple" rfl) (by decide +kernel) (a_cons (e_var 4) a_nil)))))))))

def b_all_changes : FS := (sSeq (sSetN 1 (fComp2 [2, 3] [3] (fItems (fTup (fCons (fK (.str "more")) (fCons (fK (.str "less")) fNil)))) (gN 2) bYes (fRng1 (fVar 0)) (gN 3) bYes (fTup (fCons (fVar 2) (fCons (fVar 3) fNil)))))
  (sSeq (sFrz 1) (sRet (fFrz (fCatL (fVar 1) (fFrz (fComp2 [4, 5] [5] (fRng1 (fVar 0)) (gN 4) bYes (fRng1 (fVar 0)) (gN 5) (bVal (f2 D.ne (fVar 4) (fVar 5))) (fTup (fCons (fK (.str "shift")) (fCons (fVar 4) (fCons (fVar 5) fNil)))))))))))
def Phi_all_changes : List D → Option D := runD 1 6 b_all_changes

abbrev N_all_changes : List Str := ["many", "found", "word", "period", "one", "other"]
theorem sc_all_changes : FnScope N_all_changes ["many"] (defScope (topS 55)) := ⟨rfl, rfl, rfl, by decide +kernel, rfl, by decide +kernel, by decide +kernel⟩
theorem ok_all_changes (T : Txt K mg) : Ok P w K mg base "all_changes" 1 1 Phi_all_changes :=
  ok_mk (N := N_all_changes) (ps := ["many"]) (fs := b_all_changes) (T.d 33 "all_changes" 55 rfl) sc_all_changes (fun _ _ _ _ _ _ _ us hl => match us, hl with | [_], _ => rfl) fun f cdv A outer s H E F0 H0 hr =>
  have nd : N_all_changes.Nodup := sc_all_changes.nd
  (s_cons (s_setLc2 (own := [("word", 2), ("period", 3)]) (vs1 := [3]) 1 rfl nd rfl (sw_true rfl rfl rfl (by decide +kernel)) (i_seq (e_tup (a_cons (e_gstr (T.st 2 "MORE" "more" rfl)) (a_cons (e_gstr (T.st 3 "LESS" "less" rfl)) a_nil)))) (blkOk_by (own := [("word", 2), ("period", 3)]) (N := N_all_changes) (sc := defScope (topS 55)) (by decide +kernel)) (by decide) (by decide) (by decide) (fun _ _ _ _ _ => (g_name 2 nd)) (fun _ _ _ _ _ => ts_nil) (fun _ _ _ _ _ => (i_rng1 (T.fr 7 "range" rfl) (e_var 0))) (fun _ _ _ _ _ => (g_name 3 nd)) (fun _ _ _ _ _ => ts_nil) (fun _ _ _ _ _ => (e_tup (a_cons (e_var 2) (a_cons (e_var 3) a_nil)))))
  (s_frz 1 (s_one (s_ret (e_frz (n_cat (e_var 1) (e_frz (n_lc2 (own := [("one", 4), ("other", 5)]) (vs1 := [5]) rfl nd (i_rng1 (T.fr 7 "range" rfl) (e_var 0)) (blkOk_by (own := [("one", 4), ("other", 5)]) (N := N_all_changes) (sc := defScope (topS 55)) (by decide +kernel)) (by decide) (by decide) (by decide) (fun _ _ _ _ _ => (g_name 4 nd)) (fun _ _ _ _ _ => ts_nil) (fun _ _ _ _ _ => (i_rng1 (T.fr 7 "range" rfl) (e_var 0))) (fun _ _ _ _ _ => (g_name 5 nd)) (fun _ _ _ _ _ => (ts_one (t_cmp (op_neA hr.units) rd_ne (e_var 4) (e_var 5)))) (fun _ _ _ _ _ => (e_tup (a_cons (e_gstr (T.st 4 "SHIFT" "shift" rfl)) (a_cons (e_var 4) (a_cons (e_var 5) a_nil)))))))))))))

def b_is_saving : FS := (sSeq (sSet 4 (fCall Phi_changed (fCons (fVar 1) (fCons (fVar 3) fNil))))
  (sRet (fAnd (fCall Phi_fits (fCons (fVar 0) (fCons (fVar 4) fNil))) (f2 D.lt (fCall Phi_plan_cost (fCons (fVar 0) (fCons (fVar 4) fNil))) (fVar 2)))))
def Phi_is_saving : List D → Option D := runD 4 5 b_is_saving

abbrev N_is_saving : List Str := ["book", "plan", "cost", "change", "later"]
theorem sc_is_saving : FnScope N_is_saving ["book", "plan", "cost", "change"] (defScope (topS 56)) := ⟨rfl, rfl, rfl, by decide +kernel, rfl, by decide +kernel, by decide +kernel⟩
theorem ok_is_saving (T : Txt K mg) : Ok P w K mg base "is_saving" 5 4 Phi_is_saving :=
  ok_mk (N := N_is_saving) (ps := ["book", "plan", "cost", "change"]) (fs := b_is_saving) (T.d 34 "is_saving" 56 rfl) sc_is_saving (fun _ _ _ _ _ _ _ us hl => match us, hl with | [_, _, _, _], _ => rfl) fun f cdv A outer s H E F0 H0 hr =>
  have nd : N_is_saving.Nodup := sc_is_saving.nd
  (s_cons (s_set 4 nd (e_callO (ok_changed T) hr (by decide) (a_cons (e_var 1) (a_cons (e_var 3) a_nil))))
  (s_one (s_ret (e_and (e_callO (ok_fits T) hr (by decide) (a_cons (e_var 0) (a_cons (e_var 4) a_nil))) (e_one (e_cmp op_lt rd_lt (e_callO (ok_plan_cost T) hr (by decide) (a_cons (e_var 0) (a_cons (e_var 4) a_nil))) (e_var 2)))))))

def b_saving_change : FS := (sSeq (sSet 2 (fCall Phi_plan_cost (fCons (fVar 0) (fCons (fVar 1) fNil))))
  (sFor (fItems (fCall Phi_all_changes (fCons (fCall (g1 D.len) (fCons (fVar 1) fNil)) fNil))) (gN 3)
   (sIf (bVal (fCall Phi_is_saving (fCons (fVar 0) (fCons (fVar 1) (fCons (fVar 2) (fCons (fVar 3) fNil))))))
   (sRet (fVar 3))
   sNil)
   (sRet (fK .non))))
def Phi_saving_change : List D → Option D := runD 2 4 b_saving_change

abbrev N_saving_change : List Str := ["book", "plan", "cost", "change"]
theorem sc_saving_change : FnScope N_saving_change ["book", "plan"] (defScope (topS 57)) := ⟨rfl, rfl, rfl, by decide +kernel, rfl, by decide +kernel, by decide +kernel⟩
theorem ok_saving_change (T : Txt K mg) : Ok P w K mg base "saving_change" 6 2 Phi_saving_change :=
  ok_mk (N := N_saving_change) (ps := ["book", "plan"]) (fs := b_saving_change) (T.d 35 "saving_change" 57 rfl) sc_saving_change (fun _ _ _ _ _ _ _ us hl => match us, hl with | [_, _], _ => rfl) fun f cdv A outer s H E F0 H0 hr =>
  have nd : N_saving_change.Nodup := sc_saving_change.nd
  (s_cons (s_set 2 nd (e_callO (ok_plan_cost T) hr (by decide) (a_cons (e_var 0) (a_cons (e_var 1) a_nil))))
  (s_one (s_for PassesOwn.never rfl (i_seq (e_callO (ok_all_changes T) hr (by decide) (a_cons (e_callB call_len_seq rc_len (T.fr 0 "len" rfl) PySem.boot_len (a_cons (e_var 1) a_nil)) a_nil))) (g_name 3 nd)
   (s_one (s_if (t_val (e_callO (ok_is_saving T) hr (by decide) (a_cons (e_var 0) (a_cons (e_var 1) (a_cons (e_var 2) (a_cons (e_var 3) a_nil))))))
   (s_one (s_ret (e_var 3)))
   s_nil))
   (s_one (s_ret e_non)))))

def b_common_ends : FS := (sSeq (sSetN 2 (fComp [4, 5] (fItems (fTup (fCons (fVar 0) (fCons (fVar 1) fNil)))) (gT (gC (gN 4) (gC (gN 5) gE))) (bVal (f2 D.notNone (fVar 4) (fK .non))) (fVar 4)))
  (sSeq (sSetN 3 (fComp [4, 5] (fItems (fTup (fCons (fVar 0) (fCons (fVar 1) fNil)))) (gT (gC (gN 4) (gC (gN 5) gE))) (bVal (f2 D.notNone (fVar 5) (fK .non))) (fVar 5)))
  (sSeq (sFrz 2) (sSeq (sFrz 3) (sRet (fTup (fCons (fIf (bVal (f2 D.ne (fVar 2) (fFrz (fLst fNil)))) (fCall (g1 D.max1) (fCons (fVar 2) fNil)) (fK .non)) (fCons (fIf (bVal (f2 D.ne (fVar 3) (fFrz (fLst fNil)))) (fCall (g1 D.min1) (fCons (fVar 3) fNil)) (fK .non)) fNil))))))))
def Phi_common_ends : List D → Option D := runD 2 6 b_common_ends

abbrev N_common_ends : List Str := ["one", "other", "lows", "highs", "low", "high"]
theorem sc_common_ends : FnScope N_common_ends ["one", "other"] (defScope (topS 58)) := ⟨rfl, rfl, rfl, by decide +kernel, rfl, by decide +kernel, by decide +kernel⟩
theorem ok_common_ends (T : Txt K mg) : Ok P w K mg base "common_ends" 1 2 Phi_common_ends :=
  ok_mk (N := N_common_ends) (ps := ["one", "other"]) (fs := b_common_ends) (T.d 36 "common_ends" 58 rfl) sc_common_ends (fun _ _ _ _ _ _ _ us hl => match us, hl with | [_, _], _ => rfl) fun f cdv A outer s H E F0 H0 hr =>
  have nd : N_common_ends.Nodup := sc_common_ends.nd
  (s_cons (s_setLc (own := [("low", 4), ("high", 5)]) 2 rfl nd rfl (sw_true rfl rfl rfl (by decide +kernel)) (i_seq (e_tup (a_cons (e_var 0) (a_cons (e_var 1) a_nil)))) (blkOk_by (own := [("low", 4), ("high", 5)]) (N := N_common_ends) (sc := defScope (topS 58)) (by decide +kernel)) (by decide) (fun _ _ _ _ _ => (g_tup rfl (gs_cons (g_name 4 nd) (gs_cons (g_name 5 nd) gs_nil)))) (fun _ _ _ _ _ => (ts_one (t_cmp op_notN rd_notN (e_var 4) e_non))) (fun _ _ _ _ _ => (e_var 4)))
  (s_cons (s_setLc (own := [("low", 4), ("high", 5)]) 3 rfl nd rfl (sw_true rfl rfl rfl (by decide +kernel)) (i_seq (e_tup (a_cons (e_var 0) (a_cons (e_var 1) a_nil)))) (blkOk_by (own := [("low", 4), ("high", 5)]) (N := N_common_ends) (sc := defScope (topS 58)) (by decide +kernel)) (by decide) (fun _ _ _ _ _ => (g_tup rfl (gs_cons (g_name 4 nd) (gs_cons (g_name 5 nd) gs_nil)))) (fun _ _ _ _ _ => (ts_one (t_cmp op_notN rd_notN (e_var 5) e_non))) (fun _ _ _ _ _ => (e_var 5)))
  (s_frz 2 (s_frz 3 (s_one (s_ret (e_tup (a_cons (e_if (t_cmp (op_neA hr.units) rd_ne (e_var 2) (e_frz (n_lst a_nil))) (e_callB (cr_max rfl) rc_max1 (T.fr 3 "max" rfl) (by decide +kernel) (a_cons (e_var 2) a_nil)) e_non) (a_cons (e_if (t_cmp (op_neA hr.units) rd_ne (e_var 3) (e_frz (n_lst a_nil))) (e_callB (cr_min rfl) rc_min1 (T.fr 2 "min" rfl) (by decide +kernel) (a_cons (e_var 3) a_nil)) e_non) a_nil)))))))))

def b_without : FS := (sSeq (sSet 2 (fIf (bOr (bVal (f2 D.isNone (f2 D.ix (fVar 0) (fK (.int 0))) (fK .non))) (bVal (f2 D.isNone (f2 D.ix (fVar 1) (fK (.int 1))) (fK .non)))) (fK .non) (f2 D.sub (f2 D.ix (fVar 0) (fK (.int 0))) (f2 D.ix (fVar 1) (fK (.int 1))))))
  (sRet (fTup (fCons (fVar 2) (fCons (fIf (bOr (bVal (f2 D.isNone (f2 D.ix (fVar 0) (fK (.int 1))) (fK .non))) (bVal (f2 D.isNone (f2 D.ix (fVar 1) (fK (.int 0))) (fK .non)))) (fK .non) (f2 D.sub (f2 D.ix (fVar 0) (fK (.int 1))) (f2 D.ix (fVar 1) (fK (.int 0))))) fNil)))))
def Phi_without : List D → Option D := runD 2 3 b_without

abbrev N_without : List Str := ["ends", "other", "low"]
theorem sc_without : FnScope N_without ["ends", "other"] (defScope (topS 59)) := ⟨rfl, rfl, rfl, by decide +kernel, rfl, by decide +kernel, by decide +kernel⟩
theorem ok_without (T : Txt K mg) : Ok P w K mg base "without" 1 2 Phi_without :=
  ok_mk (N := N_without) (ps := ["ends", "other"]) (fs := b_without) (T.d 37 "without" 59 rfl) sc_without (fun _ _ _ _ _ _ _ us hl => match us, hl with | [_, _], _ => rfl) fun f cdv A outer s H E F0 H0 hr =>
  have nd : N_without.Nodup := sc_without.nd
  (s_cons (s_set 2 nd (e_if (PW.pt (w_or (t_cmp op_isN rd_isN (e_ix (e_var 0) e_int) e_non) (w_or1 (t_cmp op_isN rd_isN (e_ix (e_var 1) e_int) e_non)))) e_non (e_op op_sub rd_sub (e_ix (e_var 0) e_int) (e_ix (e_var 1) e_int))))
  (s_one (s_ret (e_tup (a_cons (e_var 2) (a_cons (e_if (PW.pt (w_or (t_cmp op_isN rd_isN (e_ix (e_var 0) e_int) e_non) (w_or1 (t_cmp op_isN rd_isN (e_ix (e_var 1) e_int) e_non)))) e_non (e_op op_sub rd_sub (e_ix (e_var 0) e_int) (e_ix (e_var 1) e_int))) a_nil))))))

def b_beside : FS := (sRet (fCall (g1 D.tuple) (fCons (fFrz (fComp [2] (fItems (fVar 1)) (gN 2) bYes (fIf (bVal (f2 D.isNone (fVar 2) (fK .non))) (fK .non) (f2 D.add (fVar 0) (fVar 2))))) fNil)))
def Phi_beside : List D → Option D := runD 2 3 b_beside

abbrev N_beside : List Str := ["price", "ends", "end"]
theorem sc_beside : FnScope N_beside ["price", "ends"] (defScope (topS 60)) := ⟨rfl, rfl, rfl, by decide +kernel, rfl, by decide +kernel, by decide +kernel⟩
theorem ok_beside (T : Txt K mg) : Ok P w K mg base "beside" 1 2 Phi_beside :=
  ok_mk (N := N_beside) (ps := ["price", "ends"]) (fs := b_beside) (T.d 38 "beside" 60 rfl) sc_beside (fun _ _ _ _ _ _ _ us hl => match us, hl with | [_, _], _ => rfl) fun f cdv A outer s H E F0 H0 hr =>
  have nd : N_beside.Nodup := sc_beside.nd
  (s_one (s_ret (e_callT call_tuple_of rc_tuple (T.fr 4 "tuple" rfl) (by decide +kernel) (a_cons (e_frz (n_lc (own := [("end", 2)]) rfl nd (i_seq (e_var 1)) (blkOk_by (own := [("end", 2)]) (N := N_beside) (sc := defScope (topS 60)) (by decide +kernel)) (by decide) (fun _ _ _ _ _ => (g_name 2 nd)) (fun _ _ _ _ _ => ts_nil) (fun _ _ _ _ _ => (e_if (t_cmp op_isN rd_isN (e_var 2) e_non) e_non (e_op op_add rd_add (e_var 0) (e_var 2)))))) a_nil))))

def b_prices_of : FS := (sSeq (sSet 2 (fFrz (fZip3L (f2 D.ix (fVar 0) (fK (.int 1))) (fVar 1) (fCall Phi_stocks_after (fCons (fVar 0) (fCons (fVar 1) fNil))))))
  (sSeq (sSetN 3 (fComp [5, 6, 7, 8, 9] (fItems (fVar 2)) (gT (gC (gT (gC (gN 5) (gC (gN 6) (gC (gN 7) gE)))) (gC (gN 8) (gC (gN 9) gE)))) bYes (fCall Phi_price_ends (fCons (fVar 7) (fCons (fVar 9) fNil)))))
  (sSeq (sSetN 4 (fLst (fCons (fTup (fCons (fK (.int 0)) (fCons (fK (.int 0)) fNil))) fNil)))
  (sSeq (sFrz 3) (sSeq (sFor (fZip (fFrz (fRev (fVar 2))) (fFrz (fRev (fVar 3)))) (gT (gC (gT (gC (gT (gC (gN 5) (gC (gN 6) (gC (gN 7) gE)))) (gC (gN 8) (gC (gN 9) gE)))) (gC (gN 10) gE)))
   (sApp 4 (fCall Phi_common_ends (fCons (fCall Phi_price_ends (fCons (fVar 5) (fCons (fVar 8) fNil))) (fCons (fCall Phi_without (fCons (fIxO 4 (f1 D.neg (fK (.int 1)))) (fCons (fVar 10) fNil))) fNil))))
   sNil)
  (sSeq (sSetN 11 (fLst fNil))
  (sSeq (sFrz 4) (sSeq (sFor (fZip (fFrz (fRev0 (fVar 4))) (fFrz (fLst (fCons (fK (.tup [.non, .non])) (fStar (fVar 3) fNil))))) (gT (gC (gN 12) (gC (gN 10) gE)))
   (sApp 11 (fCall Phi_common_price (fCons (fVar 12) (fCons (fCall Phi_beside (fCons (fIf (bNeO 11) (fIxO 11 (f1 D.neg (fK (.int 1)))) (fK (.int 0))) (fCons (fVar 10) fNil))) fNil))))
   sNil)
  (sSeq (sFrz 11) (sRet (fCall (g1 D.tuple) (fCons (fVar 11) fNil))))))))))))
def Phi_prices_of : List D → Option D := runD 2 13 b_prices_of

abbrev N_prices_of : List Str := ["book", "plan", "rows", "keeps", "spans", "buy", "want", "keep", "units", "stock", "kept", "found", "span"]
theorem sc_prices_of : FnScope N_prices_of ["book", "plan"] (defScope (topS 61)) := ⟨rfl, rfl, rfl, by decide +kernel, rfl, by decide +kernel, by decide +kernel⟩
theorem ok_prices_of (T : Txt K mg) : Ok P w K mg base "prices_of" 2 2 Phi_prices_of :=
  ok_mk (N := N_prices_of) (ps := ["book", "plan"]) (fs := b_prices_of) (T.d 39 "prices_of" 61 rfl) sc_prices_of (fun _ _ _ _ _ _ _ us hl => match us, hl with | [_, _], _ => rfl) fun f cdv A outer s H E F0 H0 hr =>
  have nd : N_prices_of.Nodup := sc_prices_of.nd
  (s_cons (s_set 2 nd (e_frz (n_listzip3 (T.fr 9 "list" rfl) (T.fr 8 "zip" rfl) rfl (e_ix (e_var 0) e_int) (e_var 1) (e_callO (ok_stocks_after T) hr (by decide) (a_cons (e_var 0) (a_cons (e_var 1) a_nil))))))
  (s_cons (s_setLc (own := [("buy", 5), ("want", 6), ("keep", 7), ("units", 8), ("stock", 9)]) 3 rfl nd rfl (sw_true rfl rfl rfl (by decide +kernel)) (i_seq (e_var 2)) (blkOk_by (own := [("buy", 5), ("want", 6), ("keep", 7), ("units", 8), ("stock", 9)]) (N := N_prices_of) (sc := defScope (topS 61)) (by decide +kernel)) (by decide) (fun _ _ _ _ _ => (g_tup rfl (gs_cons (g_tup rfl (gs_cons (g_name 5 nd) (gs_cons (g_name 6 nd) (gs_cons (g_name 7 nd) gs_nil)))) (gs_cons (g_name 8 nd) (gs_cons (g_name 9 nd) gs_nil))))) (fun _ _ _ _ _ => ts_nil) (fun _ _ _ _ _ => (e_callO (ok_price_ends T) hr (by decide) (a_cons (e_var 7) (a_cons (e_var 9) a_nil)))))
  (s_cons (s_setN 4 nd (n_lst (a_cons (e_tup (a_cons e_int (a_cons e_int a_nil))) a_nil)))
  (s_frz 3 (s_cons (s_for PassesOwn.never rfl (i_zip (T.fr 8 "zip" rfl) (e_frz (n_rev (e_var 2))) (e_frz (n_rev (e_var 3)))) (g_tup rfl (gs_cons (g_tup rfl (gs_cons (g_tup rfl (gs_cons (g_name 5 nd) (gs_cons (g_name 6 nd) (gs_cons (g_name 7 nd) gs_nil)))) (gs_cons (g_name 8 nd) (gs_cons (g_name 9 nd) gs_nil)))) (gs_cons (g_name 10 nd) gs_nil)))
   (s_one (s_app 4 (e_callO (ok_common_ends T) hr (by decide) (a_cons (e_callO (ok_price_ends T) hr (by decide) (a_cons (e_var 5) (a_cons (e_var 8) a_nil))) (a_cons (e_callO (ok_without T) hr (by decide) (a_cons (e_ixO 4 (e_un un_neg ru_neg e_int)) (a_cons (e_var 10) a_nil))) a_nil)))))
   s_nil)
  (s_cons (s_setN 11 nd (n_lst a_nil))
  (s_frz 4 (s_cons (s_for PassesOwn.never rfl (i_zip (T.fr 8 "zip" rfl) (e_frz (n_rev0 (e_var 4))) (e_frz (n_lst (a_cons (e_gtup T.ends) (a_star (e_var 3) a_nil))))) (g_tup rfl (gs_cons (g_name 12 nd) (gs_cons (g_name 10 nd) gs_nil)))
   (s_one (s_app 11 (e_callO (ok_common_price T) hr (by decide) (a_cons (e_var 12) (a_cons (e_callO (ok_beside T) hr (by decide) (a_cons (e_if (t_neO 11 hr.units) (e_ixO 11 (e_un un_neg ru_neg e_int)) e_int) (a_cons (e_var 10) a_nil))) a_nil)))))
   s_nil)
  (s_frz 11 (s_one (s_ret (e_callT call_tuple_of rc_tuple (T.fr 4 "tuple" rfl) (by decide +kernel) (a_cons (e_var 11) a_nil)))))))))))))

def b_judge : FS := (sSeq (sDo (fCall Phi_check_plan (fCons (fVar 0) (fCons (fVar 1) fNil))))
  (sSeq (sIfW 2 (fCall Phi_saving_change (fCons (fVar 0) (fCons (fVar 1) fNil))) (sRet (fTup (fCons (fK (.str "change")) (fCons (fVar 2) fNil)))) sNil)
  (sRet (fTup (fCons (fK (.str "prices")) (fCons (fCall Phi_prices_of (fCons (fVar 0) (fCons (fVar 1) fNil))) fNil))))))
def Phi_judge : List D → Option D := runD 2 3 b_judge

abbrev N_judge : List Str := ["book", "plan", "change"]
theorem sc_judge : FnScope N_judge ["book", "plan"] (defScope (topS 62)) := ⟨rfl, rfl, rfl, by decide +kernel, rfl, by decide +kernel, by decide +kernel⟩
theorem ok_judge (T : Txt K mg) : Ok P w K mg base "judge" 7 2 Phi_judge :=
  ok_mk (N := N_judge) (ps := ["book", "plan"]) (fs := b_judge) (T.d 40 "judge" 62 rfl) sc_judge (fun _ _ _ _ _ _ _ us hl => match us, hl with | [_, _], _ => rfl) fun f cdv A outer s H E F0 H0 hr =>
  have nd : N_judge.Nodup := sc_judge.nd
  (s_cons (s_do (e_callO (ok_check_plan T) hr (by decide) (a_cons (e_var 0) (a_cons (e_var 1) a_nil))))
  (s_cons (s_ifW 2 nd (e_callO (ok_saving_change T) hr (by decide) (a_cons (e_var 0) (a_cons (e_var 1) a_nil))) (s_one (s_ret (e_tup (a_cons (e_gstr (T.st 6 "CHANGE" "change" rfl)) (a_cons (e_var 2) a_nil))))) s_nil)
  (s_one (s_ret (e_tup (a_cons (e_gstr (T.st 5 "PRICES" "prices" rfl)) (a_cons (e_callO (ok_prices_of T) hr (by decide) (a_cons (e_var 0) (a_cons (e_var 1) a_nil))) a_nil)))))))

def b_judgement_holds : FS := (sSeq (sDo (fCall Phi_check_plan (fCons (fVar 0) (fCons (fVar 1) fNil))))
  (sSeq (sIf (bOr (bNot (bVal (fCall Phi_is_tuple_of (fCons (fVar 2) (fCons (fK (.int 2)) fNil))))) (bNot (bVal (f1 (isT "str") (f2 D.ix (fVar 2) (fK (.int 0)))))))
   (sRet (fK (.bl false)))
   sNil)
  (sSeq (sAsg (gT (gC (gN 3) (gC (gN 4) gE))) (fVar 2))
  (sSeq (sIf (bVal (f2 D.eq (fVar 3) (fK (.str "prices"))))
   (sRet (f2 D.eq (fCall Phi_price_bound (fCons (fVar 0) (fCons (fVar 4) fNil))) (fCall Phi_plan_cost (fCons (fVar 0) (fCons (fVar 1) fNil)))))
   sNil)
  (sRet (fAnd (f2 D.eq (fVar 3) (fK (.str "change"))) (fAnd (fCall Phi_is_change (fCons (fVar 0) (fCons (fVar 4) fNil))) (fCall Phi_is_saving (fCons (fVar 0) (fCons (fVar 1) (fCons (fCall Phi_plan_cost (fCons (fVar 0) (fCons (fVar 1) fNil))) (fCons (fVar 4) fNil))))))))))))
def Phi_judgement_holds : List D → Option D := runD 3 5 b_judgement_holds

abbrev N_judgement_holds : List Str := ["book", "plan", "value", "word", "part"]
theorem sc_judgement_holds : FnScope N_judgement_holds ["book", "plan", "value"] (defScope (topS 63)) := ⟨rfl, rfl, rfl, by decide +kernel, rfl, by decide +kernel, by decide +kernel⟩
theorem ok_judgement_holds (T : Txt K mg) : Ok P w K mg base "judgement_holds" 6 3 Phi_judgement_holds :=
  ok_mk (N := N_judgement_holds) (ps := ["book", "plan", "value"]) (fs := b_judgement_holds) (T.d 41 "judgement_holds" 63 rfl) sc_judgement_holds (fun _ _ _ _ _ _ _ us hl => match us, hl with | [_, _, _], _ => rfl) fun f cdv A outer s H E F0 H0 hr =>
  have nd : N_judgement_holds.Nodup := sc_judgement_holds.nd
  (s_cons (s_do (e_callO (ok_check_plan T) hr (by decide) (a_cons (e_var 0) (a_cons (e_var 1) a_nil))))
  (s_cons (s_if (PW.pt (w_or (t_not (t_val (e_callO (ok_is_tuple_of T) hr (by decide) (a_cons (e_var 2) (a_cons e_int a_nil))))) (w_or1 (t_not (t_val (e_isinst "str" (T.fr 10 "isinstance" rfl) (T.fr 15 "str" rfl) (by decide +kernel) (e_ix (e_var 2) e_int)))))))
   (s_one (s_ret e_bl))
   s_nil)
  (s_cons (s_asg (e_var 2) (g_tup rfl (gs_cons (g_name 3 nd) (gs_cons (g_name 4 nd) gs_nil))))
  (s_cons (s_if (t_cmp (op_eqA hr.units) rd_eq (e_var 3) (e_gstr (T.st 5 "PRICES" "prices" rfl)))
   (s_one (s_ret (e_cmp (op_eqA hr.units) rd_eq (e_callO (ok_price_bound T) hr (by decide) (a_cons (e_var 0) (a_cons (e_var 4) a_nil))) (e_callO (ok_plan_cost T) hr (by decide) (a_cons (e_var 0) (a_cons (e_var 1) a_nil))))))
   s_nil)
  (s_one (s_ret (e_and (e_cmp (op_eqA hr.units) rd_eq (e_var 3) (e_gstr (T.st 6 "CHANGE" "change" rfl))) (e_and (e_callO (ok_is_change T) hr (by decide) (a_cons (e_var 0) (a_cons (e_var 4) a_nil))) (e_one (e_callO (ok_is_saving T) hr (by decide) (a_cons (e_var 0) (a_cons (e_var 1) (a_cons (e_callO (ok_plan_cost T) hr (by decide) (a_cons (e_var 0) (a_cons (e_var 1) a_nil))) (a_cons (e_var 4) a_nil))))))))))))))

end
end FD
end

section
set_option Elab.async false
set_option linter.all false
set_option maxRecDepth 100000
set_option maxHeartbeats 2000000
namespace FD
open PySem PySem.Spec PyProof.Rows L2 StX
section
variable {P : Program} {w : World} {K : PySem.W.Frag} {mg : Str → Option Value} {base : Heap}
def b__law_whole : FS := (sRet (fAnd (f1 (isT "int") (fVar 0)) (f1 D.not (f1 (isT "bool") (fVar 0)))))
def Phi__law_whole : List D → Option D := runD 1 1 b__law_whole

abbrev N__law_whole : List Str := ["_law_value"]
theorem sc__law_whole : FnScope N__law_whole ["_law_value"] (defScope (topS 68)) := ⟨rfl, rfl, rfl, by decide +kernel, rfl, by decide +kernel, by decide +kernel⟩
theorem ok__law_whole (T : Txt K mg) : Ok P w K mg base "_law_whole" 1 1 Phi__law_whole :=
  ok_mk (N := N__law_whole) (ps := ["_law_value"]) (fs := b__law_whole) (T.d 45 "_law_whole" 68 rfl) sc__law_whole (fun _ _ _ _ _ _ _ us hl => match us, hl with | [_], _ => rfl) fun f cdv A outer s H E F0 H0 hr =>
  have nd : N__law_whole.Nodup := sc__law_whole.nd
  (s_one (s_ret (e_and (e_isinst "int" (T.fr 10 "isinstance" rfl) (T.fr 13 "int" rfl) (by decide +kernel) (e_var 0)) (e_one (e_not (e_isinst "bool" (T.fr 10 "isinstance" rfl) (T.fr 14 "bool" rfl) (by decide +kernel) (e_var 0)))))))

def b__law_units : FS := (sRet (fCall (g1 D.sum) (fCons (fFrz (fComp [1, 2] (fItems (fVar 0)) (gT (gC (gN 1) (gC (gN 2) gE))) bYes (fVar 1))) fNil)))
def Phi__law_units : List D → Option D := runD 1 3 b__law_units

abbrev N__law_units : List Str := ["_law_steps_here", "_law_count", "_law_price"]
theorem sc__law_units : FnScope N__law_units ["_law_steps_here"] (defScope (topS 70)) := ⟨rfl, rfl, rfl, by decide +kernel, rfl, by decide +kernel, by decide +kernel⟩
theorem ok__law_units (T : Txt K mg) : Ok P w K mg base "_law_units" 1 1 Phi__law_units :=
  ok_mk (N := N__law_units) (ps := ["_law_steps_here"]) (fs := b__law_units) (T.d 47 "_law_units" 70 rfl) sc__law_units (fun _ _ _ _ _ _ _ us hl => match us, hl with | [_], _ => rfl) fun f cdv A outer s H E F0 H0 hr =>
  have nd : N__law_units.Nodup := sc__law_units.nd
  (s_one (s_ret (e_callB (cr_sum rfl) rc_sum (T.fr 1 "sum" rfl) (by decide +kernel) (a_cons (e_frz (n_lc (own := [("_law_count", 1), ("_law_price", 2)]) rfl nd (i_seq (e_var 0)) (blkOk_by (own := [("_law_count", 1), ("_law_price", 2)]) (N := N__law_units) (sc := defScope (topS 70)) (by decide +kernel)) (by decide) (fun _ _ _ _ _ => (g_tup rfl (gs_cons (g_name 1 nd) (gs_cons (g_name 2 nd) gs_nil)))) (fun _ _ _ _ _ => ts_nil) (fun _ _ _ _ _ => (e_var 1)))) a_nil))))

def b__law_last : FS := (sRet (f2 D.add (f2 D.ix (fVar 0) (fK (.int 0))) (fCall Phi__law_units (fCons (f2 D.ix (fVar 0) (fK (.int 2))) fNil))))
def Phi__law_last : List D → Option D := runD 1 1 b__law_last

abbrev N__law_last : List Str := ["_law_data_here"]
theorem sc__law_last : FnScope N__law_last ["_law_data_here"] (defScope (topS 72)) := ⟨rfl, rfl, rfl, by decide +kernel, rfl, by decide +kernel, by decide +kernel⟩
theorem ok__law_last (T : Txt K mg) : Ok P w K mg base "_law_last" 2 1 Phi__law_last :=
  ok_mk (N := N__law_last) (ps := ["_law_data_here"]) (fs := b__law_last) (T.d 49 "_law_last" 72 rfl) sc__law_last (fun _ _ _ _ _ _ _ us hl => match us, hl with | [_], _ => rfl) fun f cdv A outer s H E F0 H0 hr =>
  have nd : N__law_last.Nodup := sc__law_last.nd
  (s_one (s_ret (e_op op_add rd_add (e_ix (e_var 0) e_int) (e_callO (ok__law_units T) hr (by decide) (a_cons (e_ix (e_var 0) e_int) a_nil)))))

def b__law_cost : FS := (sSeq (sPar2 2 3 (f2 D.ix (fVar 0) (fK (.int 1))) (f2 D.ix (fVar 0) (fK (.int 0))))
  (sSeq (sFor (fItems (f2 D.ix (fVar 0) (fK (.int 2)))) (gT (gC (gN 4) (gC (gN 5) gE)))
   (sSeq (sSet 2 (f2 D.add (fVar 2) (f2 D.mul (fVar 5) (fCall (g2 D.max2) (fCons (fK (.int 0)) (fCons (fCall (g2 D.min2) (fCons (fVar 4) (fCons (f2 D.sub (fVar 1) (fVar 3)) fNil))) fNil))))))
  (sSet 3 (f2 D.add (fVar 3) (fVar 4))))
   sNil)
  (sRet (fVar 2))))
def Phi__law_cost : List D → Option D := runD 2 6 b__law_cost

abbrev N__law_cost : List Str := ["_law_data_here", "_law_place", "_law_cost_here", "_law_begin", "_law_count", "_law_price"]
theorem sc__law_cost : FnScope N__law_cost ["_law_data_here", "_law_place"] (defScope (topS 73)) := ⟨rfl, rfl, rfl, by decide +kernel, rfl, by decide +kernel, by decide +kernel⟩
theorem ok__law_cost (T : Txt K mg) : Ok P w K mg base "_law_cost" 1 2 Phi__law_cost :=
  ok_mk (N := N__law_cost) (ps := ["_law_data_here", "_law_place"]) (fs := b__law_cost) (T.d 50 "_law_cost" 73 rfl) sc__law_cost (fun _ _ _ _ _ _ _ us hl => match us, hl with | [_, _], _ => rfl) fun f cdv A outer s H E F0 H0 hr =>
  have nd : N__law_cost.Nodup := sc__law_cost.nd
  (s_cons (s_par2 2 3 rfl nd (e_ix (e_var 0) e_int) (e_ix (e_var 0) e_int))
  (s_cons (s_for PassesOwn.never rfl (i_seq (e_ix (e_var 0) e_int)) (g_tup rfl (gs_cons (g_name 4 nd) (gs_cons (g_name 5 nd) gs_nil)))
   (s_cons (s_set 2 nd (e_op op_add rd_add (e_var 2) (e_op op_mul rd_mul (e_var 5) (e_callB (call_max2 rfl) rc_max2 (T.fr 3 "max" rfl) (by decide +kernel) (a_cons e_int (a_cons (e_callB (call_min2 rfl) rc_min2 (T.fr 2 "min" rfl) (by decide +kernel) (a_cons (e_var 4) (a_cons (e_op op_sub rd_sub (e_var 1) (e_var 3)) a_nil))) a_nil))))))
  (s_one (s_set 3 nd (e_op op_add rd_add (e_var 3) (e_var 4)))))
   s_nil)
  (s_one (s_ret (e_var 2)))))

def b__law_is_place : FS := (sRet (fAnd (fCall Phi__law_whole (fCons (fVar 1) fNil)) (fChain D.le D.le (f2 D.ix (fVar 0) (fK (.int 0))) (fVar 1) (fCall Phi__law_last (fCons (fVar 0) fNil)))))
def Phi__law_is_place : List D → Option D := runD 2 2 b__law_is_place

abbrev N__law_is_place : List Str := ["_law_data_here", "_law_value"]
theorem sc__law_is_place : FnScope N__law_is_place ["_law_data_here", "_law_value"] (defScope (topS 74)) := ⟨rfl, rfl, rfl, by decide +kernel, rfl, by decide +kernel, by decide +kernel⟩
theorem ok__law_is_place (T : Txt K mg) : Ok P w K mg base "_law_is_place" 3 2 Phi__law_is_place :=
  ok_mk (N := N__law_is_place) (ps := ["_law_data_here", "_law_value"]) (fs := b__law_is_place) (T.d 51 "_law_is_place" 74 rfl) sc__law_is_place (fun _ _ _ _ _ _ _ us hl => match us, hl with | [_, _], _ => rfl) fun f cdv A outer s H E F0 H0 hr =>
  have nd : N__law_is_place.Nodup := sc__law_is_place.nd
  (s_one (s_ret (e_and (e_callO (ok__law_whole T) hr (by decide) (a_cons (e_var 1) a_nil)) (e_one (e_chain op_le rd_le op_le rd_le (e_ix (e_var 0) e_int) (e_var 1) (e_callO (ok__law_last T) hr (by decide) (a_cons (e_var 0) a_nil)))))))

def b__law_stocks : FS := (sSeq (sParN2 2 3 (fLst fNil) (f2 D.ix (fVar 0) (fK (.int 0))))
  (sSeq (sFor (fZip (fVar 1) (f2 D.ix (fVar 0) (fK (.int 1)))) (gT (gC (gN 4) (gC (gN 5) gE)))
   (sSeq (sSet 3 (f2 D.sub (f2 D.add (fVar 3) (fVar 4)) (f2 D.ix (fVar 5) (fK (.int 1)))))
  (sApp 2 (fVar 3)))
   sNil)
  (sSeq (sFrz 2) (sRet (fCall (g1 D.tuple) (fCons (fVar 2) fNil))))))
def Phi__law_stocks : List D → Option D := runD 2 6 b__law_stocks

abbrev N__law_stocks : List Str := ["_law_book_here", "_law_plan", "_law_found", "_law_stock", "_law_units_here", "_law_period"]
theorem sc__law_stocks : FnScope N__law_stocks ["_law_book_here", "_law_plan"] (defScope (topS 77)) := ⟨rfl, rfl, rfl, by decide +kernel, rfl, by decide +kernel, by decide +kernel⟩
theorem ok__law_stocks (T : Txt K mg) : Ok P w K mg base "_law_stocks" 1 2 Phi__law_stocks :=
  ok_mk (N := N__law_stocks) (ps := ["_law_book_here", "_law_plan"]) (fs := b__law_stocks) (T.d 54 "_law_stocks" 77 rfl) sc__law_stocks (fun _ _ _ _ _ _ _ us hl => match us, hl with | [_, _], _ => rfl) fun f cdv A outer s H E F0 H0 hr =>
  have nd : N__law_stocks.Nodup := sc__law_stocks.nd
  (s_cons (s_parN2 2 3 rfl nd (n_lst a_nil) (e_ix (e_var 0) e_int))
  (s_cons (s_for PassesOwn.never rfl (i_zip (T.fr 8 "zip" rfl) (e_var 1) (e_ix (e_var 0) e_int)) (g_tup rfl (gs_cons (g_name 4 nd) (gs_cons (g_name 5 nd) gs_nil)))
   (s_cons (s_set 3 nd (e_op op_sub rd_sub (e_op op_add rd_add (e_var 3) (e_var 4)) (e_ix (e_var 5) e_int)))
  (s_one (s_app 2 (e_var 3))))
   s_nil)
  (s_frz 2 (s_one (s_ret (e_callT call_tuple_of rc_tuple (T.fr 4 "tuple" rfl) (by decide +kernel) (a_cons (e_var 2) a_nil)))))))

def b__law_is_plan : FS := (sSeq (sIf (bOr (bNot (bVal (f1 (isT "tuple") (fVar 1)))) (bVal (f2 D.ne (fCall (g1 D.len) (fCons (fVar 1) fNil)) (fCall (g1 D.len) (fCons (f2 D.ix (fVar 0) (fK (.int 1))) fNil)))))
   (sRet (fK (.bl false)))
   sNil)
  (sSeq (sIf (bVal (f2 D.ne (fFrz (fComp [3, 4] (fZip (fVar 1) (f2 D.ix (fVar 0) (fK (.int 1)))) (gT (gC (gN 3) (gC (gN 4) gE))) (bNot (bVal (fCall Phi__law_is_place (fCons (f2 D.ix (fVar 4) (fK (.int 0))) (fCons (fVar 3) fNil))))) (fVar 3))) (fFrz (fLst fNil))))
   (sRet (fK (.bl false)))
   sNil)
  (sSeq (sSet 2 (fCall Phi__law_stocks (fCons (fVar 0) (fCons (fVar 1) fNil))))
  (sRet (f2 D.eq (fFrz (fComp [5, 4] (fZip (fVar 2) (f2 D.ix (fVar 0) (fK (.int 1)))) (gT (gC (gN 5) (gC (gN 4) gE))) (bNot (bVal (fCall Phi__law_is_place (fCons (f2 D.ix (fVar 4) (fK (.int 2))) (fCons (fVar 5) fNil))))) (fVar 5))) (fFrz (fLst fNil)))))))
def Phi__law_is_plan : List D → Option D := runD 2 6 b__law_is_plan

abbrev N__law_is_plan : List Str := ["_law_book_here", "_law_thing", "_law_stocks_here", "_law_units_here", "_law_period", "_law_stock"]
theorem sc__law_is_plan : FnScope N__law_is_plan ["_law_book_here", "_law_thing"] (defScope (topS 78)) := ⟨rfl, rfl, rfl, by decide +kernel, rfl, by decide +kernel, by decide +kernel⟩
theorem ok__law_is_plan (T : Txt K mg) : Ok P w K mg base "_law_is_plan" 4 2 Phi__law_is_plan :=
  ok_mk (N := N__law_is_plan) (ps := ["_law_book_here", "_law_thing"]) (fs := b__law_is_plan) (T.d 55 "_law_is_plan" 78 rfl) sc__law_is_plan (fun _ _ _ _ _ _ _ us hl => match us, hl with | [_, _], _ => rfl) fun f cdv A outer s H E F0 H0 hr =>
  have nd : N__law_is_plan.Nodup := sc__law_is_plan.nd
  (s_cons (s_if (PW.pt (w_or (t_not (t_val (e_isinst "tuple" (T.fr 10 "isinstance" rfl) (T.fr 4 "tuple" rfl) (by decide +kernel) (e_var 1)))) (w_or1 (t_cmp (op_neA hr.units) rd_ne (e_callB call_len_seq rc_len (T.fr 0 "len" rfl) PySem.boot_len (a_cons (e_var 1) a_nil)) (e_callB call_len_seq rc_len (T.fr 0 "len" rfl) PySem.boot_len (a_cons (e_ix (e_var 0) e_int) a_nil))))))
   (s_one (s_ret e_bl))
   s_nil)
  (s_cons (s_if (t_cmp (op_neA hr.units) rd_ne (e_frz (n_lc (own := [("_law_units_here", 3), ("_law_period", 4)]) rfl nd (i_zip (T.fr 8 "zip" rfl) (e_var 1) (e_ix (e_var 0) e_int)) (blkOk_by (own := [("_law_units_here", 3), ("_law_period", 4)]) (N := N__law_is_plan) (sc := defScope (topS 78)) (by decide +kernel)) (by decide) (fun _ _ _ _ _ => (g_tup rfl (gs_cons (g_name 3 nd) (gs_cons (g_name 4 nd) gs_nil)))) (fun _ _ _ _ _ => (ts_one (t_not (t_val (e_callO (ok__law_is_place T) hr (by decide) (a_cons (e_ix (e_var 4) e_int) (a_cons (e_var 3) a_nil))))))) (fun _ _ _ _ _ => (e_var 3)))) (e_frz (n_lst a_nil)))
   (s_one (s_ret e_bl))
   s_nil)
  (s_cons (s_set 2 nd (e_callO (ok__law_stocks T) hr (by decide) (a_cons (e_var 0) (a_cons (e_var 1) a_nil))))
  (s_one (s_ret (e_cmp (op_eqA hr.units) rd_eq (e_frz (n_lc (own := [("_law_stock", 5), ("_law_period", 4)]) rfl nd (i_zip (T.fr 8 "zip" rfl) (e_var 2) (e_ix (e_var 0) e_int)) (blkOk_by (own := [("_law_stock", 5), ("_law_period", 4)]) (N := N__law_is_plan) (sc := defScope (topS 78)) (by decide +kernel)) (by decide) (fun _ _ _ _ _ => (g_tup rfl (gs_cons (g_name 5 nd) (gs_cons (g_name 4 nd) gs_nil)))) (fun _ _ _ _ _ => (ts_one (t_not (t_val (e_callO (ok__law_is_place T) hr (by decide) (a_cons (e_ix (e_var 4) e_int) (a_cons (e_var 5) a_nil))))))) (fun _ _ _ _ _ => (e_var 5)))) (e_frz (n_lst a_nil))))))))

def b__law_plan_cost : FS := (sSeq (sSet 2 (fK (.int 0)))
  (sSeq (sFor (fZip3 (fVar 1) (fCall Phi__law_stocks (fCons (fVar 0) (fCons (fVar 1) fNil))) (f2 D.ix (fVar 0) (fK (.int 1)))) (gT (gC (gN 3) (gC (gN 4) (gC (gN 5) gE))))
   (sSet 2 (f2 D.add (f2 D.add (fVar 2) (fCall Phi__law_cost (fCons (f2 D.ix (fVar 5) (fK (.int 0))) (fCons (fVar 3) fNil)))) (fCall Phi__law_cost (fCons (f2 D.ix (fVar 5) (fK (.int 2))) (fCons (fVar 4) fNil)))))
   sNil)
  (sRet (fVar 2))))
def Phi__law_plan_cost : List D → Option D := runD 2 6 b__law_plan_cost

abbrev N__law_plan_cost : List Str := ["_law_book_here", "_law_plan", "_law_found", "_law_units_here", "_law_stock", "_law_period"]
theorem sc__law_plan_cost : FnScope N__law_plan_cost ["_law_book_here", "_law_plan"] (defScope (topS 79)) := ⟨rfl, rfl, rfl, by decide +kernel, rfl, by decide +kernel, by decide +kernel⟩
theorem ok__law_plan_cost (T : Txt K mg) : Ok P w K mg base "_law_plan_cost" 2 2 Phi__law_plan_cost :=
  ok_mk (N := N__law_plan_cost) (ps := ["_law_book_here", "_law_plan"]) (fs := b__law_plan_cost) (T.d 56 "_law_plan_cost" 79 rfl) sc__law_plan_cost (fun _ _ _ _ _ _ _ us hl => match us, hl with | [_, _], _ => rfl) fun f cdv A outer s H E F0 H0 hr =>
  have nd : N__law_plan_cost.Nodup := sc__law_plan_cost.nd
  (s_cons (s_set 2 nd e_int)
  (s_cons (s_for PassesOwn.never rfl (i_zip3 (T.fr 8 "zip" rfl) (e_var 1) (e_callO (ok__law_stocks T) hr (by decide) (a_cons (e_var 0) (a_cons (e_var 1) a_nil))) (e_ix (e_var 0) e_int)) (g_tup rfl (gs_cons (g_name 3 nd) (gs_cons (g_name 4 nd) (gs_cons (g_name 5 nd) gs_nil))))
   (s_one (s_set 2 nd (e_op op_add rd_add (e_op op_add rd_add (e_var 2) (e_callO (ok__law_cost T) hr (by decide) (a_cons (e_ix (e_var 5) e_int) (a_cons (e_var 3) a_nil)))) (e_callO (ok__law_cost T) hr (by decide) (a_cons (e_ix (e_var 5) e_int) (a_cons (e_var 4) a_nil))))))
   s_nil)
  (s_one (s_ret (e_var 2)))))

def b__law_changed : FS := (sSeq (sSetN 2 (fList (fVar 0)))
  (sSeq (sPut 2 (f2 D.ix (fVar 1) (fK (.int 1))) (f2 D.add (fIxO 2 (f2 D.ix (fVar 1) (fK (.int 1)))) (fIf (bVal (f2 D.eq (f2 D.ix (fVar 1) (fK (.int 0))) (fK (.str "less")))) (f1 D.neg (fK (.int 1))) (fK (.int 1)))))
  (sSeq (sIf (bVal (f2 D.eq (f2 D.ix (fVar 1) (fK (.int 0))) (fK (.str "shift"))))
   (sPut 2 (f2 D.ix (fVar 1) (fK (.int 2))) (f2 D.sub (fIxO 2 (f2 D.ix (fVar 1) (fK (.int 2)))) (fK (.int 1))))
   sNil)
  (sSeq (sFrz 2) (sRet (fCall (g1 D.tuple) (fCons (fVar 2) fNil)))))))
def Phi__law_changed : List D → Option D := runD 2 3 b__law_changed

abbrev N__law_changed : List Str := ["_law_plan", "_law_change", "_law_units_here"]
theorem sc__law_changed : FnScope N__law_changed ["_law_plan", "_law_change"] (defScope (topS 80)) := ⟨rfl, rfl, rfl, by decide +kernel, rfl, by decide +kernel, by decide +kernel⟩
theorem ok__law_changed (T : Txt K mg) : Ok P w K mg base "_law_changed" 1 2 Phi__law_changed :=
  ok_mk (N := N__law_changed) (ps := ["_law_plan", "_law_change"]) (fs := b__law_changed) (T.d 57 "_law_changed" 80 rfl) sc__law_changed (fun _ _ _ _ _ _ _ us hl => match us, hl with | [_, _], _ => rfl) fun f cdv A outer s H E F0 H0 hr =>
  have nd : N__law_changed.Nodup := sc__law_changed.nd
  (s_cons (s_setN 2 nd (n_list (T.fr 9 "list" rfl) (e_var 0)))
  (s_cons (s_put 2 (e_op op_add rd_add (e_ixO 2 (e_ix (e_var 1) e_int)) (e_if (t_cmp (op_eqA hr.units) rd_eq (e_ix (e_var 1) e_int) e_str) (e_un un_neg ru_neg e_int) e_int)) (e_ix (e_var 1) e_int))
  (s_cons (s_if (t_cmp (op_eqA hr.units) rd_eq (e_ix (e_var 1) e_int) e_str)
   (s_one (s_put 2 (e_op op_sub rd_sub (e_ixO 2 (e_ix (e_var 1) e_int)) e_int) (e_ix (e_var 1) e_int)))
   s_nil)
  (s_frz 2 (s_one (s_ret (e_callT call_tuple_of rc_tuple (T.fr 4 "tuple" rfl) (by decide +kernel) (a_cons (e_var 2) a_nil))))))))

def b__law_changes : FS := (sSeq (sSetN 1 (fLst fNil))
  (sSeq (sFor (fRng1 (fVar 0)) (gN 2)
   (sSeq (sFrz 1) (sSeq (sSetN 1 (fCatL (fVar 1) (fFrz (fLst (fCons (fTup (fCons (fK (.str "more")) (fCons (fVar 2) fNil))) (fCons (fTup (fCons (fK (.str "less")) (fCons (fVar 2) fNil))) fNil))))))
  (sExt 1 (fFrz (fComp [3] (fRng1 (fVar 0)) (gN 3) (bVal (f2 D.ne (fVar 2) (fVar 3))) (fTup (fCons (fK (.str "shift")) (fCons (fVar 2) (fCons (fVar 3) fNil)))))))))
   sNil)
  (sSeq (sFrz 1) (sRet (fVar 1)))))
def Phi__law_changes : List D → Option D := runD 1 4 b__law_changes

abbrev N__law_changes : List Str := ["_law_count", "_law_found", "_law_k", "_law_j"]
theorem sc__law_changes : FnScope N__law_changes ["_law_count"] (defScope (topS 81)) := ⟨rfl, rfl, rfl, by decide +kernel, rfl, by decide +kernel, by decide +kernel⟩
theorem ok__law_changes (T : Txt K mg) : Ok P w K mg base "_law_changes" 1 1 Phi__law_changes :=
  ok_mk (N := N__law_changes) (ps := ["_law_count"]) (fs := b__law_changes) (T.d 58 "_law_changes" 81 rfl) sc__law_changes (fun _ _ _ _ _ _ _ us hl => match us, hl with | [_], _ => rfl) fun f cdv A outer s H E F0 H0 hr =>
  have nd : N__law_changes.Nodup := sc__law_changes.nd
  (s_cons (s_setN 1 nd (n_lst a_nil))
  (s_cons (s_for PassesOwn.never rfl (i_rng1 (T.fr 7 "range" rfl) (e_var 0)) (g_name 2 nd)
   (s_frz 1 (s_cons (s_setN 1 nd (n_cat (e_var 1) (e_frz (n_lst (a_cons (e_tup (a_cons e_str (a_cons (e_var 2) a_nil))) (a_cons (e_tup (a_cons e_str (a_cons (e_var 2) a_nil))) a_nil))))))
  (s_one (s_ext 1 (e_frz (n_lc (own := [("_law_j", 3)]) rfl nd (i_rng1 (T.fr 7 "range" rfl) (e_var 0)) (blkOk_by (own := [("_law_j", 3)]) (N := N__law_changes) (sc := defScope (topS 81)) (by decide +kernel)) (by decide) (fun _ _ _ _ _ => (g_name 3 nd)) (fun _ _ _ _ _ => (ts_one (t_cmp (op_neA hr.units) rd_ne (e_var 2) (e_var 3)))) (fun _ _ _ _ _ => (e_tup (a_cons e_str (a_cons (e_var 2) (a_cons (e_var 3) a_nil)))))))))))
   s_nil)
  (s_frz 1 (s_one (s_ret (e_var 1))))))

def b__law_spans : FS := (sSeq (sParN3 1 2 3 (fLst fNil) (f2 D.ix (fVar 0) (fK (.int 0))) (f2 D.ix (fVar 0) (fK (.int 0))))
  (sSeq (sFor (fItems (f2 D.ix (fVar 0) (fK (.int 1)))) (gT (gC (gN 4) (gC (gN 5) (gC (gN 6) gE))))
   (sSeq (sPar2 2 3 (fCall (g2 D.max2) (fCons (f2 D.ix (fVar 6) (fK (.int 0))) (fCons (f2 D.sub (f2 D.add (fVar 2) (f2 D.ix (fVar 4) (fK (.int 0)))) (fVar 5)) fNil))) (fCall (g2 D.min2) (fCons (fCall Phi__law_last (fCons (fVar 6) fNil)) (fCons (f2 D.sub (f2 D.add (fVar 3) (fCall Phi__law_last (fCons (fVar 4) fNil))) (fVar 5)) fNil))))
  (sSeq (sApp 1 (fTup (fCons (fVar 2) (fCons (fVar 3) fNil))))
  (sIf (bVal (f2 D.gt (fVar 2) (fVar 3)))
   (sRet (fK .non))
   sNil)))
   sNil)
  (sSeq (sFor (fRngDn (f2 D.sub (fLenO 1) (fK (.int 2)))) (gN 7)
   (sSeq (sAsg (gT (gC (gN 4) (gC (gN 5) (gC (gN 6) gE)))) (f2 D.ix (f2 D.ix (fVar 0) (fK (.int 1))) (f2 D.add (fVar 7) (fK (.int 1)))))
  (sSeq (sAsg (gT (gC (gN 2) (gC (gN 3) gE))) (fIxO 1 (f2 D.add (fVar 7) (fK (.int 1)))))
  (sPut 1 (fVar 7) (fTup (fCons (fCall (g2 D.max2) (fCons (f2 D.ix (fIxO 1 (fVar 7)) (fK (.int 0))) (fCons (f2 D.sub (f2 D.add (fVar 2) (fVar 5)) (fCall Phi__law_last (fCons (fVar 4) fNil))) fNil))) (fCons (fCall (g2 D.min2) (fCons (f2 D.ix (fIxO 1 (fVar 7)) (fK (.int 1))) (fCons (f2 D.sub (f2 D.add (fVar 3) (fVar 5)) (f2 D.ix (fVar 4) (fK (.int 0)))) fNil))) fNil))))))
   sNil)
  (sSeq (sFrz 1) (sRet (fVar 1))))))
def Phi__law_spans : List D → Option D := runD 1 8 b__law_spans

abbrev N__law_spans : List Str := ["_law_book_here", "_law_rows", "_law_low", "_law_high", "_law_buy", "_law_want", "_law_keep", "_law_k"]
theorem sc__law_spans : FnScope N__law_spans ["_law_book_here"] (defScope (topS 85)) := ⟨rfl, rfl, rfl, by decide +kernel, rfl, by decide +kernel, by decide +kernel⟩
theorem ok__law_spans (T : Txt K mg) : Ok P w K mg base "_law_spans" 3 1 Phi__law_spans :=
  ok_mk (N := N__law_spans) (ps := ["_law_book_here"]) (fs := b__law_spans) (T.d 62 "_law_spans" 85 rfl) sc__law_spans (fun _ _ _ _ _ _ _ us hl => match us, hl with | [_], _ => rfl) fun f cdv A outer s H E F0 H0 hr =>
  have nd : N__law_spans.Nodup := sc__law_spans.nd
  (s_cons (s_parN3 1 2 3 rfl nd (n_lst a_nil) (e_ix (e_var 0) e_int) (e_ix (e_var 0) e_int))
  (s_cons (s_for PassesOwn.never rfl (i_seq (e_ix (e_var 0) e_int)) (g_tup rfl (gs_cons (g_name 4 nd) (gs_cons (g_name 5 nd) (gs_cons (g_name 6 nd) gs_nil))))
   (s_cons (s_par2 2 3 rfl nd (e_callB (call_max2 rfl) rc_max2 (T.fr 3 "max" rfl) (by decide +kernel) (a_cons (e_ix (e_var 6) e_int) (a_cons (e_op op_sub rd_sub (e_op op_add rd_add (e_var 2) (e_ix (e_var 4) e_int)) (e_var 5)) a_nil))) (e_callB (call_min2 rfl) rc_min2 (T.fr 2 "min" rfl) (by decide +kernel) (a_cons (e_callO (ok__law_last T) hr (by decide) (a_cons (e_var 6) a_nil)) (a_cons (e_op op_sub rd_sub (e_op op_add rd_add (e_var 3) (e_callO (ok__law_last T) hr (by decide) (a_cons (e_var 4) a_nil))) (e_var 5)) a_nil))))
  (s_cons (s_app 1 (e_tup (a_cons (e_var 2) (a_cons (e_var 3) a_nil))))
  (s_one (s_if (t_cmp op_gt rd_gt (e_var 2) (e_var 3))
   (s_one (s_ret e_non))
   s_nil))))
   s_nil)
  (s_cons (s_for PassesOwn.never rfl (i_rngDn (T.fr 7 "range" rfl) (e_op op_sub rd_sub (e_lenO 1 (T.fr 0 "len" rfl)) e_int)) (g_name 7 nd)
   (s_cons (s_asg (e_ix (e_ix (e_var 0) e_int) (e_op op_add rd_add (e_var 7) e_int)) (g_tup rfl (gs_cons (g_name 4 nd) (gs_cons (g_name 5 nd) (gs_cons (g_name 6 nd) gs_nil)))))
  (s_cons (s_asg (e_ixO 1 (e_op op_add rd_add (e_var 7) e_int)) (g_tup rfl (gs_cons (g_name 2 nd) (gs_cons (g_name 3 nd) gs_nil))))
  (s_one (s_put 1 (e_tup (a_cons (e_callB (call_max2 rfl) rc_max2 (T.fr 3 "max" rfl) (by decide +kernel) (a_cons (e_ix (e_ixO 1 (e_var 7)) e_int) (a_cons (e_op op_sub rd_sub (e_op op_add rd_add (e_var 2) (e_var 5)) (e_callO (ok__law_last T) hr (by decide) (a_cons (e_var 4) a_nil))) a_nil))) (a_cons (e_callB (call_min2 rfl) rc_min2 (T.fr 2 "min" rfl) (by decide +kernel) (a_cons (e_ix (e_ixO 1 (e_var 7)) e_int) (a_cons (e_op op_sub rd_sub (e_op op_add rd_add (e_var 3) (e_var 5)) (e_ix (e_var 4) e_int)) a_nil))) a_nil))) (e_var 7)))))
   s_nil)
  (s_frz 1 (s_one (s_ret (e_var 1)))))))

def b__law_equals : FS := (sSeq (sAsg (gT (gC (gN 2) (gC (gN 3) gE))) (fTup (fCons (fCall Phi__law_plan_cost (fCons (fVar 0) (fCons (fVar 1) fNil))) (fCons (fFrz (fComp [5] (fItems (fCall Phi__law_changes (fCons (fCall (g1 D.len) (fCons (fVar 1) fNil)) fNil))) (gN 5) bYes (fCall Phi__law_changed (fCons (fVar 1) (fCons (fVar 5) fNil))))) fNil))))
  (sRet (fFrz (fComp [4] (fItems (fVar 3)) (gN 4) (bAnd (bVal (fCall Phi__law_is_plan (fCons (fVar 0) (fCons (fVar 4) fNil)))) (bVal (f2 D.eq (fCall Phi__law_plan_cost (fCons (fVar 0) (fCons (fVar 4) fNil))) (fVar 2)))) (fVar 4)))))
def Phi__law_equals : List D → Option D := runD 2 6 b__law_equals

abbrev N__law_equals : List Str := ["_law_book_here", "_law_plan", "_law_own", "_law_some", "_law_one_here", "_law_change"]
theorem sc__law_equals : FnScope N__law_equals ["_law_book_here", "_law_plan"] (defScope (topS 87)) := ⟨rfl, rfl, rfl, by decide +kernel, rfl, by decide +kernel, by decide +kernel⟩
theorem ok__law_equals (T : Txt K mg) : Ok P w K mg base "_law_equals" 5 2 Phi__law_equals :=
  ok_mk (N := N__law_equals) (ps := ["_law_book_here", "_law_plan"]) (fs := b__law_equals) (T.d 64 "_law_equals" 87 rfl) sc__law_equals (fun _ _ _ _ _ _ _ us hl => match us, hl with | [_, _], _ => rfl) fun f cdv A outer s H E F0 H0 hr =>
  have nd : N__law_equals.Nodup := sc__law_equals.nd
  (s_cons (s_asg (e_tup (a_cons (e_callO (ok__law_plan_cost T) hr (by decide) (a_cons (e_var 0) (a_cons (e_var 1) a_nil))) (a_cons (e_frz (n_lc (own := [("_law_change", 5)]) rfl nd (i_seq (e_callO (ok__law_changes T) hr (by decide) (a_cons (e_callB call_len_seq rc_len (T.fr 0 "len" rfl) PySem.boot_len (a_cons (e_var 1) a_nil)) a_nil))) (blkOk_by (own := [("_law_change", 5)]) (N := N__law_equals) (sc := defScope (topS 87)) (by decide +kernel)) (by decide) (fun _ _ _ _ _ => (g_name 5 nd)) (fun _ _ _ _ _ => ts_nil) (fun _ _ _ _ _ => (e_callO (ok__law_changed T) hr (by decide) (a_cons (e_var 1) (a_cons (e_var 5) a_nil)))))) a_nil))) (g_tup rfl (gs_cons (g_name 2 nd) (gs_cons (g_name 3 nd) gs_nil))))
  (s_one (s_ret (e_frz (n_lc (own := [("_law_one_here", 4)]) rfl nd (i_seq (e_var 3)) (blkOk_by (own := [("_law_one_here", 4)]) (N := N__law_equals) (sc := defScope (topS 87)) (by decide +kernel)) (by decide) (fun _ _ _ _ _ => (g_name 4 nd)) (fun _ _ _ _ _ => (ts_one (PW.pt (w_and (t_val (e_callO (ok__law_is_plan T) hr (by decide) (a_cons (e_var 0) (a_cons (e_var 4) a_nil)))) (w_and1 (t_cmp (op_eqA hr.units) rd_eq (e_callO (ok__law_plan_cost T) hr (by decide) (a_cons (e_var 0) (a_cons (e_var 4) a_nil))) (e_var 2))))))) (fun _ _ _ _ _ => (e_var 4)))))))

end
end FD
end

section
set_option Elab.async false
set_option linter.all false
set_option maxRecDepth 100000
set_option maxHeartbeats 2000000
/-! FWa: defs that draw from the deck. The deck: a list at dk of [list at g, list at sm, count]; its cells change, all else is as in FD. What a draw gives is not known: readings are conditions on what may come. -/
namespace FD
open PySem PySem.Spec PyProof.Rows L2 StX
structure Dk where
  dk : Addr
  g : Addr
  sm : Addr
structure DeckAt (k : Dk) (c : Nat) (F H : Hp) : Prop where
  d : H k.dk = some (.lst [.ref k.g, .ref k.sm, .int c])
  g : ∃ gs : List Int, H k.g = some (.lst (gs.map V.int))
  s : ∃ ss : List Int, H k.sm = some (.lst (ss.map V.int)) ∧ ss ≠ []
  fd : F k.dk = none
  fg : F k.g = none
  n1 : k.dk ≠ k.g
  n2 : k.sm ≠ k.dk
  n3 : k.sm ≠ k.g
structure ExtM (k : Dk) (F H F' H' : Hp) : Prop where
  f : Same F F'
  h : ∀ a x, a ≠ k.dk → a ≠ k.g → H a = some x → H' a = some x
  fh : Same F' H'
  nw : ∀ a, F a = none → H a ≠ none → F' a = none
  lv : ∀ a, H a ≠ none → H' a ≠ none
section
variable {k : Dk} {c c' : Nat} {F H F' H' F1 H1 F0 H0 : Hp} {K : PySem.W.Frag} {σ : L2.St} {ρ : Rho}
theorem Ext.m (x : Ext F H F' H') : ExtM k F H F' H' := ⟨x.f, fun a u _ _ e => x.h a u e, x.fh, x.nw, fun a h => Same.ne x.h h⟩
theorem ExtM.refl (s : Same F H) : ExtM k F H F H := (Ext.refl s).m
theorem ExtM.trans (x : ExtM k F H F1 H1) (y : ExtM k F1 H1 F' H') : ExtM k F H F' H' :=
  ⟨x.f.trans y.f, fun a u h1 h2 e => y.h a u h1 h2 (x.h a u h1 h2 e), y.fh, fun a h1 h2 => y.nw a (x.nw a h1 h2) (x.lv a h2), fun a h => y.lv a (x.lv a h)⟩
theorem DeckAt.ext (D : DeckAt k c F H) (x : Ext F H F' H') : DeckAt k c F' H' := by
  obtain ⟨gs, hg⟩ := D.g
  obtain ⟨ss, hs, hn⟩ := D.s
  exact ⟨x.h _ _ D.d, ⟨gs, x.h _ _ hg⟩, ⟨ss, x.h _ _ hs, hn⟩, x.nw _ D.fd (by rw [D.d]; exact fun z => nomatch z), x.nw _ D.fg (by rw [hg]; exact fun z => nomatch z), D.n1, D.n2, D.n3⟩
/-- as SR, in a def that draws -/
structure SRM (K : PySem.W.Frag) (k : Dk) (F0 H0 F H : Hp) (σ : L2.St) (ρ : Rho) : Prop where
  ext : ExtM k F0 H0 F H
  hd : H0 k.dk ≠ none
  hg : H0 k.g ≠ none
  hs : H0 k.sm ≠ none
  len : σ.length = ρ.length
  sl : ∀ (i : Nat) (o : Option V) (s : Sl), σ[i]? = some o → ρ[i]? = some s → SlR K F H o s
  ow : ∀ (i : Nat) (a : Addr) (ds : List D), σ[i]? = some (some (.ref a)) → ρ[i]? = some (.own ds) → H0 a = none
  ap : ∀ (i j : Nat) (a : Addr) (ds es : List D), σ[i]? = some (some (.ref a)) → σ[j]? = some (some (.ref a)) → ρ[i]? = some (.own ds) → ρ[j]? = some (.own es) → i = j
theorem SlR.extM {o : Option V} {s : Sl} (r : SlR K F H o s) (x : ExtM k F H F' H') (ho : ∀ a ds, o = some (.ref a) → s = .own ds → a ≠ k.dk ∧ a ≠ k.g) : SlR K F' H' o s := by
  cases r with
  | un => exact .un _
  | ad a => exact .ad a
  | dat r => exact .dat (r.mono x.f)
  | own h f r =>
    have n := ho _ _ rfl rfl
    exact .own (x.h _ _ n.1 n.2 h) (x.nw _ f (by rw [h]; exact fun z => nomatch z)) (r.mono x.f)
theorem SRM.fh (S : SRM K k F0 H0 F H σ ρ) : Same F H := S.ext.fh
theorem SRM.to (S : SRM K k F0 H0 F H σ ρ) (x : ExtM k F H F' H') : SRM K k F0 H0 F' H' σ ρ :=
  ⟨S.ext.trans x, S.hd, S.hg, S.hs, S.len, fun i o s h1 h2 => (S.sl i o s h1 h2).extM x fun a ds e1 e2 => by
    subst e1 e2
    have := S.ow i a ds h1 h2
    exact ⟨fun z => S.hd (by rw [← z]; exact this), fun z => S.hg (by rw [← z]; exact this)⟩, S.ow, S.ap⟩
open Classical in
/-- the heap without the lists of one's own -/
noncomputable def bare (σ : L2.St) (ρ : Rho) (H : Hp) : Hp := fun a => if ∃ (i : Nat) (ds : List D), σ[i]? = some (some (.ref a)) ∧ ρ[i]? = some (.own ds) then none else H a
theorem bare_own {i : Nat} {a : Addr} {ds : List D} (h1 : σ[i]? = some (some (.ref a))) (h2 : ρ[i]? = some (.own ds)) : bare σ ρ H a = none := by
  unfold bare
  rw [if_pos ⟨i, ds, h1, h2⟩]
theorem bare_not {a : Addr} (h : ∀ (i : Nat) (ds : List D), σ[i]? = some (some (V.ref a)) → ρ[i]? = some (Sl.own ds) → False) : bare σ ρ H a = H a := by
  unfold bare
  rw [if_neg (fun ⟨i, ds, h1, h2⟩ => h i ds h1 h2)]
theorem bare_same : Same (bare σ ρ H) H := fun a x e => by
  unfold bare at e
  split at e
  · cases e
  · exact e
/-- what pure code sees -/
theorem SRM.sr (S : SRM K k F0 H0 F H σ ρ) : SR K F (bare σ ρ H) F H σ ρ :=
  ⟨⟨Same.refl F, bare_same, S.fh, fun a h _ => h⟩, S.len, S.sl, fun i a ds h1 h2 => bare_own h1 h2, S.ap⟩
theorem SRM.old (S : SRM K k F0 H0 F H σ ρ) {a : Addr} (h : H0 a ≠ none) : bare σ ρ H a = H a := bare_not fun i ds h1 h2 => h (S.ow i a ds h1 h2)
theorem SRM.extM (S : SRM K k F0 H0 F H σ ρ) (x : Ext F (bare σ ρ H) F' H') : ExtM k F0 H0 F' H' := by
  refine ⟨S.ext.f.trans x.f, fun a u n1 n2 e => ?_, x.fh, fun a h1 h2 => ?_, fun a h => ?_⟩
  · have h := S.ext.h a u n1 n2 e
    exact x.h a u (by rw [S.old (by rw [e]; exact fun z => nomatch z)]; exact h)
  · exact x.nw a (S.ext.nw a h1 h2) (by rw [S.old h2]; exact S.ext.lv a h2)
  · exact Same.ne x.h (by rw [S.old h]; exact S.ext.lv a h)
theorem SRM.deck (S : SRM K k F0 H0 F H σ ρ) (D : DeckAt k c F H) (x : Ext F (bare σ ρ H) F' H') : DeckAt k c F' H' := by
  obtain ⟨gs, hg⟩ := D.g
  obtain ⟨ss, hs, hn⟩ := D.s
  have up : ∀ a u, H0 a ≠ none → H a = some u → H' a = some u := fun a u h e => x.h a u (by rw [S.old h]; exact e)
  exact ⟨up _ _ S.hd D.d, ⟨gs, up _ _ S.hg hg⟩, ⟨ss, up _ _ S.hs hs, hn⟩, x.nw _ D.fd (by rw [S.old S.hd, D.d]; exact fun z => nomatch z), x.nw _ D.fg (by rw [S.old S.hg, hg]; exact fun z => nomatch z), D.n1, D.n2, D.n3⟩
/-- .. and back -/
theorem SRM.back {σ' : L2.St} {ρ' : Rho} (S : SRM K k F0 H0 F H σ ρ) (S' : SR K F (bare σ ρ H) F' H' σ' ρ') : SRM K k F0 H0 F' H' σ' ρ' :=
  ⟨S.extM S'.ext, S.hd, S.hg, S.hs, S'.len, S'.sl, fun i a ds h1 h2 => by
    have h := S'.ow i a ds h1 h2
    cases e : H0 a with
    | none => rfl
    | some u =>
      have hn : H0 a ≠ none := by rw [e]; exact fun z => nomatch z
      rw [S.old hn] at h
      exact absurd h (S.ext.lv a hn), S'.ap⟩
theorem SRM.get (S : SRM K k F0 H0 F H σ ρ) {i : Nat} {s : Sl} (h : ρ[i]? = some s) : ∃ o, σ[i]? = some o ∧ SlR K F H o s := S.sr.get h
end

/-! ### readings -/
structure FWE where
  run : Rho → Nat → (D → Nat → Prop) → Prop
  mono : ∀ {ρ c} {P P' : D → Nat → Prop}, run ρ c P → (∀ d c', P d c' → P' d c') → run ρ c P'
structure FWL where
  run : Rho → Nat → (List D → Nat → Prop) → Prop
  mono : ∀ {ρ c} {P P' : List D → Nat → Prop}, run ρ c P → (∀ d c', P d c' → P' d c') → run ρ c P'
section
variable (K : PySem.W.Frag) (k : Dk) (F0 H0 : Hp)
def tW (m : FWE) : TE := fun σ H Q => ∃ F ρ c, SRM K k F0 H0 F H σ ρ ∧ DeckAt k c F H ∧ m.run ρ c fun d c' => ∀ v F' H', ExtM k F H F' H' → DeckAt k c' F' H' → Rp K F' v d → Q v H'
def tWA (m : FWL) : TA := fun σ H Q => ∃ F ρ c, SRM K k F0 H0 F H σ ρ ∧ DeckAt k c F H ∧ m.run ρ c fun ds c' => ∀ vs F' H', ExtM k F H F' H' → DeckAt k c' F' H' → Rps K F' vs ds → Q vs H'
end
def mPure (fe : FE) : FWE := ⟨fun ρ c P => ∃ d, fe ρ = some d ∧ P d c, fun ⟨d, e, h⟩ q => ⟨d, e, q d _ h⟩⟩
def mNil : FWL := ⟨fun ρ c P => P [] c, fun h q => q _ _ h⟩
def mCons (a : FWE) (r : FWL) : FWL := ⟨fun ρ c P => a.run ρ c fun x c1 => r.run ρ c1 fun xs c2 => P (x :: xs) c2, fun h q => a.mono h fun x c1 h => r.mono h fun xs c2 h => q _ _ h⟩
def mOp (g : D → D → Option D) (a b : FWE) : FWE := ⟨fun ρ c P => a.run ρ c fun x c1 => b.run ρ c1 fun y c2 => ∃ z, g x y = some z ∧ P z c2, fun h q => a.mono h fun x c1 h => b.mono h fun y c2 ⟨z, e, h⟩ => ⟨z, e, q _ _ h⟩⟩
def mTup (r : FWL) : FWE := ⟨fun ρ c P => r.run ρ c fun ds c' => ds.length ≤ 100000 ∧ P (.tup ds) c', fun h q => r.mono h fun ds c' ⟨z, h⟩ => ⟨z, q _ _ h⟩⟩
def mLst (r : FWL) : FWE := ⟨fun ρ c P => r.run ρ c fun ds c' => ds.length ≤ 100000 ∧ P (.lst ds) c', fun h q => r.mono h fun ds c' ⟨z, h⟩ => ⟨z, q _ _ h⟩⟩
def mIf (t : FT) (a b : FWE) : FWE := ⟨fun ρ c P => ∃ x, t ρ = some x ∧ if x = true then a.run ρ c P else b.run ρ c P, fun ⟨x, e, h⟩ q => ⟨x, e, by
  cases x
  · exact b.mono h q
  · exact a.mono h q⟩⟩
/-- what a def that draws does -/
structure FWD where
  run : Addr → List D → Nat → (D → Nat → Prop) → Prop
  mono : ∀ {a ds c} {P P' : D → Nat → Prop}, run a ds c P → (∀ d c', P d c' → P' d c') → run a ds c P'
def mCall (Psi : FWD) (dk : Addr) (i : Nat) (r : FWL) : FWE := ⟨fun ρ c P => ρ[i]? = some (.ad dk) ∧ r.run ρ c fun ds c' => Psi.run dk ds c' P, fun ⟨e, h⟩ q => ⟨e, r.mono h fun ds c' h => Psi.mono h q⟩⟩
def spM (K : PySem.W.Frag) (n : Nat) (Psi : FWD) : Sp := fun vs H Q _ => ∃ F k c ws ds, vs = .ref (Dk.dk k) :: ws ∧ ws.length = n ∧ Same F H ∧ DeckAt k c F H ∧ Rps K F ws ds ∧ Psi.run k.dk ds c fun d c' => ∀ v F' H', ExtM k F H F' H' → DeckAt k c' F' H' → Rp K F' v d → Q v H'
structure OkM (P : Program) (w : World) (K : PySem.W.Frag) (mg : Str → Option Value) (base : Heap) (x : Str) (k n : Nat) (Psi : FWD) : Prop where
  ex : ∃ (f : Addr) (fd : FuncData) (ps : List Str), mg x = some (.ref f) ∧ PySem.W.keepIn K (.ref f) = true ∧ Binds K fd ps [] ∧ FnOk P w K mg base CX0 k f fd ps (spM K n Psi)
section
variable {X : Cx} {k : Dk} {F0 H0 : Hp} {a b c e tg : Expr} {es : List Expr} {ma mb : FWE} {ml : FWL} {fa fe : FE} {fl : FL} {ft : FT} {pos p p2 : Pos}
theorem w_pure (h : ∀ F0 H0, PE X e (tD X.K F0 H0 fe)) : PE X e (tW X.K k F0 H0 (mPure fe)) :=
  ⟨fun pins s σ H Q I ⟨F, ρ, c, S, Dc, d, e1, q⟩ => (h F _).run pins s σ H Q I ⟨F, ρ, d, S.sr, e1, fun v F' H' X' r => q v F' H' X'.m (Dc.ext X') r⟩⟩
theorem w_anil : PA X [] (tWA X.K k F0 H0 mNil) := pa_nil.imp fun σ H Q ⟨F, ρ, c, S, Dc, q⟩ => q [] F H (ExtM.refl S.fh) Dc .nil
theorem w_acons (ha : PE X e (tW X.K k F0 H0 ma)) (hr : PA X es (tWA X.K k F0 H0 ml)) (hs : starEach (e :: es) X.env = (false, eval e X.env) :: starEach es X.env := by rfl) : PA X (e :: es) (tWA X.K k F0 H0 (mCons ma ml)) :=
  (pa_cons ha hr hs).imp fun σ H Q ⟨F, ρ, c, S, Dc, q⟩ => ⟨F, ρ, c, S, Dc, ma.mono q fun x c1 q v F1 H1 X1 D1 r1 => ⟨F1, ρ, c1, S.to X1, D1, ml.mono q fun xs c2 q vs F2 H2 X2 D2 r2 => q _ F2 H2 (X1.trans X2) D2 (.cons (r1.mono X2.f) r2)⟩⟩
theorem w_op {op : Operator} {r : R2} {g : D → D → Option D} (ho : OpR X (binaryOp op) r) (hr : RD X.K r g) (ha : PE X a (tW X.K k F0 H0 ma)) (hb : PE X b (tW X.K k F0 H0 mb)) : PE X (.BinOp a op b pos) (tW X.K k F0 H0 (mOp g ma mb)) :=
  (pe_op ho ha hb).imp fun σ H Q ⟨F, ρ, c, S, Dc, q⟩ => ⟨F, ρ, c, S, Dc, ma.mono q fun x c1 q v F1 H1 X1 D1 r1 => ⟨F1, ρ, c1, S.to X1, D1, mb.mono q fun y c2 ⟨z, ez, q⟩ u F2 H2 X2 D2 r2 =>
    hr F2 H2 v u x y z Q X2.fh (r1.mono X2.f) r2 ez fun w F3 H3 X3 r3 => q w F3 H3 ((X1.trans X2).trans X3.m) (D2.ext X3) r3⟩⟩
theorem w_tup {j : Nat} (h : PA X es (tWA X.K k F0 H0 ml)) : PE X (.Tuple es j pos) (tW X.K k F0 H0 (mTup ml)) :=
  (pe_tup h).imp fun σ H Q ⟨F, ρ, c, S, Dc, q⟩ => ⟨F, ρ, c, S, Dc, ml.mono q fun ds c1 ⟨hz, q⟩ vs F1 H1 X1 D1 r1 => ⟨by rw [r1.length]; exact sz hz, fun p hp => by
    have y := Ext.new (o := .tup vs) X1.fh hp
    exact q _ _ _ (X1.trans y.m) (D1.ext y) (.tup (SqT.of upd_same) (r1.mono y.f))⟩⟩
theorem w_lst (h : PA X es (tWA X.K k F0 H0 ml)) : PE X (.List es pos) (tW X.K k F0 H0 (mLst ml)) :=
  (pe_lst h).imp fun σ H Q ⟨F, ρ, c, S, Dc, q⟩ => ⟨F, ρ, c, S, Dc, ml.mono q fun ds c1 ⟨hz, q⟩ vs F1 H1 X1 D1 r1 => ⟨by rw [r1.length]; exact sz hz, fun p hp => by
    have y := Ext.new (o := .lst vs) X1.fh hp
    exact q _ _ _ (X1.trans y.m) (D1.ext y) (.lst upd_same (r1.mono y.f))⟩⟩
theorem w_if (hc : ∀ F0 H0, PT X c (tB1 X.K F0 H0 ft)) (ha : PE X a (tW X.K k F0 H0 ma)) (hb : PE X b (tW X.K k F0 H0 mb)) : PE X (.IfExp c a b pos) (tW X.K k F0 H0 (mIf ft ma mb)) :=
  ⟨fun pins s σ H Q I ⟨F, ρ, c, S, Dc, x, e, q⟩ => (pe_ifExp (hc F (bare σ ρ H)) ha hb).run pins s σ H Q I ⟨F, ρ, x, S.sr, e, fun F1 H1 X1 => by
    cases x with
    | true =>
      rw [if_pos rfl] at q ⊢
      exact ⟨F1, ρ, c, S.to X1.m, Dc.ext X1, ma.mono q fun d c' q v F2 H2 X2 D2 r => q v F2 H2 (X1.m.trans X2) D2 r⟩
    | false =>
      rw [if_neg Bool.false_ne_true] at q ⊢
      exact ⟨F1, ρ, c, S.to X1.m, Dc.ext X1, mb.mono q fun d c' q v F2 H2 X2 D2 r => q v F2 H2 (X1.m.trans X2) D2 r⟩⟩⟩
theorem w_ix (ha : PE X a (tW X.K k F0 H0 ma)) (hb : PE X b (tW X.K k F0 H0 mb)) (hs : PlainIx b := by intro _ _; rfl) : PE X (.Subscript a b pos) (tW X.K k F0 H0 (mOp D.ix ma mb)) :=
  (pe_ix ix_seq ha hb hs).imp fun σ H Q ⟨F, ρ, c, S, Dc, q⟩ => ⟨F, ρ, c, S, Dc, ma.mono q fun x c1 q v F1 H1 X1 D1 r1 => ⟨F1, ρ, c1, S.to X1, D1, mb.mono q fun y c2 ⟨z, ez, qq⟩ u F2 H2 X2 D2 r2 => by
    have Y := X1.trans X2
    have r1' := r1.mono X2.f
    cases r1' with
    | @tup a vs ds h r =>
      cases r2 with
      | int i =>
        obtain ⟨v, e1, rv⟩ := r.at (show atI ds i = some z from ez)
        exact .inr (.inl ⟨a, vs, i, v, rfl, rfl, sqT_mono X2.fh h, e1, qq _ F2 H2 Y D2 rv⟩)
      | _ => cases ez
    | @lst a vs ds h r =>
      cases r2 with
      | int i =>
        obtain ⟨v, e1, rv⟩ := r.at (show atI ds i = some z from ez)
        exact .inl ⟨a, vs, i, v, rfl, rfl, sq_any X2.fh h, e1, qq _ F2 H2 Y D2 rv⟩
      | _ => cases ez
    | _ => cases r2 <;> cases ez⟩⟩
/-- a def that draws, called with the deck and es -/
theorem w_call {x y : Str} {kc kk n : Nat} {Psi : FWD} (G : OkM X.prog X.w X.K X.mg X.base x kc n Psi) (hr : Room kk X.A) (hk : kc ≤ kk) (i : Nat) (ha : PA X es (tWA X.K k F0 H0 ml)) (hln : es.length = n := by rfl)
    (hN : X.N[i]? = some y := by rfl) (hv : Vis X.env.scope y := by first | exact Or.inl rfl | exact Or.inr (Or.inl rfl) | exact Or.inr (Or.inr rfl)) (hd : (y == ("__debug__" : Str)) = false := by decide) (hcd : (y == ("__classdict__" : Str)) = false := by decide)
    (hl : ∀ ρ c P, ml.run ρ c P → ml.run ρ c fun ds c' => ds.length = n ∧ P ds c')
    (hg : Gl X x := by rfl) (hdb : (x == ("__debug__" : Str)) = false := by decide) (he : starEach (.Name y p2 :: es) X.env = (false, eval (.Name y p2) X.env) :: starEach es X.env := by rfl) (hpl : (backTo pos (starEach es X.env)).any (·.1) = false := by rfl) :
    PE X (.Call (.Name x p) (.Name y p2 :: es) [] pos) (tW X.K k F0 H0 (mCall Psi k.dk i ml)) := by
  obtain ⟨f, fd, ps, hm, hkp, hb, hF⟩ := G.ex
  refine (pe_call hF (hr.mono hk) hg hm hkp hb .nil pass0 (pa_cons (pe_var hN hv hd hcd) ha he) hdb he hpl).imp fun σ H Q ⟨F, ρ, c, S, Dc, e, q⟩ => ?_
  obtain ⟨o, e1, r⟩ := S.get e
  cases r
  refine ⟨_, e1, F, ρ, c, S, Dc, ml.mono (hl _ _ _ q) fun ds c1 ⟨hn, q⟩ vs F1 H1 X1 D1 r1 => ⟨F1, k, c1, vs, ds, by rw [List.append_nil], by rw [r1.length]; exact hn, X1.fh, D1, r1, Psi.mono q fun d c2 q v F2 H2 X2 D2 r2 => q v F2 H2 (X1.trans X2) D2 r2⟩⟩
end
end FD
end

section
set_option Elab.async false
set_option linter.all false
set_option maxRecDepth 100000
set_option maxHeartbeats 2000000
/-! FWb: statements of defs that draw. -/
namespace FD
open PySem PySem.Spec PyProof.Rows L2 StX
structure FWS where
  run : Rho → Nat → (Out → Nat → Prop) → Prop
  mono : ∀ {ρ c} {P P' : Out → Nat → Prop}, run ρ c P → (∀ d c', P d c' → P' d c') → run ρ c P'
def OutOkM (K : PySem.W.Frag) (k : Dk) (F0 H0 F : Hp) (Dn : Ends) (c : Nat) : Out → Prop
  | .nx ρ' => ∀ σ' F' H', Same F F' → SRM K k F0 H0 F' H' σ' ρ' → DeckAt k c F' H' → Dn.nx σ' H'
  | .bk ρ' => ∀ σ' F' H', Same F F' → SRM K k F0 H0 F' H' σ' ρ' → DeckAt k c F' H' → Dn.bk σ' H'
  | .ct ρ' => ∀ σ' F' H', Same F F' → SRM K k F0 H0 F' H' σ' ρ' → DeckAt k c F' H' → Dn.ct σ' H'
  | .rt d => ∀ v F' H', ExtM k F0 H0 F' H' → DeckAt k c F' H' → Rp K F' v d → Dn.rt v H'
theorem OutOkM.mono {K : PySem.W.Frag} {k : Dk} {F0 H0 F F' : Hp} {Dn : Ends} {c : Nat} {o : Out} (h : OutOkM K k F0 H0 F Dn c o) (s : Same F F') : OutOkM K k F0 H0 F' Dn c o := by
  cases o with
  | nx ρ => exact fun σ F1 H1 s1 S => h σ F1 H1 (s.trans s1) S
  | bk ρ => exact fun σ F1 H1 s1 S => h σ F1 H1 (s.trans s1) S
  | ct ρ => exact fun σ F1 H1 s1 S => h σ F1 H1 (s.trans s1) S
  | rt d => exact h
def tSW (K : PySem.W.Frag) (k : Dk) (F0 H0 : Hp) (f : FWS) : TS := fun Dn σ H => ∃ F ρ c, SRM K k F0 H0 F H σ ρ ∧ DeckAt k c F H ∧ f.run ρ c fun o c' => OutOkM K k F0 H0 F Dn c' o
def mS (f : FS) : FWS := ⟨fun ρ c P => ∃ o, f ρ = some o ∧ P o c, fun ⟨o, e, h⟩ q => ⟨o, e, q _ _ h⟩⟩
def mNilS : FWS := ⟨fun ρ c P => P (.nx ρ) c, fun h q => q _ _ h⟩
def mSeq (f g : FWS) : FWS := ⟨fun ρ c P => f.run ρ c fun o c' => match o with
  | .nx ρ' => g.run ρ' c' P
  | .bk ρ' => P (.bk ρ') c'
  | .ct ρ' => P (.ct ρ') c'
  | .rt d => P (.rt d) c', fun h q => f.mono h fun o c' h => by
    cases o with
    | nx ρ' => exact g.mono h q
    | bk ρ' => exact q _ _ h
    | ct ρ' => exact q _ _ h
    | rt d => exact q _ _ h⟩
def mSet (i : Nat) (m : FWE) : FWS := ⟨fun ρ c P => m.run ρ c fun d c' => P (.nx (ρ.set i (.dat d))) c', fun h q => m.mono h fun _ _ h => q _ _ h⟩
def mPar2 (i j : Nat) (a b : FWE) : FWS := ⟨fun ρ c P => a.run ρ c fun x c1 => b.run ρ c1 fun y c2 => P (.nx ((ρ.set i (.dat x)).set j (.dat y))) c2, fun h q => a.mono h fun _ _ h => b.mono h fun _ _ h => q _ _ h⟩
def mParN2 (i j : Nat) (a : FL) (b : FWE) : FWS := ⟨fun ρ c P => ∃ xs, a ρ = some xs ∧ b.run ρ c fun y c2 => P (.nx ((ρ.set i (.own xs)).set j (.dat y))) c2, fun ⟨xs, e, h⟩ q => ⟨xs, e, b.mono h fun _ _ h => q _ _ h⟩⟩
def mPar2N (i j : Nat) (a : FWE) (b : FL) : FWS := ⟨fun ρ c P => a.run ρ c fun x c1 => ∃ ys, b ρ = some ys ∧ P (.nx ((ρ.set i (.dat x)).set j (.own ys))) c1, fun h q => a.mono h fun _ _ ⟨ys, e, h⟩ => ⟨ys, e, q _ _ h⟩⟩
def mApp (i : Nat) (m : FWE) : FWS := ⟨fun ρ c P => ∃ ds, ρ[i]? = some (.own ds) ∧ ds.length < 100000 ∧ m.run ρ c fun y c' => P (.nx (ρ.set i (.own (ds ++ [y])))) c', fun ⟨ds, e, z, h⟩ q => ⟨ds, e, z, m.mono h fun _ _ h => q _ _ h⟩⟩
def mRet (m : FWE) : FWS := ⟨fun ρ c P => m.run ρ c fun d c' => P (.rt d) c', fun h q => m.mono h fun _ _ h => q _ _ h⟩
def mSIf (t : FT) (f g : FWS) : FWS := ⟨fun ρ c P => ∃ x, t ρ = some x ∧ if x = true then f.run ρ c P else g.run ρ c P, fun ⟨x, e, h⟩ q => ⟨x, e, by
  cases x
  · exact g.mono h q
  · exact f.mono h q⟩⟩
def mTurn (g : FG) (body : FWS) (d : D) (rest : FWS) : FWS := ⟨fun ρ c P => ∃ ρ1, g d ρ = some ρ1 ∧ body.run ρ1 c fun o c' => match o with
    | .nx ρ2 => rest.run ρ2 c' P
    | .ct ρ2 => rest.run ρ2 c' P
    | .bk ρ2 => P (.nx ρ2) c'
    | .rt d => P (.rt d) c', fun ⟨ρ1, e, h⟩ q => ⟨ρ1, e, body.mono h fun o c' h => by
      cases o with
      | nx ρ' => exact rest.mono h q
      | bk ρ' => exact q _ _ h
      | ct ρ' => exact rest.mono h q
      | rt d => exact q _ _ h⟩⟩
def forWL (g : FG) (body els : FWS) : List D → FWS
  | [] => els
  | d :: r => mTurn g body d (forWL g body els r)
def mFor (it : FWL) (g : FG) (body els : FWS) : FWS := ⟨fun ρ c P => it.run ρ c fun ds c1 => (forWL g body els ds).run ρ c1 P, fun h q => it.mono h fun ds _ h => (forWL g body els ds).mono h q⟩
/-- range(m) -/
def mRng1 (m : FWE) : FWL := ⟨fun ρ c P => m.run ρ c fun d c' => ∃ j, d = .int j ∧ inR j = true ∧ P (rangeD 0 1 j.toNat) c', fun h q => m.mono h fun _ _ ⟨j, e, z, h⟩ => ⟨j, e, z, q _ _ h⟩⟩
def mItP (it : FL) : FWL := ⟨fun ρ c P => ∃ ds, it ρ = some ds ∧ P ds c, fun ⟨ds, e, h⟩ q => ⟨ds, e, q _ _ h⟩⟩
section
variable {X : Cx} {k : Dk} {F0 H0 : Hp} {a b c e tg : Expr} {es : List Expr} {ma mb : FWE} {ml : FWL} {fa fe : FE} {fl : FL} {ft : FT} {pos p p2 : Pos} {st : Stmt} {sts : List Stmt} {f : FS} {m m' : FWS} {x y : Str} {g : FG} {is : List Nat}
theorem out_back {K : PySem.W.Frag} {F H : Hp} {σ : L2.St} {ρ : Rho} {c : Nat} {Dn : Ends} {o : Out} (S : SRM K k F0 H0 F H σ ρ) (Dc : DeckAt k c F H) (q : OutOkM K k F0 H0 F Dn c o) : OutOk K F (bare σ ρ H) F Dn o := by
  cases o with
  | nx ρ' => exact fun σ' F' H' s S' => q σ' F' H' s (S.back S') (S.deck Dc S'.ext)
  | bk ρ' => exact fun σ' F' H' s S' => q σ' F' H' s (S.back S') (S.deck Dc S'.ext)
  | ct ρ' => exact fun σ' F' H' s S' => q σ' F' H' s (S.back S') (S.deck Dc S'.ext)
  | rt d => exact fun v F' H' X' r => q v F' H' (S.extM X') (S.deck Dc X') r
theorem sw_pure (h : ∀ F0 H0, PS X st (tS X.K F0 H0 f)) : PS X st (tSW X.K k F0 H0 (mS f)) :=
  ⟨fun pins s σ H Dn I ⟨F, ρ, c, S, Dc, o, e, q⟩ => (h F _).run pins s σ H Dn I ⟨F, ρ, o, S.sr, e, out_back S Dc q⟩⟩
theorem sws_pure (h : ∀ F0 H0, PSs X sts (tS X.K F0 H0 f)) : PSs X sts (tSW X.K k F0 H0 (mS f)) :=
  ⟨fun pins s σ H Dn I ⟨F, ρ, c, S, Dc, o, e, q⟩ => (h F _).run pins s σ H Dn I ⟨F, ρ, o, S.sr, e, out_back S Dc q⟩⟩
theorem sw_nil : PSs X [] (tSW X.K k F0 H0 mNilS) := pss_nil.imp fun Dn σ H ⟨F, ρ, c, S, Dc, q⟩ => q σ F H (Same.refl F) S Dc
theorem sw_cons (h1 : PS X st (tSW X.K k F0 H0 m)) (h2 : PSs X sts (tSW X.K k F0 H0 m')) : PSs X (st :: sts) (tSW X.K k F0 H0 (mSeq m m')) :=
  (pss_cons h1 h2).imp fun Dn σ H ⟨F, ρ, c, S, Dc, q⟩ => ⟨F, ρ, c, S, Dc, m.mono q fun o c1 q => by
    cases o with
    | nx ρ1 => exact fun σ1 F1 H1 s1 S1 D1 => ⟨F1, ρ1, c1, S1, D1, m'.mono q fun o c2 q => q.mono s1⟩
    | bk ρ1 => exact q
    | ct ρ1 => exact q
    | rt d => exact q⟩
theorem sw_one (h1 : PS X st (tSW X.K k F0 H0 m)) : PSs X [st] (tSW X.K k F0 H0 m) :=
  (pss_one h1).imp fun Dn σ H ⟨F, ρ, c, S, Dc, q⟩ => ⟨F, ρ, c, S, Dc, m.mono q fun o c1 q => by cases o <;> exact q⟩
theorem SRM.set {K : PySem.W.Frag} {F H : Hp} {σ : L2.St} {ρ : Rho} (S : SRM K k F0 H0 F H σ ρ) {i : Nat} {v : V} {d : D} (r : Rp K F v d) : SRM K k F0 H0 F H (σ.set i (some v)) (ρ.set i (.dat d)) := S.back (S.sr.set r)
theorem SRM.setOwn {K : PySem.W.Frag} {F H F' H' : Hp} {σ : L2.St} {ρ : Rho} (S : SRM K k F0 H0 F H σ ρ) {i : Nat} {a : Addr} {vs : List V} {ds : List D} (x : ExtM k F H F' H') (hn : H a = none) (ha : H' a = some (.lst vs)) (hf : F' a = none) (r : Rps K F' vs ds) :
    SRM K k F0 H0 F' H' (σ.set i (some (.ref a))) (ρ.set i (.own ds)) := by
  have S' := S.to x
  have no : ∀ (j : Nat) (es : List D), σ[j]? = some (some (.ref a)) → ρ[j]? = some (.own es) → False := fun j es h1 h2 => by
    have q := S.sl j _ _ h1 h2
    cases q with
    | own h _ _ => rw [hn] at h; cases h
  have h0 : H0 a = none := by
    cases e : H0 a with
    | none => rfl
    | some u => exact absurd hn (S.ext.lv a (by rw [e]; exact fun z => nomatch z))
  refine ⟨S'.ext, S.hd, S.hg, S.hs, by simpa using S.len, fun j o' s' h1 h2 => ?_, fun j b es h1 h2 => ?_, fun j l b es fs h1 h2 h3 h4 => ?_⟩
  · by_cases hj : i = j
    · subst hj
      rw [get_set_eq h1, get_set_eq h2]; exact .own ha hf r
    · rw [get_set_ne hj] at h1 h2; exact S'.sl j o' s' h1 h2
  · by_cases hj : i = j
    · subst hj
      cases get_set_eq h1
      exact h0
    · rw [get_set_ne hj] at h1 h2; exact S.ow j b es h1 h2
  · by_cases hj : i = j
    · subst hj
      by_cases hk : i = l
      · exact hk
      · rw [get_set_ne hk] at h2 h4
        cases get_set_eq h1
        exact (no l fs h2 h4).elim
    · rw [get_set_ne hj] at h1 h3
      by_cases hk : i = l
      · subst hk
        cases get_set_eq h2
        exact (no j es h1 h3).elim
      · rw [get_set_ne hk] at h2 h4
        exact S.ap j l b es fs h1 h2 h3 h4
theorem sw_set (i : Nat) {pos' : Pos} (hN : X.N.Nodup) (he : PE X e (tW X.K k F0 H0 ma)) (hi : X.N[i]? = some x := by rfl) (hx : Loc X.env.scope x := by first | exact Or.inl rfl | exact Or.inr rfl) (hs : swapsWith e (some (.Name x pos')) pos.line X.env = pure false := by rfl)
    (hf : X.fn x = true ∨ X.env.scope.names.lookup x = some .local := by first | exact .inl rfl | exact .inr rfl) : PS X (.Assign [.Name x pos'] e pos) (tSW X.K k F0 H0 (mSet i ma)) :=
  (ps_set hN hi hx he hs hf).imp fun Dn σ H ⟨F, ρ, c, S, Dc, q⟩ => ⟨F, ρ, c, S, Dc, ma.mono q fun d c1 q v F1 H1 X1 D1 r1 => q _ F1 H1 X1.f ((S.to X1).set r1) D1⟩
theorem sw_par2 (i j : Nat) {px py pt : Pos} {kt k2 pt2} (hc : X.calm = true) (hN : X.N.Nodup) (ha : PE X a (tW X.K k F0 H0 ma)) (hb : PE X b (tW X.K k F0 H0 mb)) (hw : swappedStores [.Tuple [.Name x px, .Name y py] kt pt] (.Tuple [a, b] k2 pt2) X.env = pure (some [x, y]) := by rfl)
    (hi : X.N[i]? = some x := by rfl) (hj : X.N[j]? = some y := by rfl) (hij : i ≠ j := by decide) (hx : X.env.scope.names.lookup x = some .local := by rfl) (hy : X.env.scope.names.lookup y = some .local := by rfl)
    (h1 : starEach [a, b] X.env = (false, eval a X.env) :: starEach [b] X.env := by rfl) (h2 : starEach [b] X.env = (false, eval b X.env) :: starEach [] X.env := by rfl)
    (hs : swapsWithSole [.Tuple [.Name x px, .Name y py] kt pt] (.Tuple [a, b] k2 pt2) pos.line X.env = pure false := by rfl) : PS X (.Assign [.Tuple [.Name x px, .Name y py] kt pt] (.Tuple [a, b] k2 pt2) pos) (tSW X.K k F0 H0 (mPar2 i j ma mb)) :=
  (ps_par hc hN hi hj hij hx hy (pa_cons ha (pa_cons hb pa_nil h2) h1) hw hs).imp fun Dn σ H ⟨F, ρ, c, S, Dc, q⟩ => ⟨F, ρ, c, S, Dc, ma.mono q fun d c1 q v F1 H1 X1 D1 r1 => ⟨F1, ρ, c1, S.to X1, D1, mb.mono q fun d' c2 q w F2 H2 X2 D2 r2 =>
    ⟨v, w, rfl, q _ F2 H2 (X1.trans X2).f (((S.to (X1.trans X2)).set (r1.mono X2.f)).set r2) D2⟩⟩⟩
theorem not_deck {K : PySem.W.Frag} {F H : Hp} {σ : L2.St} {ρ : Rho} (S : SRM K k F0 H0 F H σ ρ) {a : Addr} (h : H a = none) : a ≠ k.dk ∧ a ≠ k.g :=
  ⟨fun z => S.ext.lv _ S.hd (by rw [← z]; exact h), fun z => S.ext.lv _ S.hg (by rw [← z]; exact h)⟩
theorem sw_parN2 (i j : Nat) {px py pt : Pos} {kt k2 pt2} (hc : X.calm = true) (hN : X.N.Nodup) (ha : ∀ F0 H0, PE X a (tN X.K F0 H0 fl)) (hb : PE X b (tW X.K k F0 H0 mb)) (hw : swappedStores [.Tuple [.Name x px, .Name y py] kt pt] (.Tuple [a, b] k2 pt2) X.env = pure (some [x, y]) := by rfl)
    (hi : X.N[i]? = some x := by rfl) (hj : X.N[j]? = some y := by rfl) (hij : i ≠ j := by decide) (hx : X.env.scope.names.lookup x = some .local := by rfl) (hy : X.env.scope.names.lookup y = some .local := by rfl)
    (h1 : starEach [a, b] X.env = (false, eval a X.env) :: starEach [b] X.env := by rfl) (h2 : starEach [b] X.env = (false, eval b X.env) :: starEach [] X.env := by rfl)
    (hs : swapsWithSole [.Tuple [.Name x px, .Name y py] kt pt] (.Tuple [a, b] k2 pt2) pos.line X.env = pure false := by rfl) : PS X (.Assign [.Tuple [.Name x px, .Name y py] kt pt] (.Tuple [a, b] k2 pt2) pos) (tSW X.K k F0 H0 (mParN2 i j fl mb)) :=
  ⟨fun pins s σ H Dn I ⟨F, ρ, c, S, Dc, xs, e, q⟩ => (ps_par hc hN hi hj hij hx hy (pa_cons (ha F (bare σ ρ H)) (pa_cons hb pa_nil h2) h1) hw hs).run pins s σ H Dn I
    ⟨F, ρ, xs, S.sr, e, fun u us F1 H1 X1 hn hu hf ru => ⟨F1, ρ, c, S.to X1.m, Dc.ext X1, mb.mono q fun d' c2 q w F2 H2 X2 D2 r2 => by
      have nd := not_deck S hn
      have Y := (X1.m (k := k)).trans X2
      have hu2 := X2.h _ _ nd.1 nd.2 hu
      have hf2 := X2.nw _ hf (by rw [hu]; exact fun z => nomatch z)
      exact ⟨_, w, rfl, q _ F2 H2 Y.f ((S.setOwn Y hn hu2 hf2 (ru.mono X2.f)).set r2) D2⟩⟩⟩⟩
theorem sw_par2N (i j : Nat) {px py pt : Pos} {kt k2 pt2} (hc : X.calm = true) (hN : X.N.Nodup) (ha : PE X a (tW X.K k F0 H0 ma)) (hb : ∀ F0 H0, PE X b (tN X.K F0 H0 fl)) (hw : swappedStores [.Tuple [.Name x px, .Name y py] kt pt] (.Tuple [a, b] k2 pt2) X.env = pure (some [x, y]) := by rfl)
    (hi : X.N[i]? = some x := by rfl) (hj : X.N[j]? = some y := by rfl) (hij : i ≠ j := by decide) (hx : X.env.scope.names.lookup x = some .local := by rfl) (hy : X.env.scope.names.lookup y = some .local := by rfl)
    (h1 : starEach [a, b] X.env = (false, eval a X.env) :: starEach [b] X.env := by rfl) (h2 : starEach [b] X.env = (false, eval b X.env) :: starEach [] X.env := by rfl)
    (hs : swapsWithSole [.Tuple [.Name x px, .Name y py] kt pt] (.Tuple [a, b] k2 pt2) pos.line X.env = pure false := by rfl) : PS X (.Assign [.Tuple [.Name x px, .Name y py] kt pt] (.Tuple [a, b] k2 pt2) pos) (tSW X.K k F0 H0 (mPar2N i j ma fl)) := by
  have hb' : PE X b (fun σ H Q => ∃ F ρ ds, SRM X.K k F0 H0 F H σ ρ ∧ fl ρ = some ds ∧ ∀ a vs F' H', Ext F H F' H' → H a = none → H' a = some (.lst vs) → F' a = none → Rps X.K F' vs ds → Q (.ref a) H') :=
    ⟨fun pins s σ H Q I ⟨F, ρ, ds, S, e, q⟩ => (hb F (bare σ ρ H)).run pins s σ H Q I ⟨F, ρ, ds, S.sr, e, q⟩⟩
  refine (ps_par hc hN hi hj hij hx hy (pa_cons ha (pa_cons hb' pa_nil h2) h1) hw hs).imp fun Dn σ H ⟨F, ρ, c, S, Dc, q⟩ => ⟨F, ρ, c, S, Dc, ma.mono q fun d c1 ⟨ys, e, q⟩ v F1 H1 X1 D1 r1 => ⟨F1, ρ, ys, S.to X1, e, fun u us F2 H2 X2 hn hu hf ru => ?_⟩⟩
  have S2 : SRM X.K k F0 H0 F1 H1 (σ.set i (some v)) (ρ.set i (.dat d)) := (S.to X1).set r1
  exact ⟨v, _, rfl, q _ F2 H2 (X1.f.trans X2.f) (S2.setOwn X2.m hn hu hf ru) (D1.ext X2)⟩
theorem SRM.own {K : PySem.W.Frag} {F H : Hp} {σ : L2.St} {ρ : Rho} (S : SRM K k F0 H0 F H σ ρ) {i : Nat} {ds : List D} (h : ρ[i]? = some (.own ds)) : ∃ a vs, σ[i]? = some (some (.ref a)) ∧ H a = some (.lst vs) ∧ F a = none ∧ (a ≠ k.dk ∧ a ≠ k.g) ∧ Rps K F vs ds := by
  obtain ⟨a, vs, h1, h2, h3, h4, h5⟩ := S.sr.own h
  have h0 := S.ow i a ds h1 h
  exact ⟨a, vs, h1, h2, h3, ⟨fun z => S.hd (by rw [← z]; exact h0), fun z => S.hg (by rw [← z]; exact h0)⟩, h5⟩
theorem sw_app (i : Nat) {p3 p4 : Pos} (he : PE X e (tW X.K k F0 H0 ma)) (hN : X.N[i]? = some x := by rfl) (hv : Vis X.env.scope x := by first | exact Or.inl rfl | exact Or.inr (Or.inl rfl) | exact Or.inr (Or.inr rfl)) (hd : (x == ("__debug__" : Str)) = false := by decide)
    (hcd : (x == ("__classdict__" : Str)) = false := by decide) (hs1 : starEach [e] X.env = (false, eval e X.env) :: starEach [] X.env := by rfl) (hs : swapsWith (.Call (.Attribute (.Name x p) "append" p3) [e] [] p4) none pos.line X.env = pure false := by rfl)
    (h : ∀ te ta, PE X (.Name x p) te → PA X [e] ta → PE X (.Call (.Attribute (.Name x p) "append" p3) [e] [] p4) (tBM X.K "list" rAppend te ta) := by
      intro _ _ h1 h2; exact pe_bm PySem.F.plainAttrs_list PySem.F.slot_list_append PySem.F.type_list_append mt_append h1 h2) : PS X (.Expr (.Call (.Attribute (.Name x p) "append" p3) [e] [] p4) pos) (tSW X.K k F0 H0 (mApp i ma)) :=
  (ps_expr (h _ _ (pe_var hN hv hd hcd) (pa_cons he pa_nil hs1)) hs).imp fun Dn σ H ⟨F, ρ, c, S, Dc, ds, h, hz, q⟩ => by
    obtain ⟨a, vs, ev, ha, hf, hn, r⟩ := S.own h
    refine ⟨_, ev, own_ty ha, F, ρ, c, S, Dc, ma.mono q fun d c1 q v F1 H1 X1 D1 r1 => ⟨a, vs, v, rfl, rfl, X1.h _ _ hn.1 hn.2 ha, by rw [r.length]; exact sz1 hz, ?_⟩⟩
    have S1 := S.to X1
    have S2 := S1.sr.mut ev h ((r.mono X1.f).append (.one r1))
    exact q σ F1 _ X1.f (S1.back S2) (S1.deck D1 S2.ext)
theorem sw_ret (he : PE X e (tW X.K k F0 H0 ma)) : PS X (.Return (some e) pos) (tSW X.K k F0 H0 (mRet ma)) :=
  (ps_ret he).imp fun Dn σ H ⟨F, ρ, c, S, Dc, q⟩ => ⟨F, ρ, c, S, Dc, ma.mono q fun d c1 q v F1 H1 X1 D1 r1 => q v F1 H1 (S.ext.trans X1) D1 r1⟩
theorem sw_if {A B : List Stmt} (hc : ∀ F0 H0, PT X c (tB1 X.K F0 H0 ft)) (ha : PSs X A (tSW X.K k F0 H0 m)) (hb : PSs X B (tSW X.K k F0 H0 m')) : PS X (.If c A B pos) (tSW X.K k F0 H0 (mSIf ft m m')) :=
  ⟨fun pins s σ H Dn I ⟨F, ρ, c, S, Dc, x, e, q⟩ => (ps_if (hc F (bare σ ρ H)) ha hb).run pins s σ H Dn I ⟨F, ρ, x, S.sr, e, fun F1 H1 X1 => by
    cases x with
    | true =>
      rw [if_pos rfl] at q
      exact iteT ⟨F1, ρ, c, S.to X1.m, Dc.ext X1, m.mono q fun o c1 q => q.mono X1.f⟩
    | false =>
      rw [if_neg Bool.false_ne_true] at q
      exact iteF ⟨F1, ρ, c, S.to X1.m, Dc.ext X1, m'.mono q fun o c1 q => q.mono X1.f⟩⟩⟩

/-! ### for -/
def iW (K : PySem.W.Frag) (k : Dk) (F0 H0 : Hp) (it : FWL) : TI := fun σ H R => ∃ F ρ c, SRM K k F0 H0 F H σ ρ ∧ DeckAt k c F H ∧ it.run ρ c fun ds c' => ∀ J F' H', ExtM k F H F' H' → DeckAt k c' F' H' → Wk K J F' ds → R J H'
def tGW (K : PySem.W.Frag) (k : Dk) (F0 H0 : Hp) (g : FG) : TG := fun v σ H Q => ∃ F ρ d ρ', SRM K k F0 H0 F H σ ρ ∧ Rp K F v d ∧ g d ρ = some ρ' ∧ ∀ σ' F' H', Ext F H F' H' → SRM K k F0 H0 F' H' σ' ρ' → Q σ' H'
theorem gw (hg : ∀ F0 H0, PG X tg (tG X.K F0 H0 g is)) : PG X tg (tGW X.K k F0 H0 g) :=
  ⟨fun pins s σ H v u Q I r ⟨F, ρ, d, ρ', S, rd, e, q⟩ => (hg F (bare σ ρ H)).run pins s σ H v u Q I r ⟨F, ρ, d, ρ', S.sr, rd, e, fun σ' F' H' X' S' _ => q σ' F' H' X' (S.back S')⟩⟩
theorem iw_pure (h : ∀ F0 H0, PI X tg e (iD X.K F0 H0 fl)) : PI X tg e (iW X.K k F0 H0 (mItP fl)) :=
  ⟨fun pins s σ H R I ⟨F, ρ, c, S, Dc, ds, e, q⟩ => (h F (bare σ ρ H)).run pins s σ H R I ⟨F, ρ, ds, S.sr, e, fun J F' H' X' wk => q J F' H' X'.m (Dc.ext X') wk⟩⟩
theorem iw_rng (hm : X.mg "range" = none) (ha : PE X a (tW X.K k F0 H0 ma)) (hg : Gl X "range" := by rfl) (hs : starEach [a] X.env = [(false, eval a X.env)] := by rfl) (he : starEach [a] X.env = (false, eval a X.env) :: starEach [] X.env := by rfl) :
    PI X tg (.Call (.Name "range" p) [a] [] pos) (iW X.K k F0 H0 (mRng1 ma)) :=
  (pi_range1 hg hm (pa_cons ha pa_nil he) hs).imp fun σ H R ⟨F, ρ, c, S, Dc, q⟩ => ⟨F, ρ, c, S, Dc, ma.mono q fun d c1 ⟨j, ej, hj, q⟩ v F1 H1 X1 D1 r1 => by
    subst ej
    cases r1
    exact ⟨j, rfl, (inR_ok hj).1, (inR_ok hj).2, q _ F1 H1 X1 D1 (wk_range 0 _)⟩⟩
theorem forw_of {K : PySem.W.Frag} {Dn : Ends} {σ : L2.St} {H : Hp} (q : tSW K k F0 H0 (mFor ml g m m') Dn σ H) : tForE (iW K k F0 H0 ml) (tGW K k F0 H0 g) (tSW K k F0 H0 m) (tSW K k F0 H0 m') Dn σ H := by
  obtain ⟨F, ρ, c, S, Dc, q⟩ := q
  refine ⟨F, ρ, c, S, Dc, ml.mono q fun ds c1 q J F1 H1 X1 D1 wk => ?_⟩
  refine ⟨fun i l σ' H' => l = ds.length - i ∧ i ≤ ds.length ∧ ∃ F' ρ' c', Same F1 F' ∧ SRM K k F0 H0 F' H' σ' ρ' ∧ DeckAt k c' F' H' ∧ (forWL g m m' (ds.drop i)).run ρ' c' fun o c2 => OutOkM K k F0 H0 F Dn c2 o, ⟨ds.length, rfl, Nat.zero_le _, F1, ρ, c1, Same.refl F1, S.to X1, D1, q⟩, ?_⟩
  rintro i l σ' H' ⟨rfl, hi, F', ρ', c', s', S', D', e'⟩
  by_cases hlt : i < ds.length
  · refine .inr ⟨wk.go i F' H' s' S'.fh hlt, fun σ2 H2 => ∃ F2 ρ2 c2, Same F1 F2 ∧ SRM K k F0 H0 F2 H2 σ2 ρ2 ∧ DeckAt k c2 F2 H2 ∧ (forWL g m m' (ds.drop (i + 1))).run ρ2 c2 fun o c2 => OutOkM K k F0 H0 F Dn c2 o, fun σ2 H2 h2 => ⟨ds.length - (i + 1), by omega, rfl, hlt, h2⟩, fun x H2 y => ?_⟩
    obtain ⟨F3, X3, rx⟩ := wk.yld i F' H' x H2 _ s' S'.fh (List.getElem?_eq_getElem hlt) y
    rw [List.drop_eq_getElem_cons hlt] at e'
    obtain ⟨ρ1, e2, e'⟩ := e'
    have D3 := D'.ext X3
    refine ⟨F3, ρ', _, ρ1, S'.to X3.m, rx, e2, fun σ4 F4 H4 X4 S4 => ⟨F4, ρ1, c', S4, D3.ext X4, m.mono e' fun o1 c5 e' => ?_⟩⟩
    have s4 : Same F1 F4 := s'.trans (X3.trans X4).f
    cases o1 with
    | nx ρ5 => exact fun σ5 F5 H5 s5 S5 D5 => ⟨F5, ρ5, c5, s4.trans s5, S5, D5, e'⟩
    | ct ρ5 => exact fun σ5 F5 H5 s5 S5 D5 => ⟨F5, ρ5, c5, s4.trans s5, S5, D5, e'⟩
    | bk ρ5 => exact fun σ5 F5 H5 s5 S5 D5 => e' σ5 F5 H5 (X1.f.trans (s4.trans s5)) S5 D5
    | rt d => exact e'
  · have ei : i = ds.length := by omega
    refine .inl ⟨wk.stop i F' H' s' S'.fh (by omega), ?_⟩
    rw [ei, List.drop_length] at e'
    exact ⟨F', ρ', c', S', D', m'.mono e' fun o c2 q => q.mono (X1.f.trans s')⟩
theorem sw_for {body orelse : List Stmt} {iter : Expr} (hp : PassesOwn (model X.prog X.w) X.A X.env X.xe) (hc : X.calm = true) (hi : PI X tg iter (iW X.K k F0 H0 ml)) (hg : ∀ F0 H0, PG X tg (tG X.K F0 H0 g is)) (hb : PSs X body (tSW X.K k F0 H0 m)) (ho : PSs X orelse (tSW X.K k F0 H0 m'))
    (hs : ∀ x, foldedSetIterable iter X.env x = pure x := by intro _; rfl) : PS X (.For tg iter body orelse pos) (tSW X.K k F0 H0 (mFor ml g m m')) :=
  (ps_forE hp hc hi (gw hg) hb ho hs).imp fun Dn σ H q => forw_of q
end

/-! ### a def -/
def startM (a : Addr) (n : Nat) (ds : List D) : Rho := .ad a :: startR (n - 1) ds
theorem srm_start {K : PySem.W.Frag} {k : Dk} {c : Nat} {F H : Hp} {N : List Str} {vs : List V} {ds : List D} (s : Same F H) (Dc : DeckAt k c F H) (r : Rps K F vs ds) (hn : vs.length + 1 ≤ N.length) : SRM K k F H F H (L2.start N (.ref k.dk :: vs)) (startM k.dk N.length ds) := by
  obtain ⟨gs, hg⟩ := Dc.g
  obtain ⟨ss, hs, _⟩ := Dc.s
  have e : L2.start N (.ref k.dk :: vs) = some (.ref k.dk) :: L2.start (N.drop 1) vs := by
    unfold L2.start
    simp only [List.map_cons, List.length_cons, List.cons_append, List.length_drop]
    congr 3
    omega
  have S := sr_start (N := N.drop 1) s r (by rw [List.length_drop]; omega)
  have hl : (N.drop 1).length = N.length - 1 := List.length_drop
  rw [hl] at S
  rw [e]
  unfold startM
  have no : ∀ (i : Nat) (ds' : List D), (startR (N.length - 1) ds)[i]? ≠ some (.own ds') := fun i ds' h => by
    unfold startR at h
    by_cases hi : i < ds.length
    · rw [List.getElem?_append_left (by simpa using hi), List.getElem?_map] at h
      cases e : ds[i]? with
      | none => rw [e] at h; cases h
      | some d => rw [e] at h; cases h
    · rw [List.getElem?_append_right (by simpa using hi), List.getElem?_replicate] at h
      split at h <;> cases h
  refine ⟨ExtM.refl s, by rw [Dc.d]; exact (fun z => nomatch z), by rw [hg]; exact (fun z => nomatch z), by rw [hs]; exact (fun z => nomatch z), by simpa using S.len, fun i o sl h1 h2 => ?_, fun i a ds' h1 h2 => ?_, fun i j a ds' es h1 h2 h3 h4 => ?_⟩
  · cases i with
    | zero =>
      simp at h1 h2
      subst h1 h2
      exact .ad _
    | succ i => exact S.sl i o sl (by simpa using h1) (by simpa using h2)
  · cases i with
    | zero => simp at h2
    | succ i => exact absurd (by simpa using h2) (no i ds')
  · cases i with
    | zero => simp at h3
    | succ i => exact absurd (by simpa using h3) (no i ds')
def runM (np n : Nat) (f : Addr → FWS) : FWD := ⟨fun a ds c P => ds.length = np ∧ (f a).run (startM a n ds) c fun o c' => match o with
  | .rt d => P d c'
  | .nx _ => P .non c'
  | _ => False, fun ⟨e, h⟩ q => ⟨e, (f _).mono h fun o c' h => by
    cases o with
    | rt d => exact q _ _ h
    | nx ρ => exact q _ _ h
    | bk ρ => exact h
    | ct ρ => exact h⟩⟩
section
variable {P : Program} {w : World} {K : PySem.W.Frag} {mg : Str → Option Value} {base : Heap}
theorem okM_mk {x : Str} {i k np : Nat} {N ps : List Str} {fs : Addr → FWS} (Fn : DefAt K mg x i) (S : FnScope N ps (defScope (topS i))) (hnp : ps.length = np + 1)
    (hb : ∀ (dV kV doc pm : Value) (an : Option Addr) (cdv ct : Value) (us : List Value), us.length = ps.length → bindArgs (PySem.W.fnOf x x (defArgs (topS i)) (defBody (topS i)) (defScope (topS i)) .none kV doc pm an cdv ct) ⟨us, []⟩ = pure (ps.zip us))
    (h : ∀ (f : Addr) (cdv : Value) (A : Around) (outer : List Env) (s : Shared) (H : Hp) (E : XK) (d : Dk) (F0 H0 : Hp), Room k (A.deeper (envOfC x (defScope (topS i)) s.heap.objs.size f cdv)) → PSs (cxOf CX0 P w K mg base N x (defScope (topS i)) f cdv A outer s H E).nox (defBody (topS i)) (tSW K d F0 H0 (fs d.dk))) :
    OkM P w K mg base x (k + 1) np (runM np N.length fs) := by
  obtain ⟨fd, F, hm⟩ := Fn
  refine ⟨_, fd, ps, hm, F.kp, F.bindsN fun kV doc pm an cdv ct us hl => hb .none kV doc pm an cdv ct us hl, F.ok S (fun vs H Q E h => ?_) (fun cdv A outer s H vs Q E hr hsp => ?_)⟩
  · obtain ⟨F, k, c, ws, ds, rfl, hl, _⟩ := h
    rw [List.length_cons, hl, hnp]
  · obtain ⟨F, d, c, ws, ds, rfl, hl, sm, Dc, r, _, q⟩ := hsp
    refine ⟨tSW K d F H (fs d.dk), (h _ cdv A outer s H E d F H hr).nox, ?_⟩
    have hn : ws.length + 1 ≤ N.length := by
      have := congrArg List.length S.pre
      rw [List.length_take] at this
      omega
    refine ⟨F, _, c, srm_start sm Dc r hn, Dc, (fs d.dk).mono q fun o c' q => ?_⟩
    cases o with
    | nx ρ => exact fun σ' F' H' s' S' D' => q _ F' H' S'.ext D' .non
    | rt d' => exact fun v F' H' X' D' r' => q v F' H' X' D' r'
    | bk ρ => exact q.elim
    | ct ρ => exact q.elim
end
end FD
end

section
set_option Elab.async false
set_option linter.all false
set_option maxRecDepth 100000
set_option maxHeartbeats 2000000
/-! FWc: enumerate of a tuple; while; x, y, z = a, [..], c; //. -/
namespace FD
open PySem PySem.Spec PyProof.Rows L2 StX
theorem meets_enum1 {v : Value} {o : Obj} {H : Heap → Prop} (B : Begins v o H) :
    Meets (Builtin.«enumerate.__new__» ⟨[.type "enumerate", v], []⟩) (fun _ R s => H s.heap ∧
      R (.ok (.ret (.ref (s.heap.push o).objs.size))) { s with heap := (s.heap.push o).push { cls := .type "enumerate", data := .fields #[.none, .bool false, .ref s.heap.objs.size, rawInt 0, .none, .none] } }) :=
  .of_wp fun prog w A R s h => by
    obtain ⟨hp, g, d, tk, os⟩ := s; obtain ⟨h1, h⟩ := h
    have hsub := sub_enumerate
    have q1 : ∀ {A' : Around} {E : Value → Shared → Prop} {Q : Value → Shared → Prop}, Q (.ref hp.objs.size) ⟨hp.push o, g, d, tk, os⟩ → wpAny (model prog w) A' (pyIter v) Q E ⟨hp, g, d, tk, os⟩ :=
      fun q => B.iter prog w _ _ ⟨hp, g, d, tk, os⟩ _ h1 q
    wp_walk using q1
    refine wpAny_stack_any fun st => wpAny_pure ?_
    split
    · rename_i c _ _ _ _ _
      cases (c == Value.type "enumerate")
      · wp_walk using q1
        exact ⟨_, rfl, h⟩
      · wp_walk using q1
        exact ⟨_, rfl, h⟩
    · wp_walk using q1
      exact ⟨_, rfl, h⟩
section
variable {prog : Program} {w : World} {A : Around} {E : Value → Shared → Prop} {s : Shared}
theorem enum_begins1 {v : Value} {o : Obj} {H : Heap → Prop} {Q : Value → Shared → Prop} (B : Begins v o H) (h1 : H s.heap)
    (h : ∀ h', IsEnum h' (s.heap.objs.size + 1) s.heap.objs.size 0 .none → h'.get? s.heap.objs.size = some o → (∀ b o, s.heap.get? b = some o → h'.get? b = some o) → Q (.ref (s.heap.objs.size + 1)) { s with heap := h' }) :
    wpAny (model prog w) A (call (.type "enumerate") [v]) Q E s := by
  refine callType_new F.called_enumerate (by decide) (F.typeCall_enumerate_1 _) (F.newCall_enumerate_1 _) (fun obj => F.args_object_init_2 obj _) F.entry_enumerate_new
    (meets_enum1 B) ⟨h1, ?_⟩
  have hz : (s.heap.push o).objs.size = s.heap.objs.size + 1 := Heap.size_push ..
  show _ ∧ _
  rw [hz]
  have he : IsEnum ((s.heap.push o).push { cls := .type "enumerate", data := .fields #[.none, .bool false, .ref s.heap.objs.size, rawInt 0, .none, .none] }) (s.heap.objs.size + 1) s.heap.objs.size 0 .none := by
    have := Heap.get?_push_size (s.heap.push o) (o := { cls := .type "enumerate", data := .fields #[.none, .bool false, .ref s.heap.objs.size, rawInt 0, .none, .none] }) rfl
    rw [hz] at this; exact this
  exact ⟨⟨_, he, rfl⟩, h _ he (Heap.get?_push_of_some _ (Heap.get?_push_size _ B.free)) fun b o x => Heap.get?_push_of_some _ (Heap.get?_push_of_some _ x)⟩
end
/-- the tuple at a, each item in a new pair -/
def ItE (K : PySem.W.Frag) (a : Addr) : It :=
  ⟨fun i H => ∃ (xs : List V) (x : V), SqT K H a xs ∧ xs[i]? = some x, fun i H v H' => ∃ T x, v = .ref T ∧ H T = none ∧ H' = upd H T (.tup [.int (i : Nat), x]) ∧ ∀ xs, SqT K H a xs → xs[i]? = some x, fun i H => ∃ xs : List V, SqT K H a xs ∧ xs.length = i⟩
theorem turn_enumT {P : Program} {w : World} {K : PySem.W.Frag} {elts : List Expr} {kk : Nat} {tpos : Pos} {a N : Addr} (ha : a < N) :
    Turn P w K (.Tuple elts kk tpos) (ItE K a) [N + 1, N] (N + 1) (fun i h => (∃ old, IsEnum h (N + 1) N ((i : Nat) : Int) old) ∧ h.IsTupleIter N a i) where
  mem := by simp
  obj := fun i h st b hb => by
    obtain ⟨⟨old, he⟩, ⟨o, ho, hc, hd⟩⟩ := st
    have e' : b = N + 1 ∨ b = N := by simpa using hb
    rcases e' with z | z
    · rw [z]; exact ⟨_, he, fun v q => nomatch q⟩
    · rw [z]; exact ⟨o, ho, fun v q => by rw [hd] at q; cases q⟩
  keep := fun i h h' st k => let ⟨⟨old, he⟩, hi⟩ := st; ⟨⟨old, k _ (by simp) _ he⟩, hi.at fun o q => k N (by simp) o q⟩
  item := by
    intro X hP hw hK hcl i pins s σ H E I hf st hg
    subst hP hw hK
    obtain ⟨⟨old, he⟩, hit⟩ := st
    obtain ⟨xs, x, hq, hx⟩ := hg
    obtain ⟨its, rv, p, hz⟩ := I.tuple hq
    have hh : X.A.handled = none := I.ok.hd hcl
    have hl := rv.length
    have hi := (List.getElem?_eq_some_iff.mp hx).1
    have W := GoesN.enumFrom (prog := X.prog) (w := X.w) (A := X.A) (elts := elts) (x1 := kk) (pos := tpos) (k₀ := 0) (Draws.tuple (A := X.A.in1) hh N a (Nat.ne_of_lt ha) its.toArray) (N + 1) (Nat.succ_ne_self N) (by
      intro z
      rcases List.mem_cons.mp z with z | z
      · exact absurd z (Nat.succ_ne_self N)
      · have z' : N + 1 = a := List.mem_singleton.mp z
        rw [← z'] at ha
        exact absurd ha (Nat.not_lt.mpr (Nat.le_succ N))) (by simp)
    refine thn (W.goes i s (fun v s2 => ∃ x H', Inv X pins σ H' s2 ∧ RelV x v ∧ (ItE X.K a).yld i H x H' ∧ ((∃ old, IsEnum s2.heap (N + 1) N (((i + 1 : Nat)) : Int) old) ∧ s2.heap.IsTupleIter N a (i + 1)) ∧ ∀ b ∈ [N + 1, N], H' b = none) E (by simp only [List.size_toArray]; omega) ⟨⟨old, by rw [Int.zero_add]; exact he⟩, hit, p⟩ fun v h' tk hY st' hk htk => ?_) fun r s1 h1 => ?_
    · obtain ⟨T, t, v1, rfl, hT, e1, hTup⟩ := hY
      obtain ⟨w1, f1, rw1⟩ := rv.get hx
      have g1 : w1 = v1 := by
        have := e1
        simp only [List.getElem?_toArray] at this
        exact Option.some.inj (f1.symm.trans this)
      subst g1
      have new : ObjOk X.prog X.w (upd H T (.tup [.int (i : Nat), x])) h' T (.tup [.int (i : Nat), x]) := ⟨by show 2 ≤ sizeLine; decide, [.int i t, w1], .cons ⟨_, rfl⟩ (.cons rw1 .nil), by rw [Int.zero_add] at hTup; exact hTup⟩
      have I1 : Inv X pins σ (upd H T (.tup [.int (i : Nat), x])) { s with heap := h', toks := tk } :=
        I.turnedNew (t' := tk) (ch := [N + 1, N]) (fun d o hd e => hk d o hd e) hf hT new
      obtain ⟨⟨old', he'⟩, m1, _⟩ := st'
      refine ⟨.ref T, _, I1, rfl, ⟨T, x, rfl, I.hok.fresh hT, rfl, fun l hl => by rw [I.tuple_inj hl hq]; exact hx⟩, ⟨⟨old', by rw [Int.zero_add] at he'; exact he'⟩, m1⟩, fun d hd => ?_⟩
      have hd' : d < s.heap.objs.size := by
        have e' : d = N + 1 ∨ d = N := by simpa using hd
        rcases e' with z | z
        · rw [z]; exact Heap.lt_size he
        · rw [z]
          obtain ⟨_, q, _⟩ := hit
          exact Heap.lt_size q
      rw [upd_ne (Nat.ne_of_lt (Nat.lt_of_lt_of_le hd' hT))]
      exact (hf d hd).1
    · obtain ⟨v, rfl, h2⟩ := h1
      exact ⟨v, rfl, h2⟩
  done := by
    intro X hP hw hK hcl i pins s σ H E I hf st hg
    subst hP hw hK
    obtain ⟨⟨old, he⟩, hit⟩ := st
    obtain ⟨xs, hq, hx⟩ := hg
    obtain ⟨its, rv, p, hz⟩ := I.tuple hq
    have hh : X.A.handled = none := I.ok.hd hcl
    have hl := rv.length
    have W := GoesN.enumFrom (prog := X.prog) (w := X.w) (A := X.A) (elts := elts) (x1 := kk) (pos := tpos) (k₀ := 0) (Draws.tuple (A := X.A.in1) hh N a (Nat.ne_of_lt ha) its.toArray) (N + 1) (Nat.succ_ne_self N) (by
      intro z
      rcases List.mem_cons.mp z with z | z
      · exact absurd z (Nat.succ_ne_self N)
      · have z' : N + 1 = a := List.mem_singleton.mp z
        rw [← z'] at ha
        exact absurd ha (Nat.not_lt.mpr (Nat.le_succ N))) (by simp)
    have en : its.toArray.size = i := by simp only [List.size_toArray]; omega
    refine thn (W.stops s (fun s1 => Inv X pins σ H s1) E (by rw [en]; exact ⟨⟨old, by rw [Int.zero_add]; exact he⟩, hit, p⟩) fun h' tk hk htk => ?_) fun r s1 h1 => h1
    exact I.turnedL (t' := tk) (ch := [N + 1, N]) (fun d o hd e => hk d o hd e) hf
  self := fun A i s Q E st h => let ⟨⟨_, he⟩, _⟩ := st; wpAny_pyIter_enum he h
def iEnumT (K : PySem.W.Frag) (ta : TA) : TI := fun σ H R => ta σ H fun vs H1 => ∃ a xs, vs = [.ref a] ∧ SqT K H1 a xs ∧ R (ItE K a) H1
theorem pi_enumT {X : Cx} {e : Expr} {ta : TA} {p pos tpos : Pos} {elts : List Expr} {kk : Nat} (hg : Gl X "enumerate") (hm : X.mg "enumerate" = none) (ha : PA X [e] ta) (hs : starEach [e] X.env = [(false, eval e X.env)] := by rfl) :
    PI X (.Tuple elts kk tpos) (.Call (.Name "enumerate" p) [e] [] pos) (iEnumT X.K ta) := by
  refine ⟨fun pins s σ H R I h => ?_⟩
  refine Call_ (ld_blt I hg hm boot_enumerate (PyProof.Rows.callWith_type1 (thn (ha.run pos pins s σ H _ I h) fun us s1 ⟨vs, H1, I1, r1, q1⟩ => ?_) hs rfl))
  obtain ⟨a, xs, ex, hq, q⟩ := q1
  subst ex
  cases r1 with
  | cons r rr =>
    cases rr
    cases r
    obtain ⟨its, rv, p', hz⟩ := I1.tuple hq
    refine enum_begins1 (begins_tuple a its.toArray) p' fun h' he hit hk => wpAny_pyIter_enum he ?_
    have I2 : Inv X pins σ H1 { s1 with heap := h' } := I1.kept (t' := s1.toks) hk
    refine ⟨s1.heap.objs.size + 1, [s1.heap.objs.size + 1, s1.heap.objs.size], _, _, H1, rfl, I2, turn_enumT (lt_of_tup p'), ⟨⟨.none, he⟩, _, hit, rfl, rfl⟩, fun b hb => ?_, q⟩
    have e' : b = s1.heap.objs.size + 1 ∨ b = s1.heap.objs.size := by simpa using hb
    have hle : s1.heap.objs.size ≤ b := by
      rcases e' with z | z
      · rw [z]; exact Nat.le_add_right _ _
      · rw [z]; exact Nat.le_refl _
    exact I1.fpOk hle (I1.hok.fresh hle)
def enumD : Nat → List D → List D
  | _, [] => []
  | i, d :: r => .tup [.int (i : Nat), d] :: enumD (i + 1) r
theorem enumD_len : ∀ {i : Nat} {ds : List D}, (enumD i ds).length = ds.length
  | _, [] => rfl
  | i, d :: r => by simp [enumD, enumD_len (i := i + 1) (ds := r)]
theorem enumD_get : ∀ {j i : Nat} {ds : List D} {d : D}, (enumD j ds)[i]? = some d → ∃ x, ds[i]? = some x ∧ d = .tup [.int ((j + i : Nat) : Int), x]
  | _, _, [], _, h => by simp [enumD] at h
  | j, 0, x :: r, d, h => by
    simp [enumD] at h
    exact ⟨x, rfl, by rw [← h]; rfl⟩
  | j, i + 1, x :: r, d, h => by
    obtain ⟨y, h1, h2⟩ := enumD_get (j := j + 1) (i := i) (ds := r) (d := d) (by simpa [enumD] using h)
    exact ⟨y, by simpa using h1, by rw [h2, show j + 1 + i = j + (i + 1) by omega]⟩
theorem wk_enum {K : PySem.W.Frag} {F : Hp} {a : Addr} {vs : List V} {xs : List D} (h1 : SqT K F a vs) (r1 : Rps K F vs xs) : Wk K (ItE K a) F (enumD 0 xs) where
  go := fun i F1 H1 s1 s2 hi => by
    rw [enumD_len] at hi
    obtain ⟨v, hv, _⟩ := r1.get (List.getElem?_eq_getElem hi)
    exact ⟨vs, v, sqT_mono s2 (sqT_mono s1 h1), hv⟩
  stop := fun i F1 H1 s1 s2 hi => by
    rw [enumD_len] at hi
    exact ⟨vs, sqT_mono s2 (sqT_mono s1 h1), by rw [r1.length]; omega⟩
  yld := fun i F1 H1 x H2 d s1 s2 hd y => by
    obtain ⟨T, x', rfl, hT, rfl, f1⟩ := y
    obtain ⟨dx, e1, rfl⟩ := enumD_get hd
    obtain ⟨v, hv, rv⟩ := r1.get e1
    cases (f1 vs (sqT_mono s2 (sqT_mono s1 h1))).symm.trans hv
    have y := Ext.new (o := .tup [.int (i : Nat), x']) s2 hT
    rw [Nat.zero_add]
    exact ⟨_, y, .tup (SqT.of upd_same) (.cons (.int _) (.cons ((rv.mono s1).mono y.f) .nil))⟩
def fEnum (a : FE) : FL := fun ρ => (a ρ).bind fun x => match x with
  | .tup xs => some (enumD 0 xs)
  | _ => none
section
variable {X : Cx} {F0 H0 : Hp} {a b c e tg : Expr} {fa fb fc fe : FE} {fl : FL} {ft tc : FT} {f : FS} {p pos : Pos} {x y z : Str}
theorem i_enum {elts : List Expr} {kk : Nat} {tpos : Pos} (hm : X.mg "enumerate" = none) (ha : PE X a (tD X.K F0 H0 fa)) (hg : Gl X "enumerate" := by rfl)
    (hs : starEach [a] X.env = [(false, eval a X.env)] := by rfl) (he : starEach [a] X.env = (false, eval a X.env) :: starEach [] X.env := by rfl) : PI X (.Tuple elts kk tpos) (.Call (.Name "enumerate" p) [a] [] pos) (iD X.K F0 H0 (fEnum fa)) :=
  (pi_enumT hg hm (pa_cons ha pa_nil he) hs).imp fun σ H R ⟨F, ρ, ds, S, e, q⟩ => by
    obtain ⟨x, e1, e⟩ := bind_some' e
    refine ⟨F, ρ, x, S, e1, fun v F1 H1 X1 r1 => ?_⟩
    cases r1 with
    | @tup a vs xs h1 r1 =>
      cases e
      exact ⟨a, vs, rfl, sqT_mono X1.fh h1, q _ F1 H1 X1 (wk_enum h1 r1)⟩
    | _ => cases e

/-! ### while -/
def whileN (t : FT) (f : FS) : Nat → Rho → Option Out
  | 0, _ => none
  | n + 1, ρ => (t ρ).bind fun b => if b = true then (f ρ).bind fun o => match o with
    | .nx ρ' => whileN t f n ρ'
    | .ct ρ' => whileN t f n ρ'
    | .bk ρ' => some (.nx ρ')
    | .rt d => some (.rt d) else some (.nx ρ)
theorem s_while (n : Nat) {body : List Stmt} (hp : PassesOwn (model X.prog X.w) X.A X.env X.xe) (hc : PT X c (tB1 X.K F0 H0 tc)) (hb : PSs X body (tS X.K F0 H0 f)) : PS X (.While c body [] pos) (tS X.K F0 H0 (whileN tc f n)) :=
  (ps_whileE hp hc hb pss_nil).imp fun Dn σ H ⟨F, ρ, o, S, e, q⟩ => by
    refine ⟨fun m σ' H' => ∃ F' ρ', Same F F' ∧ SR X.K F0 H0 F' H' σ' ρ' ∧ whileN tc f m ρ' = some o, ⟨n, F, ρ, Same.refl F, S, e⟩, ?_⟩
    rintro m σ' H' ⟨F', ρ', s', S', e'⟩
    have qq := q.mono s'
    cases m with
    | zero => cases e'
    | succ m =>
      obtain ⟨b, e1, e'⟩ := bind_some' e'
      refine ⟨F', ρ', b, S', e1, fun F1 H1 X1 => ?_⟩
      have s1 := s'.trans X1.f
      cases b with
      | true =>
        rw [if_pos rfl] at e'
        obtain ⟨o1, e2, e'⟩ := bind_some' e'
        refine iteT ⟨fun σ2 H2 => ∃ F2 ρ2, Same F F2 ∧ SR X.K F0 H0 F2 H2 σ2 ρ2 ∧ whileN tc f m ρ2 = some o, fun σ2 H2 h2 => ⟨m, Nat.lt_succ_self m, h2⟩, F1, ρ', o1, S'.to X1, e2, ?_⟩
        cases o1 with
        | nx ρ5 => exact fun σ5 F5 H5 s5 S5 => ⟨F5, ρ5, s1.trans s5, S5, e'⟩
        | ct ρ5 => exact fun σ5 F5 H5 s5 S5 => ⟨F5, ρ5, s1.trans s5, S5, e'⟩
        | bk ρ5 =>
          cases e'
          exact fun σ5 F5 H5 s5 S5 => qq σ5 F5 H5 (X1.f.trans s5) S5
        | rt d =>
          cases e'
          exact qq
      | false =>
        rw [if_neg Bool.false_ne_true] at e'
        cases e'
        exact iteF (qq σ' F1 H1 X1.f (S'.to X1))
/-- x, y, z = a, [..], c -/
def sPar3N (i j l : Nat) (a : FE) (b : FL) (c : FE) : FS := fun ρ => (a ρ).bind fun x => (b ρ).bind fun y => (c ρ).bind fun z => some (.nx (((ρ.set i (.dat x)).set j (.own y)).set l (.dat z)))
theorem s_par3N (i j l : Nat) {px py pz pt : Pos} {kt k2 pt2} (hc : X.calm = true) (hN : X.N.Nodup) (ha : PE X a (tD X.K F0 H0 fa)) (hb : PE X b (tN X.K F0 H0 fl)) (hd : PE X c (tD X.K F0 H0 fc)) (hw : swappedStores [.Tuple [.Name x px, .Name y py, .Name z pz] kt pt] (.Tuple [a, b, c] k2 pt2) X.env = pure (some [x, y, z]) := by rfl)
    (hi : X.N[i]? = some x := by rfl) (hj : X.N[j]? = some y := by rfl) (hl : X.N[l]? = some z := by rfl) (hij : i ≠ j := by decide) (hil : i ≠ l := by decide) (hjl : j ≠ l := by decide) (hx : X.env.scope.names.lookup x = some .local := by rfl) (hy : X.env.scope.names.lookup y = some .local := by rfl) (hz : X.env.scope.names.lookup z = some .local := by rfl)
    (h1 : starEach [a, b, c] X.env = (false, eval a X.env) :: starEach [b, c] X.env := by rfl) (h2 : starEach [b, c] X.env = (false, eval b X.env) :: starEach [c] X.env := by rfl) (h3 : starEach [c] X.env = (false, eval c X.env) :: starEach [] X.env := by rfl)
    (hs : swapsWithSole [.Tuple [.Name x px, .Name y py, .Name z pz] kt pt] (.Tuple [a, b, c] k2 pt2) pos.line X.env = pure false := by rfl) : PS X (.Assign [.Tuple [.Name x px, .Name y py, .Name z pz] kt pt] (.Tuple [a, b, c] k2 pt2) pos) (tS X.K F0 H0 (sPar3N i j l fa fl fc)) :=
  (ps_par3 hc hN hi hj hl hij hil hjl hx hy hz (pa_cons ha (pa_cons hb (pa_cons hd pa_nil h3) h2) h1) hw hs).imp fun Dn σ H ⟨F, ρ, o, S, e, q⟩ => by
    obtain ⟨d, e1, e⟩ := bind_some' e
    obtain ⟨d', e2, e⟩ := bind_some' e
    obtain ⟨d'', e3, e⟩ := bind_some' e
    cases e
    refine ⟨F, ρ, d, S, e1, fun v F1 H1 X1 r1 => ⟨F1, ρ, d', S.to X1, e2, fun u us F2 H2 X2 hn hu hf ru => ⟨F2, ρ, d'', S.to (X1.trans X2), e3, fun w F3 H3 X3 r3 => ⟨v, _, w, rfl, q _ F3 H3 (X1.trans (X2.trans X3)).f ?_⟩⟩⟩⟩
    have S1 := (S.to X1).set (i := i) r1
    have Y := X2.trans X3
    exact (S1.setOwn Y hn (X3.h _ _ hu) (X3.nw _ hf (by rw [hu]; exact fun z => nomatch z)) (ru.mono X3.f)).set r3

/-! ### // of a small positive divisor -/
def D.fdiv : D → D → Option D
  | .int i, .int j => if 0 < j ∧ j < 1073741824 then some (.int (i / j)) else none
  | _, _ => none
theorem rd_fdiv {K : PySem.W.Frag} : RD K (rI CDiv fun i j => .int (i / j)) D.fdiv := by
  intro F H x y dx dy dz Q s rx ry e q
  cases rx with
  | int i =>
    cases ry with
    | int j =>
      have e' : (if 0 < j ∧ j < 1073741824 then some (D.int (i / j)) else none) = some dz := e
      split at e'
      · rename_i h
        cases e'
        exact ⟨i, j, rfl, rfl, h, q _ F H (Ext.refl s) (.int _)⟩
      · cases e'
    | _ => cases e
  | _ => cases ry <;> cases e
/-- lengths of what is passed -/
def MLen (ml : FWL) (n : Nat) : Prop := ∀ ρ c P, ml.run ρ c P → ml.run ρ c fun ds c' => ds.length = n ∧ P ds c'
theorem mlen_nil : MLen mNil 0 := fun ρ c P h => ⟨rfl, h⟩
theorem mlen_cons {a : FWE} {r : FWL} {n : Nat} (h : MLen r n) : MLen (mCons a r) (n + 1) := fun ρ c P hh => a.mono hh fun x c1 hh => r.mono (h _ _ _ hh) fun xs c2 ⟨e, q⟩ => ⟨by simp [e], q⟩
end
end FD
end

section
set_option Elab.async false
set_option linter.all false
set_option maxRecDepth 100000
set_option maxHeartbeats 2000000
/-! FWn: _law_next. -/
namespace FD
open PySem PySem.Spec PyProof.Rows L2 StX
/-- an expression that changes nothing and has the values φ allows -/
def tE (φ : L2.St → Hp → V → Prop) : TE := fun σ H Q => ∃ v, φ σ H v ∧ Q v H
section
variable {X : Cx} {a b c e : Expr} {pos p : Pos} {φ ψ : L2.St → Hp → V → Prop}
theorem v_var (i : Nat) {x : Str} (hN : X.N[i]? = some x := by rfl) (hv : Vis X.env.scope x := by first | exact Or.inl rfl | exact Or.inr (Or.inl rfl) | exact Or.inr (Or.inr rfl)) (hd : (x == ("__debug__" : Str)) = false := by decide)
    (hcd : (x == ("__classdict__" : Str)) = false := by decide) : PE X (.Name x pos) (tE fun σ H v => σ[i]? = some (some v)) := pe_var hN hv hd hcd
theorem v_int {i : Int} {j : Nat} : PE X (.Constant (.int i) j pos) (tE fun σ H v => v = .int i) := pe_int.imp fun σ H Q ⟨v, e, q⟩ => by
  subst e
  exact q
theorem v_op {op : Operator} {C : Int → Int → Prop} {g : Int → Int → V} (ho : OpR X (binaryOp op) (rI C g)) (ha : PE X a (tE φ)) (hb : PE X b (tE ψ)) : PE X (.BinOp a op b pos) (tE fun σ H v => ∃ i j, φ σ H (.int i) ∧ ψ σ H (.int j) ∧ C i j ∧ v = g i j) :=
  (pe_op ho ha hb).imp fun σ H Q ⟨v, ⟨i, j, h1, h2, h3, h4⟩, q⟩ => ⟨_, h1, _, h2, i, j, rfl, rfl, h3, by rw [← h4]; exact q⟩
theorem v_op0 {op : Operator} {g : Int → Int → V} (ho : OpR X (binaryOp op) (rI0 g)) (ha : PE X a (tE φ)) (hb : PE X b (tE ψ)) : PE X (.BinOp a op b pos) (tE fun σ H v => ∃ i j, φ σ H (.int i) ∧ ψ σ H (.int j) ∧ v = g i j) :=
  (pe_op ho ha hb).imp fun σ H Q ⟨v, ⟨i, j, h1, h2, h4⟩, q⟩ => ⟨_, h1, _, h2, i, j, rfl, rfl, by rw [← h4]; exact q⟩
theorem v_ix (ha : PE X a (tE φ)) (hb : PE X b (tE ψ)) (hs : PlainIx b := by intro _ _; rfl) : PE X (.Subscript a b pos) (tE fun σ H v => ∃ p xs i, φ σ H (.ref p) ∧ ψ σ H (.int i) ∧ H p = some (.lst xs) ∧ atI xs i = some v) :=
  (pe_ix ix_list ha hb hs).imp fun σ H Q ⟨v, ⟨p, xs, i, h1, h2, h3, h4⟩, q⟩ => ⟨_, h1, _, h2, p, xs, i, v, rfl, rfl, .inl (.inl h3), h4, q⟩
theorem v_len (hm : X.mg "len" = none) (ha : PE X a (tE φ)) (hg : Gl X "len" := by rfl) (he : starEach [a] X.env = (false, eval a X.env) :: starEach [] X.env := by rfl) (hpl : (backTo pos (starEach [] X.env)).any (·.1) = false := by rfl) :
    PE X (.Call (.Name "len" p) [a] [] pos) (tE fun σ H v => ∃ p xs, φ σ H (.ref p) ∧ H p = some (.lst xs) ∧ v = .int xs.length) :=
  (pe_callB call_len_seq hg hm PySem.boot_len (pa_cons ha pa_nil he) (by decide) (by decide) he hpl).imp fun σ H Q ⟨v, ⟨p, xs, h1, h2, h3⟩, q⟩ => ⟨_, h1, p, xs, rfl, .inl (.inl (.inl h2)), by rw [← h3]; exact q⟩
end
/-- how _law_next stands: the deck's three lists, the frame's two given slots -/
structure Nx (k : Dk) (gs ss : List Int) (c m : Int) (σ : L2.St) (H : Hp) : Prop where
  d : H k.dk = some (.lst [.ref k.g, .ref k.sm, .int c])
  g : H k.g = some (.lst (gs.map V.int))
  s : H k.sm = some (.lst (ss.map V.int))
  n1 : k.dk ≠ k.g
  n2 : k.sm ≠ k.dk
  n3 : k.sm ≠ k.g
  v0 : σ[0]? = some (some (.ref k.dk))
  v1 : σ[1]? = some (some (.int m))
  ln : σ.length = 4
theorem Nx.set {k : Dk} {gs ss : List Int} {c m : Int} {σ : L2.St} {H : Hp} (N : Nx k gs ss c m σ H) {i : Nat} {o : Option V} (h : 2 ≤ i) : Nx k gs ss c m (σ.set i o) H :=
  ⟨N.d, N.g, N.s, N.n1, N.n2, N.n3, by rw [List.getElem?_set_ne (by omega)]; exact N.v0, by rw [List.getElem?_set_ne (by omega)]; exact N.v1, by rw [List.length_set]; exact N.ln⟩
theorem at0 {α : Type} {x : α} {xs : List α} : atI (x :: xs) 0 = some x := by
  unfold atI
  rw [List.length_cons, show ixN (xs.length + 1) 0 = some 0 from by unfold ixN; simp]
  rfl

section
variable {k : Dk} {gs ss : List Int} {c m : Int} {σ : L2.St} {H : Hp}
abbrev eIx (σ : L2.St) (H : Hp) (n : Int) (v : V) : Prop := ∃ p xs i, σ[0]? = some (some (V.ref p)) ∧ V.int i = V.int n ∧ H p = some (.lst xs) ∧ atI xs i = some v
theorem Nx.eC (N : Nx k gs ss c m σ H) : eIx σ H 2 (.int c) := ⟨_, _, 2, N.v0, rfl, N.d, rfl⟩
theorem Nx.eG (N : Nx k gs ss c m σ H) : eIx σ H 0 (.ref k.g) := ⟨_, _, 0, N.v0, rfl, N.d, rfl⟩
theorem Nx.eS (N : Nx k gs ss c m σ H) : eIx σ H 1 (.ref k.sm) := ⟨_, _, 1, N.v0, rfl, N.d, rfl⟩
def keepM (k : Dk) (H H' : Hp) : Prop := ∀ a x, a ≠ k.dk → a ≠ k.g → H a = some x → H' a = some x
theorem keepM.trans {H1 H2 : Hp} (h : keepM k H H1) (h' : keepM k H1 H2) : keepM k H H2 := fun a x n1 n2 e => h' a x n1 n2 (h a x n1 n2 e)
theorem keepM.of {H1 : Hp} (h : Same H H1) : keepM k H H1 := fun a x _ _ e => h a x e
theorem Nx.fresh (N : Nx k gs ss c m σ H) {p : Addr} {o : HO} (hp : H p = none) : Nx k gs ss c m σ (upd H p o) := by
  have u := same_upd (o := o) hp
  exact ⟨u _ _ N.d, u _ _ N.g, u _ _ N.s, N.n1, N.n2, N.n3, N.v0, N.v1, N.ln⟩
theorem Nx.setG (N : Nx k gs ss c m σ H) (gs' : List Int) : Nx k gs' ss c m σ (upd H k.g (.lst (gs'.map V.int))) ∧ keepM k H (upd H k.g (.lst (gs'.map V.int))) :=
  ⟨⟨by rw [upd_ne N.n1]; exact N.d, upd_same, by rw [upd_ne N.n3]; exact N.s, N.n1, N.n2, N.n3, N.v0, N.v1, N.ln⟩, fun a x _ n e => by rw [upd_ne n]; exact e⟩
theorem Nx.setC (N : Nx k gs ss c m σ H) (c' : Int) : Nx k gs ss c' m σ (upd H k.dk (.lst [.ref k.g, .ref k.sm, .int c'])) ∧ keepM k H (upd H k.dk (.lst [.ref k.g, .ref k.sm, .int c'])) :=
  ⟨⟨upd_same, by rw [upd_ne N.n1.symm]; exact N.g, by rw [upd_ne N.n2]; exact N.s, N.n1, N.n2, N.n3, N.v0, N.v1, N.ln⟩, fun a x n _ e => by rw [upd_ne n]; exact e⟩
theorem lay_ints : ∀ gs : List Int, PyData.canLayAll0 (toPys (gs.map D.int)) = true
  | [] => rfl
  | g :: r => by
    simp only [List.map_cons, toPys, toPy, PyData.canLayAll0, PyData.canLay0, lay_ints r, Bool.and_true]
theorem ne_ints {K : PySem.W.Frag} {H : Hp} {p q : Addr} {gs : List Int} (h : H p = some (.lst (gs.map V.int))) (hq : H q = some (.lst [])) (Q : VK) (hQ : Q (.bl (!gs.isEmpty)) H) : rNeL K (.ref p) (.ref q) H Q := by
  refine ⟨toPys (gs.map D.int), .lst (.inl (.inl h)) ((rps_ints (K := K) (F := H) gs).dp (Same.refl H)), .lst (.inl (.inl hq)) .nil, lay_ints gs, ?_⟩
  rw [toPys_empty]
  rw [show (gs.map D.int).isEmpty = gs.isEmpty by cases gs <;> rfl]
  exact hQ
/-- what _law_next does with the deck -/
def tNext0 : TS := fun Dn σ H => ∃ k gs ss c m, Nx k gs ss c m σ H ∧ ss ≠ [] ∧ 0 < m ∧ m < 1073741824 ∧ 0 ≤ c ∧ c < 1000000 ∧
  ∀ (r : Int) (gs' : List Int) (H' : Hp), 0 ≤ r → r < m → H' k.dk = some (.lst [.ref k.g, .ref k.sm, .int (c + 1)]) → H' k.g = some (.lst (gs'.map V.int)) → keepM k H H' → Dn.rt (.int r) H'
theorem div_ok {m : Int} (h0 : 0 < m) (h : m < 1073741824) : CDivW 0 m := wide_div (b := 30) h0 (by omega) (by omega) (by omega)
theorem map_at {ss : List Int} {i : Nat} (h : i < ss.length) : (ss.map V.int)[i]? = some (.int ss[i]) := by
  rw [List.getElem?_map, List.getElem?_eq_getElem h]; rfl
theorem mod_at {ss : List Int} (hn : ss ≠ []) (c : Int) : ∃ x, atI (ss.map V.int) (c % ((ss.map V.int).length : Int)) = some (V.int x) := by
  have hl : 0 < ss.length := by cases ss <;> simp_all
  rw [List.length_map]
  have h1 : 0 ≤ c % (ss.length : Int) := Int.emod_nonneg _ (by omega)
  have h2 : c % (ss.length : Int) < ss.length := Int.emod_lt_of_pos _ (by omega)
  refine ⟨ss[(c % (ss.length : Int)).toNat]'(by omega), ?_⟩
  unfold atI ixN
  rw [List.length_map, if_pos h1, if_pos h2]
  exact map_at (by omega)
end
end FD
end

section
set_option Elab.async false
set_option linter.all false
set_option maxRecDepth 100000
set_option maxHeartbeats 2000000
/-! FWo: _law_next, its walk. -/
namespace FD
open PySem PySem.Spec PyProof.Rows L2 StX
abbrev N__law_next : List Str := ["_law_deck_here", "_law_many", "_law_cell", "_law_pick"]
section
variable {P : Program} {w : World} {K : PySem.W.Frag} {mg : Str → Option Value} {base : Heap}
theorem sc__law_next : FnScope N__law_next ["_law_deck_here", "_law_many"] (defScope (topS 66)) := ⟨rfl, rfl, rfl, by decide +kernel, rfl, by decide +kernel, by decide +kernel⟩
theorem body_next (T : Txt K mg) (f : Addr) (cdv : Value) (A : Around) (outer : List Env) (s : Shared) (H : Hp) (E : XK) (hr : Room 0 (A.deeper (envOfC "_law_next" (defScope (topS 66)) s.heap.objs.size f cdv))) :
    PSs (cxOf CX0 P w K mg base N__law_next "_law_next" (defScope (topS 66)) f cdv A outer s H E).nox (defBody (topS 66)) tNext0 := by
  have nd : N__law_next.Nodup := sc__law_next.nd
  have fr : mg "len" = none := T.fr 0 "len" rfl
  refine PSs.imp (pss_cons (ps_asg (v_op0 op_add (v_ix (v_var 0) v_int) v_int) (pg_sub (v_var 0) v_int set_list (by intro _; rfl)) rfl rfl rfl)
    (pss_cons (ps_whileE PassesOwn.never (pt_cmpR (op_neL hr.units) (v_ix (v_var 0) v_int) (pe_lst pa_nil) rfl)
      (pss_cons (ps_set (i := 2) nd rfl (Or.inl rfl) (v_ix (v_ix (v_var 0) v_int) v_int) rfl (.inr rfl))
      (pss_cons (ps_if (pt_cmpR op_gt (v_var 2) v_int rfl)
        (pss_cons (ps_asg (v_op op_fdivW (v_var 2) (v_var 1)) (pg_sub (v_ix (v_var 0) v_int) v_int set_list (by intro _; rfl)) rfl rfl rfl)
        (pss_one (ps_ret (v_op op_mod (v_var 2) (v_var 1))))) pss_nil)
      (pss_one (ps_expr (pe_bm PySem.F.plainAttrs_list PySem.F.slot_list_pop PySem.F.type_list_pop mt_popAt (v_ix (v_var 0) v_int) (pa_cons v_int pa_nil)) rfl)))) pss_nil)
    (pss_cons (ps_set (i := 2) nd rfl (Or.inl rfl) (v_op op_mod (v_ix (v_ix (v_var 0) v_int) (v_op op_mod (v_ix (v_var 0) v_int) (v_len fr (v_ix (v_var 0) v_int)))) v_int) rfl (.inr rfl))
    (pss_cons (ps_set (i := 3) nd rfl (Or.inl rfl) (v_op0 op_add (v_op0 op_add (v_op op_mulW (v_var 2) (v_op0 op_add v_int (v_op op_mulW v_int (v_ix (v_var 0) v_int)))) (v_op op_mulW (v_op op_mulW v_int (v_ix (v_var 0) v_int)) (v_ix (v_var 0) v_int))) v_int) rfl (.inr rfl))
    (pss_cons (ps_set (i := 3) nd rfl (Or.inl rfl) (v_op0 op_add (v_op op_mod (v_op op_mulW (v_var 3) (v_var 3)) v_int) (v_op op_mulW v_int (v_ix (v_var 0) v_int))) rfl (.inr rfl))
    (pss_one (ps_ret (v_op op_mod (v_op op_fdivW (v_op op_mod (v_op op_mulW (v_var 3) (v_var 3)) v_int) v_int) (v_var 1))))))))) ?_
  intro Dn σ H ⟨k, gs, ss, c, m, N, hss, hm0, hm1, hc0, hc1, q⟩
  obtain ⟨N1, k1⟩ := N.setC (c + 1)
  refine ⟨_, ⟨c, 1, N.eC, rfl, rfl⟩, _, N.v0, _, rfl, _, _, 2, 2, rfl, rfl, N.d, rfl, ?_⟩
  refine ⟨fun n σ' H' => ∃ gs', n = gs'.length ∧ Nx k gs' ss (c + 1) m σ' H' ∧ keepM k H H', ⟨_, gs, rfl, N1, k1⟩, ?_⟩
  rintro n σ' H' ⟨gs', rfl, N', k'⟩
  refine ⟨_, N'.eG, Nat.zero_le _, fun p hp => ?_⟩
  have N2 := N'.fresh (o := .lst []) hp
  have k2 := k'.trans (.of (same_upd (o := .lst []) hp))
  refine ne_ints N2.g upd_same _ ⟨_, rfl, ?_⟩

  generalize upd H' p (.lst []) = H2 at *
  cases gs' with
  | cons g r =>
    have N3 := N2.set (i := 2) (o := some (.int g)) (Nat.le_refl _)
    have g2 : (σ'.set 2 (some (V.int g)))[2]? = some (some (.int g)) := List.getElem?_set_self (by rw [N2.ln]; decide)
    refine iteT ⟨fun σ3 H3 => Nx k r ss (c + 1) m σ3 H3 ∧ keepM k H H3, fun σ3 H3 h3 => ⟨_, Nat.lt_succ_self _, r, rfl, h3⟩, ?_⟩
    refine ⟨_, ⟨_, _, 0, N2.eG, rfl, N2.g, at0⟩, ?_⟩
    refine ⟨_, g2, _, rfl, g, 0, rfl, rfl, _, rfl, ?_⟩
    cases hg : decide ((0 : Int) < g) with
    | true =>
      obtain ⟨N4, k4⟩ := N3.setG (g / m :: r)
      refine iteT ⟨_, ⟨g, m, g2, N3.v1, div_ok hm0 hm1, rfl⟩, _, N3.eG, _, rfl, _, _, 0, 0, rfl, rfl, N3.g, ?_, ?_⟩
      · unfold ixN
        simp
      · exact ⟨_, ⟨g, m, g2, N3.v1, hm0, rfl⟩, q _ (g / m :: r) _ (Int.emod_nonneg _ (by omega)) (Int.emod_lt_of_pos _ hm0) N4.d N4.g (k2.trans k4)⟩
    | false =>
      obtain ⟨N4, k4⟩ := N3.setG r
      refine iteF ?_
      refine ⟨_, N3.eG, .inl ⟨rfl, _, .inl (.inl N3.g)⟩, _, rfl, _, _, 0, 0, _, rfl, rfl, N3.g, by decide, by decide, ?_, rfl, ?_⟩
      · simp [seqIndex?]
      · exact ⟨N4, k2.trans k4⟩
  | nil =>
    refine iteF ?_
    obtain ⟨x, hx⟩ := mod_at hss (c + 1)
    have hlen : 0 < ((ss.map V.int).length : Int) := by
      rw [List.length_map]
      cases ss <;> simp_all
    have hx0 : 0 ≤ x % 2147483629 := Int.emod_nonneg _ (by decide)
    have hx1 : x % 2147483629 < 2147483629 := Int.emod_lt_of_pos _ (by decide)
    refine ⟨_, ⟨x, 2147483629, ⟨_, _, (c + 1) % ((ss.map V.int).length : Int), N2.eS, ⟨c + 1, _, N2.eC, ⟨_, _, N2.eS, N2.s, rfl⟩, hlen, rfl⟩, N2.s, hx⟩, rfl, by decide, rfl⟩, ?_⟩
    generalize x % 2147483629 = y at *
    generalize hC : c + 1 = C at *
    have N3 := N2.set (i := 2) (o := some (.int y)) (Nat.le_refl _)
    have g2 : (σ'.set 2 (some (V.int y)))[2]? = some (some (.int y)) := List.getElem?_set_self (by rw [N2.ln]; decide)
    have bC : C.natAbs < 2 ^ 20 := by omega
    have by' : y.natAbs < 2 ^ 31 := by omega
    have b1 : (39373 * C).natAbs < 2 ^ 36 := wide_lt (a := 16) (b := 20) (by decide) bC
    have b2 : (16807 + 39373 * C).natAbs < 2 ^ 37 := by omega
    have b3 : (y * (16807 + 39373 * C)).natAbs < 2 ^ 68 := wide_lt (a := 31) (b := 37) by' b2
    have b4 : (40692 * C).natAbs < 2 ^ 36 := wide_lt (a := 16) (b := 20) (by decide) bC
    have b5 : (40692 * C * C).natAbs < 2 ^ 56 := wide_lt (a := 36) (b := 20) b4 bC
    refine ⟨_, ⟨_, 59, ⟨_, _, ⟨y, _, g2, ⟨16807, _, rfl, ⟨39373, C, rfl, N3.eC, wide_mul (a := 16) (b := 20) (by decide) bC (by decide) (by decide) (by decide), rfl⟩, rfl⟩, wide_mul (a := 31) (b := 37) by' b2 (by decide) (by decide) (by decide), rfl⟩,
      ⟨_, C, ⟨40692, C, rfl, N3.eC, wide_mul (a := 16) (b := 20) (by decide) bC (by decide) (by decide) (by decide), rfl⟩, N3.eC, wide_mul (a := 36) (b := 20) b4 bC (by decide) (by decide) (by decide), rfl⟩, rfl⟩, rfl, rfl⟩, ?_⟩
    have b6 : (y * (16807 + 39373 * C) + 40692 * C * C + 59).natAbs < 2 ^ 70 := by
      generalize y * (16807 + 39373 * C) = u at *
      generalize 40692 * C * C = v at *
      omega
    generalize y * (16807 + 39373 * C) + 40692 * C * C + 59 = pk at *
    have N4 := N3.set (i := 3) (o := some (.int pk)) (by decide)
    have g3 : ((σ'.set 2 (some (V.int y))).set 3 (some (V.int pk)))[3]? = some (some (.int pk)) := List.getElem?_set_self (by rw [N3.ln]; decide)
    have b7 : (69621 * C).natAbs < 2 ^ 37 := wide_lt (a := 17) (b := 20) (by decide) bC
    refine ⟨_, ⟨_, _, ⟨_, 2305843009213693951, ⟨pk, pk, g3, g3, wide_mul b6 b6 (by decide) (by decide) (by decide), rfl⟩, rfl, by decide, rfl⟩, ⟨69621, C, rfl, N4.eC, wide_mul (a := 17) (b := 20) (by decide) bC (by decide) (by decide) (by decide), rfl⟩, rfl⟩, ?_⟩
    have b8 : (pk * pk % 2305843009213693951 + 69621 * C).natAbs < 2 ^ 63 := by
      have h0 : 0 ≤ pk * pk % 2305843009213693951 := Int.emod_nonneg _ (by decide)
      have h1 : pk * pk % 2305843009213693951 < 2305843009213693951 := Int.emod_lt_of_pos _ (by decide)
      generalize pk * pk % 2305843009213693951 = u at *
      omega
    generalize pk * pk % 2305843009213693951 + 69621 * C = pl at *
    have N5 := N4.set (i := 3) (o := some (.int pl)) (by decide)
    have g4 : (((σ'.set 2 (some (V.int y))).set 3 (some (V.int pk))).set 3 (some (V.int pl)))[3]? = some (some (.int pl)) := List.getElem?_set_self (by rw [N4.ln]; decide)
    refine ⟨_, ⟨_, m, ⟨_, 4099, ⟨_, 2305843009213693951, ⟨pl, pl, g4, g4, wide_mul b8 b8 (by decide) (by decide) (by decide), rfl⟩, rfl, by decide, rfl⟩, rfl, div_ok (by decide) (by decide), rfl⟩, N5.v1, hm0, rfl⟩, ?_⟩
    exact q _ [] _ (Int.emod_nonneg _ (by omega)) (Int.emod_lt_of_pos _ hm0) (N5.d) N5.g k2
def Psinext : FWD := ⟨fun a ds c P => ∃ n, ds = [.int n] ∧ 0 < n ∧ n < 1073741824 ∧ c < 1000000 ∧ ∀ r : Int, 0 ≤ r → r < n → P (.int r) (c + 1), fun ⟨n, e, h0, h1, h2, h⟩ q => ⟨n, e, h0, h1, h2, fun r a b => q _ _ (h r a b)⟩⟩
theorem ok__law_next (T : Txt K mg) : OkM P w K mg base "_law_next" 1 1 Psinext := by
  obtain ⟨fd, F, hm⟩ := T.d 43 "_law_next" 66 rfl
  refine ⟨_, fd, ["_law_deck_here", "_law_many"], hm, F.kp, F.bindsN fun kV doc pm an cdv ct us hl => (match us, hl with | [_, _], _ => rfl), F.ok sc__law_next (fun vs H Q E h => ?_) (fun cdv A outer s H vs Q E hr hsp => ?_)⟩
  · obtain ⟨F, k, c, ws, ds, rfl, hl, _⟩ := h
    rw [List.length_cons, hl]
    rfl
  · obtain ⟨F, k, c, ws, ds, rfl, hl, sm, Dc, r, n, rfl, h0, h1, h2, q⟩ := hsp
    refine ⟨tNext0, (body_next T _ cdv A outer s H E hr).nox, ?_⟩
    obtain ⟨gs, hg⟩ := Dc.g
    obtain ⟨ss, hs, hn⟩ := Dc.s
    cases r with
    | cons r1 r =>
      cases r
      cases r1
      refine ⟨k, gs, ss, c, n, ⟨Dc.d, hg, hs, Dc.n1, Dc.n2, Dc.n3, rfl, rfl, rfl⟩, hn, h0, h1, by omega, by omega, fun r gs' H' a b hd' hg' kp => ?_⟩
      have nf : ∀ {a x}, F a = some x → a ≠ k.dk ∧ a ≠ k.g := fun {a x} e => ⟨fun z => (by rw [z, Dc.fd] at e; cases e), fun z => (by rw [z, Dc.fg] at e; cases e)⟩
      refine q r a b _ F H' ⟨Same.refl F, fun a x n1 n2 e => kp a x n1 n2 e, fun a x e => kp a x (nf e).1 (nf e).2 (sm a x e), fun a h _ => h, fun a h => ?_⟩ ⟨?_, ⟨gs', hg'⟩, ⟨ss, kp _ _ Dc.n2 Dc.n3 hs, hn⟩, Dc.fd, Dc.fg, Dc.n1, Dc.n2, Dc.n3⟩ (.int r)
      · cases e : H a with
        | none => exact absurd e h
        | some x =>
          by_cases z1 : a = k.dk
          · rw [z1, hd']; exact fun z => nomatch z
          · by_cases z2 : a = k.g
            · rw [z2, hg']; exact fun z => nomatch z
            · rw [kp a x z1 z2 e]; exact fun z => nomatch z
      · rw [hd']
        congr 4
end
end FD
end

section
set_option Elab.async false
set_option linter.all false
set_option maxRecDepth 100000
set_option maxHeartbeats 2000000
namespace FD
open PySem PySem.Spec PyProof.Rows L2 StX
section
variable {P : Program} {w : World} {K : PySem.W.Frag} {mg : Str → Option Value} {base : Heap}
def b__law_one (dk : Addr) : FWS := (mRet (mOp D.ix (mPure (fVar 1)) (mCall Psinext dk 0 (mCons (mPure (fCall (g1 D.len) (fCons (fVar 1) fNil))) mNil))))
def Psi__law_one : FWD := runM 1 2 b__law_one

abbrev N__law_one : List Str := ["_law_deck_here", "_law_items"]
theorem sc__law_one : FnScope N__law_one ["_law_deck_here", "_law_items"] (defScope (topS 67)) := ⟨rfl, rfl, rfl, by decide +kernel, rfl, by decide +kernel, by decide +kernel⟩
theorem ok__law_one (T : Txt K mg) : OkM P w K mg base "_law_one" 2 1 Psi__law_one :=
  okM_mk (N := N__law_one) (ps := ["_law_deck_here", "_law_items"]) (fs := b__law_one) (T.d 44 "_law_one" 67 rfl) sc__law_one rfl (fun _ _ _ _ _ _ _ us hl => match us, hl with | [_, _], _ => rfl) fun f cdv A outer s H E ddk F0 H0 hr =>
  have nd : N__law_one.Nodup := sc__law_one.nd
  (sw_one (sw_ret (w_ix (w_pure fun F0 H0 => (e_var 1)) (w_call (ok__law_next T) hr (by decide) 0 (w_acons (w_pure fun F0 H0 => (e_callB call_len_seq rc_len (T.fr 0 "len" rfl) PySem.boot_len (a_cons (e_var 1) a_nil))) w_anil) (hl := (mlen_cons mlen_nil))))))

def b__law_steps (dk : Addr) : FWS := (mSeq (mParN2 3 4 (fLst fNil) (mOp D.sub (mCall Psinext dk 0 (mCons (mPure (fK (.int 13))) mNil)) (mPure (fK (.int 8)))))
  (mSeq (mFor (mRng1 (mCall Psinext dk 0 (mCons (mPure (f2 D.add (fVar 2) (fK (.int 1)))) mNil))) (gN 5)
   (mSeq (mApp 3 (mTup (mCons (mOp D.add (mPure (fK (.int 1))) (mCall Psinext dk 0 (mCons (mPure (fVar 1)) mNil))) (mCons (mPure (fVar 4)) mNil))))
  (mSet 4 (mOp D.add (mPure (f2 D.add (fVar 4) (fK (.int 1)))) (mCall Psinext dk 0 (mCons (mPure (fK (.int 4))) mNil)))))
   mNilS)
  (mS (sSeq (sFrz 3) (sRet (fCall (g1 D.tuple) (fCons (fVar 3) fNil)))))))
def Psi__law_steps : FWD := runM 2 6 b__law_steps

abbrev N__law_steps : List Str := ["_law_deck_here", "_law_great", "_law_most", "_law_found", "_law_price", "_law_k"]
theorem sc__law_steps : FnScope N__law_steps ["_law_deck_here", "_law_great", "_law_most"] (defScope (topS 69)) := ⟨rfl, rfl, rfl, by decide +kernel, rfl, by decide +kernel, by decide +kernel⟩
theorem ok__law_steps (T : Txt K mg) : OkM P w K mg base "_law_steps" 2 2 Psi__law_steps :=
  okM_mk (N := N__law_steps) (ps := ["_law_deck_here", "_law_great", "_law_most"]) (fs := b__law_steps) (T.d 46 "_law_steps" 69 rfl) sc__law_steps rfl (fun _ _ _ _ _ _ _ us hl => match us, hl with | [_, _, _], _ => rfl) fun f cdv A outer s H E ddk F0 H0 hr =>
  have nd : N__law_steps.Nodup := sc__law_steps.nd
  (sw_cons (sw_parN2 3 4 rfl nd (fun F0 H0 => (n_lst a_nil)) (w_op op_sub rd_sub (w_call (ok__law_next T) hr (by decide) 0 (w_acons (w_pure fun F0 H0 => e_int) w_anil) (hl := (mlen_cons mlen_nil))) (w_pure fun F0 H0 => e_int)))
  (sw_cons (sw_for PassesOwn.never rfl (iw_rng (T.fr 7 "range" rfl) (w_call (ok__law_next T) hr (by decide) 0 (w_acons (w_pure fun F0 H0 => (e_op op_add rd_add (e_var 2) e_int)) w_anil) (hl := (mlen_cons mlen_nil)))) (fun F0 H0 => (g_name 5 nd))
   (sw_cons (sw_app 3 (w_tup (w_acons (w_op op_add rd_add (w_pure fun F0 H0 => e_int) (w_call (ok__law_next T) hr (by decide) 0 (w_acons (w_pure fun F0 H0 => (e_var 1)) w_anil) (hl := (mlen_cons mlen_nil)))) (w_acons (w_pure fun F0 H0 => (e_var 4)) w_anil))))
  (sw_one (sw_set 4 nd (w_op op_add rd_add (w_pure fun F0 H0 => (e_op op_add rd_add (e_var 4) e_int)) (w_call (ok__law_next T) hr (by decide) 0 (w_acons (w_pure fun F0 H0 => e_int) w_anil) (hl := (mlen_cons mlen_nil)))))))
   sw_nil)
  (sws_pure fun F0 H0 => (s_frz 3 (s_one (s_ret (e_callT call_tuple_of rc_tuple (T.fr 4 "tuple" rfl) (by decide +kernel) (a_cons (e_var 3) a_nil))))))))

def b__law_data (dk : Addr) : FWS := (mSeq (mSet 3 (mCall Psi__law_steps dk 0 (mCons (mPure (fVar 1)) (mCons (mPure (fVar 2)) mNil))))
  (mRet (mTup (mCons (mOp D.sub (mCall Psinext dk 0 (mCons (mPure (f2 D.add (f2 D.mul (fK (.int 2)) (fVar 1)) (fK (.int 1)))) mNil)) (mPure (fVar 1))) (mCons (mOp D.sub (mCall Psinext dk 0 (mCons (mPure (fK (.int 41))) mNil)) (mPure (fK (.int 20)))) (mCons (mPure (fVar 3)) mNil))))))
def Psi__law_data : FWD := runM 2 4 b__law_data

abbrev N__law_data : List Str := ["_law_deck_here", "_law_great", "_law_most", "_law_steps_here"]
theorem sc__law_data : FnScope N__law_data ["_law_deck_here", "_law_great", "_law_most"] (defScope (topS 71)) := ⟨rfl, rfl, rfl, by decide +kernel, rfl, by decide +kernel, by decide +kernel⟩
theorem ok__law_data (T : Txt K mg) : OkM P w K mg base "_law_data" 3 2 Psi__law_data :=
  okM_mk (N := N__law_data) (ps := ["_law_deck_here", "_law_great", "_law_most"]) (fs := b__law_data) (T.d 48 "_law_data" 71 rfl) sc__law_data rfl (fun _ _ _ _ _ _ _ us hl => match us, hl with | [_, _, _], _ => rfl) fun f cdv A outer s H E ddk F0 H0 hr =>
  have nd : N__law_data.Nodup := sc__law_data.nd
  (sw_cons (sw_set 3 nd (w_call (ok__law_steps T) hr (by decide) 0 (w_acons (w_pure fun F0 H0 => (e_var 1)) (w_acons (w_pure fun F0 H0 => (e_var 2)) w_anil)) (hl := (mlen_cons (mlen_cons mlen_nil)))))
  (sw_one (sw_ret (w_tup (w_acons (w_op op_sub rd_sub (w_call (ok__law_next T) hr (by decide) 0 (w_acons (w_pure fun F0 H0 => (e_op op_add rd_add (e_op op_mul rd_mul e_int (e_var 1)) e_int)) w_anil) (hl := (mlen_cons mlen_nil))) (w_pure fun F0 H0 => (e_var 1))) (w_acons (w_op op_sub rd_sub (w_call (ok__law_next T) hr (by decide) 0 (w_acons (w_pure fun F0 H0 => e_int) w_anil) (hl := (mlen_cons mlen_nil))) (w_pure fun F0 H0 => e_int)) (w_acons (w_pure fun F0 H0 => (e_var 3)) w_anil)))))))

def b__law_around (dk : Addr) : FWS := (mSeq (mSet 4 (mCall Psi__law_steps dk 0 (mCons (mPure (fVar 1)) (mCons (mPure (fK (.int 3))) mNil))))
  (mSeq (mS (sSet 5 (fCall Phi__law_units (fCons (fVar 4) fNil))))
  (mSeq (mSet 6 (mOp D.sub (mPure (fVar 2)) (mCall Psinext dk 0 (mCons (mPure (f2 D.add (fVar 5) (fK (.int 1)))) mNil))))
  (mSeq (mSIf (bVal (f2 D.eq (fVar 3) (fK (.int 0))))
   (mSet 6 (mCall Psi__law_one dk 0 (mCons (mLst (mCons (mOp D.add (mPure (f2 D.add (fVar 2) (fK (.int 1)))) (mCall Psinext dk 0 (mCons (mPure (fVar 1)) mNil))) (mCons (mOp D.sub (mPure (f2 D.sub (f2 D.sub (fVar 2) (fVar 5)) (fK (.int 1)))) (mCall Psinext dk 0 (mCons (mPure (fVar 1)) mNil))) mNil))) mNil)))
   mNilS)
  (mRet (mTup (mCons (mPure (fVar 6)) (mCons (mOp D.sub (mCall Psinext dk 0 (mCons (mPure (fK (.int 21))) mNil)) (mPure (fK (.int 10)))) (mCons (mPure (fVar 4)) mNil)))))))))
def Psi__law_around : FWD := runM 3 7 b__law_around

abbrev N__law_around : List Str := ["_law_deck_here", "_law_great", "_law_stock", "_law_way", "_law_steps_here", "_law_units_here", "_law_low"]
theorem sc__law_around : FnScope N__law_around ["_law_deck_here", "_law_great", "_law_stock", "_law_way"] (defScope (topS 75)) := ⟨rfl, rfl, rfl, by decide +kernel, rfl, by decide +kernel, by decide +kernel⟩
theorem ok__law_around (T : Txt K mg) : OkM P w K mg base "_law_around" 3 3 Psi__law_around :=
  okM_mk (N := N__law_around) (ps := ["_law_deck_here", "_law_great", "_law_stock", "_law_way"]) (fs := b__law_around) (T.d 52 "_law_around" 75 rfl) sc__law_around rfl (fun _ _ _ _ _ _ _ us hl => match us, hl with | [_, _, _, _], _ => rfl) fun f cdv A outer s H E ddk F0 H0 hr =>
  have nd : N__law_around.Nodup := sc__law_around.nd
  (sw_cons (sw_set 4 nd (w_call (ok__law_steps T) hr (by decide) 0 (w_acons (w_pure fun F0 H0 => (e_var 1)) (w_acons (w_pure fun F0 H0 => e_int) w_anil)) (hl := (mlen_cons (mlen_cons mlen_nil)))))
  (sw_cons (sw_pure fun F0 H0 => (s_set 5 nd (e_callO (ok__law_units T) hr (by decide) (a_cons (e_var 4) a_nil))))
  (sw_cons (sw_set 6 nd (w_op op_sub rd_sub (w_pure fun F0 H0 => (e_var 2)) (w_call (ok__law_next T) hr (by decide) 0 (w_acons (w_pure fun F0 H0 => (e_op op_add rd_add (e_var 5) e_int)) w_anil) (hl := (mlen_cons mlen_nil)))))
  (sw_cons (sw_if (fun F0 H0 => (t_cmp (op_eqA hr.units) rd_eq (e_var 3) e_int))
   (sw_one (sw_set 6 nd (w_call (ok__law_one T) hr (by decide) 0 (w_acons (w_lst (w_acons (w_op op_add rd_add (w_pure fun F0 H0 => (e_op op_add rd_add (e_var 2) e_int)) (w_call (ok__law_next T) hr (by decide) 0 (w_acons (w_pure fun F0 H0 => (e_var 1)) w_anil) (hl := (mlen_cons mlen_nil)))) (w_acons (w_op op_sub rd_sub (w_pure fun F0 H0 => (e_op op_sub rd_sub (e_op op_sub rd_sub (e_var 2) (e_var 5)) e_int)) (w_call (ok__law_next T) hr (by decide) 0 (w_acons (w_pure fun F0 H0 => (e_var 1)) w_anil) (hl := (mlen_cons mlen_nil)))) w_anil))) w_anil) (hl := (mlen_cons mlen_nil)))))
   sw_nil)
  (sw_one (sw_ret (w_tup (w_acons (w_pure fun F0 H0 => (e_var 6)) (w_acons (w_op op_sub rd_sub (w_call (ok__law_next T) hr (by decide) 0 (w_acons (w_pure fun F0 H0 => e_int) w_anil) (hl := (mlen_cons mlen_nil))) (w_pure fun F0 H0 => e_int)) (w_acons (w_pure fun F0 H0 => (e_var 4)) w_anil))))))))))

def b__law_book (dk : Addr) : FWS := (mSeq (mPar2N 4 5 (mOp D.sub (mCall Psinext dk 0 (mCons (mPure (f2 D.add (f2 D.mul (fK (.int 2)) (fVar 1)) (fK (.int 1)))) mNil)) (mPure (fVar 1))) (fLst fNil))
  (mSeq (mS (sSet 6 (fVar 4)))
  (mSeq (mFor (mRng1 (mOp D.add (mPure (fK (.int 1))) (mCall Psinext dk 0 (mCons (mPure (fVar 2)) mNil)))) (gN 7)
   (mSeq (mPar2 8 9 (mCall Psi__law_data dk 0 (mCons (mPure (fVar 1)) (mCons (mPure (fK (.int 3))) mNil))) (mOp D.sub (mCall Psinext dk 0 (mCons (mPure (f2 D.add (f2 D.mul (fK (.int 2)) (fVar 1)) (fK (.int 2)))) mNil)) (mPure (f2 D.fdiv (fVar 1) (fK (.int 2))))))
  (mSeq (mSet 6 (mOp D.sub (mOp D.add (mPure (f2 D.add (fVar 6) (f2 D.ix (fVar 8) (fK (.int 0))))) (mCall Psinext dk 0 (mCons (mPure (f2 D.add (fCall Phi__law_units (fCons (f2 D.ix (fVar 8) (fK (.int 2))) fNil)) (fK (.int 1)))) mNil))) (mPure (fVar 9))))
  (mSeq (mSet 10 (mCall Psi__law_around dk 0 (mCons (mPure (fVar 1)) (mCons (mPure (fVar 6)) (mCons (mIf (bVal (fVar 3)) (mPure (fK (.int 1))) (mCall Psinext dk 0 (mCons (mPure (fK (.int 9))) mNil))) mNil)))))
  (mS (sApp 5 (fTup (fCons (fVar 8) (fCons (fVar 9) (fCons (fVar 10) fNil)))))))))
   mNilS)
  (mS (sSeq (sFrz 5) (sRet (fTup (fCons (fVar 4) (fCons (fCall (g1 D.tuple) (fCons (fVar 5) fNil)) fNil)))))))))
def Psi__law_book : FWD := runM 3 11 b__law_book

abbrev N__law_book : List Str := ["_law_deck_here", "_law_great", "_law_most", "_law_safe", "_law_begin", "_law_found", "_law_stock", "_law_k", "_law_buy", "_law_want", "_law_keep"]
theorem sc__law_book : FnScope N__law_book ["_law_deck_here", "_law_great", "_law_most", "_law_safe"] (defScope (topS 76)) := ⟨rfl, rfl, rfl, by decide +kernel, rfl, by decide +kernel, by decide +kernel⟩
theorem ok__law_book (T : Txt K mg) : OkM P w K mg base "_law_book" 4 3 Psi__law_book :=
  okM_mk (N := N__law_book) (ps := ["_law_deck_here", "_law_great", "_law_most", "_law_safe"]) (fs := b__law_book) (T.d 53 "_law_book" 76 rfl) sc__law_book rfl (fun _ _ _ _ _ _ _ us hl => match us, hl with | [_, _, _, _], _ => rfl) fun f cdv A outer s H E ddk F0 H0 hr =>
  have nd : N__law_book.Nodup := sc__law_book.nd
  (sw_cons (sw_par2N 4 5 rfl nd (w_op op_sub rd_sub (w_call (ok__law_next T) hr (by decide) 0 (w_acons (w_pure fun F0 H0 => (e_op op_add rd_add (e_op op_mul rd_mul e_int (e_var 1)) e_int)) w_anil) (hl := (mlen_cons mlen_nil))) (w_pure fun F0 H0 => (e_var 1))) (fun F0 H0 => (n_lst a_nil)))
  (sw_cons (sw_pure fun F0 H0 => (s_set 6 nd (e_var 4)))
  (sw_cons (sw_for PassesOwn.never rfl (iw_rng (T.fr 7 "range" rfl) (w_op op_add rd_add (w_pure fun F0 H0 => e_int) (w_call (ok__law_next T) hr (by decide) 0 (w_acons (w_pure fun F0 H0 => (e_var 2)) w_anil) (hl := (mlen_cons mlen_nil))))) (fun F0 H0 => (g_name 7 nd))
   (sw_cons (sw_par2 8 9 rfl nd (w_call (ok__law_data T) hr (by decide) 0 (w_acons (w_pure fun F0 H0 => (e_var 1)) (w_acons (w_pure fun F0 H0 => e_int) w_anil)) (hl := (mlen_cons (mlen_cons mlen_nil)))) (w_op op_sub rd_sub (w_call (ok__law_next T) hr (by decide) 0 (w_acons (w_pure fun F0 H0 => (e_op op_add rd_add (e_op op_mul rd_mul e_int (e_var 1)) e_int)) w_anil) (hl := (mlen_cons mlen_nil))) (w_pure fun F0 H0 => (e_op op_fdiv rd_fdiv (e_var 1) e_int))))
  (sw_cons (sw_set 6 nd (w_op op_sub rd_sub (w_op op_add rd_add (w_pure fun F0 H0 => (e_op op_add rd_add (e_var 6) (e_ix (e_var 8) e_int))) (w_call (ok__law_next T) hr (by decide) 0 (w_acons (w_pure fun F0 H0 => (e_op op_add rd_add (e_callO (ok__law_units T) hr (by decide) (a_cons (e_ix (e_var 8) e_int) a_nil)) e_int)) w_anil) (hl := (mlen_cons mlen_nil)))) (w_pure fun F0 H0 => (e_var 9))))
  (sw_cons (sw_set 10 nd (w_call (ok__law_around T) hr (by decide) 0 (w_acons (w_pure fun F0 H0 => (e_var 1)) (w_acons (w_pure fun F0 H0 => (e_var 6)) (w_acons (w_if (fun F0 H0 => (t_val (e_var 3))) (w_pure fun F0 H0 => e_int) (w_call (ok__law_next T) hr (by decide) 0 (w_acons (w_pure fun F0 H0 => e_int) w_anil) (hl := (mlen_cons mlen_nil)))) w_anil))) (hl := (mlen_cons (mlen_cons (mlen_cons mlen_nil))))))
  (sws_pure fun F0 H0 => (s_one (s_app 5 (e_tup (a_cons (e_var 8) (a_cons (e_var 9) (a_cons (e_var 10) a_nil))))))))))
   sw_nil)
  (sws_pure fun F0 H0 => (s_frz 5 (s_one (s_ret (e_tup (a_cons (e_var 4) (a_cons (e_callT call_tuple_of rc_tuple (T.fr 4 "tuple" rfl) (by decide +kernel) (a_cons (e_var 5) a_nil)) a_nil))))))))))

def b__law_some_plan (dk : Addr) : FWS := (mSeq (mS (sPar3N 2 3 4 (fCall Phi__law_spans (fCons (fVar 1) fNil)) (fLst fNil) (f2 D.ix (fVar 1) (fK (.int 0)))))
  (mSeq (mFor (mItP (fEnum (f2 D.ix (fVar 1) (fK (.int 1))))) (gT (gC (gN 5) (gC (gT (gC (gN 6) (gC (gN 7) (gC (gN 8) gE)))) gE)))
   (mSeq (mS (sPar2 9 10 (fCall (g2 D.max2) (fCons (f2 D.ix (fVar 6) (fK (.int 0))) (fCons (f2 D.sub (f2 D.add (f2 D.ix (f2 D.ix (fVar 2) (fVar 5)) (fK (.int 0))) (fVar 7)) (fVar 4)) fNil))) (fCall (g2 D.min2) (fCons (fCall Phi__law_last (fCons (fVar 6) fNil)) (fCons (f2 D.sub (f2 D.add (f2 D.ix (f2 D.ix (fVar 2) (fVar 5)) (fK (.int 1))) (fVar 7)) (fVar 4)) fNil)))))
  (mSeq (mApp 3 (mOp D.add (mPure (fVar 9)) (mOp D.ix (mLst (mCons (mPure (fK (.int 0))) (mCons (mPure (f2 D.sub (fVar 10) (fVar 9))) (mCons (mCall Psinext dk 0 (mCons (mPure (f2 D.add (f2 D.sub (fVar 10) (fVar 9)) (fK (.int 1)))) mNil)) mNil)))) (mCall Psinext dk 0 (mCons (mPure (fK (.int 3))) mNil)))))
  (mS (sSet 4 (f2 D.sub (f2 D.add (fVar 4) (fIxO 3 (f1 D.neg (fK (.int 1))))) (fVar 7))))))
   mNilS)
  (mS (sSeq (sFrz 3) (sRet (fCall (g1 D.tuple) (fCons (fVar 3) fNil)))))))
def Psi__law_some_plan : FWD := runM 1 11 b__law_some_plan

abbrev N__law_some_plan : List Str := ["_law_deck_here", "_law_book_here", "_law_spans_here", "_law_found", "_law_stock", "_law_k", "_law_buy", "_law_want", "_law_keep", "_law_least", "_law_most"]
theorem sc__law_some_plan : FnScope N__law_some_plan ["_law_deck_here", "_law_book_here"] (defScope (topS 86)) := ⟨rfl, rfl, rfl, by decide +kernel, rfl, by decide +kernel, by decide +kernel⟩
theorem ok__law_some_plan (T : Txt K mg) : OkM P w K mg base "_law_some_plan" 4 1 Psi__law_some_plan :=
  okM_mk (N := N__law_some_plan) (ps := ["_law_deck_here", "_law_book_here"]) (fs := b__law_some_plan) (T.d 63 "_law_some_plan" 86 rfl) sc__law_some_plan rfl (fun _ _ _ _ _ _ _ us hl => match us, hl with | [_, _], _ => rfl) fun f cdv A outer s H E ddk F0 H0 hr =>
  have nd : N__law_some_plan.Nodup := sc__law_some_plan.nd
  (sw_cons (sw_pure fun F0 H0 => (s_par3N 2 3 4 rfl nd (e_callO (ok__law_spans T) hr (by decide) (a_cons (e_var 1) a_nil)) (n_lst a_nil) (e_ix (e_var 1) e_int)))
  (sw_cons (sw_for PassesOwn.never rfl (iw_pure fun F0 H0 => (i_enum (T.fr 16 "enumerate" rfl) (e_ix (e_var 1) e_int))) (fun F0 H0 => (g_tup rfl (gs_cons (g_name 5 nd) (gs_cons (g_tup rfl (gs_cons (g_name 6 nd) (gs_cons (g_name 7 nd) (gs_cons (g_name 8 nd) gs_nil)))) gs_nil))))
   (sw_cons (sw_pure fun F0 H0 => (s_par2 9 10 rfl nd (e_callB (call_max2 rfl) rc_max2 (T.fr 3 "max" rfl) (by decide +kernel) (a_cons (e_ix (e_var 6) e_int) (a_cons (e_op op_sub rd_sub (e_op op_add rd_add (e_ix (e_ix (e_var 2) (e_var 5)) e_int) (e_var 7)) (e_var 4)) a_nil))) (e_callB (call_min2 rfl) rc_min2 (T.fr 2 "min" rfl) (by decide +kernel) (a_cons (e_callO (ok__law_last T) hr (by decide) (a_cons (e_var 6) a_nil)) (a_cons (e_op op_sub rd_sub (e_op op_add rd_add (e_ix (e_ix (e_var 2) (e_var 5)) e_int) (e_var 7)) (e_var 4)) a_nil)))))
  (sw_cons (sw_app 3 (w_op op_add rd_add (w_pure fun F0 H0 => (e_var 9)) (w_ix (w_lst (w_acons (w_pure fun F0 H0 => e_int) (w_acons (w_pure fun F0 H0 => (e_op op_sub rd_sub (e_var 10) (e_var 9))) (w_acons (w_call (ok__law_next T) hr (by decide) 0 (w_acons (w_pure fun F0 H0 => (e_op op_add rd_add (e_op op_sub rd_sub (e_var 10) (e_var 9)) e_int)) w_anil) (hl := (mlen_cons mlen_nil))) w_anil)))) (w_call (ok__law_next T) hr (by decide) 0 (w_acons (w_pure fun F0 H0 => e_int) w_anil) (hl := (mlen_cons mlen_nil))))))
  (sws_pure fun F0 H0 => (s_one (s_set 4 nd (e_op op_sub rd_sub (e_op op_add rd_add (e_var 4) (e_ixO 3 (e_un un_neg ru_neg e_int))) (e_var 7)))))))
   sw_nil)
  (sws_pure fun F0 H0 => (s_frz 3 (s_one (s_ret (e_callT call_tuple_of rc_tuple (T.fr 4 "tuple" rfl) (by decide +kernel) (a_cons (e_var 3) a_nil))))))))

def b__law_wandered (dk : Addr) : FWS := (mSeq (mFor (mRng1 (mCall Psinext dk 0 (mCons (mPure (f2 D.add (fVar 3) (fK (.int 1)))) mNil))) (gN 4)
   (mSeq (mS (sSet 5 (fCall Phi__law_equals (fCons (fVar 1) (fCons (fVar 2) fNil)))))
  (mSIf (bVal (f2 D.ne (fVar 5) (fFrz (fLst fNil))))
   (mSet 2 (mCall Psi__law_one dk 0 (mCons (mPure (fVar 5)) mNil)))
   mNilS))
   mNilS)
  (mS (sRet (fVar 2))))
def Psi__law_wandered : FWD := runM 3 6 b__law_wandered

abbrev N__law_wandered : List Str := ["_law_deck_here", "_law_book_here", "_law_plan", "_law_most", "_law_turn", "_law_near"]
theorem sc__law_wandered : FnScope N__law_wandered ["_law_deck_here", "_law_book_here", "_law_plan", "_law_most"] (defScope (topS 88)) := ⟨rfl, rfl, rfl, by decide +kernel, rfl, by decide +kernel, by decide +kernel⟩
theorem ok__law_wandered (T : Txt K mg) : OkM P w K mg base "_law_wandered" 6 3 Psi__law_wandered :=
  okM_mk (N := N__law_wandered) (ps := ["_law_deck_here", "_law_book_here", "_law_plan", "_law_most"]) (fs := b__law_wandered) (T.d 65 "_law_wandered" 88 rfl) sc__law_wandered rfl (fun _ _ _ _ _ _ _ us hl => match us, hl with | [_, _, _, _], _ => rfl) fun f cdv A outer s H E ddk F0 H0 hr =>
  have nd : N__law_wandered.Nodup := sc__law_wandered.nd
  (sw_cons (sw_for PassesOwn.never rfl (iw_rng (T.fr 7 "range" rfl) (w_call (ok__law_next T) hr (by decide) 0 (w_acons (w_pure fun F0 H0 => (e_op op_add rd_add (e_var 3) e_int)) w_anil) (hl := (mlen_cons mlen_nil)))) (fun F0 H0 => (g_name 4 nd))
   (sw_cons (sw_pure fun F0 H0 => (s_set 5 nd (e_callO (ok__law_equals T) hr (by decide) (a_cons (e_var 1) (a_cons (e_var 2) a_nil)))))
  (sw_one (sw_if (fun F0 H0 => (t_cmp (op_neA hr.units) rd_ne (e_var 5) (e_frz (n_lst a_nil))))
   (sw_one (sw_set 2 nd (w_call (ok__law_one T) hr (by decide) 0 (w_acons (w_pure fun F0 H0 => (e_var 5)) w_anil) (hl := (mlen_cons mlen_nil)))))
   sw_nil)))
   sw_nil)
  (sws_pure fun F0 H0 => (s_one (s_ret (e_var 2)))))

end
end FD
end

section
set_option Elab.async false
set_option linter.all false
set_option maxRecDepth 100000
set_option maxHeartbeats 2000000
/-! FXa: a def that raises; a def called in an except suite with the error that is handled. -/
namespace FD
open PySem PySem.Spec PyProof.Rows L2 StX
section
variable {X : Cx} {pins : List (Addr × Obj)} {σ : L2.St} {H : Hp} {s : Shared} {Q : VK} {us : List Value} {vs : List V} {k : Nat} {f a : Addr} {oe : Obj} {fd : FuncData} {ps : List Str} {sp : Sp}
/-- a call that may raise -/
theorem run_raise {W : WX} (F : FnOk X.prog X.w X.K X.mg X.base (L2N.CX X.prog X.w) k f fd ps sp) (hr : Room k X.A) (hb : Binds X.K fd ps []) (tk : L2N.Takes X W)
    (I : Inv X pins σ H s) (r : Vals vs us) (h : sp vs H Q fun cls d H' => W cls d σ H') : wpAny (model X.prog X.w) X.A (call (.ref f) us) (EP X pins σ Q) X.xe s := by
  have hl : us.length = ps.length := by rw [← r.length]; exact F.len _ _ _ _ h
  refine wpAny_call (codeAny_mono (F.run X.A X.stack s H ⟨us, []⟩ us vs Q _ hr I.env0 (by have := hb s us I.kIn (by simpa using hl); simpa using this) r h) fun r s' hq => ?_)
  cases r with
  | error e => exact tk e s' (L2N.XE.of_call I (fun cls d H' h => h) hq)
  | ok fl =>
    cases fl with
    | ret u => exact I.after hq
    | next => exact False.elim hq
    | brk => exact False.elim hq
    | cont => exact False.elim hq
/-- f(e, ..), f the function that slot i holds; it may raise -/
def tCallX (i : Nat) (f : Addr) (sp : Sp) (W : WX) (t : TA) : TE := fun σ H Q => σ[i]? = some (some (.ref f)) ∧ t σ H fun vs H1 => sp vs H1 Q fun cls d H' => W cls d σ H'
theorem pe_callX {W : WX} {i : Nat} {x : Str} {e : Expr} {es : List Expr} {t : TA} {p pos : Pos} (F : FnOk X.prog X.w X.K X.mg X.base (L2N.CX X.prog X.w) k f fd ps sp) (hr : Room k X.A) (hN : X.N[i]? = some x) (hv : Vis X.env.scope x) (hk : PySem.W.keepIn X.K (.ref f) = true) (hb : Binds X.K fd ps []) (tk : L2N.Takes X W) (ha : PA X (e :: es) t)
    (hdb : (x == ("__debug__" : Str)) = false := by decide) (hcd : (x == ("__classdict__" : Str)) = false := by decide)
    (he : starEach (e :: es) X.env = (false, eval e X.env) :: starEach es X.env := by rfl) (hpl : (backTo pos (starEach es X.env)).any (·.1) = false := by rfl) : PE X (.Call (.Name x p) (e :: es) [] pos) (tCallX i f sp W t) := by
  refine ⟨fun pins s σ H Q I h => ?_⟩
  obtain ⟨hs, ht⟩ := h
  refine wpAny_Call_Name_kw (thn ((pe_var (pos := p) hN hv hdb hcd).run pins s σ H (fun v H1 => v = .ref f ∧ H1 = H) I ⟨.ref f, hs, rfl, rfl⟩) fun u s1 ⟨v, H1, I1, r1, q1⟩ => ?_)
  obtain ⟨rfl, rfl⟩ := q1
  cases r1
  refine PySem.W.callWith_K (h₀ := X.base) I.ok.mod.kin hk (thn (ha.run pos pins s1 σ _ _ I1 ht) fun us s2 ⟨vs, H2, I2, r, q⟩ => ⟨I2.kIn, ?_⟩) he hpl
  exact run_raise F hr hb tk I2 r q
end
/-! ### X(), X an own exception class without own __init__ -/
theorem pmk_own0 {X : Cx} {C : Addr} {bmB : List Value} {B newId initId : String} {x : Str} {p pos : Pos} (F : ExcBaseFacts B newId initId bmB) (q : PySem.W.excIn X.K C bmB newId = true) (gC : X.mg x = some (.ref C))
    (kC : PySem.W.keepIn X.K (.ref C) = true) (r : Raises X (.ref C)) (hg : Gl X x) (hdb : (x == ("__debug__" : Str)) = false := by decide) :
    L2N.PMk X (.Call (.Name x p) [] [] pos) (fun _ H Q => Q (.ref C) none H) := by
  intro pins s σ H Q I h
  refine wpAny_Call_Name_kw (ld_glob I hg gC ?_ hdb)
  refine PySem.W.callWith_K0 I.kIn kC ?_
  show wpAny _ _ (call (.ref C) []) _ _ _
  obtain ⟨bm, N, nm, qn, bs, hdct, sn, sub, ab, col, dd, k0, k1, k2, k3, k5, mN, hC, hN, hni, T⟩ := exc_obj I.kIn q
  refine wpAny_call_exc_subT F T hC hN hni (fun h' e hm => ?_) (Nat.zero_le _)
  exact L2N.mk_of I hm r h (I.hok.gone hm.new)


/-! ### a def called in an except suite, the handled error at p -/
structure FnP (P : Program) (w : World) (K : PySem.W.Frag) (mg : Str → Option Value) (base : Heap) (k : Nat) (f : Addr) (fd : FuncData) (ps : List Str) (p : Addr × Obj) (sp : Sp) : Prop where
  len : ∀ vs H Q E, sp vs H Q E → vs.length = ps.length
  run : ∀ (A : Around) (outer : List Env) (s : Shared) (H : Hp) (args : Args) (us : List Value) (vs : List V) (Q : VK) (E : XK), L2H.RoomH k A → L2H.Hot1 A p → L2H.PinOk outer H s p → Env0 P w K mg base A outer s H → BindsTo s fd args (ps.zip us) → Vals vs us → sp vs H Q E →
    codeAny (model P w) A (.call (.ref f) args) (CR CX0 outer P w H s Q E) s
theorem fn_ofP {P : Program} {w : World} {K : PySem.W.Frag} {mg : Str → Option Value} {base : Heap} {k : Nat} {f : Addr} {x qual : Str} {params : Arguments} {body : List Stmt} {scope : Scope} {fd : FuncData} {N ps : List Str} {p : Addr × Obj} {sp : Sp} (F : FunD K x qual params body scope [] [] f fd) (S : FnScope N ps scope)
    (len : ∀ vs H Q E, sp vs H Q E → vs.length = ps.length)
    (hbody : ∀ (cdv : Value) (A : Around) (outer : List Env) (s : Shared) (H : Hp) (vs : List V) (Q : VK) (E : XK), L2H.Hot1 A p → L2H.RoomH k (A.deeper (envOfC qual scope s.heap.objs.size f cdv)) → sp vs H Q E →
      ∃ t, PSs (L2H.cxH CX0 P w K mg base N qual scope f cdv A outer s H E p) body t ∧ t { nx := fun _ H' => Q .non H', rt := Q } (L2.start N vs) H) : FnP P w K mg base (k + 1) f fd ps p sp := by
  obtain ⟨oc, od, dV, kV, doc, pm, an, cdv, ct, osl, rfl, lk, hcd, _, _⟩ := F.ex
  refine ⟨len, fun A outer s H args us vs Q E hr hot hpin e0 hb r hsp => ?_⟩
  have hl := len _ _ _ _ hsp
  have KX : K.In s.heap := e0.mod.kin.keeps fun b o e => (e0.bs b o e).1
  have lim : s.heap.NoLimit := e0.mod.nolimit.keeps fun b o e => (e0.bs b o e).1
  have hkind : ∀ y ∈ ps.zip us, scope.names.lookup y.1 = some .local ∨ (scope.names.lookup y.1 = some .cell ∧ ((cellsFrom (s.heap.objs.size + 1) scope.names []).lookup y.1).isSome = true) := fun ⟨n, v⟩ hy => by
    rcases S.par n (List.of_mem_zip hy).1 with q | q
    · exact .inl q
    · exact .inr ⟨q, PySem.W.cellsFrom_some _ _ _ (.inl q)⟩
  refine codeAny_call_function hr.depth (KX _ _ lk) rfl S.co S.gen rfl (PySem.W.codeRec_of KX hcd) (hb _ _ _ _ ?_)
  refine wpAny_newFunctionEnv_cells S.kind hkind fun env he s1 x => ?_
  subst he
  refine ⟨lim.keeps x.toInCall.keep, codeAny_func ?_⟩
  obtain ⟨t, ht, hq⟩ := hbody cdv A outer s H vs Q E hot (hr.deeper _) hsp
  have I : Inv (L2H.cxH CX0 P w K mg base N qual scope f cdv A outer s H E p) [] (L2.start N vs) H s1 := L2H.inv_startH S hpin e0 hl r x
  refine wpAny_mono (ht.run [] s1 (L2.start N vs) H _ I hq) (fun fl s' hs => ?_) fun e s' hs => hs
  have fin : ∀ {σ' : L2.St} {H' : Hp} {v : V} {u : Value}, Inv (L2H.cxH CX0 P w K mg base N qual scope f cdv A outer s H E p) [] σ' H' s' → RelV v u → Q v H' → CE outer P w H s Q u s' :=
    fun {σ' H' v u} J rv q => ⟨v, H', J.os, J.bare, J.base, J.hok, rv, q⟩
  cases fl with
  | ret u =>
    obtain ⟨v, σ', H', J, rv, q⟩ := hs
    exact fin J rv q
  | next =>
    obtain ⟨σ', H', J, q⟩ := hs
    exact fin (v := V.non) (u := Value.none) J rfl q
  | brk =>
    obtain ⟨_, _, _, q⟩ := hs
    exact False.elim q
  | cont =>
    obtain ⟨_, _, _, q⟩ := hs
    exact False.elim q
section
variable {X : Cx} {k : Nat} {f : Addr} {fd : FuncData} {ps : List Str} {p0 : Addr × Obj} {sp : Sp} {x : Str} {p pos : Pos} {e : Expr} {es : List Expr} {t : TA}
theorem pe_callP (F : FnP X.prog X.w X.K X.mg X.base k f fd ps p0 sp) (hr : L2H.RoomH k X.A) (hot : L2H.Hot1 X.A p0) (hp : p0 ∈ X.pn) (hg : Gl X x) (hm : X.mg x = some (.ref f)) (hk : PySem.W.keepIn X.K (.ref f) = true) (hb : Binds X.K fd ps [])
    (ha : PA X (e :: es) t) (hdb : (x == ("__debug__" : Str)) = false := by decide) (he : starEach (e :: es) X.env = (false, eval e X.env) :: starEach es X.env := by rfl) (hpl : (backTo pos (starEach es X.env)).any (·.1) = false := by rfl) :
    PE X (.Call (.Name x p) (e :: es) [] pos) (fun σ H Q => t σ H fun vs H1 => sp vs H1 Q E0) := by
  refine ⟨fun pins s σ H Q I h => ?_⟩
  refine wpAny_Call_Name_kw (ld_glob I hg hm ?_ hdb)
  refine PySem.W.callWith_K (h₀ := X.base) I.ok.mod.kin hk (thn (ha.run pos pins s σ H _ I h) fun us s1 ⟨vs, H1, I1, r, q⟩ => ⟨I1.kIn, ?_⟩) he hpl
  have hl : us.length = ps.length := by rw [← r.length]; exact F.len _ _ _ _ q
  have b := hb s1 us I1.kIn (by rw [List.append_nil]; exact hl)
  rw [List.append_nil] at b
  have P1 := I1.pin p0 (List.mem_append_left _ hp)
  have hpin : L2H.PinOk X.stack H1 s1 p0 := ⟨P1.1, P1.2.1, fun hm => (List.mem_cons.mp (I1.stkSub p0.1 hm)).elim P1.2.2.1 P1.2.2.2.1, P1.2.2.2.2⟩
  refine wpAny_call (codeAny_mono (F.run X.A X.stack s1 H1 ⟨us, []⟩ us vs Q E0 hr hot hpin I1.env0 b r q) fun r s' hq => ?_)
  cases r with
  | error e => exact hq.elim
  | ok fl =>
    cases fl with
    | ret u => exact I1.after hq
    | next => exact False.elim hq
    | brk => exact False.elim hq
    | cont => exact False.elim hq
end
/-! ### isinstance of the error at hand -/
theorem inst_of {h : Heap} {a D : Addr} {oe : Obj} (hget : h.get? a = some oe) (hz : Zc (.ref D) none oe) (hf : ∃ vs, oe.data = .fields vs) : PySem.W.InstAt h a oe D none := by
  obtain ⟨vs, hv⟩ := hf
  obtain ⟨oc, od, oda, osl⟩ := oe
  obtain ⟨h1, h2⟩ := hz
  dsimp only at h1 h2 hv
  subst h1 h2 hv
  exact ⟨hget, rfl, rfl, trivial⟩
section
variable {X : Cx} {D a : Addr} {oe : Obj}
theorem call_isX (C : ExcC X.K D) (hp : (a, oe) ∈ X.pn) (hz : Zc (.ref D) none oe) (hf : ∃ vs, oe.data = .fields vs) : CallR X (.builtin "isinstance") (fun xs H Q => ∃ (c : V) (cv : Value) (b : Bool), xs = [.ref a, c] ∧ ClsV c cv ∧ PySem.W.kitOne X.K (.ref D) cv = some b ∧ Q (.bl b) H) := by
  intro pins s σ H xs us Q I r h
  obtain ⟨c, cv, b, rfl, hcv, e, q⟩ := h
  obtain ⟨u1, u2, rfl, r1, r2⟩ := vals2 r
  cases (show u1 = Value.ref a from r1)
  have e2 := hcv.eq r2
  subst e2
  have J := inst_of (I.pin (a, oe) (List.mem_append_left _ hp)).1 hz hf
  exact PySem.W.kia_one (PySem.W.handS_kitx_exc C.hg C.hk C.hs C.hd C.ha C.hn C.ht C.hm) I.kIn J e (fun z => nomatch z) fun tk => ⟨.bl b, H, I.kept (t' := tk) fun _ _ z => z, rfl, q⟩
theorem call_isXT (C : ExcC X.K D) (hp : (a, oe) ∈ X.pn) (hz : Zc (.ref D) none oe) (hf : ∃ vs, oe.data = .fields vs) : CallR X (.builtin "isinstance") (fun xs H Q => ∃ (tp : Addr) (cs : List V) (ws : List Value) (b : Bool), xs = [.ref a, .ref tp] ∧ H tp = some (.tup cs) ∧ Paired ClsV cs ws ∧ PySem.W.kitAny X.K (.ref D) ws = some b ∧ Q (.bl b) H) := by
  intro pins s σ H xs us Q I r h
  obtain ⟨tp, cs, ws, b, rfl, hT, k, e, q⟩ := h
  obtain ⟨u1, u2, rfl, r1, r2⟩ := vals2 r
  cases (show u1 = Value.ref a from r1)
  cases (show u2 = Value.ref tp from r2)
  have J := inst_of (I.pin (a, oe) (List.mem_append_left _ hp)).1 hz hf
  obtain ⟨_, its, rv, o, h1, h2, n, h3⟩ := (show ObjOk X.prog X.w H s.heap tp (.tup cs) from I.hok tp _ hT)
  have e3 := ClsV.all k rv
  subst e3
  obtain ⟨oc, od, dt, sl⟩ := o
  simp only at h2 h3
  subst h2 h3
  exact PySem.W.kia_tup (PySem.W.handS_kitx_exc C.hg C.hk C.hs C.hd C.ha C.hn C.ht C.hm) I.kIn J h1 e (fun z => nomatch z) fun tk => ⟨.bl b, H, I.kept (t' := tk) fun _ _ z => z, rfl, q⟩
end
end FD
end

section
set_option Elab.async false
set_option linter.all false
set_option maxRecDepth 100000
set_option maxHeartbeats 2000000
/-! FXb: after_change (it may raise NoChange), _law_refusal of that error. -/
namespace FD
open PySem PySem.Spec PyProof.Rows L2 StX
abbrev veMro : List Value := [.type "ValueError", .type "Exception", .type "BaseException", .type "object"]
/-- what the text says of the error classes; C: NoChange -/
structure ErrTxt (K : PySem.W.Frag) (mg : Str → Option Value) (C : Addr) : Prop where
  gC : mg "NoChange" = some (.ref C)
  kC : PySem.W.keepIn K (.ref C) = true
  ex : PySem.W.excIn K C veMro "ValueError.__new__" = true
  ty : PySem.W.typeIn K (.ref C) = some (.type "type")
  gE : ∃ c, mg "CurveError" = some (.ref c) ∧ PySem.W.exmOne K (.ref C) (.ref c) = some true
  cls : ExcC K C
  np : ∃ c, mg "NoPlan" = some (.ref c) ∧ PySem.W.kitOne K (.ref C) (.ref c) = some false
  nw : ∃ c, mg "NoWay" = some (.ref c) ∧ PySem.W.kitOne K (.ref C) (.ref c) = some false
  tm : ∃ c, mg "TooMany" = some (.ref c) ∧ PySem.W.kitOne K (.ref C) (.ref c) = some false
  pt : ∃ c d, mg "NoPeriod" = some (.ref c) ∧ mg "NoTotal" = some (.ref d) ∧ PySem.W.kitAny K (.ref C) [.ref c, .ref d] = some false
  ve : PySem.W.kitOne K (.ref C) (.type "ValueError") = some true
def spX (K : PySem.W.Frag) (n : Nat) (C : Addr) (Phi : List D → Option (Option D)) : Sp := fun vs H Q E => ∃ F ds o, vs.length = n ∧ Same F H ∧ Rps K F vs ds ∧ Phi ds = some o ∧ (∀ d, o = some d → ∀ v F' H', Ext F H F' H' → Rp K F' v d → Q v H') ∧ (o = none → ∀ F' H', Ext F H F' H' → E (.ref C) none H')
structure OkX (P : Program) (w : World) (K : PySem.W.Frag) (mg : Str → Option Value) (base : Heap) (x : Str) (k n : Nat) (C : Addr) (Phi : List D → Option (Option D)) : Prop where
  ex : ∃ (f : Addr) (fd : FuncData) (ps : List Str), mg x = some (.ref f) ∧ PySem.W.keepIn K (.ref f) = true ∧ Binds K fd ps [] ∧ FnOk P w K mg base (L2N.CX P w) k f fd ps (spX K n C Phi)
abbrev fChk : FE := fCall Phi_check_plan (fCons (fVar 0) (fCons (fVar 1) fNil))
abbrev fTst : FT := bOr (bNot (bVal (fCall Phi_is_change (fCons (fVar 0) (fCons (fVar 2) fNil))))) (bNot (bVal (fCall Phi_fits (fCons (fVar 0) (fCons (fCall Phi_changed (fCons (fVar 1) (fCons (fVar 2) fNil))) fNil)))))
abbrev fChd : FE := fCall Phi_changed (fCons (fVar 1) (fCons (fVar 2) fNil))
def Phi_afterX (ds : List D) : Option (Option D) := if ds.length = 3 then (fChk (startR 3 ds)).bind fun _ => (fTst (startR 3 ds)).bind fun b => if b = true then some none else (fChd (startR 3 ds)).bind fun d => some (some d) else none
section
variable {P : Program} {w : World} {K : PySem.W.Frag} {mg : Str → Option Value} {base : Heap} {C : Addr}
abbrev N_acX : List Str := ["book", "plan", "change"]
theorem sc_acX : FnScope N_acX ["book", "plan", "change"] (defScope (topS 54)) := ⟨rfl, rfl, rfl, by decide +kernel, rfl, by decide +kernel, by decide +kernel⟩
theorem ok_after_changeX (T : Txt K mg) (ER : ErrTxt K mg C) : OkX P w K mg base "after_change" 6 3 C Phi_afterX := by
  obtain ⟨fd, Fn, hm⟩ := T.d 32 "after_change" 54 rfl
  refine ⟨_, fd, ["book", "plan", "change"], hm, Fn.kp, Fn.bindsN fun kV doc pm an cdv ct us hl => (match us, hl with | [_, _, _], _ => rfl), Fn.ok sc_acX (fun vs H Q E h => ?_) (fun cdv A outer s H vs Q E hr hsp => ?_)⟩
  · obtain ⟨F, ds, o, el, _⟩ := h
    exact el
  · obtain ⟨F, ds, o, el, sm, r, e, q1, q2⟩ := hsp
    have tk : L2N.Takes (cxOf (L2N.CX P w) P w K mg base N_acX "after_change" (defScope (topS 54)) (He.ga K "after_change") cdv A outer s H E) (fun cls d _ H => E cls d H) := L2N.takes_of rfl rfl rfl rfl
    have rs : Raises (cxOf (L2N.CX P w) P w K mg base N_acX "after_change" (defScope (topS 54)) (He.ga K "after_change") cdv A outer s H E) (.ref C) := raises_own ER.cls.hs ER.ty
    refine ⟨_, pss_cons (s_do (F0 := F) (H0 := H) (fe := fChk) (e_callO (ok_check_plan T) hr (by decide) (a_cons (e_var 0) (a_cons (e_var 1) a_nil))))
      (pss_cons (ps_if (tc := tB1 K F H fTst) (PW.pt (w_or (t_not (t_val (e_callO (ok_is_change T) hr (by decide) (a_cons (e_var 0) (a_cons (e_var 2) a_nil))))) (w_or1 (t_not (t_val (e_callO (ok_fits T) hr (by decide) (a_cons (e_var 0) (a_cons (e_callO (ok_changed T) hr (by decide) (a_cons (e_var 1) (a_cons (e_var 2) a_nil))) a_nil))))))))
        (pss_one (L2N.ps_raise rfl tk (pmk_own0 PySem.F.excBase_ValueError ER.ex ER.gC ER.kC rs rfl))) pss_nil)
      (pss_one (s_ret (F0 := F) (H0 := H) (fe := fChd) (e_callO (ok_changed T) hr (by decide) (a_cons (e_var 1) (a_cons (e_var 2) a_nil)))))), ?_⟩
    unfold Phi_afterX at e
    split at e
    · obtain ⟨d0, e1, e⟩ := bind_some' e
      obtain ⟨b, e2, e⟩ := bind_some' e
      have S0 : SR K F H F H (L2.start N_acX vs) (startR 3 ds) := sr_start (N := N_acX) sm r (by rw [el]; decide)
      refine ⟨F, _, .nx _, S0, by unfold sDo; rw [e1]; rfl, fun σ1 F1 H1 s1 S1 => ⟨F1, _, b, S1, e2, fun F2 H2 X2 => ?_⟩⟩
      cases b with
      | true =>
        rw [if_pos rfl] at e
        cases e
        exact iteT (q2 rfl F2 H2 (S1.ext.trans X2))
      | false =>
        rw [if_neg Bool.false_ne_true] at e
        obtain ⟨d, e3, e⟩ := bind_some' e
        cases e
        exact iteF ⟨F2, _, .rt d, S1.to X2, by unfold sRet; rw [e3]; rfl, fun v F3 H3 X3 r3 => q1 d rfl v F3 H3 X3 r3⟩
    · cases e
end
end FD
end

section
set_option Elab.async false
set_option linter.all false
set_option maxRecDepth 100000
set_option maxHeartbeats 2000000
/-! FXc: _law_refusal of NoChange, _law_asked of after_change. -/
namespace FD
open PySem PySem.Spec PyProof.Rows L2 StX
/-- isinstance of the error that slot i holds -/
def fIsX (a : Addr) (i : Nat) (b : Bool) : FE := fun ρ => match ρ[i]? with
  | some (.ad c) => if c = a then some (.bl b) else none
  | _ => none
def fRep (x y : FE) : FL := fun ρ => (x ρ).bind fun x => (y ρ).bind fun y => match x, y with
  | .lst ds, .int k => if 0 ≤ k ∧ k ≤ 1000 ∧ ds.length ≤ 100 then some (List.replicate k.toNat ds).flatten else none
  | _, _ => none
theorem rps_rep {K : PySem.W.Frag} {F : Hp} {vs : List V} {ds : List D} (r : Rps K F vs ds) : ∀ n : Nat, Rps K F (List.replicate n vs).flatten (List.replicate n ds).flatten
  | 0 => .nil
  | n + 1 => by
    rw [List.replicate_succ, List.replicate_succ, List.flatten_cons, List.flatten_cons]
    exact r.append (rps_rep r n)
section
variable {X : Cx} {F0 H0 : Hp} {fa fb : FE} {x y : Expr} {pos p pe pc : Pos} {a D c d : Addr} {oe : Obj} {b : Bool} {err cn dn : Str}
theorem isX_get {K : PySem.W.Frag} {F H : Hp} {σ : L2.St} {ρ : Rho} {i : Nat} {r : FD.D} (S : SR K F0 H0 F H σ ρ) (e : fIsX a i b ρ = some r) : σ[i]? = some (some (.ref a)) ∧ r = .bl b := by
  unfold fIsX at e
  split at e
  · rename_i c0 h
    split at e
    · rename_i hc
      cases e
      obtain ⟨o, e1, rr⟩ := S.get h
      cases rr
      rw [hc] at e1
      exact ⟨e1, rfl⟩
    · cases e
  · cases e
theorem e_isX (i : Nat) (Cl : ExcC X.K D) (hF : (a, oe) ∈ X.pn) (hz : Zc (.ref D) none oe) (hf : ∃ vs, oe.data = .fields vs) (hm : X.mg "isinstance" = none) (hc : X.mg cn = some (.ref c)) (hk : PySem.W.kitOne X.K (.ref D) (.ref c) = some b) (hN : X.N[i]? = some err := by rfl) (hg : Gl X "isinstance" := by rfl) (hg2 : Gl X cn := by rfl)
    (hv : Vis X.env.scope err := by first | exact Or.inl rfl | exact Or.inr (Or.inl rfl) | exact Or.inr (Or.inr rfl)) (hd : (err == ("__debug__" : Str)) = false := by decide) (hcd : (err == ("__classdict__" : Str)) = false := by decide) (hd2 : (cn == ("__debug__" : Str)) = false := by decide)
    (he : starEach [.Name err pe, .Name cn pc] X.env = (false, eval (.Name err pe) X.env) :: starEach [.Name cn pc] X.env := by rfl) (hpl : (backTo pos (starEach [.Name cn pc] X.env)).any (·.1) = false := by rfl) :
    PE X (.Call (.Name "isinstance" p) [.Name err pe, .Name cn pc] [] pos) (tD X.K F0 H0 (fIsX a i b)) :=
  (pe_callB (call_isX Cl hF hz hf) hg hm (by decide +kernel) (pa_cons (pe_var hN hv hd hcd) (pa_cons (pe_glob (v := .ref c) hg2 hc rfl hd2) pa_nil) he) (by decide) (by decide) he hpl).imp fun σ H Q ⟨F, ρ, r, S, e, q⟩ => by
    obtain ⟨h1, rfl⟩ := isX_get S e
    exact ⟨_, h1, .ref c, .ref c, b, rfl, .own c, hk, q _ F H (Ext.refl S.fh) (.bl b)⟩
theorem e_isXB (i : Nat) (T : String) (Cl : ExcC X.K D) (hF : (a, oe) ∈ X.pn) (hz : Zc (.ref D) none oe) (hf : ∃ vs, oe.data = .fields vs) (hm : X.mg "isinstance" = none) (hm2 : X.mg cn = none) (hvb : bootBuiltins cn = some (.type T)) (hk : PySem.W.kitOne X.K (.ref D) (.type T) = some b) (hN : X.N[i]? = some err := by rfl) (hg : Gl X "isinstance" := by rfl) (hg2 : Gl X cn := by rfl)
    (hv : Vis X.env.scope err := by first | exact Or.inl rfl | exact Or.inr (Or.inl rfl) | exact Or.inr (Or.inr rfl)) (hd : (err == ("__debug__" : Str)) = false := by decide) (hcd : (err == ("__classdict__" : Str)) = false := by decide) (hn : cn ≠ "__name__" := by decide) (hd2 : (cn == ("__debug__" : Str)) = false := by decide)
    (he : starEach [.Name err pe, .Name cn pc] X.env = (false, eval (.Name err pe) X.env) :: starEach [.Name cn pc] X.env := by rfl) (hpl : (backTo pos (starEach [.Name cn pc] X.env)).any (·.1) = false := by rfl) :
    PE X (.Call (.Name "isinstance" p) [.Name err pe, .Name cn pc] [] pos) (tD X.K F0 H0 (fIsX a i b)) :=
  (pe_callB (call_isX Cl hF hz hf) hg hm (by decide +kernel) (pa_cons (pe_var hN hv hd hcd) (pa_cons (pe_bltn (v := .ty T) hg2 hm2 hvb rfl hn hd2) pa_nil) he) (by decide) (by decide) he hpl).imp fun σ H Q ⟨F, ρ, r, S, e, q⟩ => by
    obtain ⟨h1, rfl⟩ := isX_get S e
    exact ⟨_, h1, .ty T, .type T, b, rfl, .ty T, hk, q _ F H (Ext.refl S.fh) (.bl b)⟩
theorem e_isXT (i : Nat) {k : Nat} {pt pd : Pos} (Cl : ExcC X.K D) (hF : (a, oe) ∈ X.pn) (hz : Zc (.ref D) none oe) (hf : ∃ vs, oe.data = .fields vs) (hm : X.mg "isinstance" = none) (hc : X.mg cn = some (.ref c)) (hd' : X.mg dn = some (.ref d)) (hk : PySem.W.kitAny X.K (.ref D) [.ref c, .ref d] = some b) (hN : X.N[i]? = some err := by rfl) (hg : Gl X "isinstance" := by rfl) (hg2 : Gl X cn := by rfl) (hg3 : Gl X dn := by rfl)
    (hv : Vis X.env.scope err := by first | exact Or.inl rfl | exact Or.inr (Or.inl rfl) | exact Or.inr (Or.inr rfl)) (hd : (err == ("__debug__" : Str)) = false := by decide) (hcd : (err == ("__classdict__" : Str)) = false := by decide) (hd2 : (cn == ("__debug__" : Str)) = false := by decide) (hd3 : (dn == ("__debug__" : Str)) = false := by decide)
    (he : starEach [.Name err pe, .Tuple [.Name cn pc, .Name dn pd] k pt] X.env = (false, eval (.Name err pe) X.env) :: starEach [.Tuple [.Name cn pc, .Name dn pd] k pt] X.env := by rfl) (he2 : starEach [.Name cn pc, .Name dn pd] X.env = (false, eval (.Name cn pc) X.env) :: starEach [.Name dn pd] X.env := by rfl) (hpl : (backTo pos (starEach [.Tuple [.Name cn pc, .Name dn pd] k pt] X.env)).any (·.1) = false := by rfl) :
    PE X (.Call (.Name "isinstance" p) [.Name err pe, .Tuple [.Name cn pc, .Name dn pd] k pt] [] pos) (tD X.K F0 H0 (fIsX a i b)) :=
  (pe_callB (call_isXT Cl hF hz hf) hg hm (by decide +kernel) (pa_cons (pe_var hN hv hd hcd) (pa_cons (pe_tup (pa_cons (pe_glob (v := .ref c) hg2 hc rfl hd2) (pa_cons (pe_glob (v := .ref d) hg3 hd' rfl hd3) pa_nil) he2)) pa_nil) he) (by decide) (by decide) he hpl).imp fun σ H Q ⟨F, ρ, r, S, e, q⟩ => by
    obtain ⟨h1, rfl⟩ := isX_get S e
    refine ⟨_, h1, (show 2 ≤ sizeLine by rw [sizeLine_eq]; decide), fun tp htp => ?_⟩
    have y := Ext.free (o := .tup [.ref c, .ref d]) S.fh htp
    exact ⟨tp, _, _, b, rfl, upd_same, .cons (.own c) (.cons (.own d) .nil), hk, q _ F _ y (.bl b)⟩
theorem n_rep (ha : PE X x (tD X.K F0 H0 fa)) (hb : PE X y (tD X.K F0 H0 fb)) : PE X (.BinOp x .Mult y pos) (tN X.K F0 H0 (fRep fa fb)) :=
  (pe_op op_rep ha hb).imp fun σ H Q ⟨F, ρ, d, S, e, q⟩ => by
    obtain ⟨x, e1, e⟩ := bind_some' e
    obtain ⟨y, e2, e⟩ := bind_some' e
    refine ⟨F, ρ, x, S, e1, fun v F1 H1 X1 r1 => ⟨F1, ρ, y, S.to X1, e2, fun u F2 H2 X2 r2 => ?_⟩⟩
    cases r1 with
    | @lst a vs ds ht r =>
      cases r2 with
      | int k =>
        have e' : (if 0 ≤ k ∧ k ≤ 1000 ∧ ds.length ≤ 100 then some (List.replicate k.toNat ds).flatten else none) = some d := e
        split at e'
        · rename_i hz
          cases e'
          refine ⟨a, k, vs, rfl, rfl, X2.h _ _ (X1.fh _ _ ht), by omega, by omega, ?_, fun p hp => ?_⟩
          · rw [r.length, sizeLine_eq]
            have h1 : ds.length * k.toNat ≤ 100 * 1000 := Nat.mul_le_mul hz.2.2 (by omega)
            omega
          · have y := Ext.free (o := .lst (List.replicate k.toNat vs).flatten) X2.fh hp
            have Y := X1.trans X2
            exact q p _ F2 _ (Y.trans y) (Y.fresh hp) upd_same (X2.fh.free hp) (rps_rep (r.mono X2.f) _)
        · cases e'
      | _ => cases e
    | _ => cases e
end

/-! ### _law_refusal -/
abbrev fOne (z : Str) : FE := fFrz (fLst (fCons (fK (.str z)) fNil))
abbrev fKind (a : Addr) (z : Str) (b : Bool) : FE := fFrz (fRep (fFrz (fLst (fCons (fOne z) fNil))) (fCall (g1 D.toI) (fCons (fIsX a 1 b) fNil)))
def b_refusal (a : Addr) : FS := sSeq (sSetN 2 (fCatL (fKind a "NoPlan" false) (fKind a "NoChange" true)))
  (sSeq (sIf (bVal (fIsX a 1 false)) sNo sNil) (sSeq (sIf (bVal (fIsX a 1 false)) sNo sNil) (sSeq (sIf (bVal (fIsX a 1 false)) sNo sNil)
  (sRet (fIf (bAnd (bVal (f2 D.eq (fLenO 2) (fK (.int 1)))) (bVal (fIsX a 1 true))) (fIxO 2 (fK (.int 0))) (fOne "other"))))))
theorem refusal_val (a : Addr) (d : D) : b_refusal a [.dat d, .ad a, .un] = some (.rt (.lst [.str "NoChange"])) := by
  simp [b_refusal, sSeq, sSetN, fCatL, fKind, fOne, fFrz, fRep, fLst, fCons, fNil, fK, fCall, g1, fIsX, sIf, bVal, sNil, sRet, fIf, bAnd, f2, fLenO, fIxO, chk, D.toI, D.toB, D.eq, D.eqq, D.ix, atI, ixN, toPy, flatD]

/-- what _law_refusal is asked: the error at a -/
def spRef (K : PySem.W.Frag) (a : Addr) : Sp := fun vs H Q _ => ∃ F vb d, vs = [vb, .ref a] ∧ Same F H ∧ Rp K F vb d ∧ ∀ v F' H', Ext F H F' H' → Rp K F' v (.lst [.str "NoChange"]) → Q v H'
structure OkRef (P : Program) (w : World) (K : PySem.W.Frag) (mg : Str → Option Value) (base : Heap) (C : Addr) : Prop where
  ex : ∃ (f : Addr) (fd : FuncData) (ps : List Str), mg "_law_refusal" = some (.ref f) ∧ PySem.W.keepIn K (.ref f) = true ∧ Binds K fd ps [] ∧ ∀ (a : Addr) (oe : Obj), Zc (.ref C) none oe → (∃ vs, oe.data = .fields vs) → FnP P w K mg base 2 f fd ps (a, oe) (spRef K a)
abbrev N__law_refusal : List Str := ["_law_book_here", "_law_error", "_law_found"]
theorem sc__law_refusal : FnScope N__law_refusal ["_law_book_here", "_law_error"] (defScope (topS 83)) := ⟨rfl, rfl, rfl, by decide +kernel, rfl, by decide +kernel, by decide +kernel⟩
section
variable {P : Program} {w : World} {K : PySem.W.Frag} {mg : Str → Option Value} {base : Heap} {C : Addr}
theorem body_refusal (T : Txt K mg) (ER : ErrTxt K mg C) {a : Addr} {oe : Obj} (hz : Zc (.ref C) none oe) (hf : ∃ vs, oe.data = .fields vs) (f : Addr) (cdv : Value) (A : Around) (outer : List Env) (s : Shared) (H : Hp) (E : XK) (F0 H0 : Hp) (hr : L2H.RoomH 1 (A.deeper (envOfC "_law_refusal" (defScope (topS 83)) s.heap.objs.size f cdv))) :
    PSs (L2H.cxH CX0 P w K mg base N__law_refusal "_law_refusal" (defScope (topS 83)) f cdv A outer s H E (a, oe)) (defBody (topS 83)) (tS K F0 H0 (b_refusal a)) := by
  have nd : N__law_refusal.Nodup := sc__law_refusal.nd
  obtain ⟨c1, g1, k1⟩ := ER.np
  obtain ⟨c2, g2, k2⟩ := ER.nw
  obtain ⟨c3, g3, k3⟩ := ER.tm
  obtain ⟨c4, c5, g4, g5, k4⟩ := ER.pt
  have k0 : PySem.W.kitOne K (.ref C) (.ref C) = some true := by unfold PySem.W.kitOne; simp
  have mi : mg "isinstance" = none := T.fr 10 "isinstance" rfl
  have hF : (a, oe) ∈ (L2H.cxH CX0 P w K mg base N__law_refusal "_law_refusal" (defScope (topS 83)) f cdv A outer s H E (a, oe)).pn := List.mem_cons_self
  have hu : (A.deeper (envOfC "_law_refusal" (defScope (topS 83)) s.heap.objs.size f cdv)).units + 64 < cLine := by have := hr.un; omega
  exact s_cons (s_setN 2 nd (n_cat (e_frz (n_rep (e_frz (n_lst (a_cons (e_frz (n_lst (a_cons e_str a_nil))) a_nil))) (e_callT call_int1 rc_int (T.fr 13 "int" rfl) (by decide +kernel) (a_cons (e_isX 1 ER.cls hF hz hf mi g1 k1) a_nil))))
      (e_frz (n_rep (e_frz (n_lst (a_cons (e_frz (n_lst (a_cons e_str a_nil))) a_nil))) (e_callT call_int1 rc_int (T.fr 13 "int" rfl) (by decide +kernel) (a_cons (e_isX 1 ER.cls hF hz hf mi ER.gC k0) a_nil))))))
    (s_cons (s_if (t_val (e_isX 1 ER.cls hF hz hf mi g2 k2)) (s_one s_no) s_nil)
    (s_cons (s_if (t_val (e_isX 1 ER.cls hF hz hf mi g3 k3)) (s_one s_no) s_nil)
    (s_cons (s_if (t_val (e_isXT 1 ER.cls hF hz hf mi g4 g5 k4)) (s_one s_no) s_nil)
    (s_one (s_ret (e_if (PW.pt (w_and (t_cmp (op_eqA hu) rd_eq (e_lenO 2 (T.fr 0 "len" rfl)) e_int) (w_and1 (t_val (e_isXB 1 "ValueError" ER.cls hF hz hf mi (T.fr 17 "ValueError" rfl) (by decide +kernel) ER.ve))))) (e_ixO 2 e_int) (e_frz (n_lst (a_cons e_str a_nil)))))))))
theorem ok__law_refusal (T : Txt K mg) (ER : ErrTxt K mg C) : OkRef P w K mg base C := by
  obtain ⟨fd, Fn, hm⟩ := T.d 60 "_law_refusal" 83 rfl
  refine ⟨_, fd, ["_law_book_here", "_law_error"], hm, Fn.kp, Fn.bindsN fun kV doc pm an cdv ct us hl => (match us, hl with | [_, _], _ => rfl), fun a oe hz hf => fn_ofP Fn sc__law_refusal (fun vs H Q E h => ?_) (fun cdv A outer s H vs Q E hot hr hsp => ?_)⟩
  · obtain ⟨F, vb, d, rfl, _⟩ := h
    rfl
  · obtain ⟨F, vb, d, rfl, sm, rr, q⟩ := hsp
    refine ⟨tS K F H (b_refusal a), body_refusal T ER hz hf _ cdv A outer s H E _ _ hr, F, [.dat d, .ad a, .un], .rt (.lst [.str "NoChange"]), ?_, refusal_val a d, fun v F' H' X' r' => q v F' H' X' r'⟩
    refine ⟨Ext.refl sm, rfl, fun i o sl h1 h2 => ?_, fun i b ds h1 h2 => ?_, fun i j b ds es h1 h2 h3 h4 => ?_⟩
    · match i with
      | 0 => cases h1; cases h2; exact .dat rr
      | 1 => cases h1; cases h2; exact .ad a
      | 2 => cases h2; exact .un _
      | n + 3 => cases h2
    · match i with
      | 0 => cases h2
      | 1 => cases h2
      | 2 => cases h2
      | n + 3 => cases h2
    · match i with
      | 0 => cases h3
      | 1 => cases h3
      | 2 => cases h3
      | n + 3 => cases h3
end
end FD
end

section
set_option Elab.async false
set_option linter.all false
set_option maxRecDepth 100000
set_option maxHeartbeats 2000000
/-! FXd: _law_asked of after_change. -/
namespace FD
open PySem PySem.Spec PyProof.Rows L2 StX
def askD : Option D → D
  | some d => .lst [.str "returned", d]
  | none => .lst [.str "NoChange"]
def spAsk (K : PySem.W.Frag) (mg : Str → Option Value) : Sp := fun vs H Q _ => ∃ F fa vb vl book plan chg o, vs = [.ref fa, vb, vl] ∧ mg "after_change" = some (.ref fa) ∧ Same F H ∧ Rp K F vb book ∧ Rp K F vl (.lst [plan, chg]) ∧ Phi_afterX [book, plan, chg] = some o ∧ ∀ v F' H', Ext F H F' H' → Rp K F' v (askD o) → Q v H'
structure OkAsk (P : Program) (w : World) (K : PySem.W.Frag) (mg : Str → Option Value) (base : Heap) : Prop where
  ex : ∃ (f : Addr) (fd : FuncData) (ps : List Str), mg "_law_asked" = some (.ref f) ∧ PySem.W.keepIn K (.ref f) = true ∧ Binds K fd ps [] ∧ FnOk P w K mg base CX0 7 f fd ps (spAsk K mg)
abbrev N__law_asked : List Str := ["_law_call", "_law_book_here", "_law_some", "_law_error"]
theorem sc__law_asked : FnScope N__law_asked ["_law_call", "_law_book_here", "_law_some"] (defScope (topS 84)) := ⟨rfl, rfl, rfl, by decide +kernel, rfl, by decide +kernel, by decide +kernel⟩
def tAsk (K : PySem.W.Frag) (F0 H0 : Hp) (C fa : Addr) (W : WX) : TS := fun Dn σ H => ∃ F book plan chg o, SR K F0 H0 F H σ [.ad fa, .dat book, .dat (.lst [plan, chg]), .un] ∧ Phi_afterX [book, plan, chg] = some o ∧ (∀ d, o = some d → ∀ v F' H', Ext F0 H0 F' H' → Rp K F' v (.lst [.str "returned", d]) → Dn.rt v H') ∧
  (o = none → ∀ σ' F' H', SR K F0 H0 F' H' σ' [.ad fa, .dat book, .dat (.lst [plan, chg]), .un] → W (.ref C) none σ' H')
def tSui (K : PySem.W.Frag) (F0 H0 : Hp) (C : Addr) (a : Addr) (cls : Value) (d : Option Addr) : TS := fun Dn σ H => cls = .ref C ∧ d = none ∧ ∃ F book ρ0 ρ2 ρ3, SR K F0 H0 F H σ [ρ0, .dat book, ρ2, ρ3] ∧ σ[3]? = some (some (.ref a)) ∧ ∀ v F' H', Ext F0 H0 F' H' → Rp K F' v (.lst [.str "NoChange"]) → Dn.rt v H'
section
variable {P : Program} {w : World} {K : PySem.W.Frag} {mg : Str → Option Value} {base : Heap} {C : Addr}
theorem body_ask (T : Txt K mg) (ER : ErrTxt K mg C) (f : Addr) (cdv : Value) (A : Around) (outer : List Env) (s0 : Shared) (H00 : Hp) (E : XK) (F0 H0 : Hp) (fa : Addr) (hfa : mg "after_change" = some (.ref fa)) (hr : Room 6 (A.deeper (envOfC "_law_asked" (defScope (topS 84)) s0.heap.objs.size f cdv))) :
    PSs (cxOf CX0 P w K mg base N__law_asked "_law_asked" (defScope (topS 84)) f cdv A outer s0 H00 E).nox (defBody (topS 84)) (fun Dn σ H => ∃ F book plan chg o, SR K F0 H0 F H σ [.ad fa, .dat book, .dat (.lst [plan, chg]), .un] ∧ Phi_afterX [book, plan, chg] = some o ∧ ∀ v F' H', Ext F0 H0 F' H' → Rp K F' v (askD o) → Dn.rt v H') := by
  have nd : N__law_asked.Nodup := sc__law_asked.nd
  obtain ⟨f1, fd1, ps1, hm1, hk1, hb1, hF1⟩ := (ok_after_changeX (P := P) (w := w) (base := base) T ER).ex
  rw [hfa] at hm1
  cases hm1
  obtain ⟨f2, fd2, ps2, hm2, hk2, hb2, hF2⟩ := (ok__law_refusal (P := P) (w := w) (base := base) T ER).ex
  obtain ⟨ce, hce, hex⟩ := ER.gE
  refine PSs.imp (pss_one (L2N.ps_try_as (i := 3) (c := .ref ce) (tb := tAsk K F0 H0 C fa) (ts := tSui K F0 H0 C) (Wout := fun _ _ _ _ => False) rfl rfl nd rfl rfl ⟨rfl, by decide, .inl hce⟩ (fun u s' x => by
      obtain ⟨_, _, _, _, _, _, _, _, _, _, _, _, _, _, _, _, z⟩ := x
      exact z.elim)
    (fun W pn xe tk _ => ?_) (fun a oe cls d pn hz hf => ?_))) ?_
  · refine PSs.imp (pss_cons (s_if (F0 := F0) (H0 := H0) (f' := sNil) (t_cmp op_lt rd_lt (e_callB call_len_seq rc_len (T.fr 0 "len" rfl) PySem.boot_len (a_cons (e_var 2) a_nil)) e_int) (s_one s_no) s_nil)
      (pss_one (ps_ret (pe_lst (pa_cons pe_str (pa_cons (pe_callX (i := 0) hF1 hr rfl (Or.inl rfl) hk1 hb1 tk (a_cons (F0 := F0) (H0 := H0) (e_var 1) (a_cons (e_ix (e_var 2) e_int) (a_cons (e_ix (e_var 2) e_int) a_nil)))) pa_nil)))))) ?_
    rintro Dn σ H1 ⟨F, book, plan, chg, o, S, e, q1, q2⟩
    refine ⟨F, _, .nx _, S, rfl, fun σ1 F1 H2 s1 S1 => ?_⟩
    obtain ⟨o0, h0, r0⟩ := S1.get (i := 0) rfl
    cases r0
    refine ⟨h0, F1, _, [book, plan, chg], S1, rfl, fun vs F2 H3 X2 r2 => ⟨F2, [book, plan, chg], o, by rw [r2.length]; rfl, X2.fh, r2, e, fun d eo v F3 H4 X3 r3 => ?_, fun eo F3 H4 X3 => ?_⟩⟩
    · refine ⟨(show 2 ≤ sizeLine by rw [sizeLine_eq]; decide), fun p hp => ?_⟩
      have y := Ext.new (o := .lst [.str "returned", v]) X3.fh hp
      refine q1 d eo _ _ _ ((S1.ext.trans (X2.trans X3)).trans y) (.lst upd_same (.cons (.str _) (.cons (r3.mono y.f) .nil)))
    · exact q2 eo σ1 F3 H4 (S1.to (X2.trans X3))
  · refine ⟨fun pins s σ H Dn I ⟨ec, ed, F, book, ρ0, ρ2, ρ3, S, h3, q⟩ => ?_⟩
    subst ec ed
    have hot : L2H.Hot1 ((cxOf CX0 P w K mg base N__law_asked "_law_asked" (defScope (topS 84)) f cdv A outer s0 H00 E).nox.suite a ((a, oe) :: pn)).A (a, oe) := by
      obtain ⟨vs, hv⟩ := hf
      exact ⟨rfl, vs, hv, hz.2.2 vs hv⟩
    obtain ⟨v1, h1, r1⟩ := S.dat (i := 1) rfl
    refine (pss_one (ps_ret (pe_callP (x := "_law_refusal") (hF2 a oe hz.zc hf) ⟨(L2H.RoomH.mono (L2H.roomH_of hr) (by decide : 2 ≤ 6)).dp, (L2H.RoomH.mono (L2H.roomH_of hr) (by decide : 2 ≤ 6)).un⟩ hot List.mem_cons_self rfl hm2 hk2 hb2 (pa_cons (pe_var (i := 1) rfl (Or.inl rfl)) (pa_cons (pe_var (i := 3) rfl (Or.inl rfl)) pa_nil))))).run pins s σ H Dn I ?_
    exact ⟨v1, h1, _, h3, F, v1, book, rfl, S.fh, r1, fun v F' H' X' r => q v F' H' (S.ext.trans X') r⟩
  · rintro Dn σ H1 ⟨F, book, plan, chg, o, S, e, q⟩
    refine ⟨F, book, plan, chg, o, S, e, fun d eo v F' H' X' r => q v F' H' X' (by rw [eo]; exact r), fun eo σ' F' H' S' => ⟨true, hex, fun _ a ha => ?_, fun z => nomatch z⟩⟩
    refine ⟨rfl, rfl, F', book, .ad fa, .dat (.lst [plan, chg]), .ad a, ?_, ?_, fun v F2 H2 X2 r2 => q v F2 H2 X2 (by rw [eo]; exact r2)⟩
    · exact S'.setAny (i := 3) (.ad a) fun _ z => nomatch z
    · exact List.getElem?_set_self (by rw [S'.len]; exact Nat.lt_succ_self 3)
theorem ok__law_asked (T : Txt K mg) (ER : ErrTxt K mg C) : OkAsk P w K mg base := by
  obtain ⟨fd, Fn, hm⟩ := T.d 61 "_law_asked" 84 rfl
  refine ⟨_, fd, ["_law_call", "_law_book_here", "_law_some"], hm, Fn.kp, Fn.bindsN fun kV doc pm an cdv ct us hl => (match us, hl with | [_, _, _], _ => rfl), Fn.ok sc__law_asked (fun vs H Q E h => ?_) (fun cdv A outer s H vs Q E hr hsp => ?_)⟩
  · obtain ⟨F, fa, vb, vl, book, plan, chg, o, rfl, _⟩ := h
    rfl
  · obtain ⟨F, fa, vb, vl, book, plan, chg, o, rfl, hfa, sm, r1, r2, e, q⟩ := hsp
    refine ⟨_, (body_ask T ER _ cdv A outer s H E F H fa hfa hr).nox, F, book, plan, chg, o, ?_, e, q⟩
    refine ⟨Ext.refl sm, rfl, fun i o sl h1 h2 => ?_, fun i b ds h1 h2 => ?_, fun i j b ds es h1 h2 h3 h4 => ?_⟩
    · match i with
      | 0 => cases h1; cases h2; exact .ad fa
      | 1 => cases h1; cases h2; exact .dat r1
      | 2 => cases h1; cases h2; exact .dat r2
      | 3 => cases h2; exact .un _
      | n + 4 => cases h2
    · match i with
      | 0 => cases h2
      | 1 => cases h2
      | 2 => cases h2
      | 3 => cases h2
      | n + 4 => cases h2
    · match i with
      | 0 => cases h3
      | 1 => cases h3
      | 2 => cases h3
      | 3 => cases h3
      | n + 4 => cases h3
end
def Phi_asked : List D → Option D
  | [book, .lst [plan, chg]] => (Phi_afterX [book, plan, chg]).bind fun o => some (askD o)
  | _ => none
section
variable {X : Cx} {F0 H0 : Hp} {a b : Expr} {fa fb : FE} {p p2 pos : Pos} {k : Nat}
theorem e_asked (T : Txt X.K X.mg) (G : OkAsk X.prog X.w X.K X.mg X.base) (hr : Room k X.A) (hk : 7 ≤ k) (ha : PE X a (tD X.K F0 H0 fa)) (hb : PE X b (tD X.K F0 H0 fb)) (hg : Gl X "_law_asked" := by rfl) (hg2 : Gl X "after_change" := by rfl)
    (he : starEach [.Name "after_change" p2, a, b] X.env = (false, eval (.Name "after_change" p2) X.env) :: starEach [a, b] X.env := by rfl) (he2 : starEach [a, b] X.env = (false, eval a X.env) :: starEach [b] X.env := by rfl) (he3 : starEach [b] X.env = (false, eval b X.env) :: starEach [] X.env := by rfl)
    (hpl : (backTo pos (starEach [a, b] X.env)).any (·.1) = false := by rfl) :
    PE X (.Call (.Name "_law_asked" p) [.Name "after_change" p2, a, b] [] pos) (tD X.K F0 H0 (fCall Phi_asked (fCons fa (fCons fb fNil)))) := by
  obtain ⟨f, fd, ps, hm, hkp, hbd, hF⟩ := G.ex
  obtain ⟨fd2, _, hm2⟩ := T.d 32 "after_change" 54 rfl
  refine (pe_call hF (hr.mono hk) hg hm hkp hbd .nil pass0 (pa_cons (pe_glob (v := .ref (He.ga X.K "after_change")) hg2 hm2 rfl) (pa_cons ha (pa_cons hb pa_nil he3) he2) he) (by decide) he hpl).imp fun σ H Q ⟨F, ρ, d, S, e, q⟩ => ?_
  obtain ⟨ds, e1, e⟩ := bind_some' e
  obtain ⟨x, e2, e1⟩ := bind_some' e1
  obtain ⟨ds2, e3, e1⟩ := bind_some' e1
  obtain ⟨y, e4, e3⟩ := bind_some' e3
  cases e3
  cases e1
  refine ⟨F, ρ, x, S, e2, fun v1 F1 H1 X1 r1 => ⟨F1, ρ, y, S.to X1, e4, fun v2 F2 H2 X2 r2 => ?_⟩⟩
  cases y with
  | lst ys =>
    match ys, e, r2 with
    | [plan, chg], e, r2 =>
      obtain ⟨o, e5, e⟩ := bind_some' (show (Phi_afterX [x, plan, chg]).bind (fun o => some (askD o)) = some d from e)
      cases e
      exact ⟨F2, _, v1, v2, x, plan, chg, o, rfl, hm2, X2.fh, r1.mono X2.f, r2, e5, fun v F3 H3 X3 r3 => q v F3 H3 ((X1.trans X2).trans X3) r3⟩
    | [], e, _ => cases e
    | [_], e, _ => cases e
    | _ :: _ :: _ :: _, e, _ => cases e
  | _ => cases e
end
end FD
end

section
set_option Elab.async false
set_option linter.all false
set_option maxRecDepth 100000
set_option maxHeartbeats 2000000
namespace FD
open PySem PySem.Spec PyProof.Rows L2 StX
section
variable {P : Program} {w : World} {K : PySem.W.Frag} {mg : Str → Option Value} {base : Heap}
def b__law_changes_right : FS := (sSeq (sSet 2 (fCall Phi_cost_of (fCons (fVar 0) (fCons (fVar 1) fNil))))
  (sSeq (sFor (fItems (fCall Phi__law_changes (fCons (fCall (g1 D.len) (fCons (fVar 1) fNil)) fNil))) (gN 3)
   (sSeq (sSet 4 (fCall Phi_asked (fCons (fVar 0) (fCons (fFrz (fLst (fCons (fVar 1) (fCons (fVar 3) fNil)))) fNil))))
  (sSeq (sSet 5 (fAnd (f2 D.eq (f2 D.ix (fVar 4) (fK (.int 0))) (fK (.str "returned"))) (f2 D.lt (fCall Phi_cost_of (fCons (fVar 0) (fCons (f2 D.ix (fVar 4) (fK (.int 1))) fNil))) (fVar 2))))
  (sSeq (sIf (bAnd (bVal (f2 D.eq (f2 D.ix (fVar 4) (fK (.int 0))) (fK (.str "returned")))) (bNot (bVal (fCall Phi_fits (fCons (fVar 0) (fCons (f2 D.ix (fVar 4) (fK (.int 1))) fNil))))))
   (sRet (fK (.bl false)))
   sNil)
  (sIf (bVal (f2 D.ne (fCall Phi_judgement_holds (fCons (fVar 0) (fCons (fVar 1) (fCons (fTup (fCons (fK (.str "change")) (fCons (fVar 3) fNil))) fNil)))) (fVar 5)))
   (sRet (fK (.bl false)))
   sNil))))
   sNil)
  (sRet (fK (.bl true)))))
def Phi__law_changes_right : List D → Option D := runD 2 6 b__law_changes_right

abbrev N__law_changes_right : List Str := ["_law_book_here", "_law_plan", "_law_own", "_law_change", "_law_found", "_law_saves"]
theorem sc__law_changes_right : FnScope N__law_changes_right ["_law_book_here", "_law_plan"] (defScope (topS 89)) := ⟨rfl, rfl, rfl, by decide +kernel, rfl, by decide +kernel, by decide +kernel⟩
theorem ok__law_changes_right (T : Txt K mg) (GA : OkAsk P w K mg base) : Ok P w K mg base "_law_changes_right" 8 2 Phi__law_changes_right :=
  ok_mk (N := N__law_changes_right) (ps := ["_law_book_here", "_law_plan"]) (fs := b__law_changes_right) (T.d 66 "_law_changes_right" 89 rfl) sc__law_changes_right (fun _ _ _ _ _ _ _ us hl => match us, hl with | [_, _], _ => rfl) fun f cdv A outer s H E F0 H0 hr =>
  have nd : N__law_changes_right.Nodup := sc__law_changes_right.nd
  (s_cons (s_set 2 nd (e_callO (ok_cost_of T) hr (by decide) (a_cons (e_var 0) (a_cons (e_var 1) a_nil))))
  (s_cons (s_for PassesOwn.never rfl (i_seq (e_callO (ok__law_changes T) hr (by decide) (a_cons (e_callB call_len_seq rc_len (T.fr 0 "len" rfl) PySem.boot_len (a_cons (e_var 1) a_nil)) a_nil))) (g_name 3 nd)
   (s_cons (s_set 4 nd (e_asked T GA hr (by decide) (e_var 0) (e_frz (n_lst (a_cons (e_var 1) (a_cons (e_var 3) a_nil))))))
  (s_cons (s_set 5 nd (e_and (e_cmp (op_eqA hr.units) rd_eq (e_ix (e_var 4) e_int) e_str) (e_one (e_cmp op_lt rd_lt (e_callO (ok_cost_of T) hr (by decide) (a_cons (e_var 0) (a_cons (e_ix (e_var 4) e_int) a_nil))) (e_var 2)))))
  (s_cons (s_if (PW.pt (w_and (t_cmp (op_eqA hr.units) rd_eq (e_ix (e_var 4) e_int) e_str) (w_and1 (t_not (t_val (e_callO (ok_fits T) hr (by decide) (a_cons (e_var 0) (a_cons (e_ix (e_var 4) e_int) a_nil))))))))
   (s_one (s_ret e_bl))
   s_nil)
  (s_one (s_if (t_cmp (op_neA hr.units) rd_ne (e_callO (ok_judgement_holds T) hr (by decide) (a_cons (e_var 0) (a_cons (e_var 1) (a_cons (e_tup (a_cons e_str (a_cons (e_var 3) a_nil))) a_nil)))) (e_var 5))
   (s_one (s_ret e_bl))
   s_nil)))))
   s_nil)
  (s_one (s_ret e_bl))))

def b_after_change : FS := (sSeq (sDo (fCall Phi_check_plan (fCons (fVar 0) (fCons (fVar 1) fNil))))
  (sSeq (sIf (bOr (bNot (bVal (fCall Phi_is_change (fCons (fVar 0) (fCons (fVar 2) fNil))))) (bNot (bVal (fCall Phi_fits (fCons (fVar 0) (fCons (fCall Phi_changed (fCons (fVar 1) (fCons (fVar 2) fNil))) fNil))))))
   sNo
   sNil)
  (sRet (fCall Phi_changed (fCons (fVar 1) (fCons (fVar 2) fNil))))))
def Phi_after_change : List D → Option D := runD 3 3 b_after_change

abbrev N_after_change : List Str := ["book", "plan", "change"]
theorem sc_after_change : FnScope N_after_change ["book", "plan", "change"] (defScope (topS 54)) := ⟨rfl, rfl, rfl, by decide +kernel, rfl, by decide +kernel, by decide +kernel⟩
theorem ok_after_change (T : Txt K mg) : Ok P w K mg base "after_change" 6 3 Phi_after_change :=
  ok_mk (N := N_after_change) (ps := ["book", "plan", "change"]) (fs := b_after_change) (T.d 32 "after_change" 54 rfl) sc_after_change (fun _ _ _ _ _ _ _ us hl => match us, hl with | [_, _, _], _ => rfl) fun f cdv A outer s H E F0 H0 hr =>
  have nd : N_after_change.Nodup := sc_after_change.nd
  (s_cons (s_do (e_callO (ok_check_plan T) hr (by decide) (a_cons (e_var 0) (a_cons (e_var 1) a_nil))))
  (s_cons (s_if (PW.pt (w_or (t_not (t_val (e_callO (ok_is_change T) hr (by decide) (a_cons (e_var 0) (a_cons (e_var 2) a_nil))))) (w_or1 (t_not (t_val (e_callO (ok_fits T) hr (by decide) (a_cons (e_var 0) (a_cons (e_callO (ok_changed T) hr (by decide) (a_cons (e_var 1) (a_cons (e_var 2) a_nil))) a_nil))))))))
   (s_one s_no)
   s_nil)
  (s_one (s_ret (e_callO (ok_changed T) hr (by decide) (a_cons (e_var 1) (a_cons (e_var 2) a_nil)))))))

end
end FD
end

section
set_option Elab.async false
set_option linter.all false
set_option maxRecDepth 100000
set_option maxHeartbeats 2000000
/-! FXe: ** of small numbers. -/
namespace FD
open PySem PySem.Spec PyProof.Rows L2 StX
def D.pow : D → D → Option D
  | .int i, .int j => if 0 ≤ j ∧ j ≤ 1000000 ∧ i.natAbs < 2 ^ 64 then some (.int (i ^ j.toNat)) else none
  | _, _ => none
theorem rd_pow {K : PySem.W.Frag} : RD K (rI CPow fun i j => .int (i ^ j.toNat)) D.pow := by
  intro F H x y dx dy dz Q s rx ry e q
  cases rx with
  | int i =>
    cases ry with
    | int j =>
      have e' : (if 0 ≤ j ∧ j ≤ 1000000 ∧ i.natAbs < 2 ^ 64 then some (D.int (i ^ j.toNat)) else none) = some dz := e
      split at e'
      · rename_i h
        cases e'
        exact ⟨i, j, rfl, rfl, h, q _ F H (Ext.refl s) (.int _)⟩
      · cases e'
    | _ => cases e
  | _ => cases ry <;> cases e
/-! ### the script: a list of ints that stands in any way -/
theorem sqL_mono {K : PySem.W.Frag} {F F' : Hp} {a : Addr} {xs : List V} (e : Same F F') (h : SqL K F a xs) : SqL K F' a xs := by
  rcases h with (h | ⟨o, h⟩) | h
  · exact .inl (.inl (e _ _ h))
  · exact .inl (.inr ⟨o, e _ _ h⟩)
  · exact .inr h
def fScr (a : Addr) (ns : List Int) : FL := fun ρ => match ρ[(0 : Nat)]? with
  | some (.ad c) => if c = a then some (cutD (ns.map D.int) none (some 63)) else none
  | _ => none
def fScrLen (a : Addr) (ns : List Int) : FE := fun ρ => match ρ[(0 : Nat)]? with
  | some (.ad c) => if c = a then some (.int ns.length) else none
  | _ => none
section
variable {X : Cx} {F0 H0 : Hp} {a : Addr} {ns : List Int} {x : Str} {p p0 p2 pc pos : Pos} {k : Nat}
theorem scr_get {K : PySem.W.Frag} {F H : Hp} {σ : L2.St} {ρ : Rho} (S : SR K F0 H0 F H σ ρ) {c : Addr} (h : ρ[0]? = some (.ad c)) : σ[0]? = some (some (.ref c)) := by
  obtain ⟨o, e1, rr⟩ := S.get h
  cases rr
  exact e1
theorem n_scr (hS : SqL X.K F0 a (ns.map V.int)) (hN : X.N[0]? = some x := by rfl) (hv : Vis X.env.scope x := by first | exact Or.inl rfl | exact Or.inr (Or.inl rfl) | exact Or.inr (Or.inr rfl)) (hd : (x == ("__debug__" : Str)) = false := by decide) (hcd : (x == ("__classdict__" : Str)) = false := by decide) :
    PE X (.Subscript (.Name x p0) (.Slice none (some (.Constant (.int 63) k pc)) none p2) pos) (tN X.K F0 H0 (fScr a ns)) :=
  (pe_slice sl_list (pe_var hN hv hd hcd) po_none (po_some pe_int)).imp fun σ H Q ⟨F, ρ, d, S, e, q⟩ => by
    unfold fScr at e
    split at e
    · rename_i c h
      split at e
      · rename_i hc
        cases e
        refine ⟨_, scr_get S h, 63, rfl, c, _, rfl, by rw [hc]; exact sqL_mono S.fh (sqL_mono S.ext.f hS), fun p hp => ?_⟩
        have y := Ext.free (o := .lst (cutV (ns.map V.int) none (some 63))) S.fh hp
        exact q p _ F _ y hp upd_same (S.fh.free hp) (rps_ints ns).cut
      · cases e
    · cases e
theorem e_scrLen (hm : X.mg "len" = none) (hS : SqL X.K F0 a (ns.map V.int)) (hg : Gl X "len" := by rfl) (hN : X.N[0]? = some x := by rfl) (hv : Vis X.env.scope x := by first | exact Or.inl rfl | exact Or.inr (Or.inl rfl) | exact Or.inr (Or.inr rfl)) (hd : (x == ("__debug__" : Str)) = false := by decide) (hcd : (x == ("__classdict__" : Str)) = false := by decide)
    (he : starEach [.Name x p2] X.env = (false, eval (.Name x p2) X.env) :: starEach [] X.env := by rfl) (hpl : (backTo pos (starEach [] X.env)).any (·.1) = false := by rfl) :
    PE X (.Call (.Name "len" p) [.Name x p2] [] pos) (tD X.K F0 H0 (fScrLen a ns)) :=
  (pe_callB call_len_seq hg hm PySem.boot_len (pa_cons (pe_var hN hv hd hcd) pa_nil he) (by decide) (by decide) he hpl).imp fun σ H Q ⟨F, ρ, d, S, e, q⟩ => by
    unfold fScrLen at e
    split at e
    · rename_i c h
      split at e
      · rename_i hc
        cases e
        refine ⟨_, scr_get S h, c, _, rfl, .inl (by rw [hc]; exact sqL_mono S.fh (sqL_mono S.ext.f hS)), ?_⟩
        rw [List.length_map]
        exact q _ F H (Ext.refl S.fh) (.int _)
      · cases e
    · cases e
end
/-- what _law_deck is asked: the script at a -/
def spDeck (K : PySem.W.Frag) (b : Addr → List Int → FS) : Sp := fun vs H Q _ => ∃ F a ns d, vs = [.ref a] ∧ Same F H ∧ SqL K F a (ns.map V.int) ∧ b a ns [.ad a, .un, .un, .un] = some (.rt d) ∧ ∀ v F' H', Ext F H F' H' → Rp K F' v d → Q v H'
structure OkDeck (P : Program) (w : World) (K : PySem.W.Frag) (mg : Str → Option Value) (base : Heap) (b : Addr → List Int → FS) : Prop where
  ex : ∃ (f : Addr) (fd : FuncData) (ps : List Str), mg "_law_deck" = some (.ref f) ∧ PySem.W.keepIn K (.ref f) = true ∧ Binds K fd ps [] ∧ FnOk P w K mg base CX0 1 f fd ps (spDeck K b)
end FD
end

section
set_option Elab.async false
set_option linter.all false
set_option maxRecDepth 100000
set_option maxHeartbeats 2000000
namespace FD
open PySem PySem.Spec PyProof.Rows L2 StX
section
variable {P : Program} {w : World} {K : PySem.W.Frag} {mg : Str → Option Value} {base : Heap}
def b__law_deck (a : Addr) (ns : List Int) : FS := (sSeq (sSetN 1 (fComp [3] (fItems (fFrz (fScr a ns))) (gN 3) (bVal (f2 D.ge (fCall (g1 D.abs) (fCons (fVar 3) fNil)) (f2 D.pow (fK (.int 10)) (fK (.int 18))))) (fCall (g1 D.abs) (fCons (fVar 3) fNil))))
  (sSeq (sSetN 2 (fComp [3] (fItems (fFrz (fScr a ns))) (gN 3) (bVal (f2 D.lt (fCall (g1 D.abs) (fCons (fVar 3) fNil)) (f2 D.pow (fK (.int 10)) (fK (.int 18))))) (fCall (g1 D.abs) (fCons (fVar 3) fNil))))
  (sSeq (sFrz 1) (sSeq (sFrz 2) (sRet (fFrz (fLst (fCons (fVar 1) (fCons (fFrz (fCatL (fVar 2) (fFrz (fRep (fFrz (fLst (fCons (f2 D.add (fScrLen a ns) (fK (.int 29))) fNil))) (fCall (g1 D.toI) (fCons (f2 D.eq (fVar 2) (fFrz (fLst fNil))) fNil)))))) (fCons (fK (.int 0)) fNil))))))))))
abbrev N__law_deck : List Str := ["_law_script", "_law_great", "_law_small", "_law_cell"]
theorem sc__law_deck : FnScope N__law_deck ["_law_script"] (defScope (topS 65)) := ⟨rfl, rfl, rfl, by decide +kernel, rfl, by decide +kernel, by decide +kernel⟩
theorem body__law_deck (T : Txt K mg) (f : Addr) (cdv : Value) (A : Around) (outer : List Env) (s : Shared) (H : Hp) (E : XK) (F0 H0 : Hp) (a : Addr) (ns : List Int) (hS : SqL K F0 a (ns.map V.int)) (hr : Room 0 (A.deeper (envOfC "_law_deck" (defScope (topS 65)) s.heap.objs.size f cdv))) :
    PSs (cxOf CX0 P w K mg base N__law_deck "_law_deck" (defScope (topS 65)) f cdv A outer s H E).nox (defBody (topS 65)) (tS K F0 H0 (b__law_deck a ns)) :=
  have nd : N__law_deck.Nodup := sc__law_deck.nd
  (s_cons (s_setLc (own := [("_law_cell", 3)]) 1 rfl nd rfl (sw_true rfl rfl rfl (by decide +kernel)) (i_seq (e_frz (n_scr hS))) (blkOk_by (own := [("_law_cell", 3)]) (N := N__law_deck) (sc := defScope (topS 65)) (by decide +kernel)) (by decide) (fun _ _ _ _ _ => (g_name 3 nd)) (fun _ _ _ _ _ => (ts_one (t_cmp op_ge rd_ge (e_callB call_abs rc_abs (T.fr 12 "abs" rfl) (by decide +kernel) (a_cons (e_var 3) a_nil)) (e_op op_pow rd_pow e_int e_int)))) (fun _ _ _ _ _ => (e_callB call_abs rc_abs (T.fr 12 "abs" rfl) (by decide +kernel) (a_cons (e_var 3) a_nil))))
  (s_cons (s_setLc (own := [("_law_cell", 3)]) 2 rfl nd rfl (sw_true rfl rfl rfl (by decide +kernel)) (i_seq (e_frz (n_scr hS))) (blkOk_by (own := [("_law_cell", 3)]) (N := N__law_deck) (sc := defScope (topS 65)) (by decide +kernel)) (by decide) (fun _ _ _ _ _ => (g_name 3 nd)) (fun _ _ _ _ _ => (ts_one (t_cmp op_lt rd_lt (e_callB call_abs rc_abs (T.fr 12 "abs" rfl) (by decide +kernel) (a_cons (e_var 3) a_nil)) (e_op op_pow rd_pow e_int e_int)))) (fun _ _ _ _ _ => (e_callB call_abs rc_abs (T.fr 12 "abs" rfl) (by decide +kernel) (a_cons (e_var 3) a_nil))))
  (s_frz 1 (s_frz 2 (s_one (s_ret (e_frz (n_lst (a_cons (e_var 1) (a_cons (e_frz (n_cat (e_var 2) (e_frz (n_rep (e_frz (n_lst (a_cons (e_op op_add rd_add (e_scrLen (T.fr 0 "len" rfl) hS) e_int) a_nil))) (e_callT call_int1 rc_int (T.fr 13 "int" rfl) (by decide +kernel) (a_cons (e_cmp (op_eqA hr.units) rd_eq (e_var 2) (e_frz (n_lst a_nil))) a_nil)))))) (a_cons e_int a_nil)))))))))))
theorem ok__law_deck (T : Txt K mg) : OkDeck P w K mg base b__law_deck := by
  obtain ⟨fd, Fn, hm⟩ := T.d 42 "_law_deck" 65 rfl
  refine ⟨_, fd, ["_law_script"], hm, Fn.kp, Fn.bindsN fun kV doc pm an cdv ct us hl => (match us, hl with | [_], _ => rfl), Fn.ok sc__law_deck (fun vs H Q E h => ?_) (fun cdv A outer s H vs Q E hr hsp => ?_)⟩
  · obtain ⟨F, a, ns, d, rfl, _⟩ := h
    rfl
  · obtain ⟨F, a, ns, d, rfl, sm, hS, e, q⟩ := hsp
    refine ⟨tS K F H (b__law_deck a ns), (body__law_deck T _ cdv A outer s H E F H a ns hS hr).nox, F, _, .rt d, ?_, e, fun v F' H' X' r' => q v F' H' X' r'⟩
    refine ⟨Ext.refl sm, rfl, fun i o sl h1 h2 => ?_, fun i b ds h1 h2 => ?_, fun i j b ds es h1 h2 h3 h4 => ?_⟩
    · match i with
      | 0 => cases h1; cases h2; exact .ad a
      | 1 => cases h2; exact .un _
      | 2 => cases h2; exact .un _
      | 3 => cases h2; exact .un _
      | n + 4 => cases h2
    · match i with
      | 0 => cases h2
      | 1 => cases h2
      | 2 => cases h2
      | 3 => cases h2
      | n + 4 => cases h2
    · match i with
      | 0 => cases h3
      | 1 => cases h3
      | 2 => cases h3
      | 3 => cases h3
      | n + 4 => cases h3
end
end FD
end

section
set_option Elab.async false
set_option linter.all false
set_option maxRecDepth 100000
set_option maxHeartbeats 4000000
namespace FD
open PySem PySem.Spec PyProof.Rows L2 StX
def b_law (dk : Addr) : FWS := (mSeq (mFor (mItP (fRng1 (fK (.int 4)))) (gN 2)
   (mSeq (mSet 3 (mCall Psi__law_book dk 1 (mCons (mOp D.add (mPure (fK (.int 1))) (mCall Psinext dk 1 (mCons (mPure (fK (.int 2))) mNil))) (mCons (mPure (fK (.int 4))) (mCons (mPure (fK (.bl true))) mNil)))))
  (mSeq (mPar2 4 5 (mCall Psi__law_some_plan dk 1 (mCons (mPure (fVar 3)) mNil)) (mPure (fCall Phi_least_cost (fCons (fVar 3) fNil))))
  (mSeq (mS (sIf (bNot (bVal (fCall Phi__law_changes_right (fCons (fVar 3) (fCons (fVar 4) fNil)))))
   (sRet (fK (.bl false)))
   sNil))
  (mSeq (mS (sAsg (gT (gC (gN 6) (gC (gN 7) gE))) (fCall Phi_judge (fCons (fVar 3) (fCons (fVar 4) fNil)))))
  (mSeq (mS (whileN (bVal (f2 D.eq (fVar 6) (fK (.str "change"))))
   (sSeq (sSet 8 (fCall Phi_after_change (fCons (fVar 3) (fCons (fVar 4) (fCons (fVar 7) fNil)))))
  (sSeq (sIf (bOr (bNot (bVal (f2 D.lt (fCall Phi_cost_of (fCons (fVar 3) (fCons (fVar 8) fNil))) (fCall Phi_cost_of (fCons (fVar 3) (fCons (fVar 4) fNil)))))) (bVal (f2 D.le (fCall Phi_cost_of (fCons (fVar 3) (fCons (fVar 4) fNil))) (fVar 5))))
   (sRet (fK (.bl false)))
   sNil)
  (sSeq (sSet 4 (fVar 8))
  (sAsg (gT (gC (gN 6) (gC (gN 7) gE))) (fCall Phi_judge (fCons (fVar 3) (fCons (fVar 4) fNil))))))) 1000000))
  (mSeq (mS (sIf (bOr (bVal (f2 D.ne (fVar 6) (fK (.str "prices")))) (bOr (bVal (f2 D.ne (fCall Phi_cost_of (fCons (fVar 3) (fCons (fVar 4) fNil))) (fVar 5))) (bNot (bVal (fCall Phi_judgement_holds (fCons (fVar 3) (fCons (fVar 4) (fCons (fTup (fCons (fVar 6) (fCons (fVar 7) fNil))) fNil))))))))
   (sRet (fK (.bl false)))
   sNil))
  (mSeq (mSet 4 (mCall Psi__law_wandered dk 1 (mCons (mPure (fVar 3)) (mCons (mPure (fVar 4)) (mCons (mPure (fK (.int 3))) mNil)))))
  (mS (sIf (bOr (bVal (f2 D.ne (fCall Phi_cost_of (fCons (fVar 3) (fCons (fVar 4) fNil))) (fVar 5))) (bOr (bVal (f2 D.ne (f2 D.ix (fCall Phi_judge (fCons (fVar 3) (fCons (fVar 4) fNil))) (fK (.int 0))) (fK (.str "prices")))) (bNot (bVal (fCall Phi__law_changes_right (fCons (fVar 3) (fCons (fVar 4) fNil)))))))
   (sRet (fK (.bl false)))
   sNil)))))))))
   mNilS)
  (mS (sRet (fK (.bl true)))))
abbrev N_law : List Str := ["_law_script", "_law_deck_here", "_law_turn", "_law_book_here", "_law_plan", "_law_least", "_law_word", "_law_part", "_law_later"]
theorem sc_law : FnScope N_law ["_law_script"] (defScope (topS 90)) := ⟨rfl, rfl, rfl, by decide +kernel, rfl, by decide +kernel, by decide +kernel⟩
section
variable {P : Program} {w : World} {K : PySem.W.Frag} {mg : Str → Option Value} {base : Heap}
def tRest (K : PySem.W.Frag) : TS := fun Dn σ H => ∃ k F0 H0, tSW K k F0 H0 (b_law k.dk) Dn σ H
theorem rest_law (T : Txt K mg) (GA : OkAsk P w K mg base) (f : Addr) (cdv : Value) (A : Around) (outer : List Env) (s : Shared) (H : Hp) (E : XK) (hr : Room 8 (A.deeper (envOfC "law" (defScope (topS 90)) s.heap.objs.size f cdv))) (ddk : Dk) (F0 H0 : Hp) :
    PSs (cxOf CX0 P w K mg base N_law "law" (defScope (topS 90)) f cdv A outer s H E).nox (defBody (topS 90)).tail (tSW K ddk F0 H0 (b_law ddk.dk)) :=
  have nd : N_law.Nodup := sc_law.nd
  (sw_cons (sw_for PassesOwn.never rfl (iw_pure fun F0 H0 => (i_rng1 (T.fr 7 "range" rfl) e_int)) (fun F0 H0 => (g_name 2 nd))
   (sw_cons (sw_set 3 nd (w_call (ok__law_book T) hr (by decide) 1 (w_acons (w_op op_add rd_add (w_pure fun F0 H0 => e_int) (w_call (ok__law_next T) hr (by decide) 1 (w_acons (w_pure fun F0 H0 => e_int) w_anil) (hl := (mlen_cons mlen_nil)))) (w_acons (w_pure fun F0 H0 => e_int) (w_acons (w_pure fun F0 H0 => e_bl) w_anil))) (hl := (mlen_cons (mlen_cons (mlen_cons mlen_nil))))))
  (sw_cons (sw_par2 4 5 rfl nd (w_call (ok__law_some_plan T) hr (by decide) 1 (w_acons (w_pure fun F0 H0 => (e_var 3)) w_anil) (hl := (mlen_cons mlen_nil))) (w_pure fun F0 H0 => (e_callO (ok_least_cost T) hr (by decide) (a_cons (e_var 3) a_nil))))
  (sw_cons (sw_pure fun F0 H0 => (s_if (t_not (t_val (e_callO (ok__law_changes_right T GA) hr (by decide) (a_cons (e_var 3) (a_cons (e_var 4) a_nil)))))
   (s_one (s_ret e_bl))
   s_nil))
  (sw_cons (sw_pure fun F0 H0 => (s_asg (e_callO (ok_judge T) hr (by decide) (a_cons (e_var 3) (a_cons (e_var 4) a_nil))) (g_tup rfl (gs_cons (g_name 6 nd) (gs_cons (g_name 7 nd) gs_nil)))))
  (sw_cons (sw_pure fun F0 H0 => (s_while 1000000 PassesOwn.never (t_cmp (op_eqA hr.units) rd_eq (e_var 6) e_str)
   (s_cons (s_set 8 nd (e_callO (ok_after_change T) hr (by decide) (a_cons (e_var 3) (a_cons (e_var 4) (a_cons (e_var 7) a_nil)))))
  (s_cons (s_if (PW.pt (w_or (t_not (t_cmp op_lt rd_lt (e_callO (ok_cost_of T) hr (by decide) (a_cons (e_var 3) (a_cons (e_var 8) a_nil))) (e_callO (ok_cost_of T) hr (by decide) (a_cons (e_var 3) (a_cons (e_var 4) a_nil))))) (w_or1 (t_cmp op_le rd_le (e_callO (ok_cost_of T) hr (by decide) (a_cons (e_var 3) (a_cons (e_var 4) a_nil))) (e_var 5)))))
   (s_one (s_ret e_bl))
   s_nil)
  (s_cons (s_set 4 nd (e_var 8))
  (s_one (s_asg (e_callO (ok_judge T) hr (by decide) (a_cons (e_var 3) (a_cons (e_var 4) a_nil))) (g_tup rfl (gs_cons (g_name 6 nd) (gs_cons (g_name 7 nd) gs_nil))))))))))
  (sw_cons (sw_pure fun F0 H0 => (s_if (PW.pt (w_or (t_cmp (op_neA hr.units) rd_ne (e_var 6) e_str) (w_or (t_cmp (op_neA hr.units) rd_ne (e_callO (ok_cost_of T) hr (by decide) (a_cons (e_var 3) (a_cons (e_var 4) a_nil))) (e_var 5)) (w_or1 (t_not (t_val (e_callO (ok_judgement_holds T) hr (by decide) (a_cons (e_var 3) (a_cons (e_var 4) (a_cons (e_tup (a_cons (e_var 6) (a_cons (e_var 7) a_nil))) a_nil))))))))))
   (s_one (s_ret e_bl))
   s_nil))
  (sw_cons (sw_set 4 nd (w_call (ok__law_wandered T) hr (by decide) 1 (w_acons (w_pure fun F0 H0 => (e_var 3)) (w_acons (w_pure fun F0 H0 => (e_var 4)) (w_acons (w_pure fun F0 H0 => e_int) w_anil))) (hl := (mlen_cons (mlen_cons (mlen_cons mlen_nil))))))
  (sws_pure fun F0 H0 => (s_one (s_if (PW.pt (w_or (t_cmp (op_neA hr.units) rd_ne (e_callO (ok_cost_of T) hr (by decide) (a_cons (e_var 3) (a_cons (e_var 4) a_nil))) (e_var 5)) (w_or (t_cmp (op_neA hr.units) rd_ne (e_ix (e_callO (ok_judge T) hr (by decide) (a_cons (e_var 3) (a_cons (e_var 4) a_nil))) e_int) e_str) (w_or1 (t_not (t_val (e_callO (ok__law_changes_right T GA) hr (by decide) (a_cons (e_var 3) (a_cons (e_var 4) a_nil)))))))))
   (s_one (s_ret e_bl))
   s_nil))))))))))
   sw_nil)
  (sws_pure fun F0 H0 => (s_one (s_ret e_bl))))
/-- the deck that the script gives -/
structure DeckOk (gs ss : List Int) : Prop where
  ne : ss ≠ []
  big : ∀ x ∈ gs, (10 : Int) ^ 18 ≤ x
  sml : ∀ x ∈ ss, x < (10 : Int) ^ 18
def DeckMath : Prop := ∀ (a : Addr) (ns : List Int), ns.length ≤ 63 → ∃ gs ss, b__law_deck a ns [.ad a, .un, .un, .un] = some (.rt (.lst [.lst (gs.map D.int), .lst (ss.map D.int), .int 0])) ∧ DeckOk gs ss
def LawMath : Prop := ∀ dk : Addr, (b_law dk).run [.un, .ad dk, .un, .un, .un, .un, .un, .un, .un] 0 fun o _ => o = .rt (.bl true)
def spLaw (K : PySem.W.Frag) : Sp := fun vs H Q _ => ∃ (a : Addr) (ns : List Int), vs = [.ref a] ∧ ns.length ≤ 63 ∧ SqL K H a (ns.map V.int) ∧ ∀ H', Q (.bl true) H'
theorem ints_of_rps {F : Hp} : ∀ {vs : List V} {ns : List Int}, Rps K F vs (ns.map D.int) → vs = ns.map V.int
  | _, [], .nil => rfl
  | _, n :: r, .cons h t => by
    cases h
    rw [ints_of_rps t]
    rfl
theorem ok_law (hd : DeckMath) (hl : LawMath) (T : Txt K mg) (GA : OkAsk P w K mg base) {fd : FuncData} (Fn : FunD K "law" "law" (defArgs (topS 90)) (defBody (topS 90)) (defScope (topS 90)) [] [] (He.ga K "law") fd) : FnOk P w K mg base CX0 9 (He.ga K "law") fd ["_law_script"] (spLaw K) := by
  refine Fn.ok sc_law (fun vs H Q E h => ?_) (fun cdv A outer s H vs Q E hr hsp => ?_)
  · obtain ⟨a, ns, rfl, _⟩ := h
    rfl
  · obtain ⟨a, ns, rfl, hn, hS, hQ⟩ := hsp
    obtain ⟨f1, fd1, ps1, hm1, hk1, hb1, hF1⟩ := (ok__law_deck (P := P) (w := w) (base := base) T).ex
    have nd : N_law.Nodup := sc_law.nd
    have rest : PSs (cxOf CX0 P w K mg base N_law "law" (defScope (topS 90)) (He.ga K "law") cdv A outer s H E).nox (defBody (topS 90)).tail (tRest K) :=
      ⟨fun pins s1 σ H1 Dn I ⟨k, F0, H0, h⟩ => (rest_law T GA _ cdv A outer s H E hr k F0 H0).run pins s1 σ H1 Dn I h⟩
    refine ⟨_, PSs.nox (X := cxOf CX0 P w K mg base N_law "law" (defScope (topS 90)) (He.ga K "law") cdv A outer s H E) (pss_cons (ps_set (i := 1) nd rfl (Or.inl rfl) (pe_call (x := "_law_deck") hF1 (hr.mono (by decide)) rfl hm1 hk1 hb1 .nil pass0 (pa_cons (pe_var (i := 0) rfl (Or.inl rfl)) pa_nil)) rfl (.inr rfl)) rest), ?_⟩
    obtain ⟨gs, ss, e, hg⟩ := hd a ns hn
    refine ⟨_, rfl, H, a, ns, _, rfl, Same.refl H, hS, e, fun v F' H' X' r => ?_⟩
    cases r with
    | @lst dk vs ds h r =>
      cases r with
      | cons r1 r =>
        cases r with
        | cons r2 r =>
          cases r with
          | cons r3 r =>
            cases r
            cases r3
            cases r1 with
            | @lst ga vg _ hga rg =>
              cases r2 with
              | @lst sa vsm _ hsa rs =>
                cases ints_of_rps rg
                cases ints_of_rps rs
                have h' := X'.fh _ _ h
                have hga' := X'.fh _ _ hga
                have hsa' := X'.fh _ _ hsa
                have n1 : dk ≠ ga := fun z => by
                  subst z
                  rw [h'] at hga'
                  cases gs <;> cases hga'
                have n2 : sa ≠ dk := fun z => by
                  subst z
                  rw [h'] at hsa'
                  cases ss <;> cases hsa'
                have n3 : sa ≠ ga := fun z => by
                  subst z
                  rw [hga'] at hsa'
                  have e1 : gs.map V.int = ss.map V.int := by
                    injection hsa' with q
                    injection q
                  cases ss with
                  | nil => exact hg.ne rfl
                  | cons x ss =>
                    cases gs with
                    | nil => cases e1
                    | cons y gs =>
                      have e2 : y = x := by
                        simp at e1
                        exact e1.1
                      have b1 := hg.big y List.mem_cons_self
                      have b2 := hg.sml x List.mem_cons_self
                      rw [e2] at b1
                      exact absurd b1 (Int.not_le.mpr b2)
                refine ⟨⟨dk, ga, sa⟩, fun _ => none, H', fun _ => none, [.un, .ad dk, .un, .un, .un, .un, .un, .un, .un], 0, ?_, ⟨h', ⟨gs, hga'⟩, ⟨ss, hsa', hg.ne⟩, rfl, rfl, n1, n2, n3⟩, (b_law dk).mono (hl dk) fun o c ho => ?_⟩
                · refine ⟨⟨Same.refl _, fun _ _ _ _ e => e, fun _ _ e => (by cases e), fun _ h _ => h, fun _ h => h⟩, by rw [h']; exact (fun z => nomatch z), by rw [hga']; exact (fun z => nomatch z), by rw [hsa']; exact (fun z => nomatch z), rfl, fun i o sl h1 h2 => ?_, fun i b ds h1 h2 => ?_, fun i j b ds es h1 h2 h3 h4 => ?_⟩
                  · match i with
                    | 0 => cases h2; exact .un _
                    | 1 => cases h1; cases h2; exact .ad dk
                    | 2 | 3 | 4 | 5 | 6 | 7 | 8 => cases h2; exact .un _
                    | n + 9 => cases h2
                  · match i with
                    | 0 | 1 | 2 | 3 | 4 | 5 | 6 | 7 | 8 => cases h2
                    | n + 9 => cases h2
                  · match i with
                    | 0 | 1 | 2 | 3 | 4 | 5 | 6 | 7 | 8 => cases h3
                    | n + 9 => cases h3
                · subst ho
                  exact fun v F2 H2 X2 D2 r2 => (by cases r2; exact hQ H2)
end
end FD
end

section
set_option Elab.async false
set_option linter.all false
set_option maxRecDepth 100000
set_option maxHeartbeats 0
/-! GEnd: from the head's facts to the law. -/
namespace FD
open PySem PySem.Spec PyProof.Rows L2 StX
section
variable {P : Program} {w : World} {K : PySem.W.Frag} {h : Heap} {mg : Str → Option Value}
theorem fact_of (c : obsX K = valX) {f : He.Fa} (hf : f ∈ hfa) : f.ok K = true := by
  have c1 : He.obsD hfa hfn K = He.valD hfn := congrArg (fun z : AlX => z.2) c
  have c2 := (He.ba (show ((hfa.all fun f => f.ok K) && hfn.all fun d => d.ok K) = true from congrArg (fun z : He.AlD => z.1) c1)).1
  exact List.all_eq_true.mp c2 f hf
theorem in0 {f : He.Fa} (h : f ∈ defL.map fun p => He.Fa.glo p.1) : f ∈ hfa := List.mem_append_left _ h
theorem in1 {f : He.Fa} (h : f ∈ freeL.map He.Fa.free) : f ∈ hfa := List.mem_append_right _ (List.mem_append_left _ h)
theorem in2 {f : He.Fa} (h : f ∈ strL.map fun p => He.Fa.str p.1 p.2) : f ∈ hfa := List.mem_append_right _ (List.mem_append_right _ (List.mem_append_left _ h))
theorem in3 {f : He.Fa} (h : f ∈ ([.int "GREAT" 1000000000000000000000000000000, .glo "NO_ENDS", .glo "NoChange", .glo "CurveError", .glo "NoPlan", .glo "NoWay", .glo "TooMany", .glo "NoPeriod", .glo "NoTotal", .exc "NoChange", .exm "NoChange" "CurveError" true] : List He.Fa)) : f ∈ hfa :=
  List.mem_append_right _ (List.mem_append_right _ (List.mem_append_right _ h))
theorem hx_of (c : obsX K = valX) : hx K = true := congrArg (fun z : AlX => z.1) c
theorem txt_of (X : K.In h) (G : h.Ns mainGlobals mg) (c : obsX K = valX) : Txt K mg where
  d := fun j x i hj => by
    have hd : hfn[j]? = some (mkDef (x, i)) := by
      unfold hfn
      rw [List.getElem?_map, hj]
      rfl
    obtain ⟨fd, F⟩ := He.SaysD.def_ (fa := hfa) (congrArg (fun z : AlX => z.2) c : He.obsD hfa hfn K = He.valD hfn) j hd
    exact ⟨fd, F, He.glo_ok X G (fact_of c (in0 (List.mem_map.mpr ⟨(x, i), List.mem_of_getElem? hj, rfl⟩)))⟩
  fr := fun j x hj => He.free_ok X G (fact_of c (in1 (List.mem_map.mpr ⟨x, List.mem_of_getElem? hj, rfl⟩)))
  st := fun j x z hj => He.str_ok X G (fact_of c (in2 (List.mem_map.mpr ⟨(x, z), List.mem_of_getElem? hj, rfl⟩)))
  great := He.int_ok X G (fact_of c (in3 (by simp)))
  ends := ⟨_, He.glo_ok X G (fact_of c (f := .glo "NO_ENDS") (in3 (by simp))), fun F => .tup (He.tupB_ok (He.ba (a := He.tupB K "NO_ENDS" [.non, .non]) (hx_of c)).1 F) (.cons .non (.cons .non .nil))⟩
theorem err_of (X : K.In h) (G : h.Ns mainGlobals mg) (c : obsX K = valX) : ErrTxt K mg (He.ga K "NoChange") := by
  obtain ⟨_, b⟩ := He.ba (a := He.tupB K "NO_ENDS" [.non, .non]) (hx_of c)
  obtain ⟨b1, b⟩ := He.ba b
  obtain ⟨b2, b⟩ := He.ba b
  obtain ⟨b3, b⟩ := He.ba b
  obtain ⟨b4, b⟩ := He.ba b
  obtain ⟨b5, b⟩ := He.ba b
  obtain ⟨b6, b⟩ := He.ba b
  obtain ⟨b7, b⟩ := He.ba b
  obtain ⟨k1, b⟩ := He.ba b
  obtain ⟨k2, b⟩ := He.ba b
  obtain ⟨k3, b⟩ := He.ba b
  obtain ⟨k4, k5⟩ := He.ba b
  obtain ⟨x1, x2, x3, x4⟩ := He.exc_ok (fact_of c (f := .exc "NoChange") (in3 (by simp)))
  have g : ∀ x : Str, He.Fa.glo x ∈ hfa → mg x = some (.ref (He.ga K x)) := fun x hx => He.glo_ok X G (fact_of c hx)
  exact ⟨g "NoChange" (in3 (by simp)), x2, x1, x4, ⟨_, g "CurveError" (in3 (by simp)), He.exm_ok (fact_of c (f := .exm "NoChange" "CurveError" true) (in3 (by simp)))⟩,
    ⟨He.eqO_ok b1, He.eqO_ok b2, x3, b3, He.eqO_ok b4, He.eqO_ok b5, of_decide_eq_true b6, of_decide_eq_true b7⟩,
    ⟨_, g "NoPlan" (in3 (by simp)), of_decide_eq_true k1⟩, ⟨_, g "NoWay" (in3 (by simp)), of_decide_eq_true k2⟩, ⟨_, g "TooMany" (in3 (by simp)), of_decide_eq_true k3⟩,
    ⟨_, _, g "NoPeriod" (in3 (by simp)), g "NoTotal" (in3 (by simp)), of_decide_eq_true k4⟩, of_decide_eq_true k5⟩
end
theorem facts_law (hd : DeckMath) (hl : LawMath) {P : Program} {w : World} {K : PySem.W.Frag} {h : Heap} {mg : Str → Option Value} {f : Addr} (X : K.In h) (G : h.Ns mainGlobals mg) (hfa' : mg ("law" : Str) = some (.ref f)) (c : obsX K = valX) :
    ∃ fd : FuncData, (∀ (s : Shared) (v : Value), BindsTo s fd ⟨[v], []⟩ [("_law_script", v)]) ∧ ∀ base : Heap, K.In base → base.Ns mainGlobals mg → FnOk P w K mg base CX0 9 f fd ["_law_script"] (spLaw K) := by
  have T := txt_of X G c
  have ER := err_of X G c
  obtain ⟨fd, F, hm⟩ := T.d 67 "law" 90 rfl
  have e := hfa'.symm.trans hm
  cases e
  have b := FunD.bindsA (ps := ["_law_script"]) F fun _ _ _ _ _ _ us hl => match us, hl with | [_], _ => rfl
  exact ⟨fd, fun s v => b s [v] rfl, fun base _ _ => ok_law hd hl T (ok__law_asked T ER) F⟩
end FD
open PySem PySem.W PySem.Calls PyProof.Rows
theorem law_end (hd : FD.DeckMath) (hl : FD.LawMath) : PySem.Challenge.rw_dearcurves_k49_whole_changes_lead_to_a_c.Holds := by
  w_on; o_law
  refine HandSHeadRun.head_any (r := OpenLaw.row PySem.Challenge.rw_dearcurves_k49_whole_changes_lead_to_a_c) (q := view (OpenLaw.row PySem.Challenge.rw_dearcurves_k49_whole_changes_lead_to_a_c).prog [90]) (H := FD.hkX) (ob := FD.obX) (M := 4000) (loose := FD.names) (d := HandSHeadRun.topDef (OpenLaw.row PySem.Challenge.rw_dearcurves_k49_whole_changes_lead_to_a_c).prog 90) (kwd := []) FD.obX_eq
    (by kernel_rfl) (fun s => by kernel_rfl) FD.head_run (by kernel_rfl) (by kernel_rfl) (by kernel_rfl) (by rfl) (by first | assumption | decide +kernel) (by decide +kernel) ⟨rfl, rfl, rfl, rfl, rfl, by decide +kernel⟩ ?hw ?hc
  case hw => w_witness2
  case hc =>
    refine L2.walk_ofE (l := PySem.Challenge.rw_dearcurves_k49_whole_changes_lead_to_a_c) (n := 63) (k := 9) (x := "_law_script") (CX := L2.CX0) rfl (by decide) (by kernel_rfl) ⟨rfl, by decide, by decide⟩ ?F (fun _ _ _ _ z => z)
    intro w mg fa h Y G hmg0
    obtain ⟨K, KX, c⟩ := Y
    have hmg : mg ("law" : PySem.Str) = some (.ref fa) := by
      have e : (HandSHeadRun.topDef (OpenLaw.row PySem.Challenge.rw_dearcurves_k49_whole_changes_lead_to_a_c).prog 90).name = ("law" : PySem.Str) := by kernel_rfl
      rw [← e]
      exact hmg0
    obtain ⟨fd, hb, hF⟩ := FD.facts_law hd hl (P := (PySem.Challenge.rw_dearcurves_k49_whole_changes_lead_to_a_c).prog) (w := w) KX G hmg c
    exact ⟨K, fd, FD.spLaw K, KX, hb, fun H a ns hl _ hS => ⟨a, ns, rfl, hl, hS, fun _ => rfl⟩, hF⟩
end

section
set_option Elab.async false
set_option linter.all false
/-! M1: curves, plain. A step is (count, price). -/
namespace MM
structure Cv where
  low : Int
  cost : Int
  st : List (Int × Int)
/-- units of the steps -/
def tot : List (Int × Int) → Int
  | [] => 0
  | (n, _) :: r => n + tot r
/-- the cost of l units, the steps taken in their order (as cost_at takes them) -/
def grd : List (Int × Int) → Int → Int
  | [], _ => 0
  | (n, p) :: r, l => p * min n l + grd r (l - min n l)
def G : List (Int × Int) → Int → Int
  | [], _ => 0
  | (n, p) :: r, q => n * max 0 (q - p) + G r q
def Cv.last (c : Cv) : Int := c.low + tot c.st
def Cv.at (c : Cv) (x : Int) : Int := c.cost + grd c.st (x - c.low)
def Cv.gain (c : Cv) (q : Int) : Int := q * c.low - c.cost + G c.st q
/-- counts not negative, prices ascending (weakly) -/
def Asc (s : List (Int × Int)) : Prop := s.Pairwise (fun a b => a.2 ≤ b.2)
def Pos (s : List (Int × Int)) : Prop := ∀ a ∈ s, 0 ≤ a.1
theorem tot_nn : ∀ {s : List (Int × Int)}, Pos s → 0 ≤ tot s
  | [], _ => Int.le_refl _
  | (n, p) :: r, h => by
    have h1 := h (n, p) List.mem_cons_self
    have h2 := tot_nn (s := r) fun a ha => h a (List.mem_cons_of_mem _ ha)
    simp only [tot] at *
    omega
theorem grd_zero : ∀ {s : List (Int × Int)}, Pos s → grd s 0 = 0
  | [], _ => rfl
  | (n, p) :: r, h => by
    have h1 : (0 : Int) ≤ n := h (n, p) List.mem_cons_self
    have h2 := grd_zero (s := r) fun a ha => h a (List.mem_cons_of_mem _ ha)
    have e : min n 0 = 0 := by omega
    simp [grd, e, h2]
theorem G_nn : ∀ {s : List (Int × Int)} {q : Int}, Pos s → 0 ≤ G s q
  | [], _, _ => Int.le_refl _
  | (n, p) :: r, q, h => by
    have h1 : (0 : Int) ≤ n := h (n, p) List.mem_cons_self
    have h2 := G_nn (s := r) (q := q) fun a ha => h a (List.mem_cons_of_mem _ ha)
    have h3 : 0 ≤ n * max 0 (q - p) := Int.mul_nonneg h1 (by omega)
    simp only [G]
    omega
/-- (A) -/
theorem grd_ge : ∀ {s : List (Int × Int)} {l q : Int}, Pos s → 0 ≤ l → l ≤ tot s → q * l - G s q ≤ grd s l
  | [], l, q, _, h1, h2 => by
    simp only [tot] at h2
    have e : l = 0 := by omega
    subst e
    simp [G, grd]
  | (n, p) :: r, l, q, h, h1, h2 => by
    have hn : (0 : Int) ≤ n := h (n, p) List.mem_cons_self
    have hr : Pos r := fun a ha => h a (List.mem_cons_of_mem _ ha)
    simp only [tot] at h2
    have ih := grd_ge (s := r) (l := l - min n l) (q := q) hr (by omega) (by have := tot_nn hr; omega)
    simp only [G, grd]
    have k : (q - p) * min n l ≤ n * max 0 (q - p) := by
      have m0 : 0 ≤ min n l := by omega
      have m1 : min n l ≤ n := by omega
      rcases Int.le_total q p with hqp | hqp
      · have a1 : (q - p) * min n l ≤ 0 := Int.mul_nonpos_of_nonpos_of_nonneg (by omega) m0
        have a2 : max 0 (q - p) = 0 := by omega
        rw [a2]
        simp
        exact a1
      · have a2 : max 0 (q - p) = q - p := by omega
        rw [a2, Int.mul_comm n]
        exact Int.mul_le_mul_of_nonneg_left m1 (by omega)
    have e1 : q * (l - min n l) = q * l - q * min n l := Int.mul_sub ..
    have e2 : (q - p) * min n l = q * min n l - p * min n l := Int.sub_mul ..
    omega
theorem G_low : ∀ {s : List (Int × Int)} {q : Int}, (∀ a ∈ s, q ≤ a.2) → G s q = 0
  | [], _, _ => rfl
  | (n, p) :: r, q, h => by
    have h1 : q ≤ p := h (n, p) List.mem_cons_self
    have h2 := G_low (s := r) (q := q) fun a ha => h a (List.mem_cons_of_mem _ ha)
    have e : max 0 (q - p) = 0 := by omega
    simp only [G, e, h2]
    simp
/-- (S) -/
theorem grd_sup : ∀ {s : List (Int × Int)} {l : Int}, Pos s → Asc s → s ≠ [] → 0 ≤ l → l ≤ tot s → ∃ q, (∃ a ∈ s, a.2 = q) ∧ grd s l = q * l - G s q
  | [], _, _, _, h, _, _ => absurd rfl h
  | (n, p) :: r, l, hp, ha, _, h1, h2 => by
    have hn : (0 : Int) ≤ n := hp (n, p) List.mem_cons_self
    have hr : Pos r := fun a h => hp a (List.mem_cons_of_mem _ h)
    obtain ⟨hb, hc⟩ := List.pairwise_cons.mp ha
    simp only [tot] at h2
    by_cases hl : l ≤ n
    · refine ⟨p, ⟨_, List.mem_cons_self, rfl⟩, ?_⟩
      have e : min n l = l := by omega
      have g0 : G r p = 0 := G_low hb
      simp only [grd, G, e, g0, Int.sub_self]
      rw [grd_zero hr]
      simp
    · have hre : r ≠ [] := fun z => by
        subst z
        simp only [tot] at h2
        omega
      have e : min n l = n := by omega
      obtain ⟨q, ⟨a, hq, eq⟩, ih⟩ := grd_sup (s := r) (l := l - n) hr hc hre (by omega) (by omega)
      refine ⟨q, ⟨a, List.mem_cons_of_mem _ hq, eq⟩, ?_⟩
      have hpq : p ≤ q := by
        have := hb a hq
        rw [eq] at this
        exact this
      have e2 : max 0 (q - p) = q - p := by omega
      simp only [grd, G, e, e2, ih]
      have e3 : q * (l - n) = q * l - q * n := Int.mul_sub ..
      have e4 : n * (q - p) = n * q - n * p := Int.mul_sub ..
      have e5 : p * n = n * p := Int.mul_comm ..
      have e6 : q * n = n * q := Int.mul_comm ..
      omega
/-- the cost is settled by G -/
theorem grd_of_G {s t : List (Int × Int)} {l : Int} (hs : Pos s) (ht : Pos t) (as : Asc s) (at_ : Asc t) (e : ∀ q, G s q = G t q) (et : tot s = tot t) (h0 : 0 ≤ l) (h1 : l ≤ tot s) : grd s l = grd t l := by
  have le : ∀ {s t : List (Int × Int)}, Pos s → Pos t → Asc s → (∀ q, G s q = G t q) → tot s = tot t → l ≤ tot s → grd s l ≤ grd t l := by
    intro s t hs ht as e et h1
    by_cases hn : s = []
    · subst hn
      simp only [tot] at h1 et
      have hl : l = 0 := by omega
      subst hl
      rw [grd_zero ht]
      simp [grd]
    · obtain ⟨q, _, eq⟩ := grd_sup hs as hn h0 h1
      rw [eq, e q]
      exact grd_ge ht h0 (by omega)
  exact Int.le_antisymm (le hs ht as e et h1) (le ht hs at_ (fun q => (e q).symm) et.symm (by omega))

/-! ### joined steps -/
def jstep (f : List (Int × Int)) (a : Int × Int) : List (Int × Int) := match f.getLast? with
  | some b => if b.2 = a.2 then f.dropLast ++ [(b.1 + a.1, a.2)] else if 0 < a.1 then f ++ [a] else f
  | none => if 0 < a.1 then f ++ [a] else f
def joined (s : List (Int × Int)) : List (Int × Int) := s.foldl jstep []
theorem G_app : ∀ {s t : List (Int × Int)} {q : Int}, G (s ++ t) q = G s q + G t q
  | [], t, q => by simp [G]
  | (n, p) :: r, t, q => by
    have := G_app (s := r) (t := t) (q := q)
    simp only [List.cons_append, G, this]
    omega
theorem tot_app : ∀ {s t : List (Int × Int)}, tot (s ++ t) = tot s + tot t
  | [], t => by simp [tot]
  | (n, p) :: r, t => by
    have := tot_app (s := r) (t := t)
    simp only [List.cons_append, tot, this]
    omega
theorem last_split {f : List (Int × Int)} {b : Int × Int} (h : f.getLast? = some b) : f = f.dropLast ++ [b] := by
  have hn : f ≠ [] := fun z => by subst z; cases h
  have h2 := List.dropLast_concat_getLast hn
  rw [List.getLast?_eq_some_getLast hn] at h
  cases h
  exact h2.symm
structure JInv (f s : List (Int × Int)) : Prop where
  pf : Pos f
  ps : Pos s
  af : Asc f
  as : Asc s
  le : ∀ a ∈ f, ∀ b ∈ s, a.2 ≤ b.2
theorem asc_app {s t : List (Int × Int)} : Asc (s ++ t) ↔ Asc s ∧ Asc t ∧ ∀ a ∈ s, ∀ b ∈ t, a.2 ≤ b.2 := List.pairwise_append
theorem pos_app {s t : List (Int × Int)} (h : Pos s) (h' : Pos t) : Pos (s ++ t) := fun a ha => (List.mem_append.mp ha).elim (h a) (h' a)
theorem asc_snoc {f s : List (Int × Int)} {a : Int × Int} (J : JInv f (a :: s)) : Asc (f ++ [a]) := asc_app.mpr ⟨J.af, List.pairwise_singleton _ _, fun x hx b hb => by
  rw [List.mem_singleton.mp hb]
  exact J.le x hx a List.mem_cons_self⟩
theorem J_app {f s : List (Int × Int)} {a : Int × Int} (J : JInv f (a :: s)) : JInv (f ++ [a]) s := by
  obtain ⟨h1, h2⟩ := List.pairwise_cons.mp J.as
  refine ⟨pos_app J.pf fun x hx => ?_, fun x hx => J.ps x (List.mem_cons_of_mem _ hx), asc_snoc J, h2, fun x hx b hb => ?_⟩
  · rw [List.mem_singleton.mp hx]
    exact J.ps a List.mem_cons_self
  · rcases List.mem_append.mp hx with h | h
    · exact J.le x h b (List.mem_cons_of_mem _ hb)
    · rw [List.mem_singleton.mp h]
      exact h1 b hb
theorem J_drop {f s : List (Int × Int)} {a : Int × Int} (J : JInv f (a :: s)) : JInv f s :=
  ⟨J.pf, fun x hx => J.ps x (List.mem_cons_of_mem _ hx), J.af, (List.pairwise_cons.mp J.as).2, fun x hx b hb => J.le x hx b (List.mem_cons_of_mem _ hb)⟩
theorem jstep_ok {f s : List (Int × Int)} {a : Int × Int} (J : JInv f (a :: s)) : JInv (jstep f a) s ∧ (∀ q, G (jstep f a) q = G f q + G [a] q) ∧ tot (jstep f a) = tot f + tot [a] := by
  have ha : 0 ≤ a.1 := J.ps a List.mem_cons_self
  obtain ⟨n, p⟩ := a
  have plain : JInv (if 0 < n then f ++ [(n, p)] else f) s ∧ (∀ q, G (if 0 < n then f ++ [(n, p)] else f) q = G f q + G [(n, p)] q) ∧ tot (if 0 < n then f ++ [(n, p)] else f) = tot f + tot [(n, p)] := by
    split
    · exact ⟨J_app J, fun q => G_app, tot_app⟩
    · have e : n = 0 := by
        simp only at ha
        omega
      subst e
      refine ⟨J_drop J, fun q => ?_, ?_⟩
      · simp [G]
      · simp [tot]
  unfold jstep
  split
  · rename_i b hb
    have sp := last_split hb
    split
    · rename_i e
      obtain ⟨m, p'⟩ := b
      simp only at e
      subst e
      have hm : 0 ≤ m := J.pf (m, p') (by rw [sp]; simp)
      have hp : Pos f.dropLast := fun x hx => J.pf x (by rw [sp]; exact List.mem_append_left _ hx)
      have hA : Asc (f.dropLast ++ [(m, p')]) := by rw [← sp]; exact J.af
      obtain ⟨a1, _, a3⟩ := asc_app.mp hA
      obtain ⟨h1, h2⟩ := List.pairwise_cons.mp J.as
      refine ⟨⟨pos_app hp fun x hx => ?_, fun x hx => J.ps x (List.mem_cons_of_mem _ hx), asc_app.mpr ⟨a1, List.pairwise_singleton _ _, fun x hx b hb => ?_⟩, h2, fun x hx b hb => ?_⟩, fun q => ?_, ?_⟩
      · rw [List.mem_singleton.mp hx]
        simp only at ha ⊢
        omega
      · rw [List.mem_singleton.mp hb]
        exact a3 x hx (m, p') (List.mem_singleton.mpr rfl)
      · rcases List.mem_append.mp hx with h | h
        · exact J.le x (by rw [sp]; exact List.mem_append_left _ h) b (List.mem_cons_of_mem _ hb)
        · rw [List.mem_singleton.mp h]
          exact h1 b hb
      · conv => rhs; rw [sp]
        rw [G_app, G_app]
        simp only [G]
        have : (m + n) * max 0 (q - p') = m * max 0 (q - p') + n * max 0 (q - p') := Int.add_mul ..
        omega
      · conv => rhs; rw [sp]
        rw [tot_app, tot_app]
        simp only [tot]
        omega
    · exact plain
  · exact plain
theorem foldl_ok : ∀ {s f : List (Int × Int)}, JInv f s → Pos (s.foldl jstep f) ∧ Asc (s.foldl jstep f) ∧ (∀ q, G (s.foldl jstep f) q = G f q + G s q) ∧ tot (s.foldl jstep f) = tot f + tot s
  | [], f, J => ⟨J.pf, J.af, fun q => by simp [G], by simp [tot]⟩
  | a :: s, f, J => by
    obtain ⟨J1, g1, t1⟩ := jstep_ok J
    obtain ⟨h1, h2, h3, h4⟩ := foldl_ok J1
    refine ⟨h1, h2, fun q => ?_, ?_⟩
    · have e : G (a :: s) q = G [a] q + G s q := G_app (s := [a])
      rw [List.foldl_cons, h3 q, g1 q, e]
      omega
    · have e : tot (a :: s) = tot [a] + tot s := tot_app (s := [a])
      rw [List.foldl_cons, h4, t1, e]
      omega
theorem joined_ok {s : List (Int × Int)} (hp : Pos s) (ha : Asc s) : Pos (joined s) ∧ Asc (joined s) ∧ (∀ q, G (joined s) q = G s q) ∧ tot (joined s) = tot s := by
  obtain ⟨h1, h2, h3, h4⟩ := foldl_ok (s := s) (f := []) ⟨fun _ h => (by cases h), hp, List.Pairwise.nil, ha, fun _ h => (by cases h)⟩
  exact ⟨h1, h2, fun q => by rw [joined, h3 q]; simp [G], by rw [joined, h4]; simp [tot]⟩
theorem G_perm {s t : List (Int × Int)} (h : s.Perm t) (q : Int) : G s q = G t q := by
  induction h with
  | nil => rfl
  | cons x _ ih =>
    obtain ⟨n, p⟩ := x
    simp only [G, ih]
  | swap x y l =>
    obtain ⟨n, p⟩ := x
    obtain ⟨m, r⟩ := y
    simp only [G]
    omega
  | trans _ _ h1 h2 => exact h1.trans h2
theorem tot_perm {s t : List (Int × Int)} (h : s.Perm t) : tot s = tot t := by
  induction h with
  | nil => rfl
  | cons x _ ih =>
    obtain ⟨n, p⟩ := x
    simp only [tot, ih]
  | swap x y l =>
    obtain ⟨n, p⟩ := x
    obtain ⟨m, r⟩ := y
    simp only [tot]
    omega
  | trans _ _ h1 h2 => exact h1.trans h2
/-! ### curves -/
structure Cv.Ok (c : Cv) : Prop where
  pos : Pos c.st
  asc : Asc c.st
theorem Cv.Ok.gain_ge {c : Cv} (h : c.Ok) {x q : Int} (h0 : c.low ≤ x) (h1 : x ≤ c.last) : q * x - c.at x ≤ c.gain q := by
  have := grd_ge (s := c.st) (l := x - c.low) (q := q) h.pos (by omega) (by unfold Cv.last at h1; omega)
  unfold Cv.at Cv.gain
  have e : q * (x - c.low) = q * x - q * c.low := Int.mul_sub ..
  omega
/-- a price that supports the curve at x -/
theorem Cv.Ok.sup {c : Cv} (h : c.Ok) {x : Int} (h0 : c.low ≤ x) (h1 : x ≤ c.last) : ∃ q, c.at x = q * x - c.gain q := by
  by_cases hn : c.st = []
  · refine ⟨0, ?_⟩
    unfold Cv.at Cv.gain
    rw [hn]
    simp [grd, G]
  · obtain ⟨q, _, e⟩ := grd_sup (s := c.st) (l := x - c.low) h.pos h.asc hn (by omega) (by unfold Cv.last at h1; omega)
    refine ⟨q, ?_⟩
    unfold Cv.at Cv.gain
    rw [e]
    have e : q * (x - c.low) = q * x - q * c.low := Int.mul_sub ..
    omega
theorem Cv.Ok.last_ge {c : Cv} (h : c.Ok) : c.low ≤ c.last := by
  have := tot_nn h.pos
  unfold Cv.last
  omega
/-- h has the gain of f and g together -/
theorem Cv.Ok.share_le {f g h : Cv} (hf : f.Ok) (hg : g.Ok) (hh : h.Ok) (el : h.low = f.low + g.low) (et : h.last = f.last + g.last) (eg : ∀ q, h.gain q = f.gain q + g.gain q) {x y : Int} (x0 : f.low ≤ x) (x1 : x ≤ f.last) (y0 : g.low ≤ y) (y1 : y ≤ g.last) :
    h.at (x + y) ≤ f.at x + g.at y := by
  obtain ⟨q, e⟩ := hh.sup (x := x + y) (by omega) (by omega)
  have a := hf.gain_ge (q := q) x0 x1
  have b := hg.gain_ge (q := q) y0 y1
  rw [e, eg q]
  have : q * (x + y) = q * x + q * y := Int.mul_add ..
  omega
/-- the first place that is best at q -/
def bst : List (Int × Int) → Int → Int
  | [], _ => 0
  | (n, p) :: r, q => (if p < q then n else 0) + bst r q
theorem bst_hi : ∀ {s : List (Int × Int)} {q : Int}, (∀ a ∈ s, q ≤ a.2) → bst s q = 0
  | [], _, _ => rfl
  | (n, p) :: r, q, h => by
    have h1 : q ≤ p := h (n, p) List.mem_cons_self
    have h2 := bst_hi (s := r) (q := q) fun a ha => h a (List.mem_cons_of_mem _ ha)
    have e : ¬ p < q := by omega
    simp only [bst, if_neg e, h2]
    omega
theorem bst_ok : ∀ {s : List (Int × Int)} {q : Int}, Pos s → Asc s → 0 ≤ bst s q ∧ bst s q ≤ tot s ∧ q * bst s q - grd s (bst s q) = G s q
  | [], q, _, _ => by simp [bst, tot, grd, G]
  | (n, p) :: r, q, hp, ha => by
    have hn : (0 : Int) ≤ n := hp (n, p) List.mem_cons_self
    have hr : Pos r := fun a h => hp a (List.mem_cons_of_mem _ h)
    obtain ⟨h1, h2⟩ := List.pairwise_cons.mp ha
    obtain ⟨i1, i2, i3⟩ := bst_ok (s := r) (q := q) hr h2
    have ht := tot_nn hr
    by_cases hq : p < q
    · have e : min n (n + bst r q) = n := by omega
      have e2 : n + bst r q - n = bst r q := by omega
      have e3 : max 0 (q - p) = q - p := by omega
      simp only [bst, if_pos hq, tot, grd, G, e, e2, e3]
      refine ⟨by omega, by omega, ?_⟩
      have d1 : q * (n + bst r q) = q * n + q * bst r q := Int.mul_add ..
      have d2 : n * (q - p) = q * n - p * n := by rw [Int.mul_sub, Int.mul_comm n q, Int.mul_comm n p]
      omega
    · have z : bst r q = 0 := bst_hi fun a h => by
        have := h1 a h
        simp only at this
        omega
      have e3 : max 0 (q - p) = 0 := by omega
      have g0 : G r q = 0 := G_low fun a h => by
        have := h1 a h
        simp only at this
        omega
      have e4 : min n 0 = 0 := by omega
      simp only [bst, if_neg hq, tot, grd, G, z, e3, g0, Int.add_zero, e4, Int.sub_zero, grd_zero hr]
      refine ⟨by omega, by omega, by simp⟩
theorem Cv.Ok.att {c : Cv} (h : c.Ok) (q : Int) : ∃ x, c.low ≤ x ∧ x ≤ c.last ∧ c.gain q = q * x - c.at x := by
  obtain ⟨h1, h2, h3⟩ := bst_ok (q := q) h.pos h.asc
  refine ⟨c.low + bst c.st q, by omega, by unfold Cv.last; omega, ?_⟩
  unfold Cv.gain Cv.at
  have e : c.low + bst c.st q - c.low = bst c.st q := by omega
  rw [e, ← h3]
  have : q * (c.low + bst c.st q) = q * c.low + q * bst c.st q := Int.mul_add ..
  omega
end MM
end

section
set_option Elab.async false
set_option linter.all false
/-! M2: the sum of two curves. -/
namespace MM
/-- bends from b on -/
def bnd : Int → List (Int × Int) → List Int
  | b, [] => [b]
  | b, (n, _) :: r => b :: bnd (b + n) r
/-- the price of the unit behind l units -/
def pa : List (Int × Int) → Int → Option Int
  | [], _ => none
  | (n, p) :: r, l => if l < n then some p else pa r (l - n)
theorem bnd_shift : ∀ {r : List (Int × Int)} {b z : Int}, z ∈ bnd b r ↔ z - b ∈ bnd 0 r
  | [], b, z => by
    simp only [bnd, List.mem_singleton]
    omega
  | (n, p) :: r, b, z => by
    have h1 := bnd_shift (r := r) (b := b + n) (z := z)
    have h2 := bnd_shift (r := r) (b := 0 + n) (z := z - b)
    have e : z - (b + n) = z - b - (0 + n) := by omega
    simp only [bnd, List.mem_cons]
    rw [h1, h2, e]
    constructor
    · rintro (h | h)
      · exact .inl (by omega)
      · exact .inr h
    · rintro (h | h)
      · exact .inl (by omega)
      · exact .inr h
theorem bnd_head {b : Int} {r : List (Int × Int)} : b ∈ bnd b r := by
  cases r <;> simp [bnd]
theorem bnd_first : ∀ {r : List (Int × Int)} {b : Int}, ∃ t, bnd b r = b :: t
  | [], b => ⟨[], rfl⟩
  | (n, p) :: r, b => ⟨_, rfl⟩
theorem bnd_last : ∀ {r : List (Int × Int)} {b : Int}, b + tot r ∈ bnd b r
  | [], b => by simp [bnd, tot]
  | (n, p) :: r, b => by
    have := bnd_last (r := r) (b := b + n)
    have e : b + tot ((n, p) :: r) = b + n + tot r := by
      simp only [tot]
      omega
    rw [e]
    exact List.mem_cons_of_mem _ this
theorem seg : ∀ {s : List (Int × Int)} {l l' : Int}, Pos s → 0 ≤ l → l < l' → l' ≤ tot s → (∀ z ∈ bnd 0 s, ¬ (l < z ∧ z < l')) → ∃ p, pa s l = some p ∧ ∀ x, l ≤ x → x ≤ l' → grd s x = grd s l + (x - l) * p
  | [], l, l', _, h0, h1, h2, _ => by
    simp only [tot] at h2
    omega
  | (n, p) :: r, l, l', hp, h0, h1, h2, hb => by
    have hn : (0 : Int) ≤ n := hp (n, p) List.mem_cons_self
    have hr : Pos r := fun a h => hp a (List.mem_cons_of_mem _ h)
    simp only [tot] at h2
    by_cases hl : l < n
    · have hn' : l' ≤ n := by
        have := hb n (by
          simp only [bnd]
          rw [Int.zero_add]
          exact List.mem_cons_of_mem _ bnd_head)
        omega
      refine ⟨p, by simp [pa, hl], fun x x0 x1 => ?_⟩
      have e1 : min n x = x := by omega
      have e2 : min n l = l := by omega
      simp only [grd, e1, e2, Int.sub_self]
      have : (x - l) * p = x * p - l * p := Int.sub_mul ..
      have c1 : p * x = x * p := Int.mul_comm ..
      have c2 : p * l = l * p := Int.mul_comm ..
      omega
    · obtain ⟨q, hq, h⟩ := seg (s := r) (l := l - n) (l' := l' - n) hr (by omega) (by omega) (by omega) fun z hz => by
        have := hb (z + n) (by
          simp only [bnd]
          rw [Int.zero_add]
          refine List.mem_cons_of_mem _ (bnd_shift.mpr ?_)
          have e : z + n - n = z := by omega
          rw [e]
          exact hz)
        omega
      refine ⟨q, by simp [pa, hl, hq], fun x x0 x1 => ?_⟩
      have e1 : min n x = n := by omega
      have e2 : min n l = n := by omega
      have h3 := h (x - n) (by omega) (by omega)
      simp only [grd, e1, e2, h3]
      have e3 : x - n - (l - n) = x - l := by omega
      rw [e3]
      omega
theorem pa_mem : ∀ {s : List (Int × Int)} {l p : Int}, pa s l = some p → ∃ a ∈ s, a.2 = p
  | [], _, _, h => by cases h
  | (n, p) :: r, l, q, h => by
    unfold pa at h
    split at h
    · cases h
      exact ⟨_, List.mem_cons_self, rfl⟩
    · obtain ⟨a, ha, e⟩ := pa_mem h
      exact ⟨a, List.mem_cons_of_mem _ ha, e⟩
theorem pa_mono : ∀ {s : List (Int × Int)} {l l' p p' : Int}, Asc s → l ≤ l' → pa s l = some p → pa s l' = some p' → p ≤ p'
  | [], _, _, _, _, _, _, h, _ => by cases h
  | (n, p) :: r, l, l', q, q', ha, hl, h, h' => by
    obtain ⟨h1, h2⟩ := List.pairwise_cons.mp ha
    unfold pa at h h'
    split at h
    · cases h
      split at h'
      · cases h'
        exact Int.le_refl _
      · obtain ⟨a, hm, e⟩ := pa_mem h'
        have := h1 a hm
        rw [e] at this
        exact this
    · split at h'
      · omega
      · exact pa_mono h2 (by omega) h h'
/-! ### along the bends -/
def Cv.pa (c : Cv) (x : Int) : Option Int := MM.pa c.st (x - c.low)
def Cv.bends (c : Cv) : List Int := bnd c.low c.st
theorem Cv.seg {c : Cv} (h : c.Ok) {b b' : Int} (h0 : c.low ≤ b) (h1 : b < b') (h2 : b' ≤ c.last) (hb : ∀ z ∈ c.bends, ¬ (b < z ∧ z < b')) : ∃ p, c.pa b = some p ∧ ∀ x, b ≤ x → x ≤ b' → c.at x = c.at b + (x - b) * p := by
  unfold Cv.last at h2
  obtain ⟨p, hp, h3⟩ := MM.seg (s := c.st) (l := b - c.low) (l' := b' - c.low) h.pos (by omega) (by omega) (by omega) fun z hz => by
    have := hb (z + c.low) (bnd_shift.mpr (by
      have e : z + c.low - c.low = z := by omega
      rw [e]
      exact hz))
    omega
  refine ⟨p, hp, fun x x0 x1 => ?_⟩
  have := h3 (x - c.low) (by omega) (by omega)
  unfold Cv.at
  rw [this]
  have e : x - c.low - (b - c.low) = x - b := by omega
  rw [e]
  omega
def slope (f g : Cv) (b : Int) : Int := (f.pa b).getD 0 + (g.pa b).getD 0
def segs (f g : Cv) : List Int → List (Int × Int)
  | b :: b' :: r => (b' - b, slope f g b) :: segs f g (b' :: r)
  | _ => []
/-- ascending, no bend of either strictly between neighbours -/
def Run (f g : Cv) : List Int → Prop
  | b :: b' :: r => b < b' ∧ (∀ z, z ∈ f.bends ∨ z ∈ g.bends → ¬ (b < z ∧ z < b')) ∧ Run f g (b' :: r)
  | _ => True
def lastOf : Int → List Int → Int
  | b, [] => b
  | _, b' :: r => lastOf b' r
theorem last_ge : ∀ {r : List Int} {f g : Cv} {b : Int}, Run f g (b :: r) → b ≤ lastOf b r
  | [], _, _, _, _ => Int.le_refl _
  | b' :: r, f, g, b, h => by
    have := last_ge (r := r) h.2.2
    have := h.1
    simp only [lastOf]
    omega
theorem segs_ok : ∀ {r : List Int} {f g : Cv} {b : Int}, f.Ok → g.Ok → f.low ≤ b → g.low ≤ b → lastOf b r ≤ f.last → lastOf b r ≤ g.last → Run f g (b :: r) →
    Pos (segs f g (b :: r)) ∧ Asc (segs f g (b :: r)) ∧ tot (segs f g (b :: r)) = lastOf b r - b ∧ (∀ a ∈ segs f g (b :: r), slope f g b ≤ a.2) ∧ (∀ x, b ≤ x → x ≤ lastOf b r → grd (segs f g (b :: r)) (x - b) = f.at x + g.at x - (f.at b + g.at b)) ∧
    (∀ a b' t t', b :: r = t ++ a :: b' :: t' → (∃ p, f.pa a = some p) ∧ ∃ p, g.pa a = some p)
  | [], f, g, b, _, _, _, _, _, _, _ => by
    refine ⟨fun _ h => (by cases h), List.Pairwise.nil, by simp [segs, tot, lastOf], fun _ h => (by cases h), fun x x0 x1 => ?_, fun a b' t t' e => ?_⟩
    · have e : x = b := by
        simp only [lastOf] at x1
        omega
      subst e
      simp [segs, grd]
    · have := congrArg List.length e
      simp at this
      omega
  | b' :: r, f, g, b, hf, hg, f0, g0, f1, g1, hr => by
    obtain ⟨r1, r2, r3⟩ := hr
    have lg := last_ge r3
    simp only [lastOf] at f1 g1
    obtain ⟨p, ep, hp⟩ := Cv.seg hf f0 r1 (by omega) fun z hz => r2 z (.inl hz)
    obtain ⟨q, eq, hq⟩ := Cv.seg hg g0 r1 (by omega) fun z hz => r2 z (.inr hz)
    obtain ⟨i1, i2, i3, i4, i5, i6⟩ := segs_ok (r := r) (b := b') hf hg (by omega) (by omega) f1 g1 r3
    have es : slope f g b = p + q := by simp [slope, ep, eq]
    have up : ∀ a ∈ segs f g (b' :: r), slope f g b ≤ a.2 := fun a ha => by
      refine Int.le_trans ?_ (i4 a ha)
      cases r with
      | nil => cases ha
      | cons b'' r =>
        obtain ⟨⟨p', ep'⟩, q', eq'⟩ := i6 b' b'' [] r rfl
        have m1 := pa_mono hf.asc (show b - f.low ≤ b' - f.low by omega) ep ep'
        have m2 := pa_mono hg.asc (show b - g.low ≤ b' - g.low by omega) eq eq'
        rw [es]
        simp [slope, ep', eq']
        omega
    refine ⟨?_, List.pairwise_cons.mpr ⟨up, i2⟩, ?_, ?_, fun x x0 x1 => ?_, fun a c t t' e => ?_⟩
    · intro a ha
      rcases List.mem_cons.mp ha with e | ha
      · rw [e]
        show 0 ≤ b' - b
        omega
      · exact i1 a ha
    · simp only [segs, tot, lastOf, i3]
      omega
    · intro a ha
      rcases List.mem_cons.mp ha with e | ha
      · rw [e]
        exact Int.le_refl _
      · exact up a ha
    · simp only [segs, grd, lastOf] at *
      have hbb := hp b' (by omega) (by omega)
      have gbb := hq b' (by omega) (by omega)
      rw [es]
      by_cases hx : x ≤ b'
      · have e : min (b' - b) (x - b) = x - b := by omega
        rw [e, Int.sub_self, grd_zero i1]
        have h1 := hp x x0 hx
        have h2 := hq x x0 hx
        rw [h1, h2]
        have d1 : (p + q) * (x - b) = (x - b) * p + (x - b) * q := by rw [Int.mul_comm, Int.mul_add]
        omega
      · have e : min (b' - b) (x - b) = b' - b := by omega
        have e2 : x - b - (b' - b) = x - b' := by omega
        rw [e, e2, i5 x (by omega) x1, hbb, gbb]
        have d1 : (p + q) * (b' - b) = (b' - b) * p + (b' - b) * q := by rw [Int.mul_comm, Int.mul_add]
        omega
    · cases t with
      | nil =>
        simp only [List.nil_append, List.cons.injEq] at e
        rw [← e.1]
        exact ⟨⟨p, ep⟩, q, eq⟩
      | cons y t =>
        simp only [List.cons_append, List.cons.injEq] at e
        exact i6 a c t t' e.2
/-- (C), (E): a curve laid along such a run -/
theorem sum_ok {f g : Cv} {b : Int} {r : List Int} (hf : f.Ok) (hg : g.Ok) (f0 : f.low ≤ b) (g0 : g.low ≤ b) (f1 : lastOf b r ≤ f.last) (g1 : lastOf b r ≤ g.last) (hr : Run f g (b :: r)) :
    let h : Cv := ⟨b, f.at b + g.at b, joined (segs f g (b :: r))⟩
    h.Ok ∧ h.last = lastOf b r ∧ (∀ x, b ≤ x → x ≤ lastOf b r → h.at x = f.at x + g.at x) ∧ ∀ p q, h.gain q ≤ f.gain p + g.gain (q - p) := by
  intro h
  obtain ⟨i1, i2, i3, i4, i5, i6⟩ := segs_ok hf hg f0 g0 f1 g1 hr
  obtain ⟨j1, j2, j3, j4⟩ := joined_ok i1 i2
  have hO : h.Ok := ⟨j1, j2⟩
  have hl : h.last = lastOf b r := by
    show b + tot (joined (segs f g (b :: r))) = _
    rw [j4, i3]
    omega
  have ha : ∀ x, b ≤ x → x ≤ lastOf b r → h.at x = f.at x + g.at x := fun x x0 x1 => by
    show f.at b + g.at b + grd (joined (segs f g (b :: r))) (x - b) = _
    rw [grd_of_G j1 i1 j2 i2 j3 j4 (by omega) (by rw [j4, i3]; omega), i5 x x0 x1]
    omega
  refine ⟨hO, hl, ha, fun p q => ?_⟩
  -- some x attains the gain
  obtain ⟨x, x0, x1, ex⟩ : ∃ x, h.low ≤ x ∧ x ≤ h.last ∧ h.gain q = q * x - h.at x := hO.att q
  have x0' : b ≤ x := x0
  rw [hl] at x1
  have a1 := hf.gain_ge (q := p) (x := x) (by omega) (by omega)
  have a2 := hg.gain_ge (q := q - p) (x := x) (by omega) (by omega)
  rw [ex, ha x x0' x1]
  have : (q - p) * x = q * x - p * x := Int.sub_mul ..
  omega
end MM
end

section
set_option Elab.async false
set_option linter.all false
/-! M3: books: costs so far, bounds by prices. -/
namespace MM
structure Pd where
  buy : Cv
  want : Int
  keep : Cv
structure Pd.Ok (p : Pd) : Prop where
  buy : p.buy.Ok
  keep : p.keep.Ok
/-- a plan that fits, from the stock s on -/
def Fits : Int → List Pd → List Int → Prop
  | _, [], [] => True
  | s, p :: ps, u :: us => p.buy.low ≤ u ∧ u ≤ p.buy.last ∧ p.keep.low ≤ s + u - p.want ∧ s + u - p.want ≤ p.keep.last ∧ Fits (s + u - p.want) ps us
  | _, _, _ => False
def pcost : Int → List Pd → List Int → Int
  | s, p :: ps, u :: us => p.buy.at u + p.keep.at (s + u - p.want) + pcost (s + u - p.want) ps us
  | _, _, _ => 0
/-- h: the costs f (of the stock before) and a period's together -/
structure Next (f : Cv) (p : Pd) (h : Cv) : Prop where
  ok : h.Ok
  le : ∀ s u, f.low ≤ s → s ≤ f.last → p.buy.low ≤ u → u ≤ p.buy.last → p.keep.low ≤ s + u - p.want → s + u - p.want ≤ p.keep.last → h.low ≤ s + u - p.want ∧ s + u - p.want ≤ h.last ∧ h.at (s + u - p.want) ≤ f.at s + p.buy.at u + p.keep.at (s + u - p.want)
  gain : ∀ a q, h.gain q ≤ f.gain a + p.buy.gain a - a * p.want + p.keep.gain (q - a)
inductive Chain : Cv → List Pd → Cv → Prop
  | nil (f : Cv) : Chain f [] f
  | cons {f h k : Cv} {p : Pd} {ps : List Pd} : Next f p h → Chain h ps k → Chain f (p :: ps) k
theorem chain_ok {f k : Cv} {ps : List Pd} (c : Chain f ps k) (hf : f.Ok) : k.Ok := by
  induction c with
  | nil f => exact hf
  | cons n _ ih => exact ih n.ok
/-- lower than every plan that fits -/
theorem chain_le {f k : Cv} {ps : List Pd} (c : Chain f ps k) : ∀ {s : Int} {us : List Int}, f.low ≤ s → s ≤ f.last → Fits s ps us → ∃ t, k.low ≤ t ∧ t ≤ k.last ∧ k.at t ≤ f.at s + pcost s ps us := by
  induction c with
  | nil f =>
    intro s us h0 h1 _
    exact ⟨s, h0, h1, by cases us <;> simp [pcost]⟩
  | @cons f h k p ps n _ ih =>
    intro s us h0 h1 hf
    cases us with
    | nil => exact hf.elim
    | cons u us =>
      obtain ⟨a1, a2, a3, a4, a5⟩ := hf
      obtain ⟨b1, b2, b3⟩ := n.le s u h0 h1 a1 a2 a3 a4
      obtain ⟨t, c1, c2, c3⟩ := ih b1 b2 a5
      refine ⟨t, c1, c2, ?_⟩
      simp only [pcost]
      omega
/-- what the prices save, p the first, 0 behind the last -/
def pgain : List Pd → List Int → Int
  | p :: ps, a :: as => p.buy.gain a - a * p.want + p.keep.gain (as.headD 0 - a) + pgain ps as
  | _, _ => 0
theorem chain_gain {f k : Cv} {ps : List Pd} (c : Chain f ps k) : ∀ {as : List Int}, as.length = ps.length → k.gain 0 ≤ f.gain (as.headD 0) + pgain ps as := by
  induction c with
  | nil f =>
    intro as h
    cases as with
    | nil => simp [pgain]
    | cons a as => cases h
  | @cons f h k p ps n _ ih =>
    intro as hl
    cases as with
    | nil => cases hl
    | cons a as =>
      have i := ih (as := as) (by simpa using hl)
      have g := n.gain a (as.headD 0)
      simp only [pgain, List.headD_cons]
      omega
/-- the lowest cost -/
theorem low_le {b : Int} {ps : List Pd} {k : Cv} (c : Chain ⟨b, 0, []⟩ ps k) {us : List Int} (h : Fits b ps us) : 0 - k.gain 0 ≤ pcost b ps us := by
  have o : Cv.Ok ⟨b, 0, []⟩ := ⟨fun _ h => (by cases h), List.Pairwise.nil⟩
  obtain ⟨t, t0, t1, t2⟩ := chain_le c (s := b) (us := us) (Int.le_refl _) (by show b ≤ b + 0; omega) h
  have := (chain_ok c o).gain_ge (q := 0) t0 t1
  have e : (⟨b, 0, []⟩ : Cv).at b = 0 := by simp [Cv.at, grd]
  rw [e] at t2
  simp at this
  omega
/-- what prices prove -/
def pbound (b : Int) (ps : List Pd) (as : List Int) : Int := 0 - b * as.headD 0 - pgain ps as
theorem bound_le {b : Int} {ps : List Pd} {k : Cv} (c : Chain ⟨b, 0, []⟩ ps k) {as : List Int} (h : as.length = ps.length) : pbound b ps as ≤ 0 - k.gain 0 := by
  have := chain_gain c h
  have e : (⟨b, 0, []⟩ : Cv).gain (as.headD 0) = as.headD 0 * b := by simp [Cv.gain, G]
  rw [e, Int.mul_comm] at this
  unfold pbound
  omega
/-! ### the parts of the chain -/
def Cv.moved (c : Cv) (s : Int) : Cv := ⟨c.low + s, c.cost, c.st⟩
theorem moved_at {c : Cv} {s x : Int} : (c.moved s).at x = c.at (x - s) := by
  unfold Cv.moved Cv.at
  have e : x - (c.low + s) = x - s - c.low := by omega
  simp only [e]
theorem moved_last {c : Cv} {s : Int} : (c.moved s).last = c.last + s := by
  unfold Cv.moved Cv.last
  simp only
  omega
theorem moved_gain {c : Cv} {s q : Int} : (c.moved s).gain q = c.gain q + q * s := by
  unfold Cv.moved Cv.gain
  simp only
  have : q * (c.low + s) = q * c.low + q * s := Int.mul_add ..
  omega
theorem moved_ok {c : Cv} {s : Int} (h : c.Ok) : (c.moved s).Ok := ⟨h.pos, h.asc⟩
/-- rows: the steps of both, sorted -/
def shareC (f g : Cv) (rows : List (Int × Int)) : Cv := ⟨f.low + g.low, f.cost + g.cost, joined rows⟩
structure Shared (f g h : Cv) : Prop where
  ok : h.Ok
  low : h.low = f.low + g.low
  last : h.last = f.last + g.last
  gain : ∀ q, h.gain q = f.gain q + g.gain q
theorem shared_of {f g : Cv} {rows : List (Int × Int)} (hf : f.Ok) (hg : g.Ok) (hp : rows.Perm (f.st ++ g.st)) (ha : Asc rows) : Shared f g (shareC f g rows) := by
  have pp : Pos rows := fun a h => pos_app hf.pos hg.pos a (hp.mem_iff.mp h)
  obtain ⟨j1, j2, j3, j4⟩ := joined_ok pp ha
  refine ⟨⟨j1, j2⟩, rfl, ?_, fun q => ?_⟩
  · show f.low + g.low + tot (joined rows) = _
    rw [j4, tot_perm hp, tot_app]
    unfold Cv.last
    omega
  · show q * (f.low + g.low) - (f.cost + g.cost) + G (joined rows) q = _
    rw [j3, G_perm hp, G_app]
    unfold Cv.gain
    have : q * (f.low + g.low) = q * f.low + q * g.low := Int.mul_add ..
    omega
/-- a period's step: shared, moved, summed -/
theorem next_of {f s h : Cv} {p : Pd} (hf : f.Ok) (hp : p.Ok) (hs : Shared f p.buy s) (hok : h.Ok) (hl : h.low = max (s.moved (0 - p.want)).low p.keep.low) (hr : h.last = min (s.moved (0 - p.want)).last p.keep.last)
    (ha : ∀ x, h.low ≤ x → x ≤ h.last → h.at x = (s.moved (0 - p.want)).at x + p.keep.at x) (hg : ∀ a q, h.gain q ≤ (s.moved (0 - p.want)).gain a + p.keep.gain (q - a)) : Next f p h where
  ok := hok
  le := fun t u t0 t1 u0 u1 k0 k1 => by
    have l1 : (s.moved (0 - p.want)).low = s.low + (0 - p.want) := rfl
    rw [l1] at hl
    rw [moved_last] at hr
    have sl := hs.low
    have sr := hs.last
    have c0 : h.low ≤ t + u - p.want := by omega
    have c1 : t + u - p.want ≤ h.last := by omega
    refine ⟨c0, c1, ?_⟩
    rw [ha _ c0 c1, moved_at]
    have e : t + u - p.want - (0 - p.want) = t + u := by omega
    rw [e]
    have := hf.share_le hp.buy hs.ok hs.low hs.last hs.gain t0 t1 u0 u1
    omega
  gain := fun a q => by
    have h1 := hg a q
    rw [moved_gain, hs.gain] at h1
    have : a * (0 - p.want) = 0 - a * p.want := by rw [Int.mul_sub]; omega
    omega
end MM
end

section
set_option Elab.async false
set_option linter.all false
/-! M4: a plan that no single change betters has prices that prove it. -/
namespace MM
def SPos (s : List (Int × Int)) : Prop := ∀ a ∈ s, 0 < a.1
theorem SPos.pos {s : List (Int × Int)} (h : SPos s) : Pos s := fun a ha => Int.le_of_lt (h a ha)
/-- the price of the last of l units -/
def lsl : List (Int × Int) → Int → Option Int
  | [], _ => none
  | (n, p) :: r, l => if l ≤ 0 then none else if l ≤ n then some p else lsl r (l - n)
theorem lsl_mem : ∀ {s : List (Int × Int)} {l p : Int}, lsl s l = some p → ∃ a ∈ s, a.2 = p
  | [], _, _, h => by cases h
  | (n, p) :: r, l, q, h => by
    unfold lsl at h
    split at h
    · cases h
    · split at h
      · cases h
        exact ⟨_, List.mem_cons_self, rfl⟩
      · obtain ⟨a, ha, e⟩ := lsl_mem h
        exact ⟨a, List.mem_cons_of_mem _ ha, e⟩
theorem lsl_zero : ∀ {s : List (Int × Int)} {l : Int}, l ≤ 0 → lsl s l = none
  | [], _, _ => rfl
  | (n, p) :: r, l, h => by simp [lsl, h]
theorem lsl_ok : ∀ {s : List (Int × Int)} {l : Int}, SPos s → 0 < l → l ≤ tot s → ∃ a, lsl s l = some a ∧ grd s (l - 1) = grd s l - a
  | [], l, _, h0, h1 => by
    simp only [tot] at h1
    omega
  | (n, p) :: r, l, hp, h0, h1 => by
    have hn : 0 < n := hp (n, p) List.mem_cons_self
    have hr : SPos r := fun a h => hp a (List.mem_cons_of_mem _ h)
    simp only [tot] at h1
    have n0 : ¬ l ≤ 0 := by omega
    by_cases hl : l ≤ n
    · refine ⟨p, by simp [lsl, n0, hl], ?_⟩
      have e1 : min n (l - 1) = l - 1 := by omega
      have e2 : min n l = l := by omega
      simp only [grd, e1, e2, Int.sub_self]
      have : p * (l - 1) = p * l - p := by rw [Int.mul_sub, Int.mul_one]
      omega
    · obtain ⟨a, h2, h3⟩ := lsl_ok (s := r) (l := l - n) hr (by omega) (by omega)
      refine ⟨a, by simp [lsl, n0, hl, h2], ?_⟩
      have e1 : min n (l - 1) = n := by omega
      have e2 : min n l = n := by omega
      have e3 : l - 1 - n = l - n - 1 := by omega
      simp only [grd, e1, e2, e3, h3]
      omega
theorem pa_ok : ∀ {s : List (Int × Int)} {l : Int}, SPos s → 0 ≤ l → l < tot s → ∃ b, pa s l = some b ∧ grd s (l + 1) = grd s l + b
  | [], l, _, h0, h1 => by
    simp only [tot] at h1
    omega
  | (n, p) :: r, l, hp, h0, h1 => by
    have hn : 0 < n := hp (n, p) List.mem_cons_self
    have hr : SPos r := fun a h => hp a (List.mem_cons_of_mem _ h)
    simp only [tot] at h1
    by_cases hl : l < n
    · refine ⟨p, by simp [pa, hl], ?_⟩
      have e1 : min n (l + 1) = l + 1 := by omega
      have e2 : min n l = l := by omega
      simp only [grd, e1, e2, Int.sub_self]
      have : p * (l + 1) = p * l + p := by rw [Int.mul_add, Int.mul_one]
      omega
    · obtain ⟨a, h2, h3⟩ := pa_ok (s := r) (l := l - n) hr (by omega) (by omega)
      refine ⟨a, by simp [pa, hl, h2], ?_⟩
      have e1 : min n (l + 1) = n := by omega
      have e2 : min n l = n := by omega
      have e3 : l + 1 - n = l - n + 1 := by omega
      simp only [grd, e1, e2, e3, h3]
      omega
theorem pa_end : ∀ {s : List (Int × Int)} {l : Int}, SPos s → tot s ≤ l → pa s l = none
  | [], _, _, _ => rfl
  | (n, p) :: r, l, hp, h => by
    have hr : SPos r := fun a h => hp a (List.mem_cons_of_mem _ h)
    have := tot_nn hr.pos
    simp only [tot] at h
    have hl : ¬ l < n := by omega
    simp only [pa, if_neg hl]
    exact pa_end hr (by omega)
theorem sup_ok : ∀ {s : List (Int × Int)} {l q : Int}, SPos s → Asc s → 0 ≤ l → l ≤ tot s → (∀ a, lsl s l = some a → a ≤ q) → (∀ b, pa s l = some b → q ≤ b) → G s q = q * l - grd s l
  | [], l, q, _, _, h0, h1, _, _ => by
    simp only [tot] at h1
    have e : l = 0 := by omega
    subst e
    simp [G, grd]
  | (n, p) :: r, l, q, hp, ha, h0, h1, hL, hR => by
    have hn : 0 < n := hp (n, p) List.mem_cons_self
    have hr : SPos r := fun a h => hp a (List.mem_cons_of_mem _ h)
    obtain ⟨hb, hc⟩ := List.pairwise_cons.mp ha
    simp only [tot] at h1
    by_cases hl : l < n
    · have hq : q ≤ p := hR p (by simp [pa, hl])
      have g0 : G r q = 0 := G_low fun a h => by
        have := hb a h
        simp only at this
        omega
      have e3 : max 0 (q - p) = 0 := by omega
      have e2 : min n l = l := by omega
      simp only [G, grd, e3, g0, e2, Int.sub_self, grd_zero hr.pos]
      by_cases hz : l = 0
      · subst hz
        simp
      · have hq2 : p ≤ q := hL p (by
          have n0 : ¬ l ≤ 0 := by omega
          have n1 : l ≤ n := by omega
          simp [lsl, n0, n1])
        have e : q = p := by omega
        subst e
        simp
    · have n0 : ¬ l ≤ 0 := by omega
      have hpq : p ≤ q := by
        by_cases e : l = n
        · exact hL p (by simp only [lsl, if_neg n0, if_pos (show l ≤ n by omega)])
        · obtain ⟨a, h2, _⟩ := lsl_ok (s := r) (l := l - n) hr (by omega) (by omega)
          have n1 : ¬ l ≤ n := by omega
          have := hL a (by simp [lsl, n0, n1, h2])
          obtain ⟨x, hx, ex⟩ := lsl_mem h2
          have := hb x hx
          simp only at this
          omega
      have ih := sup_ok (s := r) (l := l - n) (q := q) hr hc (by omega) (by omega) (fun a h => hL a (by
        by_cases e : l ≤ n
        · have e0 : l - n ≤ 0 := by omega
          rw [lsl_zero e0] at h
          cases h
        · simp [lsl, n0, e, h])) fun b h => hR b (by simp [pa, hl, h])
      have e2 : min n l = n := by omega
      have e3 : max 0 (q - p) = q - p := by omega
      simp only [G, grd, e2, e3, ih]
      have d1 : n * (q - p) = q * n - p * n := by rw [Int.mul_sub, Int.mul_comm n q, Int.mul_comm n p]
      have d2 : q * (l - n) = q * l - q * n := Int.mul_sub ..
      omega
theorem lsl_le_pa : ∀ {s : List (Int × Int)} {l a b : Int}, SPos s → Asc s → lsl s l = some a → pa s l = some b → a ≤ b
  | [], _, _, _, _, _, h, _ => by cases h
  | (n, p) :: r, l, a, b, hp, ha, h, h' => by
    have hr : SPos r := fun a h => hp a (List.mem_cons_of_mem _ h)
    obtain ⟨hb, hc⟩ := List.pairwise_cons.mp ha
    unfold lsl at h
    unfold pa at h'
    split at h
    · cases h
    · split at h
      · cases h
        split at h'
        · cases h'
          exact Int.le_refl _
        · obtain ⟨x, hx, ex⟩ := pa_mem h'
          have := hb x hx
          simp only at this
          omega
      · split at h'
        · omega
        · exact lsl_le_pa hr hc h h'
/-! ### ends -/
abbrev Ends := Option Int × Option Int
structure Cv.Good (c : Cv) : Prop where
  pos : SPos c.st
  asc : Asc c.st
theorem Cv.Good.ok {c : Cv} (h : c.Good) : c.Ok := ⟨h.pos.pos, h.asc⟩
def Cv.ends (c : Cv) (x : Int) : Ends := (lsl c.st (x - c.low), MM.pa c.st (x - c.low))
structure In (q : Int) (e : Ends) : Prop where
  lo : ∀ a, e.1 = some a → a ≤ q
  hi : ∀ b, e.2 = some b → q ≤ b
theorem Cv.Good.left {c : Cv} (h : c.Good) {x a : Int} (h1 : x ≤ c.last) (e : (c.ends x).1 = some a) : c.low ≤ x - 1 ∧ c.at (x - 1) = c.at x - a := by
  have h0 : 0 < x - c.low := by
    rcases Int.lt_or_le 0 (x - c.low) with h | h
    · exact h
    · unfold Cv.ends at e
      rw [lsl_zero h] at e
      cases e
  unfold Cv.last at h1
  obtain ⟨a', e', g⟩ := lsl_ok h.pos h0 (by omega)
  have : a' = a := by
    unfold Cv.ends at e
    simp only at e
    rw [e'] at e
    cases e
    rfl
  subst this
  refine ⟨by omega, ?_⟩
  unfold Cv.at
  have e2 : x - 1 - c.low = x - c.low - 1 := by omega
  rw [e2, g]
  omega
theorem Cv.Good.right {c : Cv} (h : c.Good) {x b : Int} (h0 : c.low ≤ x) (e : (c.ends x).2 = some b) : x + 1 ≤ c.last ∧ c.at (x + 1) = c.at x + b := by
  have h1 : x - c.low < tot c.st := by
    rcases Int.lt_or_le (x - c.low) (tot c.st) with h | h'
    · exact h
    · unfold Cv.ends at e
      simp only at e
      rw [pa_end h.pos h'] at e
      cases e
  obtain ⟨b', e', g⟩ := pa_ok h.pos (show 0 ≤ x - c.low by omega) h1
  have : b' = b := by
    unfold Cv.ends at e
    simp only at e
    rw [e'] at e
    cases e
    rfl
  subst this
  refine ⟨by unfold Cv.last; omega, ?_⟩
  unfold Cv.at
  have e2 : x + 1 - c.low = x - c.low + 1 := by omega
  rw [e2, g]
  omega
theorem Cv.Good.supp {c : Cv} (h : c.Good) {x q : Int} (h0 : c.low ≤ x) (h1 : x ≤ c.last) (i : In q (c.ends x)) : c.gain q = q * x - c.at x := by
  unfold Cv.last at h1
  have := sup_ok (s := c.st) (l := x - c.low) (q := q) h.pos h.asc (by omega) (by omega) i.lo i.hi
  unfold Cv.gain Cv.at
  rw [this]
  have : q * (x - c.low) = q * x - q * c.low := Int.mul_sub ..
  omega
theorem Cv.Good.ne {c : Cv} (h : c.Good) {x a b : Int} (e1 : (c.ends x).1 = some a) (e2 : (c.ends x).2 = some b) : a ≤ b := lsl_le_pa h.pos h.asc e1 e2
/-! ### what the program does with ends -/
def omax : Option Int → Option Int → Option Int
  | some a, some b => some (max a b)
  | some a, none => some a
  | none, x => x
def omin : Option Int → Option Int → Option Int
  | some a, some b => some (min a b)
  | some a, none => some a
  | none, x => x
def osub : Option Int → Option Int → Option Int
  | some a, some b => some (a - b)
  | _, _ => none
def cends (e f : Ends) : Ends := (omax e.1 f.1, omin e.2 f.2)
def wout (e f : Ends) : Ends := (osub e.1 f.2, osub e.2 f.1)
def besd (q : Int) (e : Ends) : Ends := (e.1.map (q + ·), e.2.map (q + ·))
def cprice (e f : Ends) : Int := match omax e.1 f.1 with
  | some a => a
  | none => match omin e.2 f.2 with
    | some b => b
    | none => 0
theorem omax_some {x y : Option Int} {v : Int} (h : omax x y = some v) : (x = some v ∨ y = some v) ∧ (∀ a, x = some a → a ≤ v) ∧ ∀ a, y = some a → a ≤ v := by
  cases x with
  | none =>
    simp only [omax] at h
    subst h
    exact ⟨.inr rfl, fun a e => (by cases e), fun a e => (by cases e; exact Int.le_refl _)⟩
  | some a =>
    cases y with
    | none =>
      simp only [omax] at h
      cases h
      exact ⟨.inl rfl, fun a e => (by cases e; exact Int.le_refl _), fun a e => (by cases e)⟩
    | some b =>
      simp only [omax, Option.some.injEq] at h
      subst h
      refine ⟨?_, fun c e => (by cases e; omega), fun c e => (by cases e; omega)⟩
      rcases Int.le_total a b with q | q
      · exact .inr (by congr 1; omega)
      · exact .inl (by congr 1; omega)
theorem omin_some {x y : Option Int} {v : Int} (h : omin x y = some v) : (x = some v ∨ y = some v) ∧ (∀ a, x = some a → v ≤ a) ∧ ∀ a, y = some a → v ≤ a := by
  cases x with
  | none =>
    simp only [omin] at h
    subst h
    exact ⟨.inr rfl, fun a e => (by cases e), fun a e => (by cases e; exact Int.le_refl _)⟩
  | some a =>
    cases y with
    | none =>
      simp only [omin] at h
      cases h
      exact ⟨.inl rfl, fun a e => (by cases e; exact Int.le_refl _), fun a e => (by cases e)⟩
    | some b =>
      simp only [omin, Option.some.injEq] at h
      subst h
      refine ⟨?_, fun c e => (by cases e; omega), fun c e => (by cases e; omega)⟩
      rcases Int.le_total a b with q | q
      · exact .inl (by congr 1; omega)
      · exact .inr (by congr 1; omega)
theorem omax_none {x y : Option Int} (h : omax x y = none) : x = none ∧ y = none := by
  cases x <;> cases y <;> simp [omax] at h ⊢
theorem omin_none {x y : Option Int} (h : omin x y = none) : x = none ∧ y = none := by
  cases x <;> cases y <;> simp [omin] at h ⊢
/-- every low of the two is at most every high -/
structure Cross (e f : Ends) : Prop where
  ee : ∀ a b, e.1 = some a → e.2 = some b → a ≤ b
  ef : ∀ a b, e.1 = some a → f.2 = some b → a ≤ b
  fe : ∀ a b, f.1 = some a → e.2 = some b → a ≤ b
  ff : ∀ a b, f.1 = some a → f.2 = some b → a ≤ b
theorem cprice_in {e f : Ends} (c : Cross e f) : In (cprice e f) e ∧ In (cprice e f) f := by
  unfold cprice
  split
  · rename_i v h
    obtain ⟨h1, h2, h3⟩ := omax_some h
    rcases h1 with h1 | h1
    · exact ⟨⟨h2, fun b hb => c.ee v b h1 hb⟩, ⟨h3, fun b hb => c.ef v b h1 hb⟩⟩
    · exact ⟨⟨h2, fun b hb => c.fe v b h1 hb⟩, ⟨h3, fun b hb => c.ff v b h1 hb⟩⟩
  · rename_i h
    obtain ⟨n1, n2⟩ := omax_none h
    split
    · rename_i v h
      obtain ⟨h1, h2, h3⟩ := omin_some h
      exact ⟨⟨fun a ha => (by rw [n1] at ha; cases ha), h2⟩, ⟨fun a ha => (by rw [n2] at ha; cases ha), h3⟩⟩
    · rename_i h
      obtain ⟨m1, m2⟩ := omin_none h
      exact ⟨⟨fun a ha => (by rw [n1] at ha; cases ha), fun b hb => (by rw [m1] at hb; cases hb)⟩, ⟨fun a ha => (by rw [n2] at ha; cases ha), fun b hb => (by rw [m2] at hb; cases hb)⟩⟩
/-! ### plans and single changes -/
inductive Inc : List Int → List Int → Prop
  | here (u : Int) (us : List Int) : Inc (u :: us) ((u + 1) :: us)
  | cons {us vs : List Int} (u : Int) : Inc us vs → Inc (u :: us) (u :: vs)
inductive Dec : List Int → List Int → Prop
  | here (u : Int) (us : List Int) : Dec (u :: us) ((u - 1) :: us)
  | cons {us vs : List Int} (u : Int) : Dec us vs → Dec (u :: us) (u :: vs)
inductive Chg : List Int → List Int → Prop
  | inc {us vs : List Int} : Inc us vs → Chg us vs
  | dec {us vs : List Int} : Dec us vs → Chg us vs
  | id {us vs : List Int} (u : Int) : Dec us vs → Chg (u :: us) ((u + 1) :: vs)
  | di {us vs : List Int} (u : Int) : Inc us vs → Chg (u :: us) ((u - 1) :: vs)
  | cons {us vs : List Int} (u : Int) : Chg us vs → Chg (u :: us) (u :: vs)
structure Pd.Good (p : Pd) : Prop where
  buy : p.buy.Good
  keep : p.keep.Good
def NoSave (s : Int) (ps : List Pd) (us : List Int) : Prop := ∀ vs, Chg us vs → Fits s ps vs → pcost s ps us ≤ pcost s ps vs
/-- the prices of a period that leave the later ones a choice -/
def span : Int → List Pd → List Int → Ends
  | s, p :: ps, u :: us => cends (p.buy.ends u) (wout (span (s + u - p.want) ps us) (p.keep.ends (s + u - p.want)))
  | _, _, _ => (some 0, some 0)
theorem osub_some {x y : Option Int} {v : Int} (h : osub x y = some v) : ∃ a b, x = some a ∧ y = some b ∧ v = a - b := by
  cases x <;> cases y <;> simp [osub] at h
  exact ⟨_, _, rfl, rfl, h.symm⟩
theorem lo_wit : ∀ {ps : List Pd} {us : List Int} {s v : Int}, (∀ p ∈ ps, p.Good) → Fits s ps us → (span s ps us).1 = some v → ∃ vs, (vs = us ∨ Dec us vs) ∧ Fits (s + 1) ps vs ∧ pcost (s + 1) ps vs = pcost s ps us - v
  | [], us, s, v, _, hf, h => by
    cases us with
    | nil =>
      simp [span] at h
      exact ⟨[], .inl rfl, trivial, by simp [pcost]; omega⟩
    | cons u us => exact hf.elim
  | p :: ps, us, s, v, hg, hf, h => by
    cases us with
    | nil => exact hf.elim
    | cons u us =>
      obtain ⟨a1, a2, a3, a4, a5⟩ := hf
      have gp := hg p List.mem_cons_self
      have gr : ∀ p ∈ ps, p.Good := fun x hx => hg x (List.mem_cons_of_mem _ hx)
      obtain ⟨h1, _, _⟩ := omax_some (show omax _ _ = some v from h)
      rcases h1 with h1 | h1
      · obtain ⟨b1, b2⟩ := gp.buy.left a2 h1
        have e : s + 1 + (u - 1) - p.want = s + u - p.want := by omega
        refine ⟨(u - 1) :: us, .inr (.here u us), ?_, ?_⟩
        · refine ⟨b1, by omega, ?_⟩
          rw [e]
          exact ⟨a3, a4, a5⟩
        · simp only [pcost, e, b2]
          omega
      · obtain ⟨a, b, e1, e2, ev⟩ := osub_some h1
        obtain ⟨vs, c1, c2, c3⟩ := lo_wit gr a5 e1
        obtain ⟨d1, d2⟩ := gp.keep.right a3 e2
        have e : s + 1 + u - p.want = s + u - p.want + 1 := by omega
        refine ⟨u :: vs, c1.elim (fun z => .inl (by rw [z])) fun z => .inr (.cons u z), ?_, ?_⟩
        · refine ⟨a1, a2, ?_⟩
          rw [e]
          exact ⟨by omega, d1, c2⟩
        · simp only [pcost, e, d2, c3]
          omega
theorem hi_wit : ∀ {ps : List Pd} {us : List Int} {s v : Int}, (∀ p ∈ ps, p.Good) → Fits s ps us → (span s ps us).2 = some v → ∃ vs, (vs = us ∨ Inc us vs) ∧ Fits (s - 1) ps vs ∧ pcost (s - 1) ps vs = pcost s ps us + v
  | [], us, s, v, _, hf, h => by
    cases us with
    | nil =>
      simp [span] at h
      exact ⟨[], .inl rfl, trivial, by simp [pcost]; omega⟩
    | cons u us => exact hf.elim
  | p :: ps, us, s, v, hg, hf, h => by
    cases us with
    | nil => exact hf.elim
    | cons u us =>
      obtain ⟨a1, a2, a3, a4, a5⟩ := hf
      have gp := hg p List.mem_cons_self
      have gr : ∀ p ∈ ps, p.Good := fun x hx => hg x (List.mem_cons_of_mem _ hx)
      obtain ⟨h1, _, _⟩ := omin_some (show omin _ _ = some v from h)
      rcases h1 with h1 | h1
      · obtain ⟨b1, b2⟩ := gp.buy.right a1 h1
        have e : s - 1 + (u + 1) - p.want = s + u - p.want := by omega
        refine ⟨(u + 1) :: us, .inr (.here u us), ?_, ?_⟩
        · refine ⟨by omega, b1, ?_⟩
          rw [e]
          exact ⟨a3, a4, a5⟩
        · simp only [pcost, e, b2]
          omega
      · obtain ⟨a, b, e1, e2, ev⟩ := osub_some h1
        obtain ⟨vs, c1, c2, c3⟩ := hi_wit gr a5 e1
        obtain ⟨d1, d2⟩ := gp.keep.left a4 e2
        have e : s - 1 + u - p.want = s + u - p.want - 1 := by omega
        refine ⟨u :: vs, c1.elim (fun z => .inl (by rw [z])) fun z => .inr (.cons u z), ?_, ?_⟩
        · refine ⟨a1, a2, ?_⟩
          rw [e]
          exact ⟨d1, by omega, c2⟩
        · simp only [pcost, e, d2, c3]
          omega
theorem noSave_tail {p : Pd} {ps : List Pd} {u s : Int} {us : List Int} (hf : Fits s (p :: ps) (u :: us)) (h : NoSave s (p :: ps) (u :: us)) : NoSave (s + u - p.want) ps us := fun vs hc hv => by
  obtain ⟨a1, a2, a3, a4, a5⟩ := hf
  have := h (u :: vs) (.cons u hc) ⟨a1, a2, a3, a4, hv⟩
  simp only [pcost] at this
  omega
/-- no price span is empty -/
theorem span_cross : ∀ {ps : List Pd} {us : List Int} {s : Int}, (∀ p ∈ ps, p.Good) → Fits s ps us → NoSave s ps us → (∀ a b, (span s ps us).1 = some a → (span s ps us).2 = some b → a ≤ b)
  | [], us, s, _, hf, _ => by
    intro a b h1 h2
    cases us with
    | nil =>
      simp [span] at h1 h2
      omega
    | cons u us => exact hf.elim
  | p :: ps, us, s, hg, hf, hs => by
    cases us with
    | nil => exact hf.elim
    | cons u us =>
      have hf' := hf
      obtain ⟨a1, a2, a3, a4, a5⟩ := hf
      have gp := hg p List.mem_cons_self
      have gr : ∀ p ∈ ps, p.Good := fun x hx => hg x (List.mem_cons_of_mem _ hx)
      have ih := span_cross gr a5 (noSave_tail hf' hs)
      intro a b h1 h2
      obtain ⟨h1, _, _⟩ := omax_some (show omax _ _ = some a from h1)
      obtain ⟨h2, _, _⟩ := omin_some (show omin _ _ = some b from h2)
      rcases h1 with h1 | h1 <;> rcases h2 with h2 | h2
      · exact gp.buy.ne h1 h2
      · obtain ⟨x, y, e1, e2, ev⟩ := osub_some h2
        obtain ⟨vs, c1, c2, c3⟩ := hi_wit gr a5 e1
        obtain ⟨d1, d2⟩ := gp.buy.left a2 h1
        obtain ⟨f1, f2⟩ := gp.keep.left a4 e2
        have e : s + (u - 1) - p.want = s + u - p.want - 1 := by omega
        have hc : Chg (u :: us) ((u - 1) :: vs) := c1.elim (fun z => .dec (by rw [z]; exact .here u us)) fun z => .di u z
        have := hs _ hc ⟨d1, by omega, by rw [e]; exact f1, by rw [e]; omega, by rw [e]; exact c2⟩
        simp only [pcost, e, d2, f2, c3] at this
        omega
      · obtain ⟨x, y, e1, e2, ev⟩ := osub_some h1
        obtain ⟨vs, c1, c2, c3⟩ := lo_wit gr a5 e1
        obtain ⟨d1, d2⟩ := gp.buy.right a1 h2
        obtain ⟨f1, f2⟩ := gp.keep.right a3 e2
        have e : s + (u + 1) - p.want = s + u - p.want + 1 := by omega
        have hc : Chg (u :: us) ((u + 1) :: vs) := c1.elim (fun z => .inc (by rw [z]; exact .here u us)) fun z => .id u z
        have := hs _ hc ⟨by omega, d1, by rw [e]; omega, by rw [e]; exact f1, by rw [e]; exact c2⟩
        simp only [pcost, e, d2, f2, c3] at this
        omega
      · obtain ⟨x, y, e1, e2, ev⟩ := osub_some h1
        obtain ⟨x', y', e1', e2', ev'⟩ := osub_some h2
        have := ih x x' e1 e1'
        have := gp.keep.ne e2' e2
        omega
/-- the prices, one after another; e: what stands between the last and this -/
def prices : Int → List Pd → List Int → Int → Ends → List Int
  | s, p :: ps, u :: us, q, e => cprice (span s (p :: ps) (u :: us)) (besd q e) :: prices (s + u - p.want) ps us (cprice (span s (p :: ps) (u :: us)) (besd q e)) (p.keep.ends (s + u - p.want))
  | _, _, _, _, _ => []
theorem besd_lo {q a : Int} {e : Ends} (h : (besd q e).1 = some a) : ∃ x, e.1 = some x ∧ a = q + x := by
  unfold besd at h
  simp only [Option.map_eq_some_iff] at h
  obtain ⟨x, h1, h2⟩ := h
  exact ⟨x, h1, h2.symm⟩
theorem besd_hi {q a : Int} {e : Ends} (h : (besd q e).2 = some a) : ∃ x, e.2 = some x ∧ a = q + x := by
  unfold besd at h
  simp only [Option.map_eq_some_iff] at h
  obtain ⟨x, h1, h2⟩ := h
  exact ⟨x, h1, h2.symm⟩
theorem in_besd {q r : Int} {e : Ends} (h : In r (besd q e)) : In (r - q) e :=
  ⟨fun a ha => by
    have := h.lo (q + a) (by unfold besd; simp [ha])
    omega, fun b hb => by
    have := h.hi (q + b) (by unfold besd; simp [hb])
    omega⟩
theorem prices_head {s q : Int} {ps : List Pd} {us : List Int} {e : Ends} (hl : us.length = ps.length) (c : Cross (span s ps us) (besd q e)) : In ((prices s ps us q e).headD 0) (span s ps us) ∧ In ((prices s ps us q e).headD 0) (besd q e) := by
  cases ps with
  | nil =>
    cases us with
    | nil =>
      simp only [prices, List.headD_nil]
      refine ⟨⟨fun a h => ?_, fun b h => ?_⟩, ⟨fun a h => ?_, fun b h => ?_⟩⟩
      · simp [span] at h; omega
      · simp [span] at h; omega
      · exact c.fe a 0 h rfl
      · exact c.ef 0 b rfl h
    | cons u us => cases hl
  | cons p ps =>
    cases us with
    | nil => cases hl
    | cons u us => exact cprice_in c
theorem fits_len : ∀ {ps : List Pd} {us : List Int} {s : Int}, Fits s ps us → us.length = ps.length
  | [], [], _, _ => rfl
  | [], _ :: _, _, h => h.elim
  | _ :: _, [], _, h => h.elim
  | p :: ps, u :: us, s, h => by
    simp [fits_len h.2.2.2.2]
/-- the prices prove the plan -/
theorem prices_ok : ∀ {ps : List Pd} {us : List Int} {s q : Int} {e : Ends}, (∀ p ∈ ps, p.Good) → Fits s ps us → NoSave s ps us → Cross (span s ps us) (besd q e) → (prices s ps us q e).length = ps.length ∧ pgain ps (prices s ps us q e) = 0 - (prices s ps us q e).headD 0 * s - pcost s ps us
  | [], us, s, q, e, _, hf, _, _ => by
    cases us with
    | nil => simp [prices, pgain, pcost]
    | cons u us => exact hf.elim
  | p :: ps, us, s, q, e, hg, hf, hs, c => by
    cases us with
    | nil => exact hf.elim
    | cons u us =>
      have hf' := hf
      obtain ⟨a1, a2, a3, a4, a5⟩ := hf
      have gp := hg p List.mem_cons_self
      have gr : ∀ p ∈ ps, p.Good := fun x hx => hg x (List.mem_cons_of_mem _ hx)
      obtain ⟨i1, i2⟩ := cprice_in c
      generalize hr : cprice (span s (p :: ps) (u :: us)) (besd q e) = r at i1 i2
      have hn := noSave_tail hf' hs
      -- r stands in both parts of the span
      have in1 : In r (p.buy.ends u) := ⟨fun a ha => by
          cases hm : omax (p.buy.ends u).1 (wout (span (s + u - p.want) ps us) (p.keep.ends (s + u - p.want))).1 with
          | none =>
            rw [(omax_none hm).1] at ha
            cases ha
          | some v =>
            have h1 := (omax_some hm).2.1 a ha
            have h2 := i1.lo v hm
            omega, fun b hb => by
          cases hm : omin (p.buy.ends u).2 (wout (span (s + u - p.want) ps us) (p.keep.ends (s + u - p.want))).2 with
          | none =>
            rw [(omin_none hm).1] at hb
            cases hb
          | some v =>
            have h1 := (omin_some hm).2.1 b hb
            have h2 := i1.hi v hm
            omega⟩
      have in2 : In r (wout (span (s + u - p.want) ps us) (p.keep.ends (s + u - p.want))) := ⟨fun a ha => by
          cases hm : omax (p.buy.ends u).1 (wout (span (s + u - p.want) ps us) (p.keep.ends (s + u - p.want))).1 with
          | none =>
            rw [(omax_none hm).2] at ha
            cases ha
          | some v =>
            have h1 := (omax_some hm).2.2 a ha
            have h2 := i1.lo v hm
            omega, fun b hb => by
          cases hm : omin (p.buy.ends u).2 (wout (span (s + u - p.want) ps us) (p.keep.ends (s + u - p.want))).2 with
          | none =>
            rw [(omin_none hm).2] at hb
            cases hb
          | some v =>
            have h1 := (omin_some hm).2.2 b hb
            have h2 := i1.hi v hm
            omega⟩
      have c' : Cross (span (s + u - p.want) ps us) (besd r (p.keep.ends (s + u - p.want))) := by
        refine ⟨span_cross gr a5 hn, fun a b ha hb => ?_, fun a b ha hb => ?_, fun a b ha hb => ?_⟩
        · obtain ⟨x, e1, rfl⟩ := besd_hi hb
          have := in2.lo (a - x) (by unfold wout; simp [ha, e1, osub])
          omega
        · obtain ⟨x, e1, rfl⟩ := besd_lo ha
          have := in2.hi (b - x) (by unfold wout; simp [hb, e1, osub])
          omega
        · obtain ⟨x, e1, rfl⟩ := besd_lo ha
          obtain ⟨y, e2, rfl⟩ := besd_hi hb
          have := gp.keep.ne e1 e2
          omega
      obtain ⟨j1, j2⟩ := prices_ok (q := r) (e := p.keep.ends (s + u - p.want)) gr a5 hn c'
      obtain ⟨k1, k2⟩ := prices_head (fits_len a5) c'
      have g1 := gp.buy.supp a1 a2 in1
      have g2 := gp.keep.supp a3 a4 (in_besd k2)
      simp only [prices, hr, List.length_cons, j1, pgain, List.headD_cons, g1, g2, j2, pcost]
      refine ⟨trivial, ?_⟩
      generalize (prices (s + u - p.want) ps us r (p.keep.ends (s + u - p.want))).headD 0 = r'
      generalize p.want = w
      have d1 : r * (s + u - w) = r * s + r * u - r * w := by rw [Int.mul_sub, Int.mul_add]
      have d2 : (r' - r) * (s + u - w) = r' * (s + u - w) - r * (s + u - w) := Int.sub_mul ..
      omega
theorem cross_first {s : Int} {ps : List Pd} {us : List Int} (hg : ∀ p ∈ ps, p.Good) (hf : Fits s ps us) (hs : NoSave s ps us) : Cross (span s ps us) (besd 0 (none, none)) :=
  ⟨span_cross hg hf hs, fun a b _ h => (by simp [besd] at h), fun a b h => (by simp [besd] at h), fun a b h => (by simp [besd] at h)⟩
/-- strong: no single change saves, so the prices prove the plan's cost, and it is the lowest -/
theorem strong {b : Int} {ps : List Pd} {us : List Int} {k : Cv} (c : Chain ⟨b, 0, []⟩ ps k) (hg : ∀ p ∈ ps, p.Good) (hf : Fits b ps us) (hs : NoSave b ps us) :
    (prices b ps us 0 (none, none)).length = ps.length ∧ pbound b ps (prices b ps us 0 (none, none)) = pcost b ps us ∧ pcost b ps us = 0 - k.gain 0 := by
  obtain ⟨h1, h2⟩ := prices_ok hg hf hs (cross_first hg hf hs)
  have e : pbound b ps (prices b ps us 0 (none, none)) = pcost b ps us := by
    unfold pbound
    rw [h2, Int.mul_comm b]
    omega
  refine ⟨h1, e, ?_⟩
  have a := low_le c hf
  have d := bound_le c h1
  rw [e] at d
  omega
end MM
end

section
set_option Elab.async false
set_option linter.all false
/-! M5: the places that a sum is laid along. -/
namespace MM
theorem bnd_len : ∀ {s : List (Int × Int)} {b : Int}, (bnd b s).length = s.length + 1
  | [], _ => rfl
  | (n, p) :: r, b => by simp [bnd, bnd_len (s := r)]
theorem run_of {f g : Cv} {lo hi : Int} : ∀ (l pre : List Int), (pre ++ l).Pairwise (· < ·) → (∀ z, z ∈ f.bends ∨ z ∈ g.bends → lo ≤ z → z ≤ hi → z ∈ pre ++ l) → (∀ x ∈ pre ++ l, lo ≤ x ∧ x ≤ hi) → Run f g l
  | [], _, _, _, _ => trivial
  | [b], _, _, _, _ => trivial
  | b :: b' :: r, pre, hp, hz, hb => by
    have h1 := List.pairwise_append.mp hp
    obtain ⟨_, h2, h3⟩ := h1
    obtain ⟨h4, h5⟩ := List.pairwise_cons.mp h2
    obtain ⟨h6, h7⟩ := List.pairwise_cons.mp h5
    have e : pre ++ b :: b' :: r = (pre ++ [b]) ++ b' :: r := by simp
    refine ⟨h4 b' List.mem_cons_self, fun z hm ⟨z0, z1⟩ => ?_, run_of (b' :: r) (pre ++ [b]) (e ▸ hp) (fun z hm z0 z1 => e ▸ hz z hm z0 z1) fun x hx => hb x (e ▸ hx)⟩
    have b0 := hb b (by simp)
    have b1 := hb b' (by simp)
    rcases List.mem_append.mp (hz z hm (by omega) (by omega)) with h | h
    · have := h3 z h b List.mem_cons_self
      omega
    · rcases List.mem_cons.mp h with h | h
      · omega
      · rcases List.mem_cons.mp h with h | h
        · omega
        · have := h6 z h
          omega
theorem lastOf_eq {hi : Int} : ∀ {r : List Int} {b : Int}, (b :: r).Pairwise (· < ·) → hi ∈ b :: r → (∀ x ∈ b :: r, x ≤ hi) → lastOf b r = hi
  | [], b, _, h, _ => by
    simp at h
    exact h.symm
  | b' :: r, b, hp, h, hb => by
    obtain ⟨h1, h2⟩ := List.pairwise_cons.mp hp
    rcases List.mem_cons.mp h with e | h
    · have a := h1 b' List.mem_cons_self
      have c := hb b' (List.mem_cons_of_mem _ List.mem_cons_self)
      omega
    · exact lastOf_eq (r := r) h2 h fun x hx => hb x (List.mem_cons_of_mem _ hx)
theorem first_eq {lo : Int} {l : List Int} (hp : l.Pairwise (· < ·)) (h : lo ∈ l) (hb : ∀ x ∈ l, lo ≤ x) : ∃ r, l = lo :: r := by
  cases l with
  | nil => cases h
  | cons b r =>
    refine ⟨r, ?_⟩
    rcases List.mem_cons.mp h with e | h
    · rw [e]
    · have a := (List.pairwise_cons.mp hp).1 lo h
      have c := hb b List.mem_cons_self
      omega
theorem zip_split : ∀ {l : List Int} {a : Int × Int}, a ∈ l.zip l.tail → ∃ t t', l = t ++ a.1 :: a.2 :: t'
  | [], _, h => by cases h
  | [b], _, h => by cases h
  | b :: b' :: r, a, h => by
    simp only [List.tail_cons, List.zip_cons_cons, List.mem_cons] at h
    rcases h with h | h
    · subst h
      exact ⟨[], r, rfl⟩
    · obtain ⟨t, t', e⟩ := zip_split (l := b' :: r) h
      exact ⟨b :: t, t', by rw [e]; rfl⟩
theorem segs_zip (f g : Cv) : ∀ l : List Int, segs f g l = (l.zip l.tail).map fun a => (a.2 - a.1, slope f g a.1)
  | [] => rfl
  | [b] => rfl
  | b :: b' :: r => by
    simp only [segs, List.tail_cons, List.zip_cons_cons, List.map_cons]
    rw [segs_zip f g (b' :: r)]
    rfl
/-! ### how great, how many -/
def PB (m : Int) (s : List (Int × Int)) : Prop := ∀ a ∈ s, 0 - m ≤ a.2 ∧ a.2 ≤ m
theorem jstep_mem {f : List (Int × Int)} {a b : Int × Int} (h : b ∈ jstep f a) : (∃ c ∈ f, c.2 = b.2) ∨ b.2 = a.2 := by
  have k1 : b ∈ f → (∃ c ∈ f, c.2 = b.2) ∨ b.2 = a.2 := fun h => .inl ⟨b, h, rfl⟩
  have k2 : b ∈ f ++ [a] → (∃ c ∈ f, c.2 = b.2) ∨ b.2 = a.2 := fun h => by
    rcases List.mem_append.mp h with h | h
    · exact k1 h
    · exact .inr (by rw [List.mem_singleton.mp h])
  unfold jstep at h
  split at h
  · rename_i c hc
    have sp := last_split hc
    split at h
    · rename_i e
      rcases List.mem_append.mp h with h | h
      · exact k1 (by rw [sp]; exact List.mem_append_left _ h)
      · exact .inr (by rw [List.mem_singleton.mp h])
    · split at h
      · exact k2 h
      · exact k1 h
  · split at h
    · exact k2 h
    · exact k1 h
theorem foldl_mem : ∀ {s f : List (Int × Int)} {b : Int × Int}, b ∈ s.foldl jstep f → (∃ c ∈ f, c.2 = b.2) ∨ ∃ c ∈ s, c.2 = b.2
  | [], f, b, h => .inl ⟨b, h, rfl⟩
  | a :: r, f, b, h => by
    rw [List.foldl_cons] at h
    rcases foldl_mem h with ⟨c, hc, e⟩ | ⟨c, hc, e⟩
    · rcases jstep_mem hc with ⟨d, hd, e2⟩ | e2
      · exact .inl ⟨d, hd, e2.trans e⟩
      · exact .inr ⟨a, List.mem_cons_self, e2.symm.trans e⟩
    · exact .inr ⟨c, List.mem_cons_of_mem _ hc, e⟩
theorem joined_pb {m : Int} {s : List (Int × Int)} (h : PB m s) : PB m (joined s) := fun b hb => by
  rcases foldl_mem hb with ⟨c, hc, _⟩ | ⟨c, hc, e⟩
  · cases hc
  · have := h c hc
    rw [e] at this
    exact this
theorem jstep_len (f : List (Int × Int)) (a : Int × Int) : (jstep f a).length ≤ f.length + 1 := by
  unfold jstep
  split
  · rename_i b hb
    have sp := congrArg List.length (last_split hb)
    simp at sp
    split
    · simp
    · split <;> simp
  · split <;> simp
theorem foldl_len : ∀ {s f : List (Int × Int)}, (s.foldl jstep f).length ≤ f.length + s.length
  | [], f => Nat.le_refl _
  | a :: r, f => by
    have h1 := foldl_len (s := r) (f := jstep f a)
    have h2 := jstep_len f a
    simp only [List.foldl_cons, List.length_cons]
    omega
theorem joined_len {s : List (Int × Int)} : (joined s).length ≤ s.length := by
  have := foldl_len (s := s) (f := [])
  simpa [joined] using this
theorem slope_pb {f g : Cv} {m n b : Int} (hm : 0 ≤ m) (hn : 0 ≤ n) (hf : PB m f.st) (hg : PB n g.st) : 0 - (m + n) ≤ slope f g b ∧ slope f g b ≤ m + n := by
  have h1 : 0 - m ≤ (f.pa b).getD 0 ∧ (f.pa b).getD 0 ≤ m := by
    cases h : f.pa b with
    | none => exact ⟨by simp; omega, by simpa using hm⟩
    | some p =>
      obtain ⟨a, ha, e⟩ := pa_mem h
      have := hf a ha
      rw [e] at this
      exact this
  have h2 : 0 - n ≤ (g.pa b).getD 0 ∧ (g.pa b).getD 0 ≤ n := by
    cases h : g.pa b with
    | none => exact ⟨by simp; omega, by simpa using hn⟩
    | some p =>
      obtain ⟨a, ha, e⟩ := pa_mem h
      have := hg a ha
      rw [e] at this
      exact this
  unfold slope
  omega
end MM
end

section
set_option Elab.async false
set_option linter.all false
/-! M6: stocks, and what fits. -/
namespace MM
def stk : Int → List Pd → List Int → List Int
  | s, p :: ps, u :: us => (s + u - p.want) :: stk (s + u - p.want) ps us
  | _, _, _ => []
theorem stk_len : ∀ {ps : List Pd} {us : List Int} {s : Int}, us.length = ps.length → (stk s ps us).length = ps.length
  | [], [], _, _ => rfl
  | [], _ :: _, _, h => by cases h
  | _ :: _, [], _, h => by cases h
  | p :: ps, u :: us, s, h => by
    simp only [stk, List.length_cons]
    rw [stk_len (by simpa using h)]
def inC (c : Cv) (x : Int) : Bool := decide (c.low ≤ x ∧ x ≤ c.last)
def okU (ps : List Pd) (us : List Int) : Bool := (ps.zip us).all fun a => inC a.1.buy a.2
def okS (ps : List Pd) (ss : List Int) : Bool := (ps.zip ss).all fun a => inC a.1.keep a.2
def fitsB (s : Int) (ps : List Pd) (us : List Int) : Bool := decide (us.length = ps.length) && (okU ps us && okS ps (stk s ps us))
theorem fitsB_iff : ∀ {ps : List Pd} {us : List Int} {s : Int}, fitsB s ps us = true ↔ Fits s ps us
  | [], [], _ => by simp [fitsB, okU, okS, stk, Fits]
  | [], _ :: _, _ => by simp [fitsB, Fits]
  | _ :: _, [], _ => by simp [fitsB, Fits]
  | p :: ps, u :: us, s => by
    have ih := fitsB_iff (ps := ps) (us := us) (s := s + u - p.want)
    simp only [Fits, ← ih]
    simp only [fitsB, okU, okS, stk, List.zip_cons_cons, List.all_cons, List.length_cons, Bool.and_eq_true, decide_eq_true_iff, inC, Nat.add_right_cancel_iff]
    constructor
    · rintro ⟨h1, ⟨⟨h2, h3⟩, h4⟩, ⟨h5, h6⟩, h7⟩
      exact ⟨h2, h3, h5, h6, h1, h4, h7⟩
    · rintro ⟨h2, h3, h5, h6, h1, h4, h7⟩
      exact ⟨h1, ⟨⟨h2, h3⟩, h4⟩, ⟨h5, h6⟩, h7⟩
theorem fitsB_false {ps : List Pd} {us : List Int} {s : Int} : fitsB s ps us = false ↔ ¬ Fits s ps us := by
  rw [← fitsB_iff, Bool.not_eq_true]
theorem pcost_sum : ∀ {ps : List Pd} {us : List Int} {s : Int}, us.length = ps.length → (((ps.zip (us.zip (stk s ps us))).map fun a => a.1.buy.at a.2.1 + a.1.keep.at a.2.2).sum) = pcost s ps us
  | [], [], _, _ => rfl
  | [], _ :: _, _, h => by cases h
  | _ :: _, [], _, h => by cases h
  | p :: ps, u :: us, s, h => by
    simp only [stk, List.zip_cons_cons, List.map_cons, List.sum_cons, pcost]
    rw [pcost_sum (by simpa using h)]
/-- what the drawn books hold -/
structure Cv.Fine (c : Cv) : Prop where
  good : c.Good
  len : c.st.length ≤ 3
  pb : PB 12 c.st
  low : -1000000 ≤ c.low ∧ c.low ≤ 1000000
  cost : -1000000 ≤ c.cost ∧ c.cost ≤ 1000000
  tot : tot c.st ≤ 1000000
structure Pd.Fine (p : Pd) : Prop where
  buy : p.buy.Fine
  keep : p.keep.Fine
  want : -1000000 ≤ p.want ∧ p.want ≤ 1000000
structure Book where
  b : Int
  ps : List Pd
structure Book.Fine (k : Book) : Prop where
  ps : ∀ p ∈ k.ps, p.Fine
  ne : k.ps ≠ []
  len : k.ps.length ≤ 4
  b : -1000000 ≤ k.b ∧ k.b ≤ 1000000
theorem Book.Fine.good {k : Book} (h : k.Fine) : ∀ p ∈ k.ps, p.Good := fun p hp => ⟨(h.ps p hp).buy.good, (h.ps p hp).keep.good⟩
end MM
end

section
set_option Elab.async false
set_option linter.all false
/-! M7: single changes as the program names them. -/
namespace MM
inductive Ch
  | more (i : Nat)
  | less (i : Nat)
  | shift (i j : Nat)
def Ch.ok (n : Nat) : Ch → Prop
  | .more i => i < n
  | .less i => i < n
  | .shift i j => i < n ∧ j < n ∧ i ≠ j
def add1 (us : List Int) (i : Nat) (d : Int) : List Int := us.set i (us[i]?.getD 0 + d)
def Ch.ap : Ch → List Int → List Int
  | .more i, us => add1 us i 1
  | .less i, us => add1 us i (-1)
  | .shift i j, us => add1 (add1 us i 1) j (-1)
theorem add1_len (us : List Int) (i : Nat) (d : Int) : (add1 us i d).length = us.length := by simp [add1]
theorem ap_len (c : Ch) (us : List Int) : (c.ap us).length = us.length := by
  cases c <;> simp [Ch.ap, add1_len]
theorem inc_ap {us vs : List Int} (h : Inc us vs) : ∃ i, i < us.length ∧ vs = add1 us i 1 := by
  induction h with
  | here u us => exact ⟨0, by simp, by simp [add1]⟩
  | cons u _ ih =>
    obtain ⟨i, hi, e⟩ := ih
    exact ⟨i + 1, by simpa using hi, by simp [add1] at e ⊢; exact e⟩
theorem dec_ap {us vs : List Int} (h : Dec us vs) : ∃ i, i < us.length ∧ vs = add1 us i (-1) := by
  induction h with
  | here u us => exact ⟨0, by simp, by simp [add1]; rfl⟩
  | cons u _ ih =>
    obtain ⟨i, hi, e⟩ := ih
    exact ⟨i + 1, by simpa using hi, by simp [add1] at e ⊢; exact e⟩
theorem add1_cons (u : Int) (us : List Int) (i : Nat) (d : Int) : add1 (u :: us) (i + 1) d = u :: add1 us i d := by simp [add1]
theorem add1_zero (u : Int) (us : List Int) (d : Int) : add1 (u :: us) 0 d = (u + d) :: us := by simp [add1]
theorem chg_ap {us vs : List Int} (h : Chg us vs) : ∃ c : Ch, c.ok us.length ∧ c.ap us = vs := by
  induction h with
  | inc h =>
    obtain ⟨i, hi, e⟩ := inc_ap h
    exact ⟨.more i, hi, e.symm⟩
  | dec h =>
    obtain ⟨i, hi, e⟩ := dec_ap h
    exact ⟨.less i, hi, e.symm⟩
  | id u h =>
    obtain ⟨i, hi, e⟩ := dec_ap h
    refine ⟨.shift 0 (i + 1), ⟨by simp, by simpa using hi, by omega⟩, ?_⟩
    simp only [Ch.ap, add1_zero, add1_cons, e]
  | di u h =>
    obtain ⟨i, hi, e⟩ := inc_ap h
    refine ⟨.shift (i + 1) 0, ⟨by simpa using hi, by simp, by omega⟩, ?_⟩
    simp only [Ch.ap, add1_zero, add1_cons, e]
    rfl
  | cons u _ ih =>
    obtain ⟨c, hc, e⟩ := ih
    cases c with
    | more i => exact ⟨.more (i + 1), by simpa [Ch.ok] using hc, by simp only [Ch.ap, add1_cons] at e ⊢; rw [e]⟩
    | less i => exact ⟨.less (i + 1), by simpa [Ch.ok] using hc, by simp only [Ch.ap, add1_cons] at e ⊢; rw [e]⟩
    | shift i j => exact ⟨.shift (i + 1) (j + 1), by simpa [Ch.ok] using hc, by simp only [Ch.ap, add1_cons] at e ⊢; rw [e]⟩
/-- the program's order -/
def allC (n : Nat) : List Ch := ((List.range n).map .more ++ (List.range n).map .less) ++ (List.range n).flatMap fun i => ((List.range n).filter fun j => !decide (i = j)).map (.shift i)
def lawC (n : Nat) : List Ch := (List.range n).flatMap fun i => [.more i, .less i] ++ ((List.range n).filter fun j => !decide (i = j)).map (.shift i)
theorem allC_mem {n : Nat} {c : Ch} : c ∈ allC n ↔ c.ok n := by
  cases c <;> simp [allC, Ch.ok]
theorem lawC_ok {n : Nat} {c : Ch} (h : c ∈ lawC n) : c.ok n := by
  cases c <;> simp [lawC, Ch.ok] at h ⊢ <;> omega
def saves (k : Book) (us : List Int) (c : Ch) : Bool := fitsB k.b k.ps (c.ap us) && decide (pcost k.b k.ps (c.ap us) < pcost k.b k.ps us)
theorem noSave_of {k : Book} {us : List Int} (h : ∀ c ∈ allC us.length, saves k us c = false) : NoSave k.b k.ps us := fun vs hc hv => by
  obtain ⟨c, ok, e⟩ := chg_ap hc
  have := h c (allC_mem.mpr ok)
  unfold saves at this
  rw [e, fitsB_iff.mpr hv, Bool.true_and, decide_eq_false_iff_not] at this
  omega
theorem lawC_len (n : Nat) : (lawC n).length ≤ n * (n + 2) := by
  unfold lawC
  rw [List.length_flatMap]
  have : ∀ l : List Nat, (l.map fun a => (([Ch.more a, Ch.less a] ++ ((List.range n).filter fun j => !decide (a = j)).map (Ch.shift a))).length).sum ≤ l.length * (n + 2) := by
    intro l
    induction l with
    | nil => simp
    | cons a r ih =>
      have := List.length_filter_le (fun j => !decide (a = j)) (List.range n)
      rw [List.length_range] at this
      simp only [List.map_cons, List.sum_cons, List.length_append, List.length_map, List.length_cons, List.length_nil] at ih ⊢
      rw [Nat.add_mul]
      omega
  have := this (List.range n)
  rw [List.length_range] at this
  exact this
end MM
end

section
set_option Elab.async false
set_option linter.all false
set_option maxRecDepth 100000
/-! E0: one step of a def's function of data. -/
namespace FD
open MM PySem L2
section
variable {ρ ρ' : Rho} {fe fa fb fc : FE} {fl fm : FL} {ft tb : FT} {d x y z : D} {ds es : List D} {f g : FS} {o : Out} {i np n : Nat} {gg : FG}
theorem runD_rt {fs : FS} (h : ds.length = np) (e : fs (startR n ds) = some (.rt d)) : runD np n fs ds = some d := by
  unfold runD
  rw [if_pos h, e]
  rfl
theorem runD_nx {fs : FS} (h : ds.length = np) (e : fs (startR n ds) = some (.nx ρ)) : runD np n fs ds = some .non := by
  unfold runD
  rw [if_pos h, e]
  rfl
theorem sSeq_nx (e : f ρ = some (.nx ρ')) : sSeq f g ρ = g ρ' := by
  unfold sSeq
  rw [e]
  rfl
theorem sSeq_rt (e : f ρ = some (.rt d)) : sSeq f g ρ = some (.rt d) := by
  unfold sSeq
  rw [e]
  rfl
theorem sSet_e (e : fe ρ = some d) : sSet i fe ρ = some (.nx (ρ.set i (.dat d))) := by
  unfold sSet
  rw [e]
  rfl
theorem sSetN_e (e : fl ρ = some ds) : sSetN i fl ρ = some (.nx (ρ.set i (.own ds))) := by
  unfold sSetN
  rw [e]
  rfl
theorem sAsg_e (e : fe ρ = some d) (h : gg d ρ = some ρ') : sAsg gg fe ρ = some (.nx ρ') := by
  unfold sAsg
  rw [e, Option.bind_some, h]
  rfl
theorem sRet_e (e : fe ρ = some d) : sRet fe ρ = some (.rt d) := by
  unfold sRet
  rw [e]
  rfl
theorem sDo_e (e : fe ρ = some d) : sDo fe ρ = some (.nx ρ) := by
  unfold sDo
  rw [e]
  rfl
theorem sFrz_e (h : ρ[i]? = some (.own ds)) : sFrz i ρ = some (.nx (ρ.set i (.dat (.lst ds)))) := by
  unfold sFrz
  rw [h]
theorem sApp_e (h : ρ[i]? = some (.own ds)) (e : fe ρ = some d) (hz : ds.length < 100000) : sApp i fe ρ = some (.nx (ρ.set i (.own (ds ++ [d])))) := by
  unfold sApp
  rw [h]
  simp only [e, Option.bind_some, hz, if_true]
theorem sFor_e {it : FL} {body els : FS} {r : Option Out} (h : it ρ = some ds) (e : forL gg body els ds ρ = r) : sFor it gg body els ρ = r := by
  unfold sFor
  rw [h]
  exact e
theorem sIf_t {r : Option Out} (h : ft ρ = some true) (e : f ρ = r) : sIf ft f g ρ = r := by
  unfold sIf
  rw [h]
  exact e
theorem sIf_f {r : Option Out} (h : ft ρ = some false) (e : g ρ = r) : sIf ft f g ρ = r := by
  unfold sIf
  rw [h]
  exact e
theorem fVar_e (h : ρ[i]? = some (.dat d)) : fVar i ρ = some d := by
  unfold fVar
  rw [h]
theorem f1_e {h : D → Option D} (e : fa ρ = some x) (e2 : h x = some z) : f1 h fa ρ = some z := by
  unfold f1
  rw [e]
  exact e2
theorem f2_e {h : D → D → Option D} (e : fa ρ = some x) (e1 : fb ρ = some y) (e2 : h x y = some z) : f2 h fa fb ρ = some z := by
  unfold f2
  rw [e, Option.bind_some, e1]
  exact e2
theorem fNil_e : fNil ρ = some [] := rfl
theorem fCons_e (e : fa ρ = some x) (e1 : fl ρ = some es) : fCons fa fl ρ = some (x :: es) := by
  unfold fCons
  rw [e, Option.bind_some, e1]
  rfl
theorem fStar_e (e : fa ρ = some x) (e1 : D.items x = some ds) (e2 : fl ρ = some es) : fStar fa fl ρ = some (ds ++ es) := by
  unfold fStar
  rw [e, Option.bind_some, e1, Option.bind_some, e2]
  rfl
theorem fTup_e (e : fl ρ = some ds) (h : ds.length ≤ 100000) : fTup fl ρ = some (.tup ds) := by
  unfold fTup chk
  rw [e, Option.bind_some, if_pos h]
  rfl
theorem fLst_e (e : fl ρ = some ds) (h : ds.length ≤ 100000) : fLst fl ρ = some ds := by
  unfold fLst chk
  rw [e, Option.bind_some, if_pos h]
theorem fFrz_e (e : fl ρ = some ds) : fFrz fl ρ = some (.lst ds) := by
  unfold fFrz
  rw [e]
  rfl
theorem fCall_e {Phi : List D → Option D} (e : fl ρ = some ds) (h : Phi ds = some d) : fCall Phi fl ρ = some d := by
  unfold fCall
  rw [e]
  exact h
theorem fItems_e (e : fe ρ = some d) (h : D.items d = some ds) : fItems fe ρ = some ds := by
  unfold fItems
  rw [e]
  exact h
theorem fZip_l {xs ys : List D} (e : fa ρ = some (.lst xs)) (h : fb ρ = some (.lst ys)) : fZip fa fb ρ = some (zipD xs ys) := by
  unfold fZip
  rw [e, Option.bind_some, h]
  rfl
theorem fZip_t {xs ys : List D} (e : fa ρ = some (.tup xs)) (h : fb ρ = some (.tup ys)) : fZip fa fb ρ = some (zipD xs ys) := by
  unfold fZip
  rw [e, Option.bind_some, h]
  rfl
theorem fCatL_e {xs ys : List D} (e : fa ρ = some (.lst xs)) (h : fb ρ = some (.lst ys)) (hz : xs.length + ys.length ≤ 100000) : fCatL fa fb ρ = some (xs ++ ys) := by
  unfold fCatL
  rw [e, Option.bind_some, h, Option.bind_some]
  simp only [hz, if_true]
theorem bVal_e {b : Bool} (e : fa ρ = some (.bl b)) : bVal fa ρ = some b := by
  unfold bVal
  rw [e]
  rfl
theorem bNot_e {b : Bool} (e : ft ρ = some b) : bNot ft ρ = some (!b) := by
  unfold bNot
  rw [e]
  rfl
theorem bAnd_e {a b : Bool} (e : ft ρ = some a) (e2 : a = true → tb ρ = some b) : bAnd ft tb ρ = some (a && b) := by
  unfold bAnd
  rw [e, Option.bind_some]
  cases a
  · rfl
  · rw [if_pos rfl, e2 rfl]
    rfl
theorem bOr_e {a b : Bool} (e : ft ρ = some a) (e2 : a = false → tb ρ = some b) : bOr ft tb ρ = some (a || b) := by
  unfold bOr
  rw [e, Option.bind_some]
  cases a
  · rw [if_neg Bool.false_ne_true, e2 rfl]
    rfl
  · rfl
theorem fAnd_e {a b : Bool} (e : fa ρ = some (.bl a)) (e2 : a = true → fb ρ = some (.bl b)) : fAnd fa fb ρ = some (.bl (a && b)) := by
  unfold fAnd
  rw [e]
  cases a
  · rfl
  · show fb ρ = _
    rw [e2 rfl]
    rfl
theorem fOr_e {a b : Bool} (e : fa ρ = some (.bl a)) (e2 : a = false → fb ρ = some (.bl b)) : fOr fa fb ρ = some (.bl (a || b)) := by
  unfold fOr
  rw [e]
  cases a
  · show fb ρ = _
    rw [e2 rfl]
    rfl
  · rfl
theorem fIf_t {r : Option D} (h : ft ρ = some true) (e : fa ρ = r) : fIf ft fa fb ρ = r := by
  unfold fIf
  rw [h]
  exact e
theorem fIf_f {r : Option D} (h : ft ρ = some false) (e : fb ρ = r) : fIf ft fa fb ρ = r := by
  unfold fIf
  rw [h]
  exact e
theorem fIxO_e {k : Int} (h : ρ[i]? = some (.own ds)) (e : fb ρ = some (.int k)) (e2 : atI ds k = some z) : fIxO i fb ρ = some z := by
  unfold fIxO
  rw [h]
  simp only [e, Option.bind_some]
  exact e2
theorem fChain_e {h h' : D → D → Option D} {a b : Bool} (e1 : fa ρ = some x) (e2 : fb ρ = some y) (e3 : h x y = some (.bl a)) (e4 : a = true → fc ρ = some z ∧ h' y z = some (.bl b)) : fChain h h' fa fb fc ρ = some (.bl (a && b)) := by
  unfold fChain
  rw [e1, Option.bind_some, e2, Option.bind_some, e3]
  cases a
  · rfl
  · obtain ⟨h1, h2⟩ := e4 rfl
    show (fc ρ).bind _ = _
    rw [h1, Option.bind_some, h2]
    rfl
end
theorem fComp_of {α : Type} {vs : List Nat} {it : FL} {g : FG} {t : FT} {el : FE} {ρ : Rho} (e : α → D) (b : α → Bool) (y : α → D) (xs : List α) (h0 : it ρ = some (xs.map e)) (hz : xs.length ≤ 100000)
    (h : compL g t el (wipeR ρ vs) (xs.map e) = some ((xs.filter b).map y)) : fComp vs it g t el ρ = some ((xs.filter b).map y) := by
  unfold fComp
  rw [h0, Option.bind_some, if_pos (by simpa using hz)]
  exact h
theorem fComp_all {α : Type} {vs : List Nat} {it : FL} {g : FG} {el : FE} {ρ : Rho} (e : α → D) (y : α → D) (xs : List α) (h0 : it ρ = some (xs.map e)) (hz : xs.length ≤ 100000)
    (h : compL g bYes el (wipeR ρ vs) (xs.map e) = some (xs.map y)) : fComp vs it g bYes el ρ = some (xs.map y) := by
  unfold fComp
  rw [h0, Option.bind_some, if_pos (by simpa using hz)]
  exact h
end FD
end

section
set_option Elab.async false
set_option linter.all false
set_option maxRecDepth 100000
set_option maxHeartbeats 1000000
/-! E1: the curves' functions, of data. -/
namespace FD
open MM PySem L2
theorem isT_ii (i : Int) : isT "int" (.int i) = some (.bl true) := by
  have h : kitB "int" "int" = some true := by decide +kernel
  simp [isT, tyN, h]
theorem isT_bi (i : Int) : isT "bool" (.int i) = some (.bl false) := by
  have h : kitB "int" "bool" = some false := by decide +kernel
  simp [isT, tyN, h]
theorem isT_tt (ds : List D) : isT "tuple" (.tup ds) = some (.bl true) := by
  have h : kitB "tuple" "tuple" = some true := by decide +kernel
  simp [isT, tyN, h]
theorem isT_ss (z : Str) : isT "str" (.str z) = some (.bl true) := by
  have h : kitB "str" "str" = some true := by decide +kernel
  simp [isT, tyN, h]
/-! ### loops and comprehensions, item by item -/
theorem compL_of {α : Type} {g : FG} {t : FT} {el : FE} {ρ : Rho} (e : α → D) (b : α → Bool) (y : α → D) : ∀ (xs : List α), (∀ a ∈ xs, ∃ ρ', g (e a) ρ = some ρ' ∧ t ρ' = some (b a) ∧ (b a = true → el ρ' = some (y a))) → compL g t el ρ (xs.map e) = some ((xs.filter b).map y)
  | [], _ => rfl
  | a :: r, h => by
    obtain ⟨ρ', h1, h2, h3⟩ := h a List.mem_cons_self
    have ih := compL_of (g := g) (t := t) (el := el) (ρ := ρ) e b y r fun x hx => h x (List.mem_cons_of_mem _ hx)
    simp only [List.map_cons, compL, h1, Option.bind_some, h2, ih]
    cases hb : b a with
    | true => simp [h3 hb, List.filter_cons, hb]
    | false => simp [List.filter_cons, hb]
theorem compL_all {α : Type} {g : FG} {el : FE} {ρ : Rho} (e : α → D) (y : α → D) (xs : List α) (h : ∀ a ∈ xs, ∃ ρ', g (e a) ρ = some ρ' ∧ el ρ' = some (y a)) : compL g bYes el ρ (xs.map e) = some (xs.map y) := by
  rw [compL_of e (fun _ => true) y xs fun a ha => by
    obtain ⟨ρ', h1, h2⟩ := h a ha
    exact ⟨ρ', h1, rfl, fun _ => h2⟩]
  rw [List.filter_eq_self.mpr fun _ _ => rfl]
theorem forL_fold {α S : Type} {g : FG} {body els : FS} (R : S → Rho → Prop) (step : S → α → S) (e : α → D) : ∀ (xs : List α) (s : S) (ρ : Rho), (∀ a ∈ xs, ∀ s ρ, R s ρ → ∃ ρ1 ρ2, g (e a) ρ = some ρ1 ∧ body ρ1 = some (.nx ρ2) ∧ R (step s a) ρ2) → R s ρ → ∃ ρ', R (xs.foldl step s) ρ' ∧ forL g body els (xs.map e) ρ = els ρ'
  | [], s, ρ, _, h => ⟨ρ, h, rfl⟩
  | a :: r, s, ρ, hh, h => by
    obtain ⟨ρ1, ρ2, h1, h2, h3⟩ := hh a List.mem_cons_self s ρ h
    obtain ⟨ρ', h4, h5⟩ := forL_fold (g := g) (body := body) (els := els) R step e r (step s a) ρ2 (fun x hx => hh x (List.mem_cons_of_mem _ hx)) h3
    refine ⟨ρ', h4, ?_⟩
    simp only [List.map_cons, forL, h1, Option.bind_some, h2]
    exact h5
/-! ### curves as data -/
def sD (a : Int × Int) : D := .tup [.int a.1, .int a.2]
def cD (c : Cv) : D := .tup [.int c.low, .int c.cost, .tup (c.st.map sD)]
theorem is_integer_e (i : Int) : Phi_is_integer [.int i] = some (.bl true) := by
  simp [runD, startR, sSeq, sSet, sSetN, sRet, sAsg, sIf, sNil, sNo, sApp, sFor, sPut, sFrz, sAug, sDo, fVar, fK, f1, f2, fNil, fCons, fStar, fTup, fLst, fFrz, fCall, fIf, fAnd, fOr, fChain, bVal, bAnd, bOr, bNot, chk, g1, g2, D.items, D.toB, D.add, D.sub, D.lt, D.le, D.gt, D.ge, D.neg, D.not, D.eq, D.ne, D.eqq, D.isNone, D.notNone, D.ix, D.len, D.sum, D.all, D.min2, D.max2, D.max1, D.min1, D.tuple, D.toI, isT_ii, isT_bi, isT_tt, isT_ss, fItems, gN, gE, gC, gT, forL, fComp, compL, bYes, wipeR, fIxO, fLenO, fSlT, fSlL, oNone, oSome, fRev, fCatL, fList, fZip, atI, ixN, sPar2, sPar3, sParN2, sParN3, D.ints, D.bools, Phi_is_integer, b_is_integer]
theorem is_integer_in_e (i a b : Int) : Phi_is_integer_in [.int i, .int a, .int b] = some (.bl (decide (a ≤ i ∧ i ≤ b))) := by
  simp [runD, startR, sSeq, sSet, sSetN, sRet, sAsg, sIf, sNil, sNo, sApp, sFor, sPut, sFrz, sAug, sDo, fVar, fK, f1, f2, fNil, fCons, fStar, fTup, fLst, fFrz, fCall, fIf, fAnd, fOr, fChain, bVal, bAnd, bOr, bNot, chk, g1, g2, D.items, D.toB, D.add, D.sub, D.lt, D.le, D.gt, D.ge, D.neg, D.not, D.eq, D.ne, D.eqq, D.isNone, D.notNone, D.ix, D.len, D.sum, D.all, D.min2, D.max2, D.max1, D.min1, D.tuple, D.toI, isT_ii, isT_bi, isT_tt, isT_ss, fItems, gN, gE, gC, gT, forL, fComp, compL, bYes, wipeR, fIxO, fLenO, fSlT, fSlL, oNone, oSome, fRev, fCatL, fList, fZip, atI, ixN, sPar2, sPar3, sParN2, sParN3, D.ints, D.bools, Phi_is_integer_in, b_is_integer_in, is_integer_e]
  split
  · simp_all
  · simp_all
    intro h
    omega
theorem is_tuple_of_e (ds : List D) (n : Nat) : Phi_is_tuple_of [.tup ds, .int n] = some (.bl (decide (ds.length = n))) := by
  simp [runD, startR, sSeq, sSet, sSetN, sRet, sAsg, sIf, sNil, sNo, sApp, sFor, sPut, sFrz, sAug, sDo, fVar, fK, f1, f2, fNil, fCons, fStar, fTup, fLst, fFrz, fCall, fIf, fAnd, fOr, fChain, bVal, bAnd, bOr, bNot, chk, g1, g2, D.items, D.toB, D.add, D.sub, D.lt, D.le, D.gt, D.ge, D.neg, D.not, D.eq, D.ne, D.eqq, D.isNone, D.notNone, D.ix, D.len, D.sum, D.all, D.min2, D.max2, D.max1, D.min1, D.tuple, D.toI, isT_ii, isT_bi, isT_tt, isT_ss, fItems, gN, gE, gC, gT, forL, fComp, compL, bYes, wipeR, fIxO, fLenO, fSlT, fSlL, oNone, oSome, fRev, fCatL, fList, fZip, atI, ixN, sPar2, sPar3, sParN2, sParN3, D.ints, D.bools, Phi_is_tuple_of, b_is_tuple_of]
  omega
theorem ints_map {α : Type} (f : α → Int) (s : List α) : D.ints (s.map fun a => .int (f a)) = some (s.map f) := by
  induction s with
  | nil => rfl
  | cons a r ih => simp [D.ints, ih]
theorem bools_map {α : Type} (f : α → Bool) (s : List α) : D.bools (s.map fun a => .bl (f a)) = some (s.map f) := by
  induction s with
  | nil => rfl
  | cons a r ih => simp [D.bools, ih]
theorem sum_tot (s : List (Int × Int)) : (s.map fun a => a.1).sum = tot s := by
  induction s with
  | nil => rfl
  | cons a r ih =>
    obtain ⟨n, p⟩ := a
    simp [tot, ih]
theorem last_place_e (c : Cv) (h : c.st.length ≤ 100000) : Phi_last_place [cD c] = some (.int c.last) := by
  have k := compL_all (g := gT (gC (gN 1) (gC (gN 2) gE))) (el := fVar 1) (ρ := [.dat (cD c), .un, .un]) sD (fun a => .int a.1) c.st fun a _ => ⟨_, rfl, rfl⟩
  simp [runD, startR, sSeq, sSet, sSetN, sRet, sAsg, sIf, sNil, sNo, sApp, sFor, sPut, sFrz, sAug, sDo, fVar, fK, f1, f2, fNil, fCons, fStar, fTup, fLst, fFrz, fCall, fIf, fAnd, fOr, fChain, bVal, bAnd, bOr, bNot, chk, g1, g2, D.items, D.toB, D.add, D.sub, D.lt, D.le, D.gt, D.ge, D.neg, D.not, D.eq, D.ne, D.eqq, D.isNone, D.notNone, D.ix, D.len, D.sum, D.all, D.min2, D.max2, D.max1, D.min1, D.tuple, D.toI, isT_ii, isT_bi, isT_tt, isT_ss, fItems, gN, gE, gC, gT, forL, fComp, compL, bYes, wipeR, fIxO, fLenO, fSlT, fSlL, oNone, oSome, fRev, fCatL, fList, fZip, atI, ixN, sPar2, sPar3, sParN2, sParN3, D.ints, D.bools, cD] at k
  simp [runD, startR, sSeq, sSet, sSetN, sRet, sAsg, sIf, sNil, sNo, sApp, sFor, sPut, sFrz, sAug, sDo, fVar, fK, f1, f2, fNil, fCons, fStar, fTup, fLst, fFrz, fCall, fIf, fAnd, fOr, fChain, bVal, bAnd, bOr, bNot, chk, g1, g2, D.items, D.toB, D.add, D.sub, D.lt, D.le, D.gt, D.ge, D.neg, D.not, D.eq, D.ne, D.eqq, D.isNone, D.notNone, D.ix, D.len, D.sum, D.all, D.min2, D.max2, D.max1, D.min1, D.tuple, D.toI, isT_ii, isT_bi, isT_tt, isT_ss, fItems, gN, gE, gC, gT, forL, fComp, compL, bYes, wipeR, fIxO, fLenO, fSlT, fSlL, oNone, oSome, fRev, fCatL, fList, fZip, atI, ixN, sPar2, sPar3, sParN2, sParN3, D.ints, D.bools, Phi_last_place, b_last_place, cD, h, k, ints_map, sum_tot, Cv.last]
theorem is_place_e (c : Cv) (x : Int) (h : c.st.length ≤ 100000) : Phi_is_place [cD c, .int x] = some (.bl (decide (c.low ≤ x ∧ x ≤ c.last))) := by
  have k := last_place_e c h
  simp only [cD] at k
  simp [runD, startR, sSeq, sSet, sSetN, sRet, sAsg, sIf, sNil, sNo, sApp, sFor, sPut, sFrz, sAug, sDo, fVar, fK, f1, f2, fNil, fCons, fStar, fTup, fLst, fFrz, fCall, fIf, fAnd, fOr, fChain, bVal, bAnd, bOr, bNot, chk, g1, g2, D.items, D.toB, D.add, D.sub, D.lt, D.le, D.gt, D.ge, D.neg, D.not, D.eq, D.ne, D.eqq, D.isNone, D.notNone, D.ix, D.len, D.sum, D.all, D.min2, D.max2, D.max1, D.min1, D.tuple, D.toI, isT_ii, isT_bi, isT_tt, isT_ss, fItems, gN, gE, gC, gT, forL, fComp, compL, bYes, wipeR, fIxO, fLenO, fSlT, fSlL, oNone, oSome, fRev, fCatL, fList, fZip, atI, ixN, sPar2, sPar3, sParN2, sParN3, D.ints, D.bools, Phi_is_place, b_is_place, cD, k, is_integer_in_e]
/-- prices that fit a product -/
def SmP (s : List (Int × Int)) : Prop := ∀ a ∈ s, small a.2 = true
theorem grd_fold : ∀ (s : List (Int × Int)) (C l : Int), (s.foldl (fun (x : Int × Int) (a : Int × Int) => (x.1 + a.2 * min a.1 x.2, x.2 - min a.1 x.2)) (C, l)).1 = C + grd s l
  | [], C, l => by simp [grd]
  | (n, p) :: r, C, l => by
    rw [List.foldl_cons, grd_fold r]
    simp only [grd]
    omega
theorem cost_at_e (c : Cv) (x : Int) (h : SmP c.st) : Phi_cost_at [cD c, .int x] = some (.int (c.at x)) := by
  obtain ⟨ρ', ⟨y, z, rfl⟩, e⟩ := forL_fold (g := gT (gC (gN 6) (gC (gN 7) gE))) (body := sSeq (sSet 3 (f2 D.add (fVar 3) (f2 D.mul (fVar 7) (fCall (g2 D.min2) (fCons (fVar 6) (fCons (fVar 5) fNil)))))) (sSet 5 (f2 D.sub (fVar 5) (fCall (g2 D.min2) (fCons (fVar 6) (fCons (fVar 5) fNil)))))) (els := sNil)
    (fun (s : Int × Int) ρ => ∃ y z, ρ = [.dat (cD c), .dat (.int x), .dat (.int c.low), .dat (.int s.1), .dat (.tup (c.st.map sD)), .dat (.int s.2), y, z]) (fun s a => (s.1 + a.2 * min a.1 s.2, s.2 - min a.1 s.2)) sD c.st (c.cost, x - c.low) _ (fun a ha s ρ ⟨y, z, hρ⟩ => by
      subst hρ
      have hp : small a.2 = true := h a ha
      have em : (if s.2 < a.1 then s.2 else a.1) = min a.1 s.2 := by omega
      refine ⟨_, _, rfl, ?_, .dat (.int a.1), .dat (.int a.2), rfl⟩
      simp [runD, startR, sSeq, sSet, sSetN, sRet, sAsg, sIf, sNil, sNo, sApp, sFor, sPut, sFrz, sAug, sDo, fVar, fK, f1, f2, fNil, fCons, fStar, fTup, fLst, fFrz, fCall, fIf, fAnd, fOr, fChain, bVal, bAnd, bOr, bNot, chk, g1, g2, D.items, D.toB, D.add, D.sub, D.lt, D.le, D.gt, D.ge, D.neg, D.not, D.eq, D.ne, D.eqq, D.isNone, D.notNone, D.ix, D.len, D.sum, D.all, D.min2, D.max2, D.max1, D.min1, D.tuple, D.toI, isT_ii, isT_bi, isT_tt, isT_ss, fItems, gN, gE, gC, gT, forL, fComp, compL, bYes, wipeR, fIxO, fLenO, fSlT, fSlL, oNone, oSome, fRev, fCatL, fList, fZip, atI, ixN, sPar2, sPar3, sParN2, sParN3, D.ints, D.bools, D.mul, hp, em]) ⟨.un, .un, rfl⟩
  simp [runD, startR, sSeq, sSet, sSetN, sRet, sAsg, sIf, sNil, sNo, sApp, sFor, sPut, sFrz, sAug, sDo, fVar, fK, f1, f2, fNil, fCons, fStar, fTup, fLst, fFrz, fCall, fIf, fAnd, fOr, fChain, bVal, bAnd, bOr, bNot, chk, g1, g2, D.items, D.toB, D.add, D.sub, D.lt, D.le, D.gt, D.ge, D.neg, D.not, D.eq, D.ne, D.eqq, D.isNone, D.notNone, D.ix, D.len, D.sum, D.all, D.min2, D.max2, D.max1, D.min1, D.tuple, D.toI, isT_ii, isT_bi, isT_tt, isT_ss, fItems, gN, gE, gC, gT, forL, fComp, compL, bYes, wipeR, fIxO, fLenO, fSlT, fSlL, oNone, oSome, fRev, fCatL, fList, fZip, atI, ixN, sPar2, sPar3, sParN2, sParN3, D.ints, D.bools] at e
  simp [runD, startR, sSeq, sSet, sSetN, sRet, sAsg, sIf, sNil, sNo, sApp, sFor, sPut, sFrz, sAug, sDo, fVar, fK, f1, f2, fNil, fCons, fStar, fTup, fLst, fFrz, fCall, fIf, fAnd, fOr, fChain, bVal, bAnd, bOr, bNot, chk, g1, g2, D.items, D.toB, D.add, D.sub, D.lt, D.le, D.gt, D.ge, D.neg, D.not, D.eq, D.ne, D.eqq, D.isNone, D.notNone, D.ix, D.len, D.sum, D.all, D.min2, D.max2, D.max1, D.min1, D.tuple, D.toI, isT_ii, isT_bi, isT_tt, isT_ss, fItems, gN, gE, gC, gT, forL, fComp, compL, bYes, wipeR, fIxO, fLenO, fSlT, fSlL, oNone, oSome, fRev, fCatL, fList, fZip, atI, ixN, sPar2, sPar3, sParN2, sParN3, D.ints, D.bools, Phi_cost_at, b_cost_at, cD]
  simp only [cD] at e
  rw [e]
  simp [grd_fold, Cv.at]
end FD
end

section
set_option Elab.async false
set_option linter.all false
set_option maxRecDepth 100000
set_option maxHeartbeats 1000000
/-! E2: sharing, sum, of data. -/
namespace FD
open MM PySem L2
theorem price_after_e (c : Cv) (x p : Int) (h : c.pa x = some p) : Phi_price_after [cD c, .int x] = some (.int p) := by
  have k : ∀ (s : List (Int × Int)) (l : Int) (y z : Sl), pa s l = some p → forL (gT (gC (gN 3) (gC (gN 4) gE))) (sSeq (sIf (bVal (f2 D.lt (fVar 2) (fVar 3))) (sRet (fVar 4)) sNil) (sSet 2 (f2 D.sub (fVar 2) (fVar 3)))) sNil (s.map sD) [.dat (cD c), .dat (.int x), .dat (.int l), y, z] = some (.rt (.int p)) := by
    intro s
    induction s with
    | nil => intro l y z h; cases h
    | cons a r ih =>
      intro l y z h
      obtain ⟨n, q⟩ := a
      simp only [pa] at h
      simp only [List.map_cons, forL]
      by_cases hl : l < n
      · rw [if_pos hl] at h
        cases h
        simp [runD, startR, sSeq, sSet, sSetN, sRet, sAsg, sIf, sNil, sNo, sApp, sFor, sPut, sFrz, sAug, sDo, fVar, fK, f1, f2, fNil, fCons, fStar, fTup, fLst, fFrz, fCall, fIf, fAnd, fOr, fChain, bVal, bAnd, bOr, bNot, chk, g1, g2, D.items, D.toB, D.add, D.sub, D.lt, D.le, D.gt, D.ge, D.neg, D.not, D.eq, D.ne, D.eqq, D.isNone, D.notNone, D.ix, D.len, D.sum, D.all, D.min2, D.max2, D.max1, D.min1, D.tuple, D.toI, isT_ii, isT_bi, isT_tt, isT_ss, fItems, gN, gE, gC, gT, forL, fComp, compL, bYes, wipeR, fIxO, fLenO, fSlT, fSlL, oNone, oSome, fRev, fCatL, fList, fZip, atI, ixN, sPar2, sPar3, sParN2, sParN3, D.ints, D.bools, sD, hl]
      · rw [if_neg hl] at h
        have := ih (l - n) (.dat (.int n)) (.dat (.int q)) h
        simp [runD, startR, sSeq, sSet, sSetN, sRet, sAsg, sIf, sNil, sNo, sApp, sFor, sPut, sFrz, sAug, sDo, fVar, fK, f1, f2, fNil, fCons, fStar, fTup, fLst, fFrz, fCall, fIf, fAnd, fOr, fChain, bVal, bAnd, bOr, bNot, chk, g1, g2, D.items, D.toB, D.add, D.sub, D.lt, D.le, D.gt, D.ge, D.neg, D.not, D.eq, D.ne, D.eqq, D.isNone, D.notNone, D.ix, D.len, D.sum, D.all, D.min2, D.max2, D.max1, D.min1, D.tuple, D.toI, isT_ii, isT_bi, isT_tt, isT_ss, fItems, gN, gE, gC, gT, forL, fComp, compL, bYes, wipeR, fIxO, fLenO, fSlT, fSlL, oNone, oSome, fRev, fCatL, fList, fZip, atI, ixN, sPar2, sPar3, sParN2, sParN3, D.ints, D.bools, sD, hl]
        simpa [runD, startR, sSeq, sSet, sSetN, sRet, sAsg, sIf, sNil, sNo, sApp, sFor, sPut, sFrz, sAug, sDo, fVar, fK, f1, f2, fNil, fCons, fStar, fTup, fLst, fFrz, fCall, fIf, fAnd, fOr, fChain, bVal, bAnd, bOr, bNot, chk, g1, g2, D.items, D.toB, D.add, D.sub, D.lt, D.le, D.gt, D.ge, D.neg, D.not, D.eq, D.ne, D.eqq, D.isNone, D.notNone, D.ix, D.len, D.sum, D.all, D.min2, D.max2, D.max1, D.min1, D.tuple, D.toI, isT_ii, isT_bi, isT_tt, isT_ss, fItems, gN, gE, gC, gT, forL, fComp, compL, bYes, wipeR, fIxO, fLenO, fSlT, fSlL, oNone, oSome, fRev, fCatL, fList, fZip, atI, ixN, sPar2, sPar3, sParN2, sParN3, D.ints, D.bools] using this
  have := k c.st (x - c.low) .un .un h
  simp only [cD] at this
  simp [runD, startR, sSeq, sSet, sSetN, sRet, sAsg, sIf, sNil, sNo, sApp, sFor, sPut, sFrz, sAug, sDo, fVar, fK, f1, f2, fNil, fCons, fStar, fTup, fLst, fFrz, fCall, fIf, fAnd, fOr, fChain, bVal, bAnd, bOr, bNot, chk, g1, g2, D.items, D.toB, D.add, D.sub, D.lt, D.le, D.gt, D.ge, D.neg, D.not, D.eq, D.ne, D.eqq, D.isNone, D.notNone, D.ix, D.len, D.sum, D.all, D.min2, D.max2, D.max1, D.min1, D.tuple, D.toI, isT_ii, isT_bi, isT_tt, isT_ss, fItems, gN, gE, gC, gT, forL, fComp, compL, bYes, wipeR, fIxO, fLenO, fSlT, fSlL, oNone, oSome, fRev, fCatL, fList, fZip, atI, ixN, sPar2, sPar3, sParN2, sParN3, D.ints, D.bools, Phi_price_after, b_price_after, cD]
  simp [this]
theorem moved_by_e (c : Cv) (s : Int) : Phi_moved_by [cD c, .int s] = some (cD (c.moved s)) := by
  simp [runD, startR, sSeq, sSet, sSetN, sRet, sAsg, sIf, sNil, sNo, sApp, sFor, sPut, sFrz, sAug, sDo, fVar, fK, f1, f2, fNil, fCons, fStar, fTup, fLst, fFrz, fCall, fIf, fAnd, fOr, fChain, bVal, bAnd, bOr, bNot, chk, g1, g2, D.items, D.toB, D.add, D.sub, D.lt, D.le, D.gt, D.ge, D.neg, D.not, D.eq, D.ne, D.eqq, D.isNone, D.notNone, D.ix, D.len, D.sum, D.all, D.min2, D.max2, D.max1, D.min1, D.tuple, D.toI, isT_ii, isT_bi, isT_tt, isT_ss, fItems, gN, gE, gC, gT, forL, fComp, compL, bYes, wipeR, fIxO, fLenO, fSlT, fSlL, oNone, oSome, fRev, fCatL, fList, fZip, atI, ixN, sPar2, sPar3, sParN2, sParN3, D.ints, D.bools, Phi_moved_by, b_moved_by, cD, Cv.moved]
/-! ### joined -/
theorem lay_sD : ∀ f : List (Int × Int), PyData.canLayAll0 (toPys (f.map sD)) = true
  | [] => rfl
  | a :: r => by
    simp only [List.map_cons, sD, toPys, toPy, PyData.canLayAll0, PyData.canLay0, Bool.and_true]
    exact lay_sD r
theorem at_neg1 {α : Type} (xs : List α) (b : α) : atI (xs ++ [b]) (-1) = some b := by
  unfold atI ixN
  have h : ¬ (0 : Int) ≤ -1 := by decide
  rw [if_neg h, List.length_append, List.length_singleton, if_pos (by omega)]
  have e : ((-1 : Int) + ((xs.length + 1 : Nat) : Int)).toNat = xs.length := by omega
  rw [e]
  simp
theorem ix_neg1 (n : Nat) : ixN (n + 1) (-1) = some n := by
  unfold ixN
  have h : ¬ (0 : Int) ≤ -1 := by decide
  rw [if_neg h, if_pos (by omega)]
  congr 1
  omega
theorem set_last {α : Type} (xs : List α) (b c : α) : (xs ++ [b]).set xs.length c = xs ++ [c] := by
  rw [List.set_append_right _ _ (Nat.le_refl _)]
  simp
theorem joined_step (ds : D) (f : List (Int × Int)) (a : Int × Int) (hf : f.length < 100000) :
    (sIf (bAnd (bNeO 1) (bVal (f2 D.eq (f2 D.ix (fIxO 1 (f1 D.neg (fK (.int 1)))) (fK (.int 1))) (fVar 3))))
   (sPut 1 (f1 D.neg (fK (.int 1))) (fTup (fCons (f2 D.add (f2 D.ix (fIxO 1 (f1 D.neg (fK (.int 1)))) (fK (.int 0))) (fVar 2)) (fCons (fVar 3) fNil))))
   (sIf (bVal (f2 D.gt (fVar 2) (fK (.int 0))))
   (sApp 1 (fTup (fCons (fVar 2) (fCons (fVar 3) fNil))))
   sNil)) [.dat ds, .own (f.map sD), .dat (.int a.1), .dat (.int a.2)] = some (.nx [.dat ds, .own ((jstep f a).map sD), .dat (.int a.1), .dat (.int a.2)]) := by
  cases hl : f.getLast? with
  | none =>
    have e : f = [] := List.getLast?_eq_none_iff.mp hl
    subst e
    simp only [jstep, hl]
    by_cases h : 0 < a.1
    · simp [runD, sIf, bAnd, bNeO, bVal, f2, fVar, fK, D.gt, D.toB, sApp, fTup, fCons, fNil, chk, h, sD, toPys, PyData.canLayAll0, jstep]
    · simp [runD, sIf, bAnd, bNeO, bVal, f2, fVar, fK, D.gt, D.toB, sApp, sNil, fTup, fCons, fNil, chk, h, sD, toPys, PyData.canLayAll0, jstep]
  | some b =>
    have sp := last_split hl
    generalize f.dropLast = g at sp
    subst sp
    simp only [jstep, hl]
    have ly : PyData.canLayAll0 (toPys (g.map sD ++ [sD b])) = true := by
      have := lay_sD (g ++ [b])
      rw [List.map_append] at this
      exact this
    have a1 := at_neg1 (g.map sD) (sD b)
    have ne : ((g.map sD) ++ [sD b]).isEmpty = false := by cases g <;> rfl
    have ln : ((g.map sD) ++ [sD b]).length = (g.map sD).length + 1 := by simp
    have a2 : D.ix (sD b) (.int 1) = some (.int b.2) := rfl
    have a3 : D.ix (sD b) (.int 0) = some (.int b.1) := rfl
    have a4 : D.ix (.lst (g.map sD ++ [sD b])) (.int (-1)) = some (sD b) := a1
    have mp : (g ++ [b]).map sD = g.map sD ++ [sD b] := by simp
    rw [mp]
    by_cases e : b.2 = a.2
    · simp only [if_pos e, List.dropLast_concat]
      simp only [sIf, bAnd, bNeO, bVal, f1, f2, fVar, fK, D.eq, D.eqq, D.neg, D.toB, sPut, fTup, fCons, fNil, chk, fIxO, D.add, List.getElem?_cons_zero, List.getElem?_cons_succ, Option.bind_some, ly, ne, if_true, Bool.not_false, a4, a2, a3, e, decide_true, ln, ix_neg1, List.length_nil, List.length_cons]
      simp [set_last, sD]
    · simp only [if_neg e]
      by_cases h : 0 < a.1
      · simp only [sIf, bAnd, bNeO, bVal, f1, f2, fVar, fK, D.eq, D.eqq, D.neg, D.toB, sApp, D.gt, fTup, fCons, fNil, chk, fIxO, D.add, List.getElem?_cons_zero, List.getElem?_cons_succ, Option.bind_some, ly, ne, if_true, Bool.not_false, a4, a2, a3, e, decide_false, h, decide_true]
        have l1 : (g.map sD ++ [sD b]).length < 100000 := by simpa using hf
        simp [sD]
        simp at hf
        omega
      · simp only [sIf, bAnd, bNeO, bVal, f1, f2, fVar, fK, D.eq, D.eqq, D.neg, D.toB, sApp, sNil, D.gt, fTup, fCons, fNil, chk, fIxO, D.add, List.getElem?_cons_zero, List.getElem?_cons_succ, Option.bind_some, ly, ne, if_true, Bool.not_false, a4, a2, a3, e, decide_false, h, decide_true]
        try simp
theorem joined_steps_e (ds : D) (s : List (Int × Int)) (hds : D.items ds = some (s.map sD)) (hs : s.length ≤ 90000) : Phi_joined_steps [ds] = some (.tup ((joined s).map sD)) := by
  have k : ∀ (s f : List (Int × Int)) (y z : Sl), f.length + s.length ≤ 90000 → ∃ y' z', forL (gT (gC (gN 2) (gC (gN 3) gE))) (sIf (bAnd (bNeO 1) (bVal (f2 D.eq (f2 D.ix (fIxO 1 (f1 D.neg (fK (.int 1)))) (fK (.int 1))) (fVar 3))))
   (sPut 1 (f1 D.neg (fK (.int 1))) (fTup (fCons (f2 D.add (f2 D.ix (fIxO 1 (f1 D.neg (fK (.int 1)))) (fK (.int 0))) (fVar 2)) (fCons (fVar 3) fNil))))
   (sIf (bVal (f2 D.gt (fVar 2) (fK (.int 0))))
   (sApp 1 (fTup (fCons (fVar 2) (fCons (fVar 3) fNil))))
   sNil)) sNil (s.map sD) [.dat ds, .own (f.map sD), y, z] = some (.nx [.dat ds, .own ((s.foldl jstep f).map sD), y', z']) := by
    intro s
    induction s with
    | nil => intro f y z _; exact ⟨y, z, rfl⟩
    | cons a r ih =>
      intro f y z hl
      simp only [List.length_cons] at hl
      have jl := jstep_len f a
      obtain ⟨y', z', e⟩ := ih (jstep f a) (.dat (.int a.1)) (.dat (.int a.2)) (by omega)
      refine ⟨y', z', ?_⟩
      have g : gT (gC (gN 2) (gC (gN 3) gE)) (sD a) [.dat ds, .own (f.map sD), y, z] = some [.dat ds, .own (f.map sD), .dat (.int a.1), .dat (.int a.2)] := rfl
      simp only [List.map_cons, forL, g, Option.bind_some, joined_step ds f a (by omega), List.foldl_cons]
      exact e
  obtain ⟨y, z, e⟩ := k s [] .un .un (by simpa using hs)
  unfold Phi_joined_steps runD
  rw [if_pos (show [ds].length = 1 from rfl)]
  unfold b_joined_steps
  have e1 : (sSetN 1 (fLst fNil)) (startR 4 [ds]) = some (.nx [.dat ds, .own [], .un, .un]) := rfl
  have e2 : fItems (fVar 0) [.dat ds, .own [], .un, .un] = some (s.map sD) := hds
  simp only [sSeq, e1, Option.bind_some, sFor, e2]
  simp only [List.map_nil] at e
  rw [e]
  simp [sFrz, sRet, fCall, fCons, fVar, fNil, g1, D.tuple, joined]
/-! ### sharing -/
def sw (a : Int × Int) : Int × Int := (a.2, a.1)
def rowsOf (f g : Cv) : List (Int × Int) := (sortPs ((f.st ++ g.st).map sw)).map sw
theorem asPs_mkP : ∀ l : List (Int × Int), asPs (l.map mkP) = some l
  | [] => rfl
  | a :: r => by simp [asPs, asP, mkP, asPs_mkP r]
theorem rows_perm (f g : Cv) : (rowsOf f g).Perm (f.st ++ g.st) := by
  have h := (sortPs_perm ((f.st ++ g.st).map sw)).map sw
  rw [List.map_map] at h
  have e : (f.st ++ g.st).map (sw ∘ sw) = f.st ++ g.st := by
    have : (sw ∘ sw) = id := funext fun a => rfl
    rw [this, List.map_id]
  rw [e] at h
  exact h
theorem rows_asc (f g : Cv) : Asc (rowsOf f g) := by
  refine List.pairwise_map.mpr ((sortPs_sorted _).imp fun {a b} h => ?_)
  have := lexLe_iff.mp h
  show a.1 ≤ b.1
  omega
theorem sharing_of_e (f g : Cv) (h : f.st.length + g.st.length ≤ 90000) : Phi_sharing_of [cD f, cD g] = some (cD (shareC f g (rowsOf f g))) := by
  have hl : (rowsOf f g).length = f.st.length + g.st.length := by
    rw [(rows_perm f g).length_eq, List.length_append]
  have e1 : ((f.st ++ g.st).map fun a => mkP (sw a)) = ((f.st ++ g.st).map sw).map mkP := by rw [List.map_map]; rfl
  have e2 : ((sortPs ((f.st ++ g.st).map sw)).map fun a => sD (sw a)) = (rowsOf f g).map sD := by unfold rowsOf; rw [List.map_map]; rfl
  have l1 : (sortPs ((f.st ++ g.st).map sw)).length ≤ 100000 := by
    have := (sortPs_perm ((f.st ++ g.st).map sw)).length_eq
    rw [List.length_map, List.length_append] at this
    omega
  have j := joined_steps_e (.lst ((rowsOf f g).map sD)) (rowsOf f g) rfl (by omega)
  have c0 : D.cat (.tup (f.st.map sD)) (.tup (g.st.map sD)) = some (.tup ((f.st ++ g.st).map sD)) := by
    unfold D.cat
    rw [List.map_append]
    simp only [List.length_map]
    rw [if_pos (by omega)]
  have k1 : fComp [3, 4] (fItems (f2 D.cat (f2 D.ix (fVar 0) (fK (.int 2))) (f2 D.ix (fVar 1) (fK (.int 2))))) (gT (gC (gN 3) (gC (gN 4) gE))) bYes (fTup (fCons (fVar 4) (fCons (fVar 3) fNil))) [.dat (cD f), .dat (cD g), .un, .un, .un] = some (((f.st ++ g.st).map sw).map mkP) := by
    rw [← e1]
    exact fComp_all sD _ _ (fItems_e (f2_e rfl rfl c0) rfl) (by simp; omega) (compL_all _ _ _ fun a _ => ⟨_, rfl, rfl⟩)
  have k2 : fComp [4, 3] (fItems (fVar 2)) (gT (gC (gN 4) (gC (gN 3) gE))) bYes (fTup (fCons (fVar 3) (fCons (fVar 4) fNil))) [.dat (cD f), .dat (cD g), .dat (.lst ((sortPs ((f.st ++ g.st).map sw)).map mkP)), .un, .un] = some ((rowsOf f g).map sD) := by
    rw [← e2]
    exact fComp_all mkP _ _ (fItems_e rfl rfl) l1 (compL_all _ _ _ fun a _ => ⟨_, rfl, rfl⟩)
  have s1 : fSortP (fFrz (fComp [3, 4] (fItems (f2 D.cat (f2 D.ix (fVar 0) (fK (.int 2))) (f2 D.ix (fVar 1) (fK (.int 2))))) (gT (gC (gN 3) (gC (gN 4) gE))) bYes (fTup (fCons (fVar 4) (fCons (fVar 3) fNil))))) [.dat (cD f), .dat (cD g), .un, .un, .un] = some ((sortPs ((f.st ++ g.st).map sw)).map mkP) := by
    unfold fSortP
    rw [fFrz_e k1, Option.bind_some]
    simp only [asPs_mkP, Option.bind_some]
  exact runD_rt rfl ((sSeq_nx (sSet_e (fFrz_e s1))).trans (sRet_e (fTup_e (fCons_e (f2_e rfl rfl rfl) (fCons_e (f2_e rfl rfl rfl) (fCons_e (fCall_e (fCons_e (fFrz_e k2) fNil_e) j) fNil_e))) (show 3 ≤ 100000 by decide))))
end FD
end

section
set_option Elab.async false
set_option linter.all false
set_option maxRecDepth 100000
set_option maxHeartbeats 1000000
/-! E3: the sum, of data. -/
namespace FD
open MM PySem L2
theorem sSeq_fold {α S : Type} {g : FG} {it : FL} {body f : FS} {ρ : Rho} {r : Option Out} (R : S → Rho → Prop) (step : S → α → S) (e : α → D) (xs : List α) (s : S) (hit : it ρ = some (xs.map e)) (h0 : R s ρ)
    (hstep : ∀ a ∈ xs, ∀ s ρ, R s ρ → ∃ ρ1 ρ2, g (e a) ρ = some ρ1 ∧ body ρ1 = some (.nx ρ2) ∧ R (step s a) ρ2) (k : ∀ ρ', R (xs.foldl step s) ρ' → f ρ' = r) : sSeq (sFor it g body sNil) f ρ = r := by
  obtain ⟨ρ', h1, h2⟩ := forL_fold (els := sNil) R step e xs s ρ hstep h0
  rw [sSeq_nx (ρ' := ρ') (sFor_e hit h2)]
  exact k ρ' h1
theorem forL_foldN {α S : Type} {g : FG} {body els : FS} (R : Nat → S → Rho → Prop) (step : S → α → S) (e : α → D) : ∀ (xs : List α) (n : Nat) (s : S) (ρ : Rho), (∀ a ∈ xs, ∀ m s ρ, m < n + xs.length → R m s ρ → ∃ ρ1 ρ2, g (e a) ρ = some ρ1 ∧ body ρ1 = some (.nx ρ2) ∧ R (m + 1) (step s a) ρ2) → R n s ρ → ∃ ρ', R (n + xs.length) (xs.foldl step s) ρ' ∧ forL g body els (xs.map e) ρ = els ρ'
  | [], n, s, ρ, _, h => ⟨ρ, h, rfl⟩
  | a :: r, n, s, ρ, hh, h => by
    obtain ⟨ρ1, ρ2, h1, h2, h3⟩ := hh a List.mem_cons_self n s ρ (by simp) h
    obtain ⟨ρ', h4, h5⟩ := forL_foldN (g := g) (body := body) (els := els) R step e r (n + 1) (step s a) ρ2 (fun x hx m s ρ hm => hh x (List.mem_cons_of_mem _ hx) m s ρ (by simp only [List.length_cons]; omega)) h3
    refine ⟨ρ', by
      have e : n + (a :: r).length = n + 1 + r.length := by simp only [List.length_cons]; omega
      rw [e]
      exact h4, ?_⟩
    simp only [List.map_cons, forL, h1, Option.bind_some, h2]
    exact h5
/-- a loop that appends to a list of its own -/
theorem sSeq_foldN {α S : Type} {g : FG} {it : FL} {body f : FS} {ρ : Rho} {r : Option Out} (R : Nat → S → Rho → Prop) (step : S → α → S) (e : α → D) (xs : List α) (s : S) (hit : it ρ = some (xs.map e)) (h0 : R 0 s ρ)
    (hstep : ∀ a ∈ xs, ∀ m s ρ, m < xs.length → R m s ρ → ∃ ρ1 ρ2, g (e a) ρ = some ρ1 ∧ body ρ1 = some (.nx ρ2) ∧ R (m + 1) (step s a) ρ2) (k : ∀ ρ', R xs.length (xs.foldl step s) ρ' → f ρ' = r) : sSeq (sFor it g body sNil) f ρ = r := by
  obtain ⟨ρ', h1, h2⟩ := forL_foldN (els := sNil) R step e xs 0 s ρ (fun a ha m s ρ hm => hstep a ha m s ρ (by omega)) h0
  rw [sSeq_nx (ρ' := ρ') (sFor_e hit h2)]
  exact k ρ' (by simpa using h1)
theorem zipD_map {α β : Type} (f : α → D) (g : β → D) : ∀ (xs : List α) (ys : List β), zipD (xs.map f) (ys.map g) = (xs.zip ys).map fun p => .tup [f p.1, g p.2]
  | [], _ => by simp [zipD]
  | _ :: _, [] => by simp [zipD]
  | x :: xs, y :: ys => by simp [zipD, zipD_map f g xs ys]
theorem foldl_app {α β : Type} (h : α → β) : ∀ (xs : List α) (l : List β), xs.foldl (fun l a => l ++ [h a]) l = l ++ xs.map h
  | [], l => by simp
  | a :: r, l => by simp [foldl_app h r]
theorem bends_fold : ∀ (s : List (Int × Int)) (l : List Int) (b : Int), s.foldl (fun (x : List Int × Int) a => (x.1 ++ [x.2], x.2 + a.1)) (l, b) = ((s.foldl (fun (x : List Int × Int) a => (x.1 ++ [x.2], x.2 + a.1)) (l, b)).1, (s.foldl (fun (x : List Int × Int) a => (x.1 ++ [x.2], x.2 + a.1)) (l, b)).2) ∧
    (s.foldl (fun (x : List Int × Int) a => (x.1 ++ [x.2], x.2 + a.1)) (l, b)).1 ++ [(s.foldl (fun (x : List Int × Int) a => (x.1 ++ [x.2], x.2 + a.1)) (l, b)).2] = l ++ bnd b s
  | [], l, b => ⟨rfl, by simp [bnd]⟩
  | (n, p) :: r, l, b => by
    refine ⟨rfl, ?_⟩
    rw [List.foldl_cons, (bends_fold r _ _).2]
    simp [bnd]
theorem bends_of_e (c : Cv) (h : c.st.length < 90000) : Phi_bends_of [cD c] = some (.lst (c.bends.map .int)) := by
  have len : ∀ (s : List (Int × Int)) (x : List Int × Int), (s.foldl (fun (x : List Int × Int) a => (x.1 ++ [x.2], x.2 + a.1)) x).1.length = x.1.length + s.length := by
    intro s
    induction s with
    | nil => intro x; rfl
    | cons a r ih => intro x; rw [List.foldl_cons, ih]; simp; omega
  refine runD_rt rfl ((sSeq_nx (sSetN_e (fLst_e (fCons_e (f2_e (z := .int c.low) rfl rfl rfl) fNil_e) (show 1 ≤ 100000 by decide)))).trans ?_)
  have k : ∀ (s : List (Int × Int)) (l : List Int) (b : Int) (y z : Sl), l.length + s.length < 90000 → ∃ y' z', forL (gT (gC (gN 2) (gC (gN 3) gE))) (sApp 1 (f2 D.add (fIxO 1 (f1 D.neg (fK (.int 1)))) (fVar 2))) sNil (s.map sD) [.dat (cD c), .own (l.map D.int ++ [.int b]), y, z] = some (.nx [.dat (cD c), .own ((l ++ bnd b s).map D.int), y', z']) := by
    intro s
    induction s with
    | nil =>
      intro l b y z _
      exact ⟨y, z, by simp [forL, sNil, bnd]⟩
    | cons a r ih =>
      intro l b y z hl
      obtain ⟨n, p⟩ := a
      simp only [List.length_cons] at hl
      obtain ⟨y', z', e⟩ := ih (l ++ [b]) (b + n) (.dat (.int n)) (.dat (.int p)) (by simp; omega)
      refine ⟨y', z', ?_⟩
      have g : gT (gC (gN 2) (gC (gN 3) gE)) (sD (n, p)) [.dat (cD c), .own (l.map D.int ++ [.int b]), y, z] = some [.dat (cD c), .own (l.map D.int ++ [.int b]), .dat (.int n), .dat (.int p)] := rfl
      have st : sApp 1 (f2 D.add (fIxO 1 (f1 D.neg (fK (.int 1)))) (fVar 2)) [.dat (cD c), .own (l.map D.int ++ [.int b]), .dat (.int n), .dat (.int p)] = some (.nx [.dat (cD c), .own ((l.map D.int ++ [.int b]) ++ [.int (b + n)]), .dat (.int n), .dat (.int p)]) := sApp_e rfl (f2_e (fIxO_e rfl rfl (at_neg1 _ _)) rfl rfl) (by simp; omega)
      simp only [List.map_cons, forL, g, Option.bind_some, st]
      simp only [List.map_append, List.map_cons, List.map_nil] at e
      rw [e]
      simp [bnd]
  obtain ⟨y, z, e⟩ := k c.st [] c.low .un .un (by simpa using h)
  refine (sSeq_nx (sFor_e (ds := c.st.map sD) rfl e)).trans ((sSeq_nx (sFrz_e rfl)).trans (sRet_e rfl))
/-! ### the sum -/
def sumB (f g : Cv) : List Int := sortSet ((f.bends ++ g.bends ++ [max f.low g.low, min f.last g.last]).filter fun z => decide (max f.low g.low ≤ z ∧ z ≤ min f.last g.last))
def sumC (f g : Cv) : Cv := ⟨max f.low g.low, f.at (max f.low g.low) + g.at (max f.low g.low), joined (segs f g (sumB f g))⟩
structure SumOk (f g : Cv) (r : List Int) : Prop where
  eq : sumB f g = max f.low g.low :: r
  last : lastOf (max f.low g.low) r = min f.last g.last
  run : Run f g (max f.low g.low :: r)
theorem sumB_ok (f g : Cv) (h : max f.low g.low ≤ min f.last g.last) : ∃ r, SumOk f g r := by
  have hs := sortSet_sorted ((f.bends ++ g.bends ++ [max f.low g.low, min f.last g.last]).filter fun z => decide (max f.low g.low ≤ z ∧ z ≤ min f.last g.last))
  have hm : ∀ z, z ∈ sumB f g ↔ (z ∈ f.bends ++ g.bends ++ [max f.low g.low, min f.last g.last]) ∧ (max f.low g.low ≤ z ∧ z ≤ min f.last g.last) := fun z => by
    unfold sumB
    rw [sortSet_mem, List.mem_filter, decide_eq_true_iff]
  have hb : ∀ x ∈ sumB f g, max f.low g.low ≤ x ∧ x ≤ min f.last g.last := fun x hx => ((hm x).mp hx).2
  have m0 : max f.low g.low ∈ sumB f g := (hm _).mpr ⟨List.mem_append_right _ List.mem_cons_self, Int.le_refl _, h⟩
  have m1 : min f.last g.last ∈ sumB f g := (hm _).mpr ⟨List.mem_append_right _ (List.mem_cons_of_mem _ List.mem_cons_self), h, Int.le_refl _⟩
  obtain ⟨r, e⟩ := first_eq hs m0 fun x hx => (hb x hx).1
  have e' : sumB f g = max f.low g.low :: r := e
  rw [e'] at m1 hb hm
  rw [e] at hs
  refine ⟨r, e', lastOf_eq hs m1 fun x hx => (hb x hx).2, run_of (lo := max f.low g.low) (hi := min f.last g.last) _ [] hs (fun z hz z0 z1 => (hm z).mpr ⟨?_, z0, z1⟩) hb⟩
  rw [List.mem_append, List.mem_append]
  exact .inl hz
theorem sumC_ok {f g : Cv} (hf : f.Ok) (hg : g.Ok) (h : max f.low g.low ≤ min f.last g.last) :
    (sumC f g).Ok ∧ (sumC f g).last = min f.last g.last ∧ (∀ x, max f.low g.low ≤ x → x ≤ min f.last g.last → (sumC f g).at x = f.at x + g.at x) ∧ ∀ p q, (sumC f g).gain q ≤ f.gain p + g.gain (q - p) := by
  obtain ⟨r, s⟩ := sumB_ok f g h
  have := sum_ok hf hg (b := max f.low g.low) (r := r) (by omega) (by omega) (by rw [s.last]; omega) (by rw [s.last]; omega) s.run
  rw [s.last] at this
  unfold sumC
  rw [s.eq]
  exact this
theorem sortSet_len : ∀ l : List Int, (sortSet l).length ≤ l.length
  | [] => Nat.le_refl _
  | n :: r => by
    have ih := sortSet_len r
    have : ∀ l : List Int, (insI n l).length ≤ l.length + 1 := by
      intro l
      induction l with
      | nil => simp [insI]
      | cons m t ih =>
        unfold insI
        split
        · simp
        · split
          · simp
          · simp
            exact ih
    have := this (sortSet r)
    simp only [sortSet, List.length_cons]
    omega
theorem segs_len : ∀ (f g : Cv) (l : List Int), (segs f g l).length ≤ l.length
  | _, _, [] => Nat.le_refl _
  | _, _, [b] => by simp [segs]
  | f, g, b :: b' :: r => by
    have := segs_len f g (b' :: r)
    simp only [segs, List.length_cons] at *
    omega
theorem sumB_len (f g : Cv) : ((f.bends ++ g.bends ++ [max f.low g.low, min f.last g.last]).filter fun z => decide (max f.low g.low ≤ z ∧ z ≤ min f.last g.last)).length ≤ f.st.length + g.st.length + 4 := by
  refine Nat.le_trans (List.length_filter_le _ _) ?_
  simp only [List.length_append, List.length_cons, List.length_nil, Cv.bends, bnd_len]
  omega
theorem sumC_len (f g : Cv) : (sumC f g).st.length ≤ f.st.length + g.st.length + 4 :=
  Nat.le_trans joined_len (Nat.le_trans (segs_len f g _) (Nat.le_trans (sortSet_len _) (sumB_len f g)))
theorem sumC_pb {f g : Cv} {m n : Int} (hm : 0 ≤ m) (hn : 0 ≤ n) (hf : PB m f.st) (hg : PB n g.st) : PB (m + n) (sumC f g).st := joined_pb fun a ha => by
  rw [segs_zip] at ha
  obtain ⟨b, hb, rfl⟩ := List.mem_map.mp ha
  exact slope_pb hm hn hf hg
theorem ints_ints : ∀ l : List Int, D.ints (l.map .int) = some l
  | [] => rfl
  | a :: r => by simp [D.ints, ints_ints r]
theorem sIx1 (n : Nat) : HT.sIx (n + 1) 0 (some 1) = 1 := by
  have := HT.sIx_nat (n + 1) 0 1
  exact this.trans (by omega)
theorem cut1 : ∀ xs : List D, cutD xs (some 1) none = xs.tail
  | [] => by simp [cutD]
  | x :: xs => by
    unfold cutD
    rw [List.length_cons, sIx1]
    have : HT.sIx (xs.length + 1) (xs.length + 1) none = xs.length + 1 := rfl
    rw [this]
    simp
theorem max2_e (a b : Int) : D.max2 (.int a) (.int b) = some (.int (max a b)) := by
  simp only [D.max2]
  congr 2
  omega
theorem min2_e (a b : Int) : D.min2 (.int a) (.int b) = some (.int (min a b)) := by
  simp only [D.min2]
  congr 2
  omega
theorem fSortSet_e {fe : FE} {ρ : Rho} {ns : List Int} (e : fe ρ = some (.lst (ns.map .int))) (h : ns.length < 64) : fSortSet fe ρ = some ((sortSet ns).map .int) := by
  unfold fSortSet
  rw [e, Option.bind_some]
  simp only [ints_ints, Option.bind_some]
  rw [if_pos h]
theorem sum_of_e (f g : Cv) (hf : f.Ok) (hg : g.Ok) (sf : SmP f.st) (sg : SmP g.st) (hl : f.st.length + g.st.length + 4 < 64) (h : max f.low g.low ≤ min f.last g.last) : Phi_sum_of [cD f, cD g] = some (cD (sumC f g)) := by
  have lf : f.st.length ≤ 90 := by omega
  have lg : g.st.length ≤ 90 := by omega
  have el := sumB_len f g
  obtain ⟨r, so⟩ := sumB_ok f g h
  have so' := so
  have a0 : fTup (fCons (fCall (g2 D.max2) (fCons (f2 D.ix (fVar 0) (fK (.int 0))) (fCons (f2 D.ix (fVar 1) (fK (.int 0))) fNil))) (fCons (fCall (g2 D.min2) (fCons (fCall Phi_last_place (fCons (fVar 0) fNil)) (fCons (fCall Phi_last_place (fCons (fVar 1) fNil)) fNil))) fNil)) [.dat (cD f), .dat (cD g), .un, .un, .un, .un, .un, .un, .un] = some (.tup [.int (max f.low g.low), .int (min f.last g.last)]) :=
    fTup_e (fCons_e (fCall_e (fCons_e (f2_e (z := .int f.low) rfl rfl rfl) (fCons_e (f2_e (z := .int g.low) rfl rfl rfl) fNil_e)) (max2_e _ _)) (fCons_e (fCall_e (fCons_e (fCall_e (fCons_e rfl fNil_e) (last_place_e f (by omega))) (fCons_e (fCall_e (fCons_e rfl fNil_e) (last_place_e g (by omega))) fNil_e)) (min2_e _ _)) fNil_e)) (show 2 ≤ 100000 by decide)
  refine runD_rt rfl ((sSeq_nx (sAsg_e a0 rfl)).trans ?_)
  have bl : ∀ c : Cv, (c.bends.map D.int).length = c.st.length + 1 := fun c => by rw [List.length_map]; exact bnd_len
  have a1 : fFrz (fComp [8] (fItems (fFrz (fCatL (fFrz (fCatL (fCall Phi_bends_of (fCons (fVar 0) fNil)) (fCall Phi_bends_of (fCons (fVar 1) fNil)))) (fFrz (fLst (fCons (fVar 2) (fCons (fVar 3) fNil))))))) (gN 8) (bVal (fChain D.le D.le (fVar 2) (fVar 8) (fVar 3))) (fVar 8)) [.dat (cD f), .dat (cD g), .dat (.int (max f.low g.low)), .dat (.int (min f.last g.last)), .un, .un, .un, .un, .un] =
      some (.lst (((f.bends ++ g.bends ++ [max f.low g.low, min f.last g.last]).filter fun z => decide (max f.low g.low ≤ z ∧ z ≤ min f.last g.last)).map .int)) := by
    refine fFrz_e (fComp_of D.int (fun z => decide (max f.low g.low ≤ z ∧ z ≤ min f.last g.last)) D.int (f.bends ++ g.bends ++ [max f.low g.low, min f.last g.last]) ?_ (by have := bl f; have := bl g; simp at *; omega) (compL_of D.int _ D.int _ fun a _ => ⟨_, rfl, ?_, fun _ => rfl⟩))
    · refine fItems_e (fFrz_e (fCatL_e (xs := f.bends.map D.int ++ g.bends.map D.int) (ys := [.int (max f.low g.low), .int (min f.last g.last)]) (fFrz_e (fCatL_e (fCall_e (fCons_e rfl fNil_e) (bends_of_e f (by omega))) (fCall_e (fCons_e rfl fNil_e) (bends_of_e g (by omega))) (by rw [bl, bl]; omega))) (fFrz_e (fLst_e (fCons_e rfl (fCons_e rfl fNil_e)) (show 2 ≤ 100000 by decide))) (by rw [List.length_append, bl, bl]; show _ + 2 ≤ _; omega))) ?_
      simp [D.items]
    · rw [Bool.decide_and]
      exact bVal_e (fChain_e rfl rfl rfl fun _ => ⟨rfl, rfl⟩)
  refine (sSeq_nx (sSet_e (d := .lst ((sumB f g).map .int)) (fFrz_e ?_))).trans ((sSeq_nx (sSetN_e (fLst_e fNil_e (show 0 ≤ 100000 by decide)))).trans ?_)
  · exact fSortSet_e a1 (by omega)
  have sl := sortSet_len ((f.bends ++ g.bends ++ [max f.low g.low, min f.last g.last]).filter fun z => decide (max f.low g.low ≤ z ∧ z ≤ min f.last g.last))
  have sl' : (sumB f g).length ≤ f.st.length + g.st.length + 4 := Nat.le_trans sl el
  have so2 := segs_ok hf hg (b := max f.low g.low) (r := r) (by omega) (by omega) (by rw [so.last]; omega) (by rw [so.last]; omega) so.run
  have zl : ((sumB f g).zip (sumB f g).tail).length ≤ 64 := by
    rw [List.length_zip, List.length_tail]
    omega
  refine sSeq_foldN (fun n (l : List (Int × Int)) ρ => l.length = n ∧ ∃ y z w, ρ = [.dat (cD f), .dat (cD g), .dat (.int (max f.low g.low)), .dat (.int (min f.last g.last)), .dat (.lst ((sumB f g).map .int)), .own (l.map sD), y, z, w]) (fun l a => l ++ [(a.2 - a.1, slope f g a.1)]) (fun a : Int × Int => .tup [.int a.1, .int a.2]) ((sumB f g).zip (sumB f g).tail) [] ?_ ⟨rfl, .un, .un, .un, rfl⟩ ?_ ?_
  · refine (fZip_l (xs := (sumB f g).map .int) (ys := (sumB f g).tail.map .int) rfl (fFrz_e ?_)).trans (by rw [zipD_map])
    show some (cutD ((sumB f g).map .int) (some 1) none) = _
    rw [cut1, List.map_tail]
  · rintro ⟨a, b⟩ hab n l ρ hn ⟨hl, y, z, w, rfl⟩
    obtain ⟨t, t', et⟩ := zip_split hab
    rw [so.eq] at et
    obtain ⟨⟨p, hp⟩, q, hq⟩ := so2.2.2.2.2.2 a b t t' et
    have es : slope f g a = p + q := by simp [slope, hp, hq]
    refine ⟨_, _, rfl, sApp_e rfl (fTup_e (fCons_e (f2_e (z := .int (b - a)) rfl rfl rfl) (fCons_e (f2_e (z := .int (p + q)) (fCall_e (fCons_e rfl (fCons_e rfl fNil_e)) (price_after_e f a p hp)) (fCall_e (fCons_e rfl (fCons_e rfl fNil_e)) (price_after_e g a q hq)) rfl) fNil_e)) (show 2 ≤ 100000 by decide)) (by rw [List.length_map]; omega), ?_, .dat (.int a), .dat (.int b), w, ?_⟩
    · simp [hl]
    · rw [es, List.map_append]
      rfl
  · rintro ρ' ⟨hl, y, z, w, rfl⟩
    have ef : ((sumB f g).zip (sumB f g).tail).foldl (fun l (a : Int × Int) => l ++ [(a.2 - a.1, slope f g a.1)]) [] = segs f g (sumB f g) := by
      rw [foldl_app (fun a : Int × Int => (a.2 - a.1, slope f g a.1)), segs_zip]
      rfl
    rw [ef]
    have sg3 := segs_len f g (sumB f g)
    refine (sSeq_nx (sFrz_e rfl)).trans (sRet_e (fTup_e (fCons_e rfl (fCons_e (f2_e (z := .int (f.at (max f.low g.low) + g.at (max f.low g.low))) (fCall_e (fCons_e rfl (fCons_e rfl fNil_e)) (cost_at_e f _ sf)) (fCall_e (fCons_e rfl (fCons_e rfl fNil_e)) (cost_at_e g _ sg)) rfl) (fCons_e (fCall_e (fCons_e rfl fNil_e) (joined_steps_e _ _ rfl (by omega))) fNil_e))) (show 3 ≤ 100000 by decide)))
end FD
end

section
set_option Elab.async false
set_option linter.all false
set_option maxRecDepth 100000
set_option maxHeartbeats 1000000
/-! E4: plans, of data. -/
namespace FD
open MM PySem L2
def pD (p : Pd) : D := .tup [cD p.buy, .int p.want, cD p.keep]
def bD (k : Book) : D := .tup [.int k.b, .tup (k.ps.map pD)]
def uD (us : List Int) : D := .tup (us.map .int)
theorem stocks_loop (bk pl : D) : ∀ (ps : List Pd) (us : List Int) (pre : List Int) (s : Int) (y1 y2 y3 y4 : Sl), pre.length + us.length < 90000 → ∃ z1 z2 z3 z4, forL (gT (gC (gN 3) (gC (gT (gC (gN 4) (gC (gN 5) (gC (gN 6) gE)))) gE)))
   (sSet 2 (fTup (fStar (fVar 2) (fCons (f2 D.sub (f2 D.add (f2 D.ix (fVar 2) (f1 D.neg (fK (.int 1)))) (fVar 3)) (fVar 5)) fNil)))) sNil (zipD (us.map .int) (ps.map pD)) [.dat bk, .dat pl, .dat (.tup (pre.map .int ++ [.int s])), y1, y2, y3, y4] =
     some (.nx [.dat bk, .dat pl, .dat (.tup ((pre ++ s :: stk s ps us).map .int)), z1, z2, z3, z4])
  | [], us, pre, s, y1, y2, y3, y4, _ => ⟨y1, y2, y3, y4, by cases us <;> simp [zipD, forL, sNil, stk]⟩
  | p :: ps, [], pre, s, y1, y2, y3, y4, _ => ⟨y1, y2, y3, y4, by simp [zipD, forL, sNil, stk]⟩
  | p :: ps, u :: us, pre, s, y1, y2, y3, y4, hl => by
    simp only [List.length_cons] at hl
    obtain ⟨z1, z2, z3, z4, e⟩ := stocks_loop bk pl ps us (pre ++ [s]) (s + u - p.want) (.dat (.int u)) (.dat (cD p.buy)) (.dat (.int p.want)) (.dat (cD p.keep)) (by simp; omega)
    refine ⟨z1, z2, z3, z4, ?_⟩
    have st : sSet 2 (fTup (fStar (fVar 2) (fCons (f2 D.sub (f2 D.add (f2 D.ix (fVar 2) (f1 D.neg (fK (.int 1)))) (fVar 3)) (fVar 5)) fNil))) [.dat bk, .dat pl, .dat (.tup (pre.map .int ++ [.int s])), .dat (.int u), .dat (cD p.buy), .dat (.int p.want), .dat (cD p.keep)] = some (.nx [.dat bk, .dat pl, .dat (.tup ((pre.map .int ++ [.int s]) ++ [.int (s + u - p.want)])), .dat (.int u), .dat (cD p.buy), .dat (.int p.want), .dat (cD p.keep)]) :=
      sSet_e (fTup_e (fStar_e rfl rfl (fCons_e (f2_e (f2_e (f2_e rfl rfl (at_neg1 _ _)) rfl rfl) rfl rfl) fNil_e)) (by simp; omega))
    simp only [List.map_cons, zipD, forL]
    have g : gT (gC (gN 3) (gC (gT (gC (gN 4) (gC (gN 5) (gC (gN 6) gE)))) gE)) (.tup [.int u, pD p]) [.dat bk, .dat pl, .dat (.tup (pre.map .int ++ [.int s])), y1, y2, y3, y4] = some [.dat bk, .dat pl, .dat (.tup (pre.map .int ++ [.int s])), .dat (.int u), .dat (cD p.buy), .dat (.int p.want), .dat (cD p.keep)] := rfl
    simp only [g, Option.bind_some, st]
    simp only [List.map_append, List.map_cons, List.map_nil] at e
    rw [e]
    simp [stk]
theorem stocks_after_e (k : Book) (us : List Int) (hl : us.length < 80000) : Phi_stocks_after [bD k, uD us] = some (.tup ((stk k.b k.ps us).map .int)) := by
  obtain ⟨z1, z2, z3, z4, e⟩ := stocks_loop (bD k) (uD us) k.ps us [] k.b .un .un .un .un (by simp; omega)
  refine runD_rt rfl ((sSeq_nx (sSet_e (fTup_e (fCons_e (f2_e (z := .int k.b) rfl rfl rfl) fNil_e) (show 1 ≤ 100000 by decide)))).trans ((sSeq_nx (sFor_e (fZip_t rfl (f2_e (z := .tup (k.ps.map pD)) rfl rfl rfl)) e)).trans (sRet_e ?_)))
  show some (D.tup (cutD _ (some 1) none)) = _
  rw [cut1]
  rfl
theorem zipD_zip (ps : List Pd) (us : List Int) : zipD (ps.map pD) (us.map .int) = (ps.zip us).map fun a => .tup [pD a.1, .int a.2] := zipD_map pD D.int ps us
theorem fits_e (k : Book) (us : List Int) (hl : us.length < 80000) (hp : k.ps.length ≤ 80000) (hc : ∀ p ∈ k.ps, p.buy.st.length ≤ 100000 ∧ p.keep.st.length ≤ 100000) : Phi_fits [bD k, uD us] = some (.bl (fitsB k.b k.ps us)) := by
  refine runD_rt rfl ((sSeq_nx (sAsg_e rfl rfl)).trans ?_)
  have e1 : Phi_is_tuple_of [uD us, .int (k.ps.map pD).length] = some (.bl (decide (us.length = k.ps.length))) := by
    rw [List.length_map]
    have := is_tuple_of_e (us.map .int) k.ps.length
    rw [List.length_map] at this
    exact this
  have zl : ∀ l : List Int, (k.ps.zip l).length ≤ 100000 := fun l => by rw [List.length_zip]; omega
  by_cases h1 : us.length = k.ps.length
  · refine (sSeq_nx (ρ' := [.dat (bD k), .dat (uD us), .dat (.int k.b), .dat (.tup (k.ps.map pD)), .un, .un, .un]) (sIf_f (bNot_e (bVal_e (fCall_e (fCons_e rfl (fCons_e (fCall_e (fCons_e rfl fNil_e) rfl) fNil_e)) e1)) |>.trans (by rw [decide_eq_true h1]; rfl)) rfl)).trans ?_
    have e2 : fComp [4, 6] (fZip (fVar 3) (fVar 1)) (gT (gC (gN 4) (gC (gN 6) gE))) bYes (fCall Phi_is_place (fCons (f2 D.ix (fVar 4) (fK (.int 0))) (fCons (fVar 6) fNil))) [.dat (bD k), .dat (uD us), .dat (.int k.b), .dat (.tup (k.ps.map pD)), .un, .un, .un] = some ((k.ps.zip us).map fun a => .bl (inC a.1.buy a.2)) :=
      fComp_all _ _ (k.ps.zip us) ((fZip_t rfl rfl).trans (by rw [zipD_zip])) (zl us) (compL_all _ _ _ fun a ha => ⟨_, rfl, fCall_e (fCons_e (f2_e (z := cD a.1.buy) rfl rfl rfl) (fCons_e rfl fNil_e)) (is_place_e _ _ (hc a.1 (List.of_mem_zip ha).1).1)⟩)
    have e3 : f1 D.all (fFrz (fComp [4, 6] (fZip (fVar 3) (fVar 1)) (gT (gC (gN 4) (gC (gN 6) gE))) bYes (fCall Phi_is_place (fCons (f2 D.ix (fVar 4) (fK (.int 0))) (fCons (fVar 6) fNil))))) [.dat (bD k), .dat (uD us), .dat (.int k.b), .dat (.tup (k.ps.map pD)), .un, .un, .un] = some (.bl (okU k.ps us)) := by
      refine f1_e (fFrz_e e2) ?_
      simp only [D.all, bools_map, Option.bind_some]
      rw [List.all_map]
      rfl
    have e3' : bVal (fCall (g1 D.all) (fCons (fFrz (fComp [4, 6] (fZip (fVar 3) (fVar 1)) (gT (gC (gN 4) (gC (gN 6) gE))) bYes (fCall Phi_is_place (fCons (f2 D.ix (fVar 4) (fK (.int 0))) (fCons (fVar 6) fNil))))) fNil)) [.dat (bD k), .dat (uD us), .dat (.int k.b), .dat (.tup (k.ps.map pD)), .un, .un, .un] = some (okU k.ps us) := by
      refine bVal_e (fCall_e (fCons_e (fFrz_e e2) fNil_e) ?_)
      simp only [g1, D.all, bools_map, Option.bind_some]
      rw [List.all_map]
      rfl
    cases h2 : okU k.ps us with
    | false =>
      refine (sSeq_rt (sIf_t (bNot_e e3' |>.trans (by rw [h2]; rfl)) (sRet_e (d := .bl false) rfl))).trans ?_
      simp [fitsB, h2]
    | true =>
      refine (sSeq_nx (sIf_f (bNot_e e3' |>.trans (by rw [h2]; rfl)) rfl)).trans ?_
      have e4 : fComp [4, 5] (fZip (fVar 3) (fCall Phi_stocks_after (fCons (fVar 0) (fCons (fVar 1) fNil)))) (gT (gC (gN 4) (gC (gN 5) gE))) bYes (fCall Phi_is_place (fCons (f2 D.ix (fVar 4) (fK (.int 2))) (fCons (fVar 5) fNil))) [.dat (bD k), .dat (uD us), .dat (.int k.b), .dat (.tup (k.ps.map pD)), .un, .un, .un] = some ((k.ps.zip (stk k.b k.ps us)).map fun a => .bl (inC a.1.keep a.2)) :=
        fComp_all _ _ (k.ps.zip (stk k.b k.ps us)) ((fZip_t rfl (fCall_e (fCons_e rfl (fCons_e rfl fNil_e)) (stocks_after_e k us hl))).trans (by rw [zipD_zip])) (zl _) (compL_all _ _ _ fun a ha => ⟨_, rfl, fCall_e (fCons_e (f2_e (z := cD a.1.keep) rfl rfl rfl) (fCons_e rfl fNil_e)) (is_place_e _ _ (hc a.1 (List.of_mem_zip ha).1).2)⟩)
      refine sRet_e (fCall_e (fCons_e (fFrz_e e4) fNil_e) ?_)
      simp only [g1, D.all, bools_map, Option.bind_some]
      rw [List.all_map]
      simp only [fitsB, h1, h2, decide_true, Bool.true_and]
      rfl
  · refine (sSeq_rt (sIf_t (bNot_e (bVal_e (fCall_e (fCons_e rfl (fCons_e (fCall_e (fCons_e rfl fNil_e) rfl) fNil_e)) e1)) |>.trans (by rw [decide_eq_false h1]; rfl)) (sRet_e (d := .bl false) rfl))).trans ?_
    simp [fitsB, h1]
end FD
end

section
set_option Elab.async false
set_option linter.all false
set_option maxRecDepth 100000
set_option maxHeartbeats 1000000
/-! E5: costs of plans, of data; the law's own ways. -/
namespace FD
open MM PySem L2
theorem PB.sm {s : List (Int × Int)} (h : PB 12 s) : SmP s := fun a ha => by
  have := h a ha
  unfold small
  rw [decide_eq_true_iff]
  omega
theorem _root_.MM.Cv.Fine.sm {c : Cv} (h : c.Fine) : SmP c.st := PB.sm h.pb
theorem _root_.MM.Book.Fine.lens {k : Book} (h : k.Fine) : ∀ p ∈ k.ps, p.buy.st.length ≤ 100000 ∧ p.keep.st.length ≤ 100000 := fun p hp => by
  have a := (h.ps p hp).buy.len
  have b := (h.ps p hp).keep.len
  omega
theorem fits_k {k : Book} (h : k.Fine) (us : List Int) (hl : us.length < 80000) : Phi_fits [bD k, uD us] = some (.bl (fitsB k.b k.ps us)) := fits_e k us hl (by have := h.len; omega) h.lens
theorem zip3D_map {α β γ : Type} (f : α → D) (g : β → D) (h : γ → D) : ∀ (xs : List α) (ys : List β) (zs : List γ), zip3D (xs.map f) (ys.map g) (zs.map h) = (xs.zip (ys.zip zs)).map fun p => .tup [f p.1, g p.2.1, h p.2.2]
  | [], _, _ => by simp [zip3D]
  | _ :: _, [], _ => by simp [zip3D]
  | _ :: _, _ :: _, [] => by simp [zip3D]
  | x :: xs, y :: ys, z :: zs => by simp [zip3D, zip3D_map f g h xs ys zs]
theorem sum_ints {α : Type} (f : α → Int) (l : List α) : D.sum (.lst (l.map fun a => .int (f a))) = some (.int (l.map f).sum) := by
  simp only [D.sum, ints_map, Option.bind_some]
theorem plan_cost_e {k : Book} (h : k.Fine) {us : List Int} (hl : us.length = k.ps.length) : Phi_plan_cost [bD k, uD us] = some (.int (pcost k.b k.ps us)) := by
  have h4 := h.len
  have sl := stk_len (s := k.b) hl
  have z : fZip3L (f2 D.ix (fVar 0) (fK (.int 1))) (fVar 1) (fCall Phi_stocks_after (fCons (fVar 0) (fCons (fVar 1) fNil))) [.dat (bD k), .dat (uD us), .un, .un, .un, .un, .un, .un] = some ((k.ps.zip (us.zip (stk k.b k.ps us))).map fun p => .tup [pD p.1, .int p.2.1, .int p.2.2]) := by
    unfold fZip3L
    have a1 : f2 D.ix (fVar 0) (fK (.int 1)) [.dat (bD k), .dat (uD us), .un, .un, .un, .un, .un, .un] = some (.tup (k.ps.map pD)) := f2_e rfl rfl rfl
    have a2 : fVar 1 [.dat (bD k), .dat (uD us), .un, .un, .un, .un, .un, .un] = some (uD us) := rfl
    have a3 : fCall Phi_stocks_after (fCons (fVar 0) (fCons (fVar 1) fNil)) [.dat (bD k), .dat (uD us), .un, .un, .un, .un, .un, .un] = some (.tup ((stk k.b k.ps us).map .int)) := fCall_e (fCons_e rfl (fCons_e rfl fNil_e)) (stocks_after_e k us (by omega))
    rw [a1, a2, a3]
    show (if (k.ps.map pD).length ≤ 100000 then zip3E (k.ps.map pD) (us.map .int) ((stk k.b k.ps us).map .int) else none) = _
    rw [if_pos (by rw [List.length_map]; omega)]
    unfold zip3E
    rw [if_pos (by simp only [List.length_map]; omega), zip3D_map]
  refine runD_rt rfl ((sSeq_nx (sSet_e (fFrz_e z))).trans (sRet_e (fCall_e (fCons_e (fFrz_e (fComp_all _ (fun a => .int (a.1.buy.at a.2.1 + a.1.keep.at a.2.2)) (k.ps.zip (us.zip (stk k.b k.ps us))) (fItems_e rfl rfl) (by rw [List.length_zip]; omega) (compL_all _ _ _ fun a ha => ⟨_, rfl, f2_e (fCall_e (fCons_e rfl (fCons_e rfl fNil_e)) (cost_at_e a.1.buy a.2.1 (h.ps a.1 (List.of_mem_zip ha).1).buy.sm)) (fCall_e (fCons_e rfl (fCons_e rfl fNil_e)) (cost_at_e a.1.keep a.2.2 (h.ps a.1 (List.of_mem_zip ha).1).keep.sm)) rfl⟩))) fNil_e) ?_)))
  refine (sum_ints _ _).trans ?_
  rw [pcost_sum hl]
theorem check_plan_e {k : Book} (h : k.Fine) {us : List Int} (hf : Fits k.b k.ps us) : Phi_check_plan [bD k, uD us] = some .non := by
  have hl := fits_len hf
  have h4 := h.len
  exact runD_nx rfl (sIf_f (bNot_e (bVal_e (fCall_e (fCons_e rfl (fCons_e rfl fNil_e)) (fits_k h us (by omega)))) |>.trans (by rw [fitsB_iff.mpr hf]; rfl)) rfl)
theorem cost_of_e {k : Book} (h : k.Fine) {us : List Int} (hf : Fits k.b k.ps us) : Phi_cost_of [bD k, uD us] = some (.int (pcost k.b k.ps us)) :=
  runD_rt rfl ((sSeq_nx (sDo_e (fCall_e (fCons_e rfl (fCons_e rfl fNil_e)) (check_plan_e h hf)))).trans (sRet_e (fCall_e (fCons_e rfl (fCons_e rfl fNil_e)) (plan_cost_e h (fits_len hf)))))
/-! ### the law's own -/
theorem law_whole_e (i : Int) : Phi__law_whole [.int i] = some (.bl true) := by
  simp [runD, startR, sSeq, sSet, sSetN, sRet, sAsg, sIf, sNil, sNo, sApp, sFor, sPut, sFrz, sAug, sDo, fVar, fK, f1, f2, fNil, fCons, fStar, fTup, fLst, fFrz, fCall, fIf, fAnd, fOr, fChain, bVal, bAnd, bOr, bNot, chk, g1, g2, D.items, D.toB, D.add, D.sub, D.lt, D.le, D.gt, D.ge, D.neg, D.not, D.eq, D.ne, D.eqq, D.isNone, D.notNone, D.ix, D.len, D.sum, D.all, D.min2, D.max2, D.max1, D.min1, D.tuple, D.toI, isT_ii, isT_bi, isT_tt, isT_ss, fItems, gN, gE, gC, gT, forL, fComp, compL, bYes, wipeR, fIxO, fLenO, fSlT, fSlL, oNone, oSome, fRev, fCatL, fList, fZip, atI, ixN, sPar2, sPar3, sParN2, sParN3, D.ints, D.bools, Phi__law_whole, b__law_whole]
theorem law_units_e (s : List (Int × Int)) (h : s.length ≤ 100000) : Phi__law_units [.tup (s.map sD)] = some (.int (tot s)) := by
  refine runD_rt rfl (sRet_e (fCall_e (fCons_e (fFrz_e (fComp_all sD (fun a => .int a.1) s (fItems_e rfl rfl) h (compL_all _ _ _ fun a _ => ⟨_, rfl, rfl⟩))) fNil_e) ?_))
  exact (sum_ints (fun a : Int × Int => a.1) s).trans (by rw [sum_tot])
theorem law_last_e (c : Cv) (h : c.st.length ≤ 100000) : Phi__law_last [cD c] = some (.int c.last) :=
  runD_rt rfl (sRet_e (f2_e (x := .int c.low) (f2_e rfl rfl rfl) (fCall_e (fCons_e (f2_e (z := .tup (c.st.map sD)) rfl rfl rfl) fNil_e) (law_units_e c.st h)) rfl))
theorem law_is_place_e (c : Cv) (x : Int) (h : c.st.length ≤ 100000) : Phi__law_is_place [cD c, .int x] = some (.bl (inC c x)) := by
  refine runD_rt rfl (sRet_e (d := .bl (inC c x)) ?_)
  unfold inC
  rw [Bool.decide_and]
  exact fAnd_e (a := true) (fCall_e (fCons_e rfl fNil_e) (law_whole_e x)) fun _ => fChain_e (x := .int c.low) (f2_e rfl rfl rfl) rfl rfl fun _ => ⟨fCall_e (fCons_e rfl fNil_e) (law_last_e c h), rfl⟩
def lgrd : List (Int × Int) → Int → Int
  | [], _ => 0
  | (n, p) :: r, l => p * max 0 (min n l) + lgrd r (l - n)
theorem lgrd_neg : ∀ {s : List (Int × Int)} {l : Int}, Pos s → l ≤ 0 → lgrd s l = 0
  | [], _, _, _ => rfl
  | (n, p) :: r, l, hp, h => by
    have hn : (0 : Int) ≤ n := hp (n, p) List.mem_cons_self
    have e : max 0 (min n l) = 0 := by omega
    simp only [lgrd, e, Int.mul_zero]
    rw [lgrd_neg (fun a ha => hp a (List.mem_cons_of_mem _ ha)) (by omega)]
    rfl
theorem lgrd_eq : ∀ {s : List (Int × Int)} {l : Int}, Pos s → 0 ≤ l → lgrd s l = grd s l
  | [], _, _, _ => rfl
  | (n, p) :: r, l, hp, h => by
    have hn : (0 : Int) ≤ n := hp (n, p) List.mem_cons_self
    have hr : Pos r := fun a ha => hp a (List.mem_cons_of_mem _ ha)
    have e : max 0 (min n l) = min n l := by omega
    simp only [lgrd, grd, e]
    by_cases hl : l ≤ n
    · have e2 : l - min n l = 0 := by omega
      rw [lgrd_neg hr (by omega), e2, grd_zero hr]
    · have e2 : l - min n l = l - n := by omega
      rw [lgrd_eq hr (by omega), e2]
theorem law_cost_e (c : Cv) (x : Int) (h : SmP c.st) (hp : Pos c.st) (hx : c.low ≤ x) : Phi__law_cost [cD c, .int x] = some (.int (c.at x)) := by
  have k : ∀ (s : List (Int × Int)) (C b : Int) (y z : Sl), SmP s → ∃ ρ', ρ'[2]? = some (.dat (.int (C + lgrd s (x - b)))) ∧ forL (gT (gC (gN 4) (gC (gN 5) gE))) (sSeq (sSet 2 (f2 D.add (fVar 2) (f2 D.mul (fVar 5) (fCall (g2 D.max2) (fCons (fK (.int 0)) (fCons (fCall (g2 D.min2) (fCons (fVar 4) (fCons (f2 D.sub (fVar 1) (fVar 3)) fNil))) fNil))))))
  (sSet 3 (f2 D.add (fVar 3) (fVar 4)))) sNil (s.map sD) [.dat (cD c), .dat (.int x), .dat (.int C), .dat (.int b), y, z] = some (.nx ρ') := by
    intro s
    induction s with
    | nil => intro C b y z _; exact ⟨_, by simp [lgrd], rfl⟩
    | cons a r ih =>
      intro C b y z hs
      obtain ⟨n, p⟩ := a
      obtain ⟨ρ', h1, e⟩ := ih (C + p * max 0 (min n (x - b))) (b + n) (.dat (.int n)) (.dat (.int p)) fun a ha => hs a (List.mem_cons_of_mem _ ha)
      have sp : small p = true := hs (n, p) List.mem_cons_self
      have g : gT (gC (gN 4) (gC (gN 5) gE)) (sD (n, p)) [.dat (cD c), .dat (.int x), .dat (.int C), .dat (.int b), y, z] = some [.dat (cD c), .dat (.int x), .dat (.int C), .dat (.int b), .dat (.int n), .dat (.int p)] := rfl
      have ml : D.mul (.int p) (.int (max 0 (min n (x - b)))) = some (.int (p * max 0 (min n (x - b)))) := by simp [D.mul, sp]
      have st : (sSeq (sSet 2 (f2 D.add (fVar 2) (f2 D.mul (fVar 5) (fCall (g2 D.max2) (fCons (fK (.int 0)) (fCons (fCall (g2 D.min2) (fCons (fVar 4) (fCons (f2 D.sub (fVar 1) (fVar 3)) fNil))) fNil))))))
  (sSet 3 (f2 D.add (fVar 3) (fVar 4)))) [.dat (cD c), .dat (.int x), .dat (.int C), .dat (.int b), .dat (.int n), .dat (.int p)] = some (.nx [.dat (cD c), .dat (.int x), .dat (.int (C + p * max 0 (min n (x - b)))), .dat (.int (b + n)), .dat (.int n), .dat (.int p)]) :=
        (sSeq_nx (sSet_e (f2_e rfl (f2_e rfl (fCall_e (fCons_e rfl (fCons_e (fCall_e (fCons_e rfl (fCons_e (f2_e (z := .int (x - b)) rfl rfl rfl) fNil_e)) (min2_e _ _)) fNil_e)) (max2_e _ _)) ml) rfl))).trans (sSet_e rfl)
      refine ⟨ρ', ?_, ?_⟩
      · rw [h1]
        simp only [lgrd]
        have e1 : x - (b + n) = x - b - n := by omega
        rw [e1, Int.add_assoc]
      · simp only [List.map_cons, forL, g, Option.bind_some, st]
        exact e
  obtain ⟨ρ', h1, e⟩ := k c.st c.cost c.low .un .un h
  refine runD_rt rfl ((sSeq_nx (ρ' := [.dat (cD c), .dat (.int x), .dat (.int c.cost), .dat (.int c.low), .un, .un]) rfl).trans ((sSeq_nx (sFor_e rfl e)).trans (sRet_e (fVar_e (h1.trans ?_)))))
  rw [lgrd_eq hp (by omega)]
  rfl
end FD
end

section
set_option Elab.async false
set_option linter.all false
set_option maxRecDepth 100000
set_option maxHeartbeats 1000000
/-! E6: the law's own plans, of data. -/
namespace FD
open MM PySem L2
theorem law_stocks_loop (bk pl : D) : ∀ (ps : List Pd) (us : List Int) (pre : List Int) (s : Int) (y1 y2 : Sl), pre.length + us.length < 90000 → ∃ s' z1 z2, forL (gT (gC (gN 4) (gC (gN 5) gE)))
   (sSeq (sSet 3 (f2 D.sub (f2 D.add (fVar 3) (fVar 4)) (f2 D.ix (fVar 5) (fK (.int 1)))))
  (sApp 2 (fVar 3))) sNil (zipD (us.map .int) (ps.map pD)) [.dat bk, .dat pl, .own (pre.map .int), .dat (.int s), y1, y2] =
     some (.nx [.dat bk, .dat pl, .own ((pre ++ stk s ps us).map .int), s', z1, z2])
  | [], us, pre, s, y1, y2, _ => ⟨.dat (.int s), y1, y2, by cases us <;> simp [zipD, forL, sNil, stk]⟩
  | p :: ps, [], pre, s, y1, y2, _ => ⟨.dat (.int s), y1, y2, by simp [zipD, forL, sNil, stk]⟩
  | p :: ps, u :: us, pre, s, y1, y2, hl => by
    simp only [List.length_cons] at hl
    obtain ⟨s', z1, z2, e⟩ := law_stocks_loop bk pl ps us (pre ++ [s + u - p.want]) (s + u - p.want) (.dat (.int u)) (.dat (pD p)) (by simp; omega)
    refine ⟨s', z1, z2, ?_⟩
    have st : (sSeq (sSet 3 (f2 D.sub (f2 D.add (fVar 3) (fVar 4)) (f2 D.ix (fVar 5) (fK (.int 1))))) (sApp 2 (fVar 3))) [.dat bk, .dat pl, .own (pre.map .int), .dat (.int s), .dat (.int u), .dat (pD p)] = some (.nx [.dat bk, .dat pl, .own (pre.map .int ++ [.int (s + u - p.want)]), .dat (.int (s + u - p.want)), .dat (.int u), .dat (pD p)]) :=
      (sSeq_nx (sSet_e (d := .int (s + u - p.want)) (f2_e (x := .int (s + u)) rfl (f2_e rfl rfl rfl) rfl))).trans (sApp_e rfl rfl (by simp; omega))
    have g : gT (gC (gN 4) (gC (gN 5) gE)) (.tup [.int u, pD p]) [.dat bk, .dat pl, .own (pre.map .int), .dat (.int s), y1, y2] = some [.dat bk, .dat pl, .own (pre.map .int), .dat (.int s), .dat (.int u), .dat (pD p)] := rfl
    simp only [List.map_cons, zipD, forL, g, Option.bind_some, st]
    simp only [List.map_append, List.map_cons, List.map_nil] at e
    rw [e]
    simp [stk]
theorem law_stocks_e (k : Book) (us : List Int) (hl : us.length < 80000) : Phi__law_stocks [bD k, uD us] = some (.tup ((stk k.b k.ps us).map .int)) := by
  obtain ⟨s', z1, z2, e⟩ := law_stocks_loop (bD k) (uD us) k.ps us [] k.b .un .un (by simp; omega)
  exact runD_rt rfl ((sSeq_nx (ρ' := [.dat (bD k), .dat (uD us), .own [], .dat (.int k.b), .un, .un]) rfl).trans ((sSeq_nx (sFor_e (fZip_t rfl (f2_e (z := .tup (k.ps.map pD)) rfl rfl rfl)) e)).trans ((sSeq_nx (sFrz_e rfl)).trans (sRet_e (fCall_e (fCons_e rfl fNil_e) rfl)))))
theorem filter_none {α : Type} (b : α → Bool) (l : List α) : (l.filter fun a => !b a) = [] ↔ l.all b = true := by
  rw [List.filter_eq_nil_iff, List.all_eq_true]
  simp
theorem lay_intD : ∀ f : List Int, PyData.canLayAll0 (toPys (f.map D.int)) = true
  | [] => rfl
  | a :: r => by
    simp only [List.map_cons, toPys, toPy, PyData.canLayAll0, PyData.canLay0, Bool.true_and]
    exact lay_intD r
theorem law_is_plan_e {k : Book} (h : k.Fine) (us : List Int) (hl : us.length < 80000) : Phi__law_is_plan [bD k, uD us] = some (.bl (fitsB k.b k.ps us)) := by
  have h4 := h.len
  have hc := h.lens
  have zl : ∀ l : List Int, (l.zip k.ps).length ≤ 100000 := fun l => by rw [List.length_zip]; omega
  have isu : ∀ (ρ : Rho), ρ[1]? = some (.dat (uD us)) → ρ[0]? = some (.dat (bD k)) → bOr (bNot (bVal (f1 (isT "tuple") (fVar 1)))) (bVal (f2 D.ne (fCall (g1 D.len) (fCons (fVar 1) fNil)) (fCall (g1 D.len) (fCons (f2 D.ix (fVar 0) (fK (.int 1))) fNil)))) ρ = some (!decide (us.length = k.ps.length)) := fun ρ h1 h0 => by
    refine (bOr_e (a := false) (b := !decide (us.length = k.ps.length)) ((bNot_e (bVal_e (b := true) (f1_e (fVar_e h1) (isT_tt _))))) fun _ => bVal_e (f2_e (x := .int us.length) (y := .int k.ps.length) (fCall_e (fCons_e (fVar_e h1) fNil_e) ?_) (fCall_e (fCons_e (f2_e (z := .tup (k.ps.map pD)) (fVar_e h0) rfl rfl) fNil_e) ?_) ?_)).trans (by simp)
    · simp [g1, D.len, uD]
    · simp [g1, D.len]
    · simp only [D.ne, D.eqq, Option.bind_some]
      congr 3
      simp
      omega
  have swp : ∀ l : List Int, zipD (l.map .int) (k.ps.map pD) = (l.zip k.ps).map fun a => .tup [.int a.1, pD a.2] := fun l => zipD_map D.int pD l k.ps
  have al : ∀ (l : List Int) (q : Pd → Cv), ((l.zip k.ps).all fun a => inC (q a.2) a.1) = ((k.ps.zip l).all fun a => inC (q a.1) a.2) := fun l q => by
    have : ∀ (ps : List Pd) (l : List Int), ((l.zip ps).all fun a => inC (q a.2) a.1) = ((ps.zip l).all fun a => inC (q a.1) a.2) := by
      intro ps
      induction ps with
      | nil => intro l; cases l <;> rfl
      | cons p ps ih =>
        intro l
        cases l with
        | nil => rfl
        | cons x l =>
          simp only [List.zip_cons_cons, List.all_cons]
          rw [ih l]
    exact this k.ps l
  by_cases h1 : us.length = k.ps.length
  · refine runD_rt rfl ((sSeq_nx (sIf_f ((isu _ rfl rfl).trans (by rw [decide_eq_true h1]; rfl)) rfl)).trans ?_)
    have e2 : fComp [3, 4] (fZip (fVar 1) (f2 D.ix (fVar 0) (fK (.int 1)))) (gT (gC (gN 3) (gC (gN 4) gE))) (bNot (bVal (fCall Phi__law_is_place (fCons (f2 D.ix (fVar 4) (fK (.int 0))) (fCons (fVar 3) fNil))))) (fVar 3) [.dat (bD k), .dat (uD us), .un, .un, .un, .un] = some (((us.zip k.ps).filter fun a => !inC a.2.buy a.1).map fun a => .int a.1) :=
      fComp_of _ _ _ (us.zip k.ps) ((fZip_t rfl (f2_e (z := .tup (k.ps.map pD)) rfl rfl rfl)).trans (by rw [swp])) (zl us) (compL_of _ _ _ _ fun a ha => ⟨_, rfl, bNot_e (bVal_e (fCall_e (fCons_e (f2_e (z := cD a.2.buy) rfl rfl rfl) (fCons_e rfl fNil_e)) (law_is_place_e _ _ (hc a.2 (List.of_mem_zip ha).2).1))), fun _ => rfl⟩)
    have e2' : f2 D.ne (fFrz (fComp [3, 4] (fZip (fVar 1) (f2 D.ix (fVar 0) (fK (.int 1)))) (gT (gC (gN 3) (gC (gN 4) gE))) (bNot (bVal (fCall Phi__law_is_place (fCons (f2 D.ix (fVar 4) (fK (.int 0))) (fCons (fVar 3) fNil))))) (fVar 3))) (fFrz (fLst fNil)) [.dat (bD k), .dat (uD us), .un, .un, .un, .un] = some (.bl (!okU k.ps us)) := by
      refine f2_e (fFrz_e e2) (fFrz_e (fLst_e fNil_e (show 0 ≤ 100000 by decide))) ?_
      have ly : PyData.canLayAll0 (toPys (((us.zip k.ps).filter fun a => !inC a.2.buy a.1).map fun a => .int a.1)) = true := by
        have := lay_intD (((us.zip k.ps).filter fun a => !inC a.2.buy a.1).map (·.1))
        rw [List.map_map] at this
        exact this
      simp only [D.ne, D.eqq, ly, if_true, Option.bind_some]
      congr 2
      unfold okU
      rw [← al us Pd.buy]
      rw [Bool.not_inj_iff, Bool.eq_iff_iff, List.isEmpty_iff, List.map_eq_nil_iff, filter_none (fun a : Int × Pd => inC a.2.buy a.1)]
    cases h2 : okU k.ps us with
    | false => 
      refine (sSeq_rt (sIf_t (bVal_e (e2'.trans (by rw [h2]; rfl))) (sRet_e (d := .bl false) rfl))).trans ?_
      simp [fitsB, h2]
    | true =>
      refine (sSeq_nx (sIf_f (bVal_e (e2'.trans (by rw [h2]; rfl))) rfl)).trans ((sSeq_nx (sSet_e (fCall_e (fCons_e rfl (fCons_e rfl fNil_e)) (law_stocks_e k us hl)))).trans (sRet_e ?_))
      have e3 : fComp [5, 4] (fZip (fVar 2) (f2 D.ix (fVar 0) (fK (.int 1)))) (gT (gC (gN 5) (gC (gN 4) gE))) (bNot (bVal (fCall Phi__law_is_place (fCons (f2 D.ix (fVar 4) (fK (.int 2))) (fCons (fVar 5) fNil))))) (fVar 5) [.dat (bD k), .dat (uD us), .dat (.tup ((stk k.b k.ps us).map .int)), .un, .un, .un] = some ((((stk k.b k.ps us).zip k.ps).filter fun a => !inC a.2.keep a.1).map fun a => .int a.1) :=
        fComp_of _ _ _ ((stk k.b k.ps us).zip k.ps) ((fZip_t rfl (f2_e (z := .tup (k.ps.map pD)) rfl rfl rfl)).trans (by rw [swp])) (zl _) (compL_of _ _ _ _ fun a ha => ⟨_, rfl, bNot_e (bVal_e (fCall_e (fCons_e (f2_e (z := cD a.2.keep) rfl rfl rfl) (fCons_e rfl fNil_e)) (law_is_place_e _ _ (hc a.2 (List.of_mem_zip ha).2).2))), fun _ => rfl⟩)
      refine f2_e (fFrz_e e3) (fFrz_e (fLst_e fNil_e (show 0 ≤ 100000 by decide))) ?_
      have ly : PyData.canLayAll0 (toPys ((((stk k.b k.ps us).zip k.ps).filter fun a => !inC a.2.keep a.1).map fun a => .int a.1)) = true := by
        have := lay_intD ((((stk k.b k.ps us).zip k.ps).filter fun a => !inC a.2.keep a.1).map (·.1))
        rw [List.map_map] at this
        exact this
      simp only [D.eq, D.eqq, ly, if_true, Option.bind_some, fitsB, h1, h2, decide_true, Bool.true_and]
      congr 2
      unfold okS
      rw [← al (stk k.b k.ps us) Pd.keep]
      rw [Bool.eq_iff_iff, List.isEmpty_iff, List.map_eq_nil_iff, filter_none (fun a : Int × Pd => inC a.2.keep a.1)]
  · refine runD_rt rfl ((sSeq_rt (sIf_t ((isu _ rfl rfl).trans (by rw [decide_eq_false h1]; rfl)) (sRet_e (d := .bl false) rfl))).trans ?_)
    simp [fitsB, h1]
end FD
end

section
set_option Elab.async false
set_option linter.all false
set_option maxRecDepth 100000
set_option maxHeartbeats 1000000
/-! E7: the law's cost of a plan; gains and prices, of data. -/
namespace FD
open MM PySem L2
theorem pcost_fold : ∀ {ps : List Pd} {us : List Int} {s C : Int}, us.length = ps.length → (us.zip ((stk s ps us).zip ps)).foldl (fun c (a : Int × Int × Pd) => c + a.2.2.buy.at a.1 + a.2.2.keep.at a.2.1) C = C + pcost s ps us
  | [], [], _, _, _ => by simp [pcost]
  | [], _ :: _, _, _, h => by cases h
  | _ :: _, [], _, _, h => by cases h
  | p :: ps, u :: us, s, C, h => by
    simp only [stk, List.zip_cons_cons, List.foldl_cons, pcost]
    rw [pcost_fold (by simpa using h)]
    omega
theorem fits_zip : ∀ {ps : List Pd} {us : List Int} {s : Int}, Fits s ps us → ∀ a ∈ us.zip ((stk s ps us).zip ps), a.2.2 ∈ ps ∧ a.2.2.buy.low ≤ a.1 ∧ a.2.2.keep.low ≤ a.2.1
  | [], [], _, _, a, h => by simp at h
  | [], _ :: _, _, h, _, _ => h.elim
  | _ :: _, [], _, h, _, _ => h.elim
  | p :: ps, u :: us, s, h, a, ha => by
    obtain ⟨h1, h2, h3, h4, h5⟩ := h
    simp only [stk, List.zip_cons_cons, List.mem_cons] at ha
    rcases ha with e | ha
    · subst e
      exact ⟨List.mem_cons_self, h1, h3⟩
    · obtain ⟨b1, b2⟩ := fits_zip h5 a ha
      exact ⟨List.mem_cons_of_mem _ b1, b2⟩
theorem fZip3_e {fa fb fc : FE} {ρ : Rho} {xs ys zs : List D} (h1 : fa ρ = some (.tup xs)) (h2 : fb ρ = some (.tup ys)) (h3 : fc ρ = some (.tup zs)) (e1 : xs.length = ys.length) (e2 : xs.length = zs.length) : fZip3 fa fb fc ρ = some (zip3D xs ys zs) := by
  unfold fZip3
  rw [h1, Option.bind_some, h2, Option.bind_some, h3]
  show zip3E xs ys zs = _
  unfold zip3E
  rw [if_pos ⟨e1, e2⟩]
theorem law_plan_cost_e {k : Book} (h : k.Fine) {us : List Int} (hf : Fits k.b k.ps us) : Phi__law_plan_cost [bD k, uD us] = some (.int (pcost k.b k.ps us)) := by
  have h4 := h.len
  have hl := fits_len hf
  have sl := stk_len (s := k.b) hl
  refine runD_rt rfl ((sSeq_nx (sSet_e (d := .int 0) rfl)).trans (sSeq_fold (fun (c : Int) ρ => ∃ y z w, ρ = [.dat (bD k), .dat (uD us), .dat (.int c), y, z, w]) (fun c (a : Int × Int × Pd) => c + a.2.2.buy.at a.1 + a.2.2.keep.at a.2.1) (fun a : Int × Int × Pd => .tup [.int a.1, .int a.2.1, pD a.2.2]) (us.zip ((stk k.b k.ps us).zip k.ps)) 0 ?_ ⟨.un, .un, .un, rfl⟩ ?_ ?_))
  · refine (fZip3_e (xs := us.map .int) rfl (fCall_e (fCons_e rfl (fCons_e rfl fNil_e)) (law_stocks_e k us (by omega))) (f2_e (z := .tup (k.ps.map pD)) rfl rfl rfl) (by simp only [List.length_map]; omega) (by simp only [List.length_map]; omega)).trans ?_
    rw [zip3D_map]
  · rintro ⟨u, s, p⟩ ha c ρ ⟨y, z, w, rfl⟩
    obtain ⟨hp, b1, b2⟩ := fits_zip hf _ ha
    have fp := h.ps p hp
    exact ⟨_, _, rfl, sSet_e (d := .int (c + p.buy.at u + p.keep.at s)) (f2_e (x := .int (c + p.buy.at u)) (f2_e (y := .int (p.buy.at u)) rfl (fCall_e (fCons_e (f2_e (z := cD p.buy) rfl rfl rfl) (fCons_e rfl fNil_e)) (law_cost_e p.buy u fp.buy.sm fp.buy.good.pos.pos b1)) rfl) (fCall_e (fCons_e (f2_e (z := cD p.keep) rfl rfl rfl) (fCons_e rfl fNil_e)) (law_cost_e p.keep s fp.keep.sm fp.keep.good.pos.pos b2)) rfl), .dat (.int u), .dat (.int s), .dat (pD p), rfl⟩
  · rintro ρ' ⟨y, z, w, rfl⟩
    refine sRet_e ?_
    rw [pcost_fold hl]
    simp [fVar]
/-! ### gains -/
theorem best_of_e (c : Cv) (q : Int) : ∃ l, Phi_best_of [cD c, .int q] = some (.tup [.int (c.low + bst c.st q), .int l]) := by
  have k : ∀ (s : List (Int × Int)) (C b : Int) (y z : Sl), ∃ l y' z', forL (gT (gC (gN 4) (gC (gN 5) gE))) (sSeq (sIf (bVal (f2 D.lt (fVar 5) (fVar 1)))
   (sSet 2 (f2 D.add (fVar 2) (fVar 4)))
   sNil)
  (sIf (bVal (f2 D.le (fVar 5) (fVar 1)))
   (sSet 3 (f2 D.add (fVar 3) (fVar 4)))
   sNil)) sNil (s.map sD) [.dat (cD c), .dat (.int q), .dat (.int C), .dat (.int b), y, z] = some (.nx [.dat (cD c), .dat (.int q), .dat (.int (C + bst s q)), .dat (.int l), y', z']) := by
    intro s
    induction s with
    | nil => intro C b y z; exact ⟨b, y, z, by simp [forL, sNil, bst]⟩
    | cons a r ih =>
      intro C b y z
      obtain ⟨n, p⟩ := a
      have g : gT (gC (gN 4) (gC (gN 5) gE)) (sD (n, p)) [.dat (cD c), .dat (.int q), .dat (.int C), .dat (.int b), y, z] = some [.dat (cD c), .dat (.int q), .dat (.int C), .dat (.int b), .dat (.int n), .dat (.int p)] := rfl
      have st : ∃ b', (sSeq (sIf (bVal (f2 D.lt (fVar 5) (fVar 1)))
   (sSet 2 (f2 D.add (fVar 2) (fVar 4)))
   sNil)
  (sIf (bVal (f2 D.le (fVar 5) (fVar 1)))
   (sSet 3 (f2 D.add (fVar 3) (fVar 4)))
   sNil)) [.dat (cD c), .dat (.int q), .dat (.int C), .dat (.int b), .dat (.int n), .dat (.int p)] = some (.nx [.dat (cD c), .dat (.int q), .dat (.int (C + if p < q then n else 0)), .dat (.int b'), .dat (.int n), .dat (.int p)]) := by
        refine ⟨b + if p ≤ q then n else 0, (sSeq_nx (ρ' := [.dat (cD c), .dat (.int q), .dat (.int (C + if p < q then n else 0)), .dat (.int b), .dat (.int n), .dat (.int p)]) ?_).trans ?_⟩
        · by_cases h : p < q
          · rw [if_pos h]
            exact sIf_t (bVal_e (f2_e rfl rfl (by simp only [D.lt, decide_eq_true h]))) (sSet_e rfl)
          · rw [if_neg h, Int.add_zero]
            exact sIf_f (bVal_e (f2_e rfl rfl (by simp only [D.lt, decide_eq_false h]))) rfl
        · by_cases h : p ≤ q
          · rw [if_pos h]
            exact sIf_t (bVal_e (f2_e rfl rfl (by simp only [D.le, decide_eq_true h]))) (sSet_e rfl)
          · rw [if_neg h, Int.add_zero]
            exact sIf_f (bVal_e (f2_e rfl rfl (by simp only [D.le, decide_eq_false h]))) rfl
      obtain ⟨b', st⟩ := st
      obtain ⟨l, y', z', e⟩ := ih (C + if p < q then n else 0) b' (.dat (.int n)) (.dat (.int p))
      refine ⟨l, y', z', ?_⟩
      simp only [List.map_cons, forL, g, Option.bind_some, st]
      rw [e]
      simp only [bst, Int.add_assoc]
  obtain ⟨l, y', z', e⟩ := k c.st c.low c.low .un .un
  exact ⟨l, runD_rt rfl ((sSeq_nx (ρ' := [.dat (cD c), .dat (.int q), .dat (.int c.low), .dat (.int c.low), .un, .un]) rfl).trans ((sSeq_nx (sFor_e rfl e)).trans (sRet_e rfl)))⟩
theorem gain_of_e (c : Cv) (q : Int) (h : c.Ok) (hs : SmP c.st) (hm : small q = true ∨ small (c.low + bst c.st q) = true) : Phi_gain_of [cD c, .int q] = some (.int (c.gain q)) := by
  obtain ⟨l, e⟩ := best_of_e c q
  obtain ⟨b0, b1, b2⟩ := bst_ok (q := q) h.pos h.asc
  refine runD_rt rfl ((sSeq_nx (sSet_e (d := .int (c.low + bst c.st q)) (f2_e (fCall_e (fCons_e rfl (fCons_e rfl fNil_e)) e) rfl rfl))).trans (sRet_e (f2_e (x := .int (q * (c.low + bst c.st q))) (f2_e rfl rfl ?_) (fCall_e (fCons_e rfl (fCons_e rfl fNil_e)) (cost_at_e c _ hs)) ?_)))
  · simp only [D.mul]
    rw [if_pos (by rcases hm with h | h <;> simp [h])]
  · simp only [D.sub]
    congr 2
    unfold Cv.gain Cv.at
    have e : c.low + bst c.st q - c.low = bst c.st q := by omega
    rw [e, Int.mul_add, ← b2]
    omega
end FD
end

section
set_option Elab.async false
set_option linter.all false
set_option maxRecDepth 100000
set_option maxHeartbeats 1000000
/-! E8: ends of prices, of data. -/
namespace FD
open MM PySem L2
def oD : Option Int → D
  | some a => .int a
  | none => .non
def eD (e : MM.Ends) : D := .tup [oD e.1, oD e.2]
def oo : Option Int → Option Int → Option Int
  | some a, _ => some a
  | none, x => x
theorem price_ends_e (c : Cv) (x : Int) (hp : SPos c.st) (hx : x ≤ c.last) : Phi_price_ends [cD c, .int x] = some (eD (c.ends x)) := by
  have k : ∀ (s : List (Int × Int)) (lo hi : Option Int) (b : Int) (y z w : Sl), SPos s → x - b ≤ tot s → ∃ b' y' z' w', forL (gT (gC (gN 5) (gC (gN 6) gE))) (sSeq (sSet 7 (f2 D.add (fVar 4) (fVar 5)))
  (sSeq (sIf (bVal (f2 D.lt (fVar 4) (fVar 1)))
   (sSet 2 (fVar 6))
   sNil)
  (sSeq (sIf (bAnd (bVal (f2 D.isNone (fVar 3) (fK .non))) (bVal (f2 D.lt (fVar 1) (fVar 7))))
   (sSet 3 (fVar 6))
   sNil)
  (sSet 4 (fVar 7))))) sNil (s.map sD) [.dat (cD c), .dat (.int x), .dat (oD lo), .dat (oD hi), .dat (.int b), y, z, w] = some (.nx [.dat (cD c), .dat (.int x), .dat (oD (oo (lsl s (x - b)) lo)), .dat (oD (oo hi (pa s (x - b)))), b', y', z', w']) := by
    intro s
    induction s with
    | nil => intro lo hi b y z w _ _; exact ⟨_, y, z, w, by cases hi <;> rfl⟩
    | cons a r ih =>
      intro lo hi b y z w hs ht
      obtain ⟨n, p⟩ := a
      have hn : (0 : Int) < n := hs (n, p) List.mem_cons_self
      have hr : SPos r := fun a ha => hs a (List.mem_cons_of_mem _ ha)
      simp only [tot] at ht
      have g : gT (gC (gN 5) (gC (gN 6) gE)) (sD (n, p)) [.dat (cD c), .dat (.int x), .dat (oD lo), .dat (oD hi), .dat (.int b), y, z, w] = some [.dat (cD c), .dat (.int x), .dat (oD lo), .dat (oD hi), .dat (.int b), .dat (.int n), .dat (.int p), w] := rfl
      obtain ⟨b', y', z', w', e⟩ := ih (if b < x then some p else lo) (oo hi (if x < b + n then some p else none)) (b + n) (.dat (.int n)) (.dat (.int p)) (.dat (.int (b + n))) hr (by omega)
      have st : (sSeq (sSet 7 (f2 D.add (fVar 4) (fVar 5)))
  (sSeq (sIf (bVal (f2 D.lt (fVar 4) (fVar 1)))
   (sSet 2 (fVar 6))
   sNil)
  (sSeq (sIf (bAnd (bVal (f2 D.isNone (fVar 3) (fK .non))) (bVal (f2 D.lt (fVar 1) (fVar 7))))
   (sSet 3 (fVar 6))
   sNil)
  (sSet 4 (fVar 7))))) [.dat (cD c), .dat (.int x), .dat (oD lo), .dat (oD hi), .dat (.int b), .dat (.int n), .dat (.int p), w] = some (.nx [.dat (cD c), .dat (.int x), .dat (oD (if b < x then some p else lo)), .dat (oD (oo hi (if x < b + n then some p else none))), .dat (.int (b + n)), .dat (.int n), .dat (.int p), .dat (.int (b + n))]) := by
        refine (sSeq_nx (sSet_e (d := .int (b + n)) rfl)).trans ((sSeq_nx (ρ' := [.dat (cD c), .dat (.int x), .dat (oD (if b < x then some p else lo)), .dat (oD hi), .dat (.int b), .dat (.int n), .dat (.int p), .dat (.int (b + n))]) ?_).trans ((sSeq_nx (ρ' := [.dat (cD c), .dat (.int x), .dat (oD (if b < x then some p else lo)), .dat (oD (oo hi (if x < b + n then some p else none))), .dat (.int b), .dat (.int n), .dat (.int p), .dat (.int (b + n))]) ?_).trans (sSet_e rfl)))
        · by_cases h : b < x
          · rw [if_pos h]
            exact sIf_t (bVal_e (f2_e rfl rfl (by simp only [D.lt, decide_eq_true h]))) (sSet_e rfl)
          · rw [if_neg h]
            exact sIf_f (bVal_e (f2_e rfl rfl (by simp only [D.lt, decide_eq_false h]))) rfl
        · cases hi with
          | some v => exact sIf_f (bAnd_e (a := false) (b := true) (bVal_e (f2_e rfl rfl rfl)) (fun h => nomatch h)) rfl
          | none =>
            by_cases h : x < b + n
            · rw [if_pos h]
              exact sIf_t (bAnd_e (a := true) (b := true) (bVal_e (f2_e rfl rfl rfl)) fun _ => bVal_e (f2_e rfl rfl (by simp only [D.lt, decide_eq_true h]))) (sSet_e rfl)
            · rw [if_neg h]
              exact sIf_f (bAnd_e (a := true) (b := false) (bVal_e (f2_e rfl rfl rfl)) fun _ => bVal_e (f2_e rfl rfl (by simp only [D.lt, decide_eq_false h]))) rfl
      refine ⟨b', y', z', w', ?_⟩
      simp only [List.map_cons, forL, g, Option.bind_some, st]
      rw [e]
      have e0 : x - (b + n) = x - b - n := by omega
      rw [e0]
      have q1 : oo (lsl r (x - b - n)) (if b < x then some p else lo) = oo (lsl ((n, p) :: r) (x - b)) lo := by
        simp only [lsl]
        by_cases h1 : x - b ≤ 0
        · rw [if_pos h1, lsl_zero (by omega), if_neg (by omega)]
        · rw [if_neg h1, if_pos (by omega)]
          by_cases h2 : x - b ≤ n
          · rw [if_pos h2, lsl_zero (by omega)]
            rfl
          · rw [if_neg h2]
            obtain ⟨a, ha, _⟩ := lsl_ok hr (show 0 < x - b - n by omega) (by omega)
            rw [ha]
            rfl
      have q2 : oo (oo hi (if x < b + n then some p else none)) (pa r (x - b - n)) = oo hi (pa ((n, p) :: r) (x - b)) := by
        simp only [pa]
        cases hi with
        | some v => rfl
        | none =>
          by_cases h : x < b + n
          · rw [if_pos h, if_pos (by omega)]
            rfl
          · rw [if_neg h, if_neg (by omega)]
            rfl
      rw [q1, q2]
  obtain ⟨b', y', z', w', e⟩ := k c.st none none c.low .un .un .un hp (by unfold Cv.last at hx; omega)
  refine runD_rt rfl ((sSeq_nx (ρ' := [.dat (cD c), .dat (.int x), .dat .non, .dat .non, .dat (.int c.low), .un, .un, .un]) rfl).trans ((sSeq_nx (sFor_e rfl e)).trans (sRet_e ?_)))
  refine (fTup_e (ds := [oD (oo (lsl c.st (x - c.low)) none), oD (oo none (pa c.st (x - c.low)))]) rfl (show 2 ≤ 100000 by decide)).trans ?_
  unfold eD Cv.ends oo
  cases lsl c.st (x - c.low) <;> rfl
theorem common_price_e (e f : MM.Ends) : Phi_common_price [eD e, eD f] = some (.int (cprice e f)) := by
  obtain ⟨a, b⟩ := e
  obtain ⟨c, d⟩ := f
  cases a <;> cases b <;> cases c <;> cases d <;> rfl
theorem common_ends_e (e f : MM.Ends) : Phi_common_ends [eD e, eD f] = some (eD (cends e f)) := by
  obtain ⟨a, b⟩ := e
  obtain ⟨c, d⟩ := f
  cases a <;> cases b <;> cases c <;> cases d <;> rfl
theorem without_e (e f : MM.Ends) : Phi_without [eD e, eD f] = some (eD (wout e f)) := by
  obtain ⟨a, b⟩ := e
  obtain ⟨c, d⟩ := f
  cases a <;> cases b <;> cases c <;> cases d <;> rfl
theorem beside_e (q : Int) (e : MM.Ends) : Phi_beside [.int q, eD e] = some (eD (besd q e)) := by
  obtain ⟨a, b⟩ := e
  cases a <;> cases b <;> rfl
end FD
end

section
set_option Elab.async false
set_option linter.all false
set_option maxRecDepth 100000
set_option maxHeartbeats 1000000
/-! E9: the prices of a plan, of data. -/
namespace FD
open MM PySem L2
abbrev Row := Pd × Int × Int
def rowD (a : Row) : D := .tup [pD a.1, .int a.2.1, .int a.2.2]
def rows (s : Int) (ps : List Pd) (us : List Int) : List Row := ps.zip (us.zip (stk s ps us))
def kE (a : Row) : MM.Ends := a.1.keep.ends a.2.2
def spR : List Row → MM.Ends
  | [] => (some 0, some 0)
  | a :: r => cends (a.1.buy.ends a.2.1) (wout (spR r) (kE a))
def spL : List Row → List MM.Ends
  | [] => [(some 0, some 0)]
  | a :: r => spL r ++ [spR (a :: r)]
def revS : List Row → List MM.Ends
  | [] => []
  | a :: r => spR (a :: r) :: revS r
def prR : List Row → Int → MM.Ends → List Int
  | a :: r, q, e => cprice (spR (a :: r)) (besd q e) :: prR r (cprice (spR (a :: r)) (besd q e)) (kE a)
  | [], _, _ => []
theorem spR_eq : ∀ {ps : List Pd} {us : List Int} {s : Int}, us.length = ps.length → spR (rows s ps us) = span s ps us
  | [], us, _, _ => by simp [rows, spR, span]
  | _ :: _, [], _, h => by cases h
  | p :: ps, u :: us, s, h => by
    have := spR_eq (ps := ps) (us := us) (s := s + u - p.want) (by simpa using h)
    unfold rows at this
    simp only [rows, stk, List.zip_cons_cons, spR, span, this, kE]
theorem prR_eq : ∀ {ps : List Pd} {us : List Int} {s q : Int} {e : MM.Ends}, us.length = ps.length → prR (rows s ps us) q e = prices s ps us q e
  | [], us, _, _, _, _ => by simp [rows, prR, prices]
  | _ :: _, [], _, _, _, h => by cases h
  | p :: ps, u :: us, s, q, e, h => by
    have h' : us.length = ps.length := by simpa using h
    have := spR_eq (ps := p :: ps) (us := u :: us) (s := s) h
    have e0 : rows s (p :: ps) (u :: us) = (p, u, s + u - p.want) :: rows (s + u - p.want) ps us := by simp [rows, stk]
    rw [e0] at this
    rw [e0]
    simp only [prR, prices, this, prR_eq h', kE]
theorem spL_last : ∀ R : List Row, ∃ l, spL R = l ++ [spR R]
  | [] => ⟨[], rfl⟩
  | a :: r => ⟨spL r, rfl⟩
theorem spL_len : ∀ R : List Row, (spL R).length = R.length + 1
  | [] => rfl
  | a :: r => by simp [spL, spL_len r]
theorem spL_fold : ∀ R : List Row, R.reverse.foldl (fun (l : List MM.Ends) a => l ++ [cends (a.1.buy.ends a.2.1) (wout (l.getLast?.getD (none, none)) (kE a))]) [(some 0, some 0)] = spL R
  | [] => rfl
  | a :: r => by
    rw [List.reverse_cons, List.foldl_append, spL_fold r]
    obtain ⟨l, e⟩ := spL_last r
    simp [spL, spR, e]
theorem spL_revS : ∀ R : List Row, ((spL R).drop 1).reverse = revS R
  | [] => rfl
  | a :: r => by
    have h := spL_revS r
    have ne := spL_len r
    simp only [spL, revS]
    rw [List.drop_append_of_le_length (by omega), List.reverse_append, h]
    rfl
theorem revS_len : ∀ R : List Row, (revS R).length = R.length
  | [] => rfl
  | a :: r => by simp [revS, revS_len r]
theorem zipD_self {α : Type} (f g : α → D) : ∀ xs : List α, zipD (xs.map f) (xs.map g) = xs.map fun a => .tup [f a, g a]
  | [] => rfl
  | x :: xs => by simp [zipD, zipD_self f g xs]
theorem zip3_rows (k : Book) {us : List Int} (hl : us.length = k.ps.length) (h4 : k.ps.length < 80000) (ρ : Rho) (h0 : ρ[0]? = some (.dat (bD k))) (h1 : ρ[1]? = some (.dat (uD us))) :
    fZip3L (f2 D.ix (fVar 0) (fK (.int 1))) (fVar 1) (fCall Phi_stocks_after (fCons (fVar 0) (fCons (fVar 1) fNil))) ρ = some ((rows k.b k.ps us).map rowD) := by
  have sl := stk_len (s := k.b) hl
  unfold fZip3L
  have a1 : f2 D.ix (fVar 0) (fK (.int 1)) ρ = some (.tup (k.ps.map pD)) := f2_e (fVar_e h0) rfl rfl
  have a2 : fVar 1 ρ = some (uD us) := fVar_e h1
  have a3 : fCall Phi_stocks_after (fCons (fVar 0) (fCons (fVar 1) fNil)) ρ = some (.tup ((stk k.b k.ps us).map .int)) := fCall_e (fCons_e (fVar_e h0) (fCons_e (fVar_e h1) fNil_e)) (stocks_after_e k us (by omega))
  rw [a1, a2, a3]
  show (if (k.ps.map pD).length ≤ 100000 then zip3E (k.ps.map pD) (us.map .int) ((stk k.b k.ps us).map .int) else none) = _
  rw [if_pos (by rw [List.length_map]; omega)]
  unfold zip3E
  rw [if_pos (by simp only [List.length_map]; omega), zip3D_map]
  rfl
theorem rows_in {ps : List Pd} {us : List Int} {s : Int} (h : Fits s ps us) : ∀ a ∈ rows s ps us, a.1 ∈ ps ∧ a.2.1 ≤ a.1.buy.last ∧ a.2.2 ≤ a.1.keep.last := by
  have k : ∀ {ps : List Pd} {us : List Int} {s : Int}, Fits s ps us → ∀ a ∈ rows s ps us, a.1 ∈ ps ∧ a.2.1 ≤ a.1.buy.last ∧ a.2.2 ≤ a.1.keep.last := by
    intro ps
    induction ps with
    | nil => intro us s h a ha; simp [rows] at ha
    | cons p ps ih =>
      intro us s h a ha
      cases us with
      | nil => exact h.elim
      | cons u us =>
        obtain ⟨h1, h2, h3, h4, h5⟩ := h
        simp only [rows, stk, List.zip_cons_cons, List.mem_cons] at ha
        rcases ha with e | ha
        · subst e
          exact ⟨List.mem_cons_self, h2, h4⟩
        · obtain ⟨b1, b2⟩ := ih h5 a ha
          exact ⟨List.mem_cons_of_mem _ b1, b2⟩
  exact k h
theorem price_loop (bk pl rw ks sps : D) : ∀ (R : List Row) (e : MM.Ends) (pre : List Int) (y5 y6 y7 y8 y9 y10 y12 : Sl), pre.length + R.length < 90000 → ∃ z10 z12, forL (gT (gC (gN 12) (gC (gN 10) gE)))
   (sApp 11 (fCall Phi_common_price (fCons (fVar 12) (fCons (fCall Phi_beside (fCons (fIf (bNeO 11) (fIxO 11 (f1 D.neg (fK (.int 1)))) (fK (.int 0))) (fCons (fVar 10) fNil))) fNil)))) sNil (zipD ((revS R).map eD) ((e :: R.map kE).map eD))
     [.dat bk, .dat pl, .dat rw, .dat ks, .dat sps, y5, y6, y7, y8, y9, y10, .own (pre.map .int), y12] = some (.nx [.dat bk, .dat pl, .dat rw, .dat ks, .dat sps, y5, y6, y7, y8, y9, z10, .own ((pre ++ prR R (pre.getLast?.getD 0) e).map .int), z12])
  | [], e, pre, y5, y6, y7, y8, y9, y10, y12, _ => ⟨y10, y12, by simp [revS, zipD, forL, sNil, prR]⟩
  | a :: r, e, pre, y5, y6, y7, y8, y9, y10, y12, hl => by
    simp only [List.length_cons] at hl
    obtain ⟨z10, z12, ih⟩ := price_loop bk pl rw ks sps r (kE a) (pre ++ [cprice (spR (a :: r)) (besd (pre.getLast?.getD 0) e)]) y5 y6 y7 y8 y9 (.dat (eD e)) (.dat (eD (spR (a :: r)))) (by simp; omega)
    refine ⟨z10, z12, ?_⟩
    have g : gT (gC (gN 12) (gC (gN 10) gE)) (.tup [eD (spR (a :: r)), eD e]) [.dat bk, .dat pl, .dat rw, .dat ks, .dat sps, y5, y6, y7, y8, y9, y10, .own (pre.map .int), y12] = some [.dat bk, .dat pl, .dat rw, .dat ks, .dat sps, y5, y6, y7, y8, y9, .dat (eD e), .own (pre.map .int), .dat (eD (spR (a :: r)))] := rfl
    have lq : fIf (bNeO 11) (fIxO 11 (f1 D.neg (fK (.int 1)))) (fK (.int 0)) [.dat bk, .dat pl, .dat rw, .dat ks, .dat sps, y5, y6, y7, y8, y9, .dat (eD e), .own (pre.map .int), .dat (eD (spR (a :: r)))] = some (.int (pre.getLast?.getD 0)) := by
      have ne : bNeO 11 [.dat bk, .dat pl, .dat rw, .dat ks, .dat sps, y5, y6, y7, y8, y9, .dat (eD e), .own (pre.map .int), .dat (eD (spR (a :: r)))] = some (!(pre.map D.int).isEmpty) := by
        show (if PyData.canLayAll0 (toPys (pre.map D.int)) then some (!(pre.map D.int).isEmpty) else none) = _
        rw [if_pos (lay_intD pre)]
      rcases List.eq_nil_or_concat pre with e0 | ⟨q, x, e0⟩
      · subst e0
        exact fIf_f ne rfl
      · rw [List.concat_eq_append] at e0
        subst e0
        refine fIf_t (ne.trans ?_) ?_
        · simp
        · refine fIxO_e (ds := (q ++ [x]).map D.int) rfl rfl ?_
          rw [List.map_append]
          refine (at_neg1 _ _).trans ?_
          simp
    have st := sApp_e (i := 11) (fe := (fCall Phi_common_price (fCons (fVar 12) (fCons (fCall Phi_beside (fCons (fIf (bNeO 11) (fIxO 11 (f1 D.neg (fK (.int 1)))) (fK (.int 0))) (fCons (fVar 10) fNil))) fNil)))) (ρ := [.dat bk, .dat pl, .dat rw, .dat ks, .dat sps, y5, y6, y7, y8, y9, .dat (eD e), .own (pre.map .int), .dat (eD (spR (a :: r)))]) (ds := pre.map .int) rfl
      (fCall_e (fCons_e rfl (fCons_e (fCall_e (fCons_e lq (fCons_e rfl fNil_e)) (beside_e _ _)) fNil_e)) (common_price_e _ _)) (by rw [List.length_map]; omega)
    simp only [revS, List.map_cons, zipD, forL, g, Option.bind_some, st]
    simp only [List.map_append, List.map_cons, List.map_nil, List.getLast?_concat, Option.getD_some] at ih
    refine Eq.trans ih ?_
    simp [prR]
theorem prices_of_e {k : Book} (h : k.Fine) {us : List Int} (hf : Fits k.b k.ps us) : Phi_prices_of [bD k, uD us] = some (.tup ((prices k.b k.ps us 0 (none, none)).map .int)) := by
  have h4 := h.len
  have hl := fits_len hf
  have ri := rows_in hf
  have rl : (rows k.b k.ps us).length ≤ 4 := by
    unfold rows
    rw [List.length_zip]
    omega
  rw [← prR_eq hl]
  generalize hR : rows k.b k.ps us = R at *
  refine runD_rt rfl ((sSeq_nx (sSet_e (fFrz_e ((zip3_rows k hl (by omega) _ rfl rfl).trans (by rw [hR]))))).trans ((sSeq_nx (sSetN_e (ds := (R.map kE).map eD) ?_)).trans ((sSeq_nx (sSetN_e (ds := [(some 0, some 0)].map eD) rfl)).trans ((sSeq_nx (sFrz_e rfl)).trans ?_))))
  · rw [List.map_map]
    refine fComp_all rowD _ R (fItems_e rfl rfl) (by omega) (compL_all _ _ _ fun a ha => ⟨_, rfl, ?_⟩)
    obtain ⟨r1, r2, r3⟩ := ri a ha
    exact fCall_e (fCons_e rfl (fCons_e rfl fNil_e)) (price_ends_e a.1.keep a.2.2 (h.ps _ r1).keep.good.pos r3)
  · refine sSeq_foldN (fun n (l : List MM.Ends) ρ => l.length = n + 1 ∧ ∃ y5 y6 y7 y8 y9 y10, ρ = [.dat (bD k), .dat (uD us), .dat (.lst (R.map rowD)), .dat (.lst ((R.map kE).map eD)), .own (l.map eD), y5, y6, y7, y8, y9, y10, .un, .un]) (fun (l : List MM.Ends) a => l ++ [cends (a.1.buy.ends a.2.1) (wout (l.getLast?.getD (none, none)) (kE a))]) (fun a => .tup [rowD a, eD (kE a)]) R.reverse [(some 0, some 0)] ?_ ⟨rfl, .un, .un, .un, .un, .un, .un, rfl⟩ ?_ ?_
    · refine (fZip_l (xs := R.reverse.map rowD) (ys := (R.reverse.map kE).map eD) (fFrz_e ?_) (fFrz_e ?_)).trans ?_
      · show some (R.map rowD).reverse = _
        rw [List.map_reverse]
      · show some ((R.map kE).map eD).reverse = _
        rw [← List.map_reverse, ← List.map_reverse]
      · rw [List.map_map, zipD_self]
        rfl
    · rintro a ha n l ρ hn ⟨hn', y5, y6, y7, y8, y9, y10, rfl⟩
      obtain ⟨r1, r2, r3⟩ := ri a (List.mem_reverse.mp ha)
      rw [List.length_reverse] at hn
      rcases List.eq_nil_or_concat l with e0 | ⟨q, x, e0⟩
      · subst e0
        cases hn'
      · rw [List.concat_eq_append] at e0
        subst e0
        refine ⟨_, _, rfl, sApp_e rfl (fCall_e (fCons_e (fCall_e (fCons_e rfl (fCons_e rfl fNil_e)) (price_ends_e a.1.buy a.2.1 (h.ps _ r1).buy.good.pos r2)) (fCons_e (fCall_e (fCons_e (fIxO_e (z := eD x) rfl rfl ?_) (fCons_e rfl fNil_e)) (without_e x (kE a))) fNil_e)) (common_ends_e _ _)) (by rw [List.length_map]; omega), ?_, .dat (cD a.1.buy), .dat (.int a.1.want), .dat (cD a.1.keep), .dat (.int a.2.1), .dat (.int a.2.2), .dat (eD (kE a)), ?_⟩
        · rw [List.map_append]
          exact at_neg1 _ _
        · simp at hn' ⊢
          exact hn'
        · simp
    · rintro ρ' ⟨hn, y5, y6, y7, y8, y9, y10, rfl⟩
      rw [spL_fold]
      obtain ⟨z10, z12, e⟩ := price_loop (bD k) (uD us) (.lst (R.map rowD)) (.lst ((R.map kE).map eD)) (.lst ((spL R).map eD)) R (none, none) [] y5 y6 y7 y8 y9 y10 .un (by simp; omega)
      refine (sSeq_nx (sSetN_e (ds := []) rfl)).trans ((sSeq_nx (sFrz_e rfl)).trans ((sSeq_nx (sFor_e (ds := zipD ((revS R).map eD) (((none, none) :: R.map kE).map eD)) ?_ e)).trans ((sSeq_nx (sFrz_e rfl)).trans (sRet_e (fCall_e (fCons_e rfl fNil_e) rfl)))))
      refine fZip_l (fFrz_e ?_) (fFrz_e (fLst_e (fCons_e rfl (fStar_e rfl rfl fNil_e)) ?_) |>.trans ?_)
      · show some (((spL R).map eD).drop 1).reverse = _
        rw [← spL_revS, List.map_reverse, List.map_drop]
      · simp
        omega
      · simp
        rfl
end FD
end

section
set_option Elab.async false
set_option linter.all false
set_option maxRecDepth 100000
set_option maxHeartbeats 1000000
/-! E10: no reason, where a plan fits. -/
namespace FD
open MM PySem L2
/-- all high: enough behind each period -/
def topSum (l : List Pd) : Int := (l.map fun p => p.buy.last - p.want).sum
def lowSum (l : List Pd) : Int := (l.map fun p => p.buy.low - p.want).sum
theorem fits_sum : ∀ {ps : List Pd} {us : List Int} {s : Int}, Fits s ps us → ∀ j p, ps[j]? = some p → p.keep.low ≤ s + topSum (ps.take (j + 1)) ∧ s + lowSum (ps.take (j + 1)) ≤ p.keep.last
  | [], _, _, _, j, p, h => by simp at h
  | _ :: _, [], _, h, _, _, _ => h.elim
  | q :: ps, u :: us, s, h, j, p, e => by
    obtain ⟨h1, h2, h3, h4, h5⟩ := h
    cases j with
    | zero =>
      simp at e
      subst e
      simp [topSum, lowSum]
      omega
    | succ j =>
      have := fits_sum h5 j p (by simpa using e)
      simp only [List.take_succ_cons, topSum, lowSum, List.map_cons, List.sum_cons] at this ⊢
      omega
theorem fits_drop : ∀ {i : Nat} {ps : List Pd} {us : List Int} {s : Int}, Fits s ps us → i ≤ ps.length → ∃ t, Fits t (ps.drop i) (us.drop i) ∧ (i = 0 → t = s) ∧ ∀ p, 0 < i → ps[i - 1]? = some p → p.keep.low ≤ t ∧ t ≤ p.keep.last
  | 0, ps, us, s, h, _ => ⟨s, by simpa using h, fun _ => rfl, fun p h => by omega⟩
  | i + 1, [], us, s, h, hi => by simp at hi
  | i + 1, q :: ps, [], s, h, hi => h.elim
  | i + 1, q :: ps, u :: us, s, h, hi => by
    obtain ⟨h1, h2, h3, h4, h5⟩ := h
    obtain ⟨t, a1, a2, a3⟩ := fits_drop (i := i) h5 (by simpa using hi)
    refine ⟨t, by simpa using a1, fun e => by omega, fun p _ e => ?_⟩
    cases i with
    | zero =>
      simp at e
      subst e
      rw [a2 rfl]
      exact ⟨h3, h4⟩
    | succ i => exact a3 p (by omega) (by simpa using e)
theorem end_of_s (c : Cv) (h : c.st.length ≤ 100000) : Phi_end_of [cD c, .str "short"] = some (.int c.last) :=
  runD_rt rfl (sRet_e (fIf_t (bVal_e (f2_e rfl rfl rfl)) (fCall_e (fCons_e rfl fNil_e) (last_place_e c h))))
theorem end_of_o (c : Cv) : Phi_end_of [cD c, .str "over"] = some (.int c.low) :=
  runD_rt rfl (sRet_e (fIf_f (bVal_e (f2_e rfl rfl rfl)) (f2_e rfl rfl rfl)))
theorem cut_nat (ds : List D) (i j : Nat) (hi : i ≤ j) (hj : j ≤ ds.length) : cutD ds (some (i : Int)) (some (j : Int)) = (ds.drop i).take (j - i) := by
  unfold cutD
  rw [HT.sIx_nat, HT.sIx_nat]
  rw [Nat.min_eq_left (by omega), Nat.min_eq_left (by omega)]
theorem atI_nat {α : Type} (xs : List α) (i : Nat) (h : i < xs.length) : atI xs (i : Int) = xs[i]? := by
  unfold atI ixN
  rw [if_pos (by omega), if_pos (by omega), Int.toNat_natCast]
  rfl
theorem atI_pd (ps : List Pd) (i : Nat) (p : Pd) (h : ps[i]? = some p) : D.ix (.tup (ps.map pD)) (.int (i : Int)) = some (pD p) := by
  have hi : i < ps.length := (List.getElem?_eq_some_iff.mp h).1
  show atI (ps.map pD) (i : Int) = _
  rw [atI_nat _ _ (by simpa using hi), List.getElem?_map, h]
  rfl
theorem is_reason_e {k : Book} (h : k.Fine) {us : List Int} (hf : Fits k.b k.ps us) (w : PySem.Str) (hw : w = "short" ∨ w = "over") (i j : Nat) (hij : i ≤ j) (hj : j < k.ps.length) : Phi_is_reason [bD k, .str w, .int i, .int j] = some (.bl false) := by
  have h4 := h.len
  have hc := h.lens
  obtain ⟨t, ft, t0, t1⟩ := fits_drop hf (show i ≤ k.ps.length by omega)
  obtain ⟨p, hp⟩ : ∃ p, k.ps[j]? = some p := ⟨_, List.getElem?_eq_getElem hj⟩
  have hpm : p ∈ k.ps := List.mem_of_getElem? hp
  have hs := fits_sum ft (j - i) p (by rw [List.getElem?_drop]; rw [show i + (j - i) = j by omega]; exact hp)
  rw [show j - i + 1 = j + 1 - i by omega] at hs
  -- what stands before
  obtain ⟨en, hen, e7, e6⟩ : ∃ en, (w = "short" → t ≤ en) ∧ (w = "over" → en ≤ t) ∧ fIf (bVal (f2 D.eq (fVar 2) (fK (.int 0)))) (fVar 4) (fCall Phi_end_of (fCons (f2 D.ix (f2 D.ix (fVar 5) (f2 D.sub (fVar 2) (fK (.int 1)))) (fK (.int 2))) (fCons (fVar 1) fNil))) [.dat (bD k), .dat (.str w), .dat (.int i), .dat (.int j), .dat (.int k.b), .dat (.tup (k.ps.map pD)), .un, .un, .un, .un, .un] = some (.int en) := by
    cases i with
    | zero => exact ⟨k.b, fun _ => by rw [t0 rfl]; exact Int.le_refl _, fun _ => by rw [t0 rfl]; exact Int.le_refl _, fIf_t (bVal_e (f2_e rfl rfl rfl)) rfl⟩
    | succ i =>
      obtain ⟨q, hq⟩ : ∃ q, k.ps[i]? = some q := ⟨_, List.getElem?_eq_getElem (by omega)⟩
      have hqm : q ∈ k.ps := List.mem_of_getElem? hq
      have tq := t1 q (by omega) hq
      have ix : f2 D.ix (f2 D.ix (fVar 5) (f2 D.sub (fVar 2) (fK (.int 1)))) (fK (.int 2)) [.dat (bD k), .dat (.str w), .dat (.int ((i + 1 : Nat) : Int)), .dat (.int j), .dat (.int k.b), .dat (.tup (k.ps.map pD)), .un, .un, .un, .un, .un] = some (cD q.keep) := by
        refine f2_e (x := pD q) (f2_e (y := .int (i : Int)) rfl (f2_e rfl rfl ?_) (atI_pd _ _ _ hq)) rfl rfl
        simp only [D.sub]
        congr 2
        omega
      have z : bVal (f2 D.eq (fVar 2) (fK (.int 0))) [.dat (bD k), .dat (.str w), .dat (.int ((i + 1 : Nat) : Int)), .dat (.int j), .dat (.int k.b), .dat (.tup (k.ps.map pD)), .un, .un, .un, .un, .un] = some false := by
        refine bVal_e (f2_e rfl rfl ?_)
        simp only [D.eq, D.eqq, Option.bind_some]
        congr 2
      rcases hw with rfl | rfl
      · exact ⟨q.keep.last, fun _ => tq.2, fun e => absurd e (by decide), fIf_f z (fCall_e (fCons_e ix (fCons_e rfl fNil_e)) (end_of_s _ (hc q hqm).2))⟩
      · exact ⟨q.keep.low, fun e => absurd e (by decide), fun _ => tq.1, fIf_f z (fCall_e (fCons_e ix (fCons_e rfl fNil_e)) (end_of_o _))⟩
  have sl : fSlT (fVar 5) (oSome (fVar 2)) (oSome (f2 D.add (fVar 3) (fK (.int 1)))) [.dat (bD k), .dat (.str w), .dat (.int i), .dat (.int j), .dat (.int k.b), .dat (.tup (k.ps.map pD)), .dat (.int en), .un, .un, .un, .un] = some (.tup (((k.ps.drop i).take (j + 1 - i)).map pD)) := by
    show some (D.tup (cutD (k.ps.map pD) (some (i : Int)) (some ((j : Int) + 1)))) = _
    have := cut_nat (k.ps.map pD) i (j + 1) (by omega) (by rw [List.length_map]; omega)
    rw [show ((j + 1 : Nat) : Int) = (j : Int) + 1 by omega] at this
    rw [this, List.map_take, List.map_drop]
  have ll : ((k.ps.drop i).take (j + 1 - i)).length ≤ 100000 := by
    rw [List.length_take, List.length_drop]
    omega
  have lm : ∀ a ∈ (k.ps.drop i).take (j + 1 - i), a ∈ k.ps := fun a ha => List.mem_of_mem_drop (List.mem_of_mem_take ha)
  have ik : ∀ en st, f2 D.ix (f2 D.ix (fVar 5) (fVar 3)) (fK (.int 2)) [.dat (bD k), .dat (.str w), .dat (.int i), .dat (.int j), .dat (.int k.b), .dat (.tup (k.ps.map pD)), .dat (.int en), .dat (.int st), .un, .un, .un] = some (cD p.keep) := fun en st => f2_e (x := pD p) (f2_e rfl rfl (atI_pd _ _ _ hp)) rfl rfl
  refine runD_rt rfl ((sSeq_nx (sAsg_e rfl rfl)).trans ((sSeq_nx (sSet_e e6)).trans ?_))
  rcases hw with rfl | rfl
  · refine (sSeq_nx (sSet_e (d := .int (en + topSum ((k.ps.drop i).take (j + 1 - i)))) (f2_e rfl (fCall_e (fCons_e (fFrz_e (fComp_all pD (fun p => .int (p.buy.last - p.want)) _ (fItems_e sl rfl) ll (compL_all _ _ _ fun a ha => ⟨_, rfl, f2_e (fCall_e (fCons_e rfl (fCons_e rfl fNil_e)) (end_of_s _ (hc a (lm a ha)).1)) rfl rfl⟩))) fNil_e) (sum_ints _ _)) rfl))).trans ((sSeq_nx (sSet_e (ik _ _))).trans (sRet_e (fIf_t (bVal_e (f2_e rfl rfl rfl)) (f2_e (y := .int p.keep.low) rfl (f2_e rfl rfl rfl) ?_))))
    have := hen rfl
    simp only [D.lt]
    congr 2
    rw [decide_eq_false_iff_not]
    omega
  · refine (sSeq_nx (sSet_e (d := .int (en + lowSum ((k.ps.drop i).take (j + 1 - i)))) (f2_e rfl (fCall_e (fCons_e (fFrz_e (fComp_all pD (fun p => .int (p.buy.low - p.want)) _ (fItems_e sl rfl) ll (compL_all _ _ _ fun a ha => ⟨_, rfl, f2_e (fCall_e (fCons_e rfl (fCons_e rfl fNil_e)) (end_of_o _)) rfl rfl⟩))) fNil_e) (sum_ints _ _)) rfl))).trans ((sSeq_nx (sSet_e (ik _ _))).trans (sRet_e (fIf_f (bVal_e (f2_e rfl rfl rfl)) (f2_e (y := .int p.keep.last) rfl (fCall_e (fCons_e rfl fNil_e) (last_place_e _ (hc p hpm).2)) ?_))))
    have := e7 rfl
    simp only [D.gt]
    congr 2
    rw [decide_eq_false_iff_not]
    omega
theorem loopN {α : Type} {g : FG} {body : FS} (R : Rho → Prop) (e : α → D) (xs : List α) (ρ : Rho) (h : ∀ a ∈ xs, ∀ ρ, R ρ → ∃ ρ1 ρ2, g (e a) ρ = some ρ1 ∧ body ρ1 = some (.nx ρ2) ∧ R ρ2) (h0 : R ρ) : ∃ ρ', R ρ' ∧ forL g body sNil (xs.map e) ρ = some (.nx ρ') := by
  obtain ⟨ρ', h1, h2⟩ := forL_fold (els := sNil) (S := Unit) (fun _ ρ => R ρ) (fun s _ => s) e xs () ρ (fun a ha _ ρ hr => h a ha ρ hr) h0
  exact ⟨ρ', h1, h2⟩
theorem fRng1_int {fe : FE} {ρ : Rho} {j : Int} (h : fe ρ = some (.int j)) (hr : inR j = true) : fRng1 fe ρ = some (rangeD 0 1 j.toNat) := by
  unfold fRng1
  rw [h, Option.bind_some]
  simp only [hr, if_true]
theorem inR_of {j : Int} (h0 : 0 ≤ j) (h1 : j < 1000) : inR j = true := by
  have p : (4611686018427387904 : Int) = 2 ^ 62 := by decide
  unfold inR
  rw [← p, decide_eq_true_iff]
  omega
theorem range_nat (n : Nat) : rangeD 0 1 n = (List.range n).map fun i => .int (i : Int) := by
  have e : (fun k : Nat => D.int (0 + (k : Int) * 1)) = fun i : Nat => D.int (i : Int) := by
    funext i
    rw [Int.zero_add, Int.mul_one]
  unfold rangeD
  rw [e]
theorem rng1_e {fe : FE} {ρ : Rho} (n : Nat) (hn : n < 1000) (h : fe ρ = some (.int n)) : fRng1 fe ρ = some ((List.range n).map fun i => .int (i : Int)) := by
  rw [fRng1_int h (inR_of (by omega) (by omega)), Int.toNat_natCast, range_nat]
theorem find_reason_e {k : Book} (h : k.Fine) {us : List Int} (hf : Fits k.b k.ps us) : Phi_find_reason [bD k] = some .non := by
  have h4 := h.len
  have ln : Phi_find_reason = runD 1 4 b_find_reason := rfl
  obtain ⟨ρ', ⟨y, z, w, rfl⟩, e⟩ := loopN (g := gN 1) (body := (sFor (fRng1 (f2 D.add (fVar 1) (fK (.int 1)))) (gN 2)
   (sFor (fItems (fTup (fCons (fK (.str "short")) (fCons (fK (.str "over")) fNil)))) (gN 3)
   (sIf (bVal (fCall Phi_is_reason (fCons (fVar 0) (fCons (fVar 3) (fCons (fVar 2) (fCons (fVar 1) fNil))))))
   (sRet (fTup (fCons (fVar 3) (fCons (fVar 2) (fCons (fVar 1) fNil)))))
   sNil)
   sNil)
   sNil)) (fun ρ => ∃ y z w, ρ = [.dat (bD k), y, z, w]) (fun i : Nat => .int (i : Int)) (List.range k.ps.length) [.dat (bD k), .un, .un, .un] (fun j hj ρ ⟨y, z, w, hρ⟩ => by
    subst hρ
    have hj' := List.mem_range.mp hj
    obtain ⟨ρ', ⟨z', w', rfl⟩, e⟩ := loopN (g := gN 2) (body := (sFor (fItems (fTup (fCons (fK (.str "short")) (fCons (fK (.str "over")) fNil)))) (gN 3)
   (sIf (bVal (fCall Phi_is_reason (fCons (fVar 0) (fCons (fVar 3) (fCons (fVar 2) (fCons (fVar 1) fNil))))))
   (sRet (fTup (fCons (fVar 3) (fCons (fVar 2) (fCons (fVar 1) fNil)))))
   sNil)
   sNil)) (fun ρ => ∃ z w, ρ = [.dat (bD k), .dat (.int j), z, w]) (fun i : Nat => .int (i : Int)) (List.range (j + 1)) [.dat (bD k), .dat (.int j), z, w] (fun i hi ρ ⟨z, w, hρ⟩ => by
      subst hρ
      have hi' := List.mem_range.mp hi
      obtain ⟨ρ', ⟨w', rfl⟩, e⟩ := loopN (g := gN 3) (body := (sIf (bVal (fCall Phi_is_reason (fCons (fVar 0) (fCons (fVar 3) (fCons (fVar 2) (fCons (fVar 1) fNil))))))
   (sRet (fTup (fCons (fVar 3) (fCons (fVar 2) (fCons (fVar 1) fNil)))))
   sNil)) (fun ρ => ∃ w, ρ = [.dat (bD k), .dat (.int j), .dat (.int i), w]) D.str ["short", "over"] [.dat (bD k), .dat (.int j), .dat (.int i), w] (fun wd hw ρ ⟨w, hρ⟩ => by
        subst hρ
        exact ⟨_, _, rfl, sIf_f (bVal_e (fCall_e (fCons_e rfl (fCons_e rfl (fCons_e rfl (fCons_e rfl fNil_e)))) (is_reason_e h hf wd (by simpa using hw) i j (by omega) hj'))) rfl, _, rfl⟩) ⟨w, rfl⟩
      exact ⟨_, _, rfl, sFor_e rfl e, _, _, rfl⟩) ⟨z, w, rfl⟩
    exact ⟨_, _, rfl, sFor_e (rng1_e (j + 1) (by omega) (f2_e (x := .int (j : Int)) rfl rfl rfl)) e, _, _, _, rfl⟩) ⟨.un, .un, .un, rfl⟩
  refine runD_rt rfl ((sSeq_nx (sFor_e (rng1_e k.ps.length (by omega) (fCall_e (fCons_e (f2_e (z := .tup (k.ps.map pD)) rfl rfl rfl) fNil_e) ?_)) e)).trans (sRet_e rfl))
  simp [g1, D.len]
theorem check_way_e {k : Book} (h : k.Fine) {us : List Int} (hf : Fits k.b k.ps us) : Phi_check_way [bD k] = some .non := by
  refine runD_nx (ρ := [.dat (bD k), .dat .non]) rfl ?_
  unfold b_check_way sIfW
  have e : fCall Phi_find_reason (fCons (fVar 0) fNil) (startR 2 [bD k]) = some .non := fCall_e (fCons_e rfl fNil_e) (find_reason_e h hf)
  rw [e]
  rfl
end FD
end

section
set_option Elab.async false
set_option linter.all false
set_option maxRecDepth 100000
set_option maxHeartbeats 1000000
/-! E11: the least cost; the bound by prices, of data. -/
namespace FD
open MM PySem L2
def movC (f : Cv) (p : Pd) : Cv := (shareC f p.buy (rowsOf f p.buy)).moved (0 - p.want)
def nextC (f : Cv) (p : Pd) : Cv := sumC (movC f p) p.keep
theorem PB.mono {m n : Int} {s : List (Int × Int)} (h : PB m s) (hm : m ≤ n) : PB n s := fun a ha => by
  have := h a ha
  omega
theorem PB.small {m : Int} {s : List (Int × Int)} (h : PB m s) (hm : m ≤ 1000000) : SmP s := fun a ha => by
  have := h a ha
  unfold FD.small
  rw [decide_eq_true_iff]
  omega
theorem next_ok {f : Cv} {p : Pd} {m : Int} {s u : Int} (hf : f.Ok) (hp : p.Fine) (m0 : 0 ≤ m) (hm : m ≤ 900) (hb : PB m f.st) (hl : f.st.length ≤ 40) (a0 : f.low ≤ s) (a1 : s ≤ f.last) (b0 : p.buy.low ≤ u) (b1 : u ≤ p.buy.last) (c0 : p.keep.low ≤ s + u - p.want) (c1 : s + u - p.want ≤ p.keep.last) :
    Next f p (nextC f p) ∧ PB (m + 24) (nextC f p).st ∧ (nextC f p).st.length ≤ f.st.length + 10 ∧ Phi_sum_of [cD (movC f p), cD p.keep] = some (cD (nextC f p)) := by
  have hS := shared_of hf hp.buy.good.ok (rows_perm f p.buy) (rows_asc f p.buy)
  have rl : (rowsOf f p.buy).length = f.st.length + p.buy.st.length := by rw [(rows_perm f p.buy).length_eq, List.length_append]
  have jl := joined_len (s := rowsOf f p.buy)
  have ml : (movC f p).st.length ≤ f.st.length + 3 := by
    have := hp.buy.len
    show (joined (rowsOf f p.buy)).length ≤ _
    omega
  have mO : (movC f p).Ok := moved_ok hS.ok
  have mb : PB (m + 12) (movC f p).st := joined_pb (s := rowsOf f p.buy) fun a ha => by
    rcases List.mem_append.mp ((rows_perm f p.buy).mem_iff.mp ha) with h | h
    · have := hb a h
      omega
    · have := hp.buy.pb a h
      omega
  have low : (movC f p).low = f.low + p.buy.low + (0 - p.want) := rfl
  have last : (movC f p).last = f.last + p.buy.last + (0 - p.want) := by
    unfold movC
    rw [moved_last, hS.last]
  have ne : max (movC f p).low p.keep.low ≤ min (movC f p).last p.keep.last := by omega
  obtain ⟨s1, s2, s3, s4⟩ := sumC_ok mO hp.keep.good.ok ne
  have kl := hp.keep.len
  refine ⟨next_of hf ⟨hp.buy.good.ok, hp.keep.good.ok⟩ hS s1 rfl s2 (fun x x0 x1 => s3 x x0 (by rw [← s2]; exact x1)) s4, ?_, ?_, sum_of_e _ _ mO hp.keep.good.ok (PB.small mb (by omega)) hp.keep.sm (by omega) ne⟩
  · have := sumC_pb (show 0 ≤ m + 12 by omega) (show (0 : Int) ≤ 12 by decide) mb hp.keep.pb
    exact PB.mono this (by omega)
  · have := sumC_len (movC f p) p.keep
    show (sumC (movC f p) p.keep).st.length ≤ _
    omega
theorem costs_loop (bk b pd : D) : ∀ (ps : List Pd) (us : List Int) (s : Int) (f : Cv) (m : Int) (pre : List D) (y4 y5 y6 : Sl), (∀ p ∈ ps, p.Fine) → f.Ok → 0 ≤ m → m + 24 * ps.length ≤ 900 → PB m f.st → f.st.length + 10 * ps.length ≤ 50 → f.low ≤ s → s ≤ f.last → Fits s ps us → pre.length + ps.length < 90000 →
    ∃ pre' kk z4 z5 z6, Chain f ps kk ∧ (∃ m, m ≤ 900 ∧ PB m kk.st) ∧ forL (gT (gC (gN 4) (gC (gN 5) (gC (gN 6) gE)))) (sApp 3 (fCall Phi_sum_of (fCons (fCall Phi_moved_by (fCons (fCall Phi_sharing_of (fCons (fIxO 3 (f1 D.neg (fK (.int 1)))) (fCons (fVar 4) fNil))) (fCons (f2 D.sub (fK (.int 0)) (fVar 5)) fNil))) (fCons (fVar 6) fNil)))) sNil (ps.map pD)
      [.dat bk, .dat b, .dat pd, .own (pre ++ [cD f]), y4, y5, y6] = some (.nx [.dat bk, .dat b, .dat pd, .own (pre' ++ [cD kk]), z4, z5, z6])
  | [], us, s, f, m, pre, y4, y5, y6, _, _, _, hm, hb, _, _, _, _, _ => ⟨pre, f, y4, y5, y6, .nil f, ⟨m, by simpa using hm, hb⟩, rfl⟩
  | p :: ps, [], _, _, _, _, _, _, _, _, _, _, _, _, _, _, _, h, _ => h.elim
  | p :: ps, u :: us, s, f, m, pre, y4, y5, y6, hp, hf, m0, hm, hb, hl, a0, a1, h, hz => by
    obtain ⟨b0, b1, c0, c1, h5⟩ := h
    simp only [List.length_cons] at hm hl hz
    have fp := hp p List.mem_cons_self
    obtain ⟨n1, n2, n3, n4⟩ := next_ok hf fp m0 (by omega) hb (by omega) a0 a1 b0 b1 c0 c1
    obtain ⟨d1, d2, _⟩ := n1.le s u a0 a1 b0 b1 c0 c1
    obtain ⟨pre', kk, z4, z5, z6, i1, i2, i3⟩ := costs_loop bk b pd ps us (s + u - p.want) (nextC f p) (m + 24) (pre ++ [cD f]) (.dat (cD p.buy)) (.dat (.int p.want)) (.dat (cD p.keep)) (fun q hq => hp q (List.mem_cons_of_mem _ hq)) n1.ok (by omega) (by omega) n2 (by omega) d1 d2 h5 (by simp; omega)
    refine ⟨pre', kk, z4, z5, z6, .cons n1 i1, i2, ?_⟩
    have g : gT (gC (gN 4) (gC (gN 5) (gC (gN 6) gE))) (pD p) [.dat bk, .dat b, .dat pd, .own (pre ++ [cD f]), y4, y5, y6] = some [.dat bk, .dat b, .dat pd, .own (pre ++ [cD f]), .dat (cD p.buy), .dat (.int p.want), .dat (cD p.keep)] := rfl
    have bl := fp.buy.len
    have st := sApp_e (i := 3) (ρ := [.dat bk, .dat b, .dat pd, .own (pre ++ [cD f]), .dat (cD p.buy), .dat (.int p.want), .dat (cD p.keep)]) (ds := pre ++ [cD f]) (fe := fCall Phi_sum_of (fCons (fCall Phi_moved_by (fCons (fCall Phi_sharing_of (fCons (fIxO 3 (f1 D.neg (fK (.int 1)))) (fCons (fVar 4) fNil))) (fCons (f2 D.sub (fK (.int 0)) (fVar 5)) fNil))) (fCons (fVar 6) fNil))) rfl
      (fCall_e (fCons_e (fCall_e (fCons_e (fCall_e (fCons_e (fIxO_e rfl rfl (at_neg1 pre (cD f))) (fCons_e rfl fNil_e)) (sharing_of_e f p.buy (by omega))) (fCons_e rfl fNil_e)) (moved_by_e _ _)) (fCons_e rfl fNil_e)) n4) (by simp; omega)
    simp only [List.map_cons, forL, g, Option.bind_some, st]
    exact i3
theorem lowest_cost_e {k : Book} (h : k.Fine) {us : List Int} (hf : Fits k.b k.ps us) : ∃ kk, Chain ⟨k.b, 0, []⟩ k.ps kk ∧ Phi_lowest_cost [bD k] = some (.int (0 - kk.gain 0)) := by
  have h4 := h.len
  obtain ⟨pre', kk, z4, z5, z6, i1, ⟨m, hm, hb⟩, i3⟩ := costs_loop (bD k) (.int k.b) (.tup (k.ps.map pD)) k.ps us k.b ⟨k.b, 0, []⟩ 0 [] .un .un .un h.ps ⟨fun _ h => (by cases h), List.Pairwise.nil⟩ (by decide) (by omega) (fun _ h => (by cases h)) (by simp; omega) (Int.le_refl _) (by simp [Cv.last, tot]) hf (by simp; omega)
  have kO : kk.Ok := chain_ok i1 ⟨fun _ h => (by cases h), List.Pairwise.nil⟩
  have cs : Phi_costs_so_far [bD k] = some (.lst (pre' ++ [cD kk])) := runD_rt rfl ((sSeq_nx (sAsg_e rfl rfl)).trans ((sSeq_nx (sSetN_e (ds := [cD ⟨k.b, 0, []⟩]) rfl)).trans ((sSeq_nx (sFor_e rfl i3)).trans ((sSeq_nx (sFrz_e rfl)).trans (sRet_e rfl)))))
  exact ⟨kk, i1, runD_rt rfl (sRet_e (f2_e (x := .int 0) rfl (fCall_e (fCons_e (f2_e (z := cD kk) (fCall_e (fCons_e rfl fNil_e) cs) rfl (at_neg1 _ _)) (fCons_e rfl fNil_e)) (gain_of_e kk 0 kO (PB.small hb (by omega)) (.inl (by decide)))) rfl))⟩
theorem least_cost_e {k : Book} (h : k.Fine) {us : List Int} (hf : Fits k.b k.ps us) : ∃ kk, Chain ⟨k.b, 0, []⟩ k.ps kk ∧ Phi_least_cost [bD k] = some (.int (0 - kk.gain 0)) := by
  obtain ⟨kk, h1, h2⟩ := lowest_cost_e h hf
  exact ⟨kk, h1, runD_rt rfl ((sSeq_nx (sDo_e (fCall_e (fCons_e rfl fNil_e) (check_way_e h hf)))).trans (sRet_e (fCall_e (fCons_e rfl fNil_e) h2)))⟩
end FD
end

section
set_option Elab.async false
set_option linter.all false
set_option maxRecDepth 100000
set_option maxHeartbeats 1000000
/-! E12: the bound by prices, of data. -/
namespace FD
open MM PySem L2
theorem sAug_e {i : Nat} {g : D → D → Option D} {fe : FE} {ρ : Rho} {x y z : D} (h : ρ[i]? = some (.dat x)) (e : fe ρ = some y) (e2 : g x y = some z) : sAug i g fe ρ = some (.nx (ρ.set i (.dat z))) := by
  unfold sAug
  rw [h]
  simp only [e, Option.bind_some, e2]
theorem gain_fine (c : Cv) (q : Int) (h : c.Fine) : Phi_gain_of [cD c, .int q] = some (.int (c.gain q)) := by
  refine gain_of_e c q h.good.ok h.sm (.inr ?_)
  obtain ⟨b0, b1, _⟩ := bst_ok (q := q) h.good.pos.pos h.good.asc
  have := h.low
  have := h.tot
  unfold small
  rw [decide_eq_true_iff]
  omega
theorem is_price_e (q : Int) (h : -1000000000000000000000000000000 < q ∧ q < 1000000000000000000000000000000) : Phi_is_price [.int q] = some (.bl true) := by
  refine runD_rt rfl (sRet_e (fAnd_e (a := true) (b := true) (fCall_e (fCons_e rfl fNil_e) (is_integer_e q)) fun _ => fChain_e (x := .int (0 - 1000000000000000000000000000000)) (y := .int q) (z := .int 1000000000000000000000000000000) (a := true) (b := true) rfl rfl ?_ fun _ => ⟨rfl, ?_⟩))
  · simp only [D.lt]
    congr 2
    rw [decide_eq_true_iff]
    omega
  · simp only [D.lt]
    congr 2
    rw [decide_eq_true_iff]
    omega
theorem gain_fold : ∀ {ps : List Pd} {as : List Int} {C : Int}, as.length = ps.length → (ps.zip (as.zip (as.tail ++ [0]))).foldl (fun c (a : Pd × Int × Int) => c + (a.2.1 * a.1.want - a.1.buy.gain a.2.1 - a.1.keep.gain (a.2.2 - a.2.1))) C = C - pgain ps as
  | [], [], _, _ => by simp [pgain]
  | [], _ :: _, _, h => by cases h
  | _ :: _, [], _, h => by cases h
  | p :: ps, a :: as, C, h => by
    have h' : as.length = ps.length := by simpa using h
    cases as with
    | nil =>
      cases ps with
      | nil =>
        simp [pgain]
        omega
      | cons q ps => cases h'
    | cons b as =>
      have := gain_fold (C := C + (a * p.want - p.buy.gain a - p.keep.gain (b - a))) h'
      simp only [List.tail_cons, List.cons_append, List.zip_cons_cons, List.foldl_cons, pgain, List.headD_cons] at this ⊢
      rw [this]
      omega
theorem ix_head (a : Int) (as : List Int) : D.ix (uD (a :: as)) (.int 0) = some (.int a) := by
  show atI ((a :: as).map D.int) ((0 : Nat) : Int) = _
  rw [atI_nat _ _ (by simp)]
  rfl
theorem price_bound_e {k : Book} (h : k.Fine) {as : List Int} (hl : as.length = k.ps.length) (hb : ∀ a ∈ as, -1000000000000000000000000000000 < a ∧ a < 1000000000000000000000000000000) : Phi_price_bound [bD k, uD as] = some (.int (pbound k.b k.ps as)) := by
  have h4 := h.len
  have hne := h.ne
  obtain ⟨a, as', rfl⟩ : ∃ a as', as = a :: as' := by
    cases as with
    | nil =>
      exfalso
      apply hne
      exact List.eq_nil_of_length_eq_zero (by simpa using hl.symm)
    | cons a as' => exact ⟨a, as', rfl⟩
  have sb : small k.b = true := by
    have := h.b
    unfold small
    rw [decide_eq_true_iff]
    omega
  have al : ((a :: as').map fun _ => true).all id = true := by simp
  refine runD_rt rfl ((sSeq_nx (sAsg_e rfl rfl)).trans ((sSeq_nx (sIf_f (bOr_e (a := false) (b := false) (bNot_e (bVal_e (b := true) (fCall_e (fCons_e (x := uD (a :: as')) rfl (fCons_e (x := .int k.ps.length) (fCall_e (fCons_e (x := .tup (k.ps.map pD)) rfl fNil_e) ?_) fNil_e)) ?_))) fun _ => bNot_e (bVal_e (b := true) (fCall_e (fCons_e (fFrz_e (fComp_all D.int (fun _ => .bl true) (a :: as') (fItems_e rfl rfl) ?_ (compL_all _ _ _ fun q hq => ⟨_, rfl, fCall_e (fCons_e rfl fNil_e) (is_price_e q (hb q hq))⟩))) fNil_e) ?_))) rfl)).trans ?_))
  · simp [g1, D.len]
  · have := is_tuple_of_e ((a :: as').map .int) k.ps.length
    rw [List.length_map, hl] at this
    refine Eq.trans this ?_
    simp
  · omega
  · simp only [g1, D.all]
    rw [bools_map (fun _ : Int => true) (a :: as')]
    simp
  · refine (sSeq_nx (sSet_e (d := .int (0 - k.b * a)) (f2_e (x := .int 0) (y := .int (k.b * a)) rfl (f2_e (x := .int k.b) (y := .int a) rfl (f2_e rfl rfl (ix_head a as')) ?_) rfl))).trans ?_
    · simp [D.mul, sb]
    · refine sSeq_fold (fun (c : Int) ρ => ∃ y5 y6 y7 y8 y9, ρ = [.dat (bD k), .dat (uD (a :: as')), .dat (.int k.b), .dat (.tup (k.ps.map pD)), .dat (.int c), y5, y6, y7, y8, y9]) (fun c (a : Pd × Int × Int) => c + (a.2.1 * a.1.want - a.1.buy.gain a.2.1 - a.1.keep.gain (a.2.2 - a.2.1))) (fun a : Pd × Int × Int => .tup [pD a.1, .int a.2.1, .int a.2.2]) (k.ps.zip ((a :: as').zip (as' ++ [0]))) (0 - k.b * a) ?_ ⟨.un, .un, .un, .un, .un, rfl⟩ ?_ ?_
      · refine (fZip3_e (xs := k.ps.map pD) (ys := (a :: as').map .int) (zs := (as' ++ [0]).map .int) rfl rfl (fTup_e (fStar_e (ds := as'.map .int) (x := .tup (as'.map .int)) ?_ rfl (fCons_e rfl fNil_e) |>.trans (by simp)) ?_) (by simp only [List.length_map]; omega) (by simp at hl ⊢; omega)).trans ?_
        · show some (D.tup (cutD ((a :: as').map .int) (some 1) none)) = _
          rw [cut1]
          rfl
        · simp at hl ⊢
          omega
        · rw [zip3D_map]
      · rintro ⟨p, q, l⟩ ha c ρ ⟨y5, y6, y7, y8, y9, rfl⟩
        have fp := h.ps p (List.of_mem_zip ha).1
        have sw : small p.want = true := by
          have := fp.want
          unfold small
          rw [decide_eq_true_iff]
          omega
        have ml : D.mul (.int q) (.int p.want) = some (.int (q * p.want)) := by simp [D.mul, sw]
        exact ⟨_, _, rfl, sAug_e (y := .int (q * p.want - p.buy.gain q - p.keep.gain (l - q))) rfl (f2_e (x := .int (q * p.want - p.buy.gain q)) (f2_e (f2_e rfl rfl ml) (fCall_e (fCons_e rfl (fCons_e rfl fNil_e)) (gain_fine _ _ fp.buy)) rfl) (fCall_e (fCons_e rfl (fCons_e (f2_e (z := .int (l - q)) rfl rfl rfl) fNil_e)) (gain_fine _ _ fp.keep)) rfl) rfl, _, _, _, _, _, rfl⟩
      · rintro ρ' ⟨y5, y6, y7, y8, y9, rfl⟩
        refine sRet_e ?_
        have := gain_fold (C := 0 - k.b * a) hl
        simp only [List.tail_cons] at this
        rw [this]
        rfl
end FD
end

section
set_option Elab.async false
set_option linter.all false
set_option maxRecDepth 100000
set_option maxHeartbeats 1000000
/-! E13: single changes, of data. -/
namespace FD
open MM PySem L2
def chD : Ch → D
  | .more i => .tup [.str "more", .int i]
  | .less i => .tup [.str "less", .int i]
  | .shift i j => .tup [.str "shift", .int i, .int j]
theorem sAugI_e {i : Nat} {g : D → D → Option D} {fi fe : FE} {ρ : Rho} {ds : List D} {j : Nat} {x y z : D} (h : ρ[i]? = some (.own ds)) (e1 : fi ρ = some (.int j)) (e2 : ds[j]? = some x) (e3 : fe ρ = some y) (e4 : g x y = some z) : sAugI i g fi fe ρ = some (.nx (ρ.set i (.own (ds.set j z)))) := by
  have hj : j < ds.length := (List.getElem?_eq_some_iff.mp e2).1
  have a : atI ds (j : Int) = some x := (atI_nat ds j hj).trans e2
  have b : ixN ds.length (j : Int) = some j := by
    unfold ixN
    rw [if_pos (by omega), if_pos (by omega), Int.toNat_natCast]
  unfold sAugI
  rw [h]
  simp only [e1, Option.bind_some, a, e3, e4, b]
theorem sPut_e {i : Nat} {fi fe : FE} {ρ : Rho} {ds : List D} {j : Nat} {z : D} (h : ρ[i]? = some (.own ds)) (e1 : fi ρ = some (.int j)) (hj : j < ds.length) (e3 : fe ρ = some z) : sPut i fi fe ρ = some (.nx (ρ.set i (.own (ds.set j z)))) := by
  have b : ixN ds.length (j : Int) = some j := by
    unfold ixN
    rw [if_pos (by omega), if_pos (by omega), Int.toNat_natCast]
  unfold sPut
  rw [h]
  simp only [e1, Option.bind_some, e3, b]
theorem add1_D (us : List Int) (i : Nat) (hi : i < us.length) (d : Int) : (us.map D.int).set i (.int (us[i]?.getD 0 + d)) = (add1 us i d).map D.int := by
  unfold add1
  rw [List.map_set]
theorem get_D (us : List Int) (i : Nat) (hi : i < us.length) : (us.map D.int)[i]? = some (.int (us[i]?.getD 0)) := by
  rw [List.getElem?_map, List.getElem?_eq_getElem hi]
  rfl
theorem changed_e (us : List Int) (c : Ch) (hc : c.ok us.length) (hl : us.length ≤ 10000) : Phi_changed [uD us, chD c] = some (uD (c.ap us)) := by
  have ul : (us.map D.int).length = us.length := List.length_map ..
  cases c with
  | more i =>
    have hi : i < us.length := hc
    refine runD_rt rfl ((sSeq_nx (sAsg_e (d := chD (.more i)) rfl rfl)).trans ((sSeq_nx (sSetN_e (ds := us.map .int) (fLst_e (fStar_e rfl rfl fNil_e |>.trans (by simp)) (by omega)))).trans ((sSeq_nx (sAugI_e (j := i) (y := .int 1) rfl rfl (get_D us i hi) rfl rfl)).trans ((sSeq_nx (sIf_f rfl rfl)).trans ((sSeq_nx (sFrz_e rfl)).trans (sRet_e (fCall_e (fCons_e rfl fNil_e) rfl)))))))|>.trans ?_
    rw [add1_D us i hi]
    rfl
  | less i =>
    have hi : i < us.length := hc
    refine runD_rt rfl ((sSeq_nx (sAsg_e (d := chD (.less i)) rfl rfl)).trans ((sSeq_nx (sSetN_e (ds := us.map .int) (fLst_e (fStar_e rfl rfl fNil_e |>.trans (by simp)) (by omega)))).trans ((sSeq_nx (sAugI_e (j := i) (y := .int (-1)) rfl rfl (get_D us i hi) rfl rfl)).trans ((sSeq_nx (sIf_f rfl rfl)).trans ((sSeq_nx (sFrz_e rfl)).trans (sRet_e (fCall_e (fCons_e rfl fNil_e) rfl)))))))|>.trans ?_
    rw [add1_D us i hi]
    rfl
  | shift i j =>
    obtain ⟨hi, hj, _⟩ := hc
    have hj' : j < (add1 us i 1).length := by rw [add1_len]; exact hj
    have a1 := add1_D us i hi 1
    refine runD_rt rfl ((sSeq_nx (sAsg_e (d := chD (.shift i j)) rfl rfl)).trans ((sSeq_nx (sSetN_e (ds := us.map .int) (fLst_e (fStar_e rfl rfl fNil_e |>.trans (by simp)) (by omega)))).trans ((sSeq_nx (sAugI_e (j := i) (y := .int 1) rfl rfl (get_D us i hi) rfl rfl)).trans ((sSeq_nx (sIf_t rfl (sAugI_e (j := j) (x := .int ((add1 us i 1)[j]?.getD 0)) (y := .int 1) (z := .int ((add1 us i 1)[j]?.getD 0 + -1)) rfl rfl ?_ rfl rfl))).trans ((sSeq_nx (sFrz_e rfl)).trans (sRet_e (fCall_e (fCons_e rfl fNil_e) rfl)))))))|>.trans ?_
    · exact (congrArg (fun l => l[j]?) a1).trans (get_D _ j hj')
    · rw [a1, add1_D _ j hj']
      rfl
end FD
end

section
set_option Elab.async false
set_option linter.all false
set_option maxRecDepth 100000
set_option maxHeartbeats 1000000
/-! E14: judging, of data. -/
namespace FD
open MM PySem L2
theorem is_tup_chD (c : Ch) : isT "tuple" (chD c) = some (.bl true) := by cases c <;> exact isT_tt _
theorem idx_ok (k : Book) (i : Nat) (hi : i < k.ps.length) : Phi_is_integer_in [.int i, .int 0, .int ((k.ps.length : Int) - 1)] = some (.bl true) := by
  rw [is_integer_in_e]
  congr 2
  rw [decide_eq_true_iff]
  omega
theorem is_change_e {k : Book} (h : k.Fine) (c : Ch) (hc : c.ok k.ps.length) : Phi_is_change [bD k, chD c] = some (.bl true) := by
  have h4 := h.len
  have first : ∀ ρ : Rho, ρ[1]? = some (.dat (chD c)) → bOr (bNot (bVal (f1 (isT "tuple") (fVar 1)))) (bOr (bVal (f2 D.notIn (fCall (g1 D.len) (fCons (fVar 1) fNil)) (fTup (fCons (fK (.int 2)) (fCons (fK (.int 3)) fNil))))) (bNot (bVal (f1 (isT "str") (f2 D.ix (fVar 1) (fK (.int 0))))))) ρ = some false := fun ρ h1 => by
    refine bOr_e (a := false) (b := false) (bNot_e (bVal_e (b := true) (f1_e (fVar_e h1) (is_tup_chD c)))) fun _ => bOr_e (a := false) (b := false) ?_ fun _ => ?_
    · cases c <;> exact bVal_e (f2_e (fCall_e (fCons_e (fVar_e h1) fNil_e) rfl) rfl rfl)
    · cases c <;> exact bNot_e (bVal_e (b := true) (f1_e (f2_e (fVar_e h1) rfl rfl) (isT_ss _)))
  have pl : fCall (g1 D.len) (fCons (f2 D.ix (fVar 0) (fK (.int 1))) fNil) [.dat (bD k), .dat (chD c), .un, .un, .un] = some (.int k.ps.length) := by
    refine fCall_e (fCons_e (f2_e (z := .tup (k.ps.map pD)) rfl rfl rfl) fNil_e) ?_
    simp [g1, D.len]
  have lst : ∀ (w : PySem.Str) (is : List Nat), (∀ i ∈ is, i < k.ps.length) → is.length ≤ 100000 → bNot (bVal (fCall (g1 D.all) (fCons (fFrz (fComp [4] (fItems (fVar 3)) (gN 4) bYes (fCall Phi_is_integer_in (fCons (fVar 4) (fCons (fK (.int 0)) (fCons (f2 D.sub (fCall (g1 D.len) (fCons (f2 D.ix (fVar 0) (fK (.int 1))) fNil)) (fK (.int 1))) fNil)))))) fNil))) [.dat (bD k), .dat (chD c), .dat (.str w), .dat (.lst (is.map fun i : Nat => .int (i : Int))), .un] = some false := fun w is hi hz => by
    refine bNot_e (bVal_e (b := true) (fCall_e (fCons_e (fFrz_e (fComp_all (fun i : Nat => .int (i : Int)) (fun _ => .bl true) is (fItems_e rfl rfl) hz (compL_all _ _ _ fun i hm => ⟨_, rfl, fCall_e (fCons_e rfl (fCons_e rfl (fCons_e (f2_e (x := .int k.ps.length) (fCall_e (fCons_e (f2_e (z := .tup (k.ps.map pD)) rfl rfl rfl) fNil_e) ?_) rfl rfl) fNil_e))) (idx_ok k i (hi i hm))⟩))) fNil_e) ?_))
    · simp [g1, D.len]
    · simp only [g1, D.all]
      rw [bools_map (fun _ : Nat => true) is]
      simp
  cases c with
  | more i =>
    exact runD_rt rfl ((sSeq_nx (sIf_f (first _ rfl) rfl)).trans ((sSeq_nx (sAsg_e (d := chD (.more i)) rfl rfl)).trans ((sSeq_nx (sIf_f (lst "more" [i] (by simpa [Ch.ok] using hc) (by simp)) rfl)).trans (sSeq_rt (sIf_t rfl (sRet_e (d := .bl true) rfl))))))
  | less i =>
    exact runD_rt rfl ((sSeq_nx (sIf_f (first _ rfl) rfl)).trans ((sSeq_nx (sAsg_e (d := chD (.less i)) rfl rfl)).trans ((sSeq_nx (sIf_f (lst "less" [i] (by simpa [Ch.ok] using hc) (by simp)) rfl)).trans (sSeq_rt (sIf_t rfl (sRet_e (d := .bl true) rfl))))))
  | shift i j =>
    obtain ⟨hi, hj, hn⟩ := hc
    refine runD_rt rfl ((sSeq_nx (sIf_f (first _ rfl) rfl)).trans ((sSeq_nx (sAsg_e (d := chD (.shift i j)) rfl rfl)).trans ((sSeq_nx (sIf_f (lst "shift" [i, j] (by simp; omega) (by simp)) rfl)).trans ((sSeq_nx (sIf_f rfl rfl)).trans (sRet_e (fAnd_e (a := true) (b := true) rfl fun _ => f2_e (x := .int i) (y := .int j) rfl rfl ?_))))))
    simp only [D.ne, D.eqq, Option.bind_some]
    rw [decide_eq_false (by omega)]
    rfl
/-! ### all of them -/
theorem compL2_of {α β : Type} {vs1 : List Nat} {g : FG} {fl : FL} {g1 : FG} {t1 : FT} {el : FE} {ρ : Rho} (e : α → D) (z : α → List D) : ∀ xs : List α, (∀ a ∈ xs, ∃ ρ' ds, g (e a) ρ = some ρ' ∧ noOwn ρ' = true ∧ fl ρ' = some ds ∧ compL g1 t1 el (wipeR ρ' vs1) ds = some (z a)) → compL2 vs1 g bYes fl g1 t1 el ρ (xs.map e) = some (xs.flatMap z)
  | [], _ => rfl
  | a :: r, h => by
    obtain ⟨ρ', ds, h1, h2, h3, h4⟩ := h a List.mem_cons_self
    have ih := compL2_of (g := g) (fl := fl) (ρ := ρ) (α := α) (β := β) e z r fun x hx => h x (List.mem_cons_of_mem _ hx)
    simp only [List.map_cons, compL2, h1, Option.bind_some, h2, if_true, bYes, h3, h4, List.flatMap_cons]
    rw [ih]
    rfl
theorem fComp2_e {vs vs1 : List Nat} {it : FL} {g : FG} {t : FT} {it1 : FL} {g1 : FG} {t1 : FT} {el : FE} {ρ : Rho} {ds res : List D} (h0 : it ρ = some ds) (h : compL2 vs1 g t it1 g1 t1 el (wipeR ρ vs) ds = some res) (hz : res.length ≤ 100000) : fComp2 vs vs1 it g t it1 g1 t1 el ρ = some res := by
  unfold fComp2
  rw [h0, Option.bind_some, h, Option.bind_some, if_pos hz]
theorem fCatL_e' {fa fb : FE} {ρ : Rho} {xs ys : List D} (e : fa ρ = some (.lst xs)) (h : fb ρ = some (.lst ys)) (hz : xs.length + ys.length ≤ 100000) : fCatL fa fb ρ = some (xs ++ ys) := fCatL_e e h hz
theorem flat_len (l : List Nat) (n : Nat) (z : Nat → List D) (h : ∀ i ∈ l, (z i).length ≤ n) : (l.flatMap z).length ≤ l.length * n := by
  induction l with
  | nil => simp
  | cons a r ih =>
    have h1 := h a List.mem_cons_self
    have h2 := ih fun i hi => h i (List.mem_cons_of_mem _ hi)
    rw [List.flatMap_cons, List.length_append, List.length_cons, Nat.add_mul]
    omega
theorem dec_cast (i j : Nat) : decide ((i : Int) = (j : Int)) = decide (i = j) := decide_eq_decide.mpr (by omega)
theorem all_changes_e (n : Nat) (hn : n ≤ 10) : Phi_all_changes [.int n] = some (.lst ((allC n).map chD)) := by
  have rl : (List.range n).length = n := List.length_range
  have a1 : fComp2 [2, 3] [3] (fItems (fTup (fCons (fK (.str "more")) (fCons (fK (.str "less")) fNil)))) (gN 2) bYes (fRng1 (fVar 0)) (gN 3) bYes (fTup (fCons (fVar 2) (fCons (fVar 3) fNil))) [.dat (.int n), .un, .un, .un, .un, .un] = some (([("more" : PySem.Str), "less"] : List PySem.Str).flatMap fun w : PySem.Str => (List.range n).map fun i : Nat => .tup [.str w, .int i]) := by
    refine fComp2_e (ds := ([("more" : PySem.Str), "less"] : List PySem.Str).map D.str) rfl (compL2_of (β := Nat) D.str _ ([("more" : PySem.Str), "less"] : List PySem.Str) fun w hw => ⟨_, _, rfl, rfl, rng1_e n (by omega) rfl, compL_all (fun i : Nat => .int (i : Int)) (fun i : Nat => .tup [.str w, .int i]) (List.range n) fun i hi => ⟨_, rfl, fTup_e (fCons_e rfl (fCons_e rfl fNil_e)) (show 2 ≤ 100000 by decide)⟩⟩) ?_
    simp
    omega
  have a2 : fComp2 [4, 5] [5] (fRng1 (fVar 0)) (gN 4) bYes (fRng1 (fVar 0)) (gN 5) (bVal (f2 D.ne (fVar 4) (fVar 5))) (fTup (fCons (fK (.str "shift")) (fCons (fVar 4) (fCons (fVar 5) fNil)))) [.dat (.int n), .dat (.lst (([("more" : PySem.Str), "less"] : List PySem.Str).flatMap fun w : PySem.Str => (List.range n).map fun i : Nat => .tup [.str w, .int i])), .un, .un, .un, .un] = some ((List.range n).flatMap fun i : Nat => ((List.range n).filter fun j : Nat => !decide (i = j)).map fun j : Nat => .tup [.str "shift", .int i, .int j]) := by
    refine fComp2_e (rng1_e n (by omega) rfl) (compL2_of (β := Nat) (fun i : Nat => .int (i : Int)) _ (List.range n) fun i hi => ⟨_, _, rfl, rfl, rng1_e n (by omega) rfl, compL_of (fun i : Nat => .int (i : Int)) (fun j : Nat => !decide (i = j)) (fun j : Nat => .tup [.str "shift", .int i, .int j]) (List.range n) fun j hj => ⟨_, rfl, bVal_e (f2_e (x := .int i) (y := .int j) rfl rfl ?_), fun _ => fTup_e (fCons_e rfl (fCons_e rfl (fCons_e rfl fNil_e))) (show 3 ≤ 100000 by decide)⟩⟩) ?_
    · simp only [D.ne, D.eqq, Option.bind_some]
      rw [dec_cast]
    · refine Nat.le_trans (flat_len _ n _ fun i hi => ?_) ?_
      · rw [List.length_map]
        refine Nat.le_trans (List.length_filter_le _ _) ?_
        omega
      · rw [rl]
        have : n * n ≤ 10 * 10 := Nat.mul_le_mul hn hn
        omega
  have e : (([("more" : PySem.Str), "less"] : List PySem.Str).flatMap fun w : PySem.Str => (List.range n).map fun i : Nat => D.tup [.str w, .int i]) ++ ((List.range n).flatMap fun i : Nat => ((List.range n).filter fun j : Nat => !decide (i = j)).map fun j : Nat => D.tup [.str "shift", .int i, .int j]) = (allC n).map chD := by
    unfold allC
    rw [List.map_append, List.map_append, List.map_map, List.map_map, List.map_flatMap]
    have f1 : ([("more" : PySem.Str), "less"] : List PySem.Str).flatMap (fun w : PySem.Str => (List.range n).map fun i : Nat => D.tup [.str w, .int i]) = (List.range n).map (chD ∘ Ch.more) ++ (List.range n).map (chD ∘ Ch.less) := by
      rw [List.flatMap_cons, List.flatMap_cons, List.flatMap_nil, List.append_nil]
      rfl
    have f2 : (fun i : Nat => ((List.range n).filter fun j : Nat => !decide (i = j)).map fun j : Nat => D.tup [.str "shift", .int i, .int j]) = fun i : Nat => (((List.range n).filter fun j => !decide (i = j)).map (Ch.shift i)).map chD := by
      funext i
      rw [List.map_map]
      rfl
    rw [f1, f2]
  refine runD_rt rfl ((sSeq_nx (sSetN_e a1)).trans ((sSeq_nx (sFrz_e rfl)).trans (sRet_e ((fFrz_e (fCatL_e rfl (fFrz_e a2) ?_)).trans (by rw [e])))))
  have := congrArg List.length e
  rw [List.length_append] at this
  rw [this, List.length_map]
  unfold allC
  simp only [List.length_append, List.length_map, rl]
  have h2 : ((List.range n).flatMap fun i => ((List.range n).filter fun j => !decide (i = j)).map (Ch.shift i)).length ≤ 100 := by
    have h3 := flat_len (List.range n) n (fun i => (((List.range n).filter fun j => !decide (i = j)).map (Ch.shift i)).map chD) fun i hi => by
      rw [List.length_map, List.length_map]
      refine Nat.le_trans (List.length_filter_le _ _) ?_
      omega
    rw [← List.map_flatMap, List.length_map, rl] at h3
    have : n * n ≤ 10 * 10 := Nat.mul_le_mul hn hn
    omega
  omega
end FD
end

section
set_option Elab.async false
set_option linter.all false
set_option maxRecDepth 100000
set_option maxHeartbeats 1000000
/-! E15: judging, of data, continued. -/
namespace FD
open MM PySem L2
theorem is_saving_e {k : Book} (h : k.Fine) {us : List Int} (hl : us.length = k.ps.length) (c : Ch) (hc : c.ok k.ps.length) : Phi_is_saving [bD k, uD us, .int (pcost k.b k.ps us), chD c] = some (.bl (saves k us c)) := by
  have h4 := h.len
  have al := ap_len c us
  refine runD_rt rfl ((sSeq_nx (sSet_e (fCall_e (fCons_e rfl (fCons_e rfl fNil_e)) (changed_e us c (by rw [hl]; exact hc) (by omega))))).trans (sRet_e (fAnd_e (fCall_e (fCons_e rfl (fCons_e rfl fNil_e)) (fits_k h (c.ap us) (by omega))) fun _ => f2_e (fCall_e (fCons_e rfl (fCons_e rfl fNil_e)) (plan_cost_e h (by omega))) rfl rfl)))
theorem search_loop {k : Book} (h : k.Fine) {us : List Int} (hl : us.length = k.ps.length) : ∀ (cs : List Ch) (y : Sl), (∀ c ∈ cs, c.ok k.ps.length) → (∃ c ∈ cs, saves k us c = true ∧ forL (gN 3) (sIf (bVal (fCall Phi_is_saving (fCons (fVar 0) (fCons (fVar 1) (fCons (fVar 2) (fCons (fVar 3) fNil))))))
   (sRet (fVar 3))
   sNil) (sRet (fK .non)) (cs.map chD) [.dat (bD k), .dat (uD us), .dat (.int (pcost k.b k.ps us)), y] = some (.rt (chD c))) ∨ ((∀ c ∈ cs, saves k us c = false) ∧ forL (gN 3) (sIf (bVal (fCall Phi_is_saving (fCons (fVar 0) (fCons (fVar 1) (fCons (fVar 2) (fCons (fVar 3) fNil))))))
   (sRet (fVar 3))
   sNil) (sRet (fK .non)) (cs.map chD) [.dat (bD k), .dat (uD us), .dat (.int (pcost k.b k.ps us)), y] = some (.rt .non))
  | [], y, _ => .inr ⟨fun c hc => (by cases hc), rfl⟩
  | c :: cs, y, hc => by
    have g : gN 3 (chD c) [.dat (bD k), .dat (uD us), .dat (.int (pcost k.b k.ps us)), y] = some [.dat (bD k), .dat (uD us), .dat (.int (pcost k.b k.ps us)), .dat (chD c)] := rfl
    have t : bVal (fCall Phi_is_saving (fCons (fVar 0) (fCons (fVar 1) (fCons (fVar 2) (fCons (fVar 3) fNil))))) [.dat (bD k), .dat (uD us), .dat (.int (pcost k.b k.ps us)), .dat (chD c)] = some (saves k us c) := bVal_e (fCall_e (fCons_e rfl (fCons_e rfl (fCons_e rfl (fCons_e rfl fNil_e)))) (is_saving_e h hl c (hc c List.mem_cons_self)))
    cases hs : saves k us c with
    | true =>
      refine .inl ⟨c, List.mem_cons_self, hs, ?_⟩
      have st : (sIf (bVal (fCall Phi_is_saving (fCons (fVar 0) (fCons (fVar 1) (fCons (fVar 2) (fCons (fVar 3) fNil))))))
   (sRet (fVar 3))
   sNil) [.dat (bD k), .dat (uD us), .dat (.int (pcost k.b k.ps us)), .dat (chD c)] = some (.rt (chD c)) := sIf_t (t.trans (by rw [hs])) (sRet_e rfl)
      simp only [List.map_cons, forL, g, Option.bind_some, st]
    | false =>
      have st : (sIf (bVal (fCall Phi_is_saving (fCons (fVar 0) (fCons (fVar 1) (fCons (fVar 2) (fCons (fVar 3) fNil))))))
   (sRet (fVar 3))
   sNil) [.dat (bD k), .dat (uD us), .dat (.int (pcost k.b k.ps us)), .dat (chD c)] = some (.nx [.dat (bD k), .dat (uD us), .dat (.int (pcost k.b k.ps us)), .dat (chD c)]) := sIf_f (t.trans (by rw [hs])) rfl
      simp only [List.map_cons, forL, g, Option.bind_some, st]
      rcases search_loop h hl cs (.dat (chD c)) fun x hx => hc x (List.mem_cons_of_mem _ hx) with ⟨x, hx, h1, h2⟩ | ⟨h1, h2⟩
      · exact .inl ⟨x, List.mem_cons_of_mem _ hx, h1, h2⟩
      · exact .inr ⟨fun x hx => by
          rcases List.mem_cons.mp hx with e | hx
          · rw [e]
            exact hs
          · exact h1 x hx, h2⟩
theorem saving_change_e {k : Book} (h : k.Fine) {us : List Int} (hl : us.length = k.ps.length) : (∃ c, c.ok k.ps.length ∧ saves k us c = true ∧ Phi_saving_change [bD k, uD us] = some (chD c)) ∨ (NoSave k.b k.ps us ∧ Phi_saving_change [bD k, uD us] = some .non) := by
  have h4 := h.len
  have e0 : fItems (fCall Phi_all_changes (fCons (fCall (g1 D.len) (fCons (fVar 1) fNil)) fNil)) [.dat (bD k), .dat (uD us), .dat (.int (pcost k.b k.ps us)), .un] = some ((allC us.length).map chD) := by
    refine fItems_e (fCall_e (fCons_e (x := .int us.length) (fCall_e (fCons_e rfl fNil_e) ?_) fNil_e) (all_changes_e us.length (by omega))) rfl
    simp [g1, D.len, uD]
  have s1 := fCall_e (Phi := Phi_plan_cost) (fl := fCons (fVar 0) (fCons (fVar 1) fNil)) (ρ := startR 4 [bD k, uD us]) (fCons_e rfl (fCons_e rfl fNil_e)) (plan_cost_e h hl)
  rcases search_loop h hl (allC us.length) .un fun c hc => by rw [← hl]; exact allC_mem.mp hc with ⟨c, hc, h1, h2⟩ | ⟨h1, h2⟩
  · exact .inl ⟨c, by rw [← hl]; exact allC_mem.mp hc, h1, runD_rt rfl ((sSeq_nx (sSet_e s1)).trans (sFor_e e0 h2))⟩
  · exact .inr ⟨noSave_of h1, runD_rt rfl ((sSeq_nx (sSet_e s1)).trans (sFor_e e0 h2))⟩
theorem sIfW_some {i : Nat} {fe : FE} {f g : FS} {ρ : Rho} {d : D} {r : Option Out} (e : fe ρ = some d) (hn : D.notNone d .non = some (.bl true)) (h : f (ρ.set i (.dat d)) = r) : sIfW i fe f g ρ = r := by
  unfold sIfW
  rw [e, Option.bind_some, hn]
  exact h
theorem sIfW_none {i : Nat} {fe : FE} {f g : FS} {ρ : Rho} {r : Option Out} (e : fe ρ = some .non) (h : g (ρ.set i (.dat .non)) = r) : sIfW i fe f g ρ = r := by
  unfold sIfW
  rw [e, Option.bind_some]
  exact h
theorem judge_e {k : Book} (h : k.Fine) {us : List Int} (hf : Fits k.b k.ps us) : (∃ c, c.ok k.ps.length ∧ saves k us c = true ∧ Phi_judge [bD k, uD us] = some (.tup [.str "change", chD c])) ∨ (NoSave k.b k.ps us ∧ Phi_judge [bD k, uD us] = some (.tup [.str "prices", uD (prices k.b k.ps us 0 (none, none))])) := by
  rcases saving_change_e h (fits_len hf) with ⟨c, h1, h2, h3⟩ | ⟨h1, h3⟩
  · refine .inl ⟨c, h1, h2, runD_rt rfl ((sSeq_nx (sDo_e (fCall_e (fCons_e rfl (fCons_e rfl fNil_e)) (check_plan_e h hf)))).trans (sSeq_rt (sIfW_some (fCall_e (fCons_e rfl (fCons_e rfl fNil_e)) h3) ?_ (sRet_e (fTup_e (fCons_e rfl (fCons_e rfl fNil_e)) (show 2 ≤ 100000 by decide))))))⟩
    cases c <;> rfl
  · exact .inr ⟨h1, runD_rt rfl ((sSeq_nx (sDo_e (fCall_e (fCons_e rfl (fCons_e rfl fNil_e)) (check_plan_e h hf)))).trans ((sSeq_nx (sIfW_none (fCall_e (fCons_e rfl (fCons_e rfl fNil_e)) h3) rfl)).trans (sRet_e (fTup_e (fCons_e rfl (fCons_e (fCall_e (fCons_e rfl (fCons_e rfl fNil_e)) (prices_of_e h hf)) fNil_e)) (show 2 ≤ 100000 by decide)))))⟩
theorem holds_change {k : Book} (h : k.Fine) {us : List Int} (hf : Fits k.b k.ps us) (c : Ch) (hc : c.ok k.ps.length) : Phi_judgement_holds [bD k, uD us, .tup [.str "change", chD c]] = some (.bl (saves k us c)) :=
  runD_rt rfl ((sSeq_nx (sDo_e (fCall_e (fCons_e rfl (fCons_e rfl fNil_e)) (check_plan_e h hf)))).trans ((sSeq_nx (sIf_f (bOr_e (a := false) (b := false) (bNot_e (bVal_e (b := true) (fCall_e (fCons_e rfl (fCons_e rfl fNil_e)) (is_tuple_of_e _ _)))) fun _ => bNot_e (bVal_e (b := true) (f1_e (x := .str "change") (f2_e rfl rfl rfl) (isT_ss _)))) rfl)).trans ((sSeq_nx (sAsg_e rfl rfl)).trans ((sSeq_nx (sIf_f rfl rfl)).trans (sRet_e (fAnd_e (a := true) rfl fun _ => (fAnd_e (a := true) (b := saves k us c) (fCall_e (fCons_e rfl (fCons_e rfl fNil_e)) (is_change_e h c hc)) fun _ => fCall_e (fCons_e rfl (fCons_e rfl (fCons_e (fCall_e (fCons_e rfl (fCons_e rfl fNil_e)) (plan_cost_e h (fits_len hf))) (fCons_e rfl fNil_e)))) (is_saving_e h (fits_len hf) c hc))))))))
theorem holds_prices {k : Book} (h : k.Fine) {us as : List Int} (hf : Fits k.b k.ps us) (hl : as.length = k.ps.length) (hb : ∀ a ∈ as, -1000000000000000000000000000000 < a ∧ a < 1000000000000000000000000000000) : Phi_judgement_holds [bD k, uD us, .tup [.str "prices", uD as]] = some (.bl (decide (pbound k.b k.ps as = pcost k.b k.ps us))) :=
  runD_rt rfl ((sSeq_nx (sDo_e (fCall_e (fCons_e rfl (fCons_e rfl fNil_e)) (check_plan_e h hf)))).trans ((sSeq_nx (sIf_f (bOr_e (a := false) (b := false) (bNot_e (bVal_e (b := true) (fCall_e (fCons_e rfl (fCons_e rfl fNil_e)) (is_tuple_of_e _ _)))) fun _ => bNot_e (bVal_e (b := true) (f1_e (x := .str "prices") (f2_e rfl rfl rfl) (isT_ss _)))) rfl)).trans ((sSeq_nx (sAsg_e rfl rfl)).trans (sSeq_rt (sIf_t rfl (sRet_e (f2_e (fCall_e (fCons_e rfl (fCons_e rfl fNil_e)) (price_bound_e h hl hb)) (fCall_e (fCons_e rfl (fCons_e rfl fNil_e)) (plan_cost_e h (fits_len hf))) rfl)))))))
theorem afterX_e {k : Book} (h : k.Fine) {us : List Int} (hf : Fits k.b k.ps us) (c : Ch) (hc : c.ok k.ps.length) : Phi_afterX [bD k, uD us, chD c] = some (if fitsB k.b k.ps (c.ap us) = true then some (uD (c.ap us)) else none) := by
  have h4 := h.len
  have hl := fits_len hf
  have al := ap_len c us
  have e1 : fChk (startR 3 [bD k, uD us, chD c]) = some .non := fCall_e (fCons_e rfl (fCons_e rfl fNil_e)) (check_plan_e h hf)
  have e3 : fChd (startR 3 [bD k, uD us, chD c]) = some (uD (c.ap us)) := fCall_e (fCons_e rfl (fCons_e rfl fNil_e)) (changed_e us c (by rw [hl]; exact hc) (by omega))
  have e2 : fTst (startR 3 [bD k, uD us, chD c]) = some (!fitsB k.b k.ps (c.ap us)) := bOr_e (a := false) (bNot_e (bVal_e (b := true) (fCall_e (fCons_e rfl (fCons_e rfl fNil_e)) (is_change_e h c hc)))) fun _ => bNot_e (bVal_e (fCall_e (fCons_e rfl (fCons_e e3 fNil_e)) (fits_k h (c.ap us) (by omega))))
  unfold Phi_afterX
  rw [if_pos (show [bD k, uD us, chD c].length = 3 from rfl), e1, Option.bind_some, e2, Option.bind_some]
  cases hh : fitsB k.b k.ps (c.ap us) with
  | false => rfl
  | true =>
    rw [if_neg (by simp), e3]
    rfl
theorem asked_e {k : Book} (h : k.Fine) {us : List Int} (hf : Fits k.b k.ps us) (c : Ch) (hc : c.ok k.ps.length) : Phi_asked [bD k, .lst [uD us, chD c]] = some (if fitsB k.b k.ps (c.ap us) = true then .lst [.str "returned", uD (c.ap us)] else .lst [.str "NoChange"]) := by
  show (Phi_afterX [bD k, uD us, chD c]).bind _ = _
  rw [afterX_e h hf c hc]
  cases fitsB k.b k.ps (c.ap us) <;> rfl
theorem after_change_e {k : Book} (h : k.Fine) {us : List Int} (hf : Fits k.b k.ps us) (c : Ch) (hc : c.ok k.ps.length) (hv : fitsB k.b k.ps (c.ap us) = true) : Phi_after_change [bD k, uD us, chD c] = some (uD (c.ap us)) := by
  have h4 := h.len
  have hl := fits_len hf
  have al := ap_len c us
  have e1 : fChk (startR 3 [bD k, uD us, chD c]) = some .non := fCall_e (fCons_e rfl (fCons_e rfl fNil_e)) (check_plan_e h hf)
  have e3 : fChd (startR 3 [bD k, uD us, chD c]) = some (uD (c.ap us)) := fCall_e (fCons_e rfl (fCons_e rfl fNil_e)) (changed_e us c (by rw [hl]; exact hc) (by omega))
  have e2 : fTst (startR 3 [bD k, uD us, chD c]) = some (!fitsB k.b k.ps (c.ap us)) := bOr_e (a := false) (bNot_e (bVal_e (b := true) (fCall_e (fCons_e rfl (fCons_e rfl fNil_e)) (is_change_e h c hc)))) fun _ => bNot_e (bVal_e (fCall_e (fCons_e rfl (fCons_e e3 fNil_e)) (fits_k h (c.ap us) (by omega))))
  exact runD_rt rfl ((sSeq_nx (sDo_e e1)).trans ((sSeq_nx (sIf_f (e2.trans (by rw [hv]; rfl)) rfl)).trans (sRet_e e3)))
end FD
end

section
set_option Elab.async false
set_option linter.all false
set_option maxRecDepth 100000
set_option maxHeartbeats 1000000
/-! E16: the law's own changes, of data. -/
namespace FD
open MM PySem L2
theorem fList_e {fe : FE} {ρ : Rho} {d : D} {ds : List D} (e : fe ρ = some d) (h : D.items d = some ds) : fList fe ρ = some ds := by
  unfold fList
  rw [e]
  exact h
theorem sExt_e {i : Nat} {fe : FE} {ρ : Rho} {ds es : List D} (h : ρ[i]? = some (.own ds)) (e : fe ρ = some (.lst es)) (hz : ds.length + es.length ≤ 100000) : sExt i fe ρ = some (.nx (ρ.set i (.own (ds ++ es)))) := by
  unfold sExt
  rw [h]
  simp only [e, Option.bind_some]
  rw [if_pos hz]
theorem fIxO_n {ρ : Rho} {i : Nat} {fe : FE} {ds : List D} {j : Nat} {x : D} (h : ρ[i]? = some (.own ds)) (e : fe ρ = some (.int j)) (e2 : ds[j]? = some x) : fIxO i fe ρ = some x :=
  fIxO_e h e ((atI_nat ds j (List.getElem?_eq_some_iff.mp e2).1).trans e2)
theorem law_changed_e (us : List Int) (c : Ch) (hc : c.ok us.length) : Phi__law_changed [uD us, chD c] = some (uD (c.ap us)) := by
  have ul : (us.map D.int).length = us.length := List.length_map ..
  cases c with
  | more i =>
    have hi : i < us.length := hc
    refine runD_rt rfl ((sSeq_nx (sSetN_e (ds := us.map .int) (fList_e rfl rfl))).trans ((sSeq_nx (sPut_e (j := i) (z := .int (us[i]?.getD 0 + 1)) rfl rfl (by omega) (f2_e (y := .int 1) (fIxO_n (j := i) rfl rfl (get_D us i hi)) rfl rfl))).trans ((sSeq_nx (sIf_f rfl rfl)).trans ((sSeq_nx (sFrz_e rfl)).trans (sRet_e (fCall_e (fCons_e rfl fNil_e) rfl)))))) |>.trans ?_
    rw [add1_D us i hi]
    rfl
  | less i =>
    have hi : i < us.length := hc
    refine runD_rt rfl ((sSeq_nx (sSetN_e (ds := us.map .int) (fList_e rfl rfl))).trans ((sSeq_nx (sPut_e (j := i) (z := .int (us[i]?.getD 0 + -1)) rfl rfl (by omega) (f2_e (y := .int (-1)) (fIxO_n (j := i) rfl rfl (get_D us i hi)) rfl rfl))).trans ((sSeq_nx (sIf_f rfl rfl)).trans ((sSeq_nx (sFrz_e rfl)).trans (sRet_e (fCall_e (fCons_e rfl fNil_e) rfl)))))) |>.trans ?_
    rw [add1_D us i hi]
    rfl
  | shift i j =>
    obtain ⟨hi, hj, _⟩ := hc
    have hj' : j < (add1 us i 1).length := by rw [add1_len]; exact hj
    have a1 := add1_D us i hi 1
    have g1' : ((us.map D.int).set i (.int (us[i]?.getD 0 + 1)))[j]? = some (.int ((add1 us i 1)[j]?.getD 0)) := (congrArg (fun l => l[j]?) a1).trans (get_D _ j hj')
    refine runD_rt rfl ((sSeq_nx (sSetN_e (ds := us.map .int) (fList_e rfl rfl))).trans ((sSeq_nx (sPut_e (j := i) (z := .int (us[i]?.getD 0 + 1)) rfl rfl (by omega) (f2_e (y := .int 1) (fIxO_n (j := i) rfl rfl (get_D us i hi)) rfl rfl))).trans ((sSeq_nx (sIf_t rfl (sPut_e (j := j) (z := .int ((add1 us i 1)[j]?.getD 0 + -1)) rfl rfl (by rw [List.length_set]; omega) (f2_e (y := .int 1) (fIxO_n (j := j) rfl rfl g1') rfl rfl)))).trans ((sSeq_nx (sFrz_e rfl)).trans (sRet_e (fCall_e (fCons_e rfl fNil_e) rfl)))))) |>.trans ?_
    rw [a1, add1_D _ j hj']
    rfl
def stepC (n : Nat) (l : List Ch) (i : Nat) : List Ch := l ++ ([.more i, .less i] ++ ((List.range n).filter fun j => !decide (i = j)).map (.shift i))
theorem stepC_fold (n : Nat) : ∀ (xs : List Nat) (l : List Ch), xs.foldl (stepC n) l = l ++ xs.flatMap fun i => [.more i, .less i] ++ ((List.range n).filter fun j => !decide (i = j)).map (.shift i)
  | [], l => by simp
  | a :: r, l => by
    rw [List.foldl_cons, stepC_fold n r, List.flatMap_cons]
    unfold stepC
    rw [List.append_assoc]
theorem law_changes_e (n : Nat) (hn : n ≤ 10) : Phi__law_changes [.int n] = some (.lst ((lawC n).map chD)) := by
  have rl : (List.range n).length = n := List.length_range
  refine runD_rt rfl ((sSeq_nx (sSetN_e (fLst_e fNil_e (show 0 ≤ 100000 by decide)))).trans (sSeq_foldN (fun m (l : List Ch) ρ => l.length ≤ m * (n + 2) ∧ ∃ y z, ρ = [.dat (.int n), .own (l.map chD), y, z]) (stepC n) (fun i : Nat => .int (i : Int)) (List.range n) [] (rng1_e n (by omega) rfl) ⟨by simp, .un, .un, rfl⟩ ?_ ?_))
  · rintro i hi m l ρ hm ⟨hl, y, z, rfl⟩
    rw [rl] at hm
    have b : m * (n + 2) ≤ 10 * 12 := Nat.mul_le_mul (by omega) (by omega)
    have fl : ((List.range n).filter fun j => !decide (i = j)).length ≤ n := by
      refine Nat.le_trans (List.length_filter_le _ _) ?_
      omega
    refine ⟨_, [.dat (.int n), .own ((stepC n l i).map chD), .dat (.int i), z], rfl, (sSeq_nx (sFrz_e rfl)).trans ((sSeq_nx (sSetN_e (fCatL_e (ys := [chD (.more i), chD (.less i)]) rfl (fFrz_e (fLst_e (fCons_e (fTup_e (fCons_e rfl (fCons_e rfl fNil_e)) (show 2 ≤ 100000 by decide)) (fCons_e (fTup_e (fCons_e rfl (fCons_e rfl fNil_e)) (show 2 ≤ 100000 by decide)) fNil_e)) (show 2 ≤ 100000 by decide))) ?_))).trans ((sExt_e (es := ((List.range n).filter fun j => !decide (i = j)).map fun j : Nat => chD (.shift i j)) rfl (fFrz_e (fComp_of (fun i : Nat => .int (i : Int)) (fun j : Nat => !decide (i = j)) (fun j : Nat => chD (.shift i j)) (List.range n) (rng1_e n (by omega) rfl) (by omega) (compL_of _ _ _ _ fun j hj => ⟨_, rfl, bVal_e (f2_e (x := .int i) (y := .int j) rfl rfl ?_), fun _ => fTup_e (fCons_e rfl (fCons_e rfl (fCons_e rfl fNil_e))) (show 3 ≤ 100000 by decide)⟩))) ?_).trans ?_)), ?_, .dat (.int i), z, rfl⟩
    · rw [List.length_map]
      show l.length + 2 ≤ _
      omega
    · simp only [D.ne, D.eqq, Option.bind_some]
      rw [dec_cast]
    · rw [List.length_append, List.length_map, List.length_map]
      show l.length + 2 + _ ≤ _
      omega
    · congr 1
      congr 1
      show [_, _, _, _] = _
      congr 2
      unfold stepC
      rw [List.map_append, List.map_append, List.map_map, ← List.append_assoc]
      rfl
    · unfold stepC
      rw [List.length_append, List.length_append, List.length_map, Nat.add_mul]
      show l.length + (2 + _) ≤ _
      omega
  · rintro ρ' ⟨hl, y, z, rfl⟩
    rw [stepC_fold]
    exact (sSeq_nx (sFrz_e rfl)).trans (sRet_e rfl)
theorem law_equals_e {k : Book} (h : k.Fine) {us : List Int} (hf : Fits k.b k.ps us) : ∃ vss : List (List Int), Phi__law_equals [bD k, uD us] = some (.lst (vss.map uD)) ∧ vss.length ≤ 1000 ∧ ∀ vs ∈ vss, Fits k.b k.ps vs ∧ pcost k.b k.ps vs = pcost k.b k.ps us := by
  have h4 := h.len
  have hl := fits_len hf
  have ll := lawC_len us.length
  have b : us.length * (us.length + 2) ≤ 4 * 6 := Nat.mul_le_mul (by omega) (by omega)
  refine ⟨(((lawC us.length).map fun c => c.ap us).filter fun vs => fitsB k.b k.ps vs && decide (pcost k.b k.ps vs = pcost k.b k.ps us)), ?_, ?_, fun vs hv => ?_⟩
  · have e0 : fComp [5] (fItems (fCall Phi__law_changes (fCons (fCall (g1 D.len) (fCons (fVar 1) fNil)) fNil))) (gN 5) bYes (fCall Phi__law_changed (fCons (fVar 1) (fCons (fVar 5) fNil))) [.dat (bD k), .dat (uD us), .un, .un, .un, .un] = some ((lawC us.length).map fun c => uD (c.ap us)) := by
      refine fComp_all chD _ _ (fItems_e (fCall_e (fCons_e (x := .int us.length) (fCall_e (fCons_e rfl fNil_e) ?_) fNil_e) (law_changes_e us.length (by omega))) rfl) (by omega) (compL_all _ _ _ fun c hc => ⟨_, rfl, fCall_e (fCons_e rfl (fCons_e rfl fNil_e)) (law_changed_e us c (lawC_ok hc))⟩)
      simp [g1, D.len, uD]
    have e1 : (lawC us.length).map (fun c => uD (c.ap us)) = ((lawC us.length).map fun c => c.ap us).map uD := by rw [List.map_map]; rfl
    rw [e1] at e0
    refine runD_rt rfl ((sSeq_nx (sAsg_e (fTup_e (fCons_e (fCall_e (fCons_e rfl (fCons_e rfl fNil_e)) (law_plan_cost_e h hf)) (fCons_e (fFrz_e e0) fNil_e)) (show 2 ≤ 100000 by decide)) rfl)).trans (sRet_e (fFrz_e (fComp_of uD _ uD _ (fItems_e rfl rfl) (by rw [List.length_map]; omega) (compL_of _ _ _ _ fun vs hv => ⟨_, rfl, bAnd_e (bVal_e (fCall_e (fCons_e rfl (fCons_e rfl fNil_e)) (law_is_plan_e h vs ?_))) fun hh => bVal_e (f2_e (fCall_e (fCons_e rfl (fCons_e rfl fNil_e)) (law_plan_cost_e h (fitsB_iff.mp hh))) rfl rfl), fun _ => rfl⟩)))))
    obtain ⟨c, hc, rfl⟩ := List.mem_map.mp hv
    rw [ap_len]
    omega
  · refine Nat.le_trans (List.length_filter_le _ _) ?_
    rw [List.length_map]
    omega
  · have := (List.mem_filter.mp hv).2
    rw [Bool.and_eq_true, decide_eq_true_iff] at this
    exact ⟨fitsB_iff.mp this.1, this.2⟩
end FD
end

section
set_option Elab.async false
set_option linter.all false
set_option maxRecDepth 100000
set_option maxHeartbeats 1000000
/-! E17: the law's changes are right, of data. -/
namespace FD
open MM PySem L2
theorem law_changes_right_e {k : Book} (h : k.Fine) {us : List Int} (hf : Fits k.b k.ps us) : Phi__law_changes_right [bD k, uD us] = some (.bl true) := by
  have h4 := h.len
  have hl := fits_len hf
  refine runD_rt rfl ((sSeq_nx (sSet_e (fCall_e (fCons_e rfl (fCons_e rfl fNil_e)) (cost_of_e h hf)))).trans (sSeq_fold (S := Unit) (fun _ ρ => ∃ y z w, ρ = [.dat (bD k), .dat (uD us), .dat (.int (pcost k.b k.ps us)), y, z, w]) (fun s _ => s) chD (lawC us.length) () (fItems_e (fCall_e (fCons_e (x := .int us.length) (fCall_e (fCons_e rfl fNil_e) ?_) fNil_e) (law_changes_e us.length (by omega))) rfl) ⟨.un, .un, .un, rfl⟩ ?_ ?_))
  · simp [g1, D.len, uD]
  · rintro c hc _ ρ ⟨y, z, w, rfl⟩
    have ok : c.ok k.ps.length := by
      rw [← hl]
      exact lawC_ok hc
    have as := asked_e h hf c ok
    have hh := holds_change h hf c ok
    cases hv : fitsB k.b k.ps (c.ap us) with
    | true =>
      rw [hv, if_pos rfl] at as
      have fv := fitsB_iff.mp hv
      have sv : saves k us c = decide (pcost k.b k.ps (c.ap us) < pcost k.b k.ps us) := by
        unfold saves
        rw [hv]
        rfl
      rw [sv] at hh
      refine ⟨_, _, rfl, (sSeq_nx (sSet_e (fCall_e (fCons_e rfl (fCons_e (fFrz_e (fLst_e (fCons_e rfl (fCons_e rfl fNil_e)) (show 2 ≤ 100000 by decide))) fNil_e)) as))).trans ((sSeq_nx (sSet_e (fAnd_e (a := true) (b := decide (pcost k.b k.ps (c.ap us) < pcost k.b k.ps us)) rfl fun _ => f2_e (fCall_e (fCons_e rfl (fCons_e (f2_e (z := uD (c.ap us)) rfl rfl rfl) fNil_e)) (cost_of_e h fv)) rfl rfl))).trans ((sSeq_nx (sIf_f (bAnd_e (a := true) (b := false) rfl fun _ => bNot_e (bVal_e (b := true) (fCall_e (fCons_e rfl (fCons_e (f2_e (z := uD (c.ap us)) rfl rfl rfl) fNil_e)) ?_))) rfl)).trans (sIf_f (bVal_e (f2_e (fCall_e (fCons_e rfl (fCons_e rfl (fCons_e (fTup_e (fCons_e rfl (fCons_e rfl fNil_e)) (show 2 ≤ 100000 by decide)) fNil_e))) hh) rfl ?_)) rfl))), _, _, _, rfl⟩
      · have al := ap_len c us
        rw [fits_k h (c.ap us) (by omega), hv]
      · simp [D.ne, D.eqq]
    | false =>
      rw [hv, if_neg (by simp)] at as
      have sv : saves k us c = false := by
        unfold saves
        rw [hv]
        rfl
      rw [sv] at hh
      exact ⟨_, _, rfl, (sSeq_nx (sSet_e (fCall_e (fCons_e rfl (fCons_e (fFrz_e (fLst_e (fCons_e rfl (fCons_e rfl fNil_e)) (show 2 ≤ 100000 by decide))) fNil_e)) as))).trans ((sSeq_nx (sSet_e (fAnd_e (a := false) (b := false) rfl fun h => nomatch h))).trans ((sSeq_nx (sIf_f (bAnd_e (a := false) (b := false) rfl fun h => nomatch h) rfl)).trans (sIf_f (bVal_e (f2_e (fCall_e (fCons_e rfl (fCons_e rfl (fCons_e (fTup_e (fCons_e rfl (fCons_e rfl fNil_e)) (show 2 ≤ 100000 by decide)) fNil_e))) hh) rfl rfl)) rfl))), _, _, _, rfl⟩
  · rintro ρ' ⟨y, z, w, rfl⟩
    exact sRet_e rfl
end FD
end

section
set_option Elab.async false
set_option linter.all false
/-! M8: the spans of stocks that a plan can take. -/
namespace MM
def fwd : Int → Int → List Pd → List (Int × Int)
  | _, _, [] => []
  | lo, hi, p :: ps => (max p.keep.low (lo + p.buy.low - p.want), min p.keep.last (hi + p.buy.last - p.want)) :: fwd (max p.keep.low (lo + p.buy.low - p.want)) (min p.keep.last (hi + p.buy.last - p.want)) ps
theorem fwd_len : ∀ {ps : List Pd} {lo hi : Int}, (fwd lo hi ps).length = ps.length
  | [], _, _ => rfl
  | p :: ps, lo, hi => by simp [fwd, fwd_len (ps := ps)]
/-- every span holds its stock -/
def Holds : List (Int × Int) → List Int → Prop
  | a :: r, s :: ss => a.1 ≤ s ∧ s ≤ a.2 ∧ Holds r ss
  | [], [] => True
  | _, _ => False
theorem fwd_holds : ∀ {ps : List Pd} {us : List Int} {s lo hi : Int}, Fits s ps us → lo ≤ s → s ≤ hi → Holds (fwd lo hi ps) (stk s ps us)
  | [], [], _, _, _, _, _, _ => trivial
  | [], _ :: _, _, _, _, h, _, _ => h.elim
  | _ :: _, [], _, _, _, h, _, _ => h.elim
  | p :: ps, u :: us, s, lo, hi, h, h0, h1 => by
    obtain ⟨a1, a2, a3, a4, a5⟩ := h
    have b0 : max p.keep.low (lo + p.buy.low - p.want) ≤ s + u - p.want := by omega
    have b1 : s + u - p.want ≤ min p.keep.last (hi + p.buy.last - p.want) := by omega
    exact ⟨b0, b1, fwd_holds a5 b0 b1⟩
def bwd1 (q : Pd) (a b : Int × Int) : Int × Int := (max a.1 (b.1 + q.want - q.buy.last), min a.2 (b.2 + q.want - q.buy.low))
def bwd : List Pd → List (Int × Int) → List (Int × Int)
  | _ :: q :: ps, a :: r => match bwd (q :: ps) r with
    | b :: r' => bwd1 q a b :: b :: r'
    | [] => [a]
  | _, r => r
theorem bwd_len : ∀ {ps : List Pd} {r : List (Int × Int)}, r.length = ps.length → (bwd ps r).length = ps.length
  | [], r, h => by simpa [bwd] using h
  | [p], r, h => by simpa [bwd] using h
  | p :: q :: ps, [], h => by cases h
  | p :: q :: ps, a :: r, h => by
    have ih := bwd_len (ps := q :: ps) (r := r) (by simpa using h)
    unfold bwd
    split
    · rename_i b r' e
      rw [e] at ih
      simp only [List.length_cons] at ih ⊢
      omega
    · rename_i e
      rw [e] at ih
      cases ih
/-- behind [lo', hi'] every stock can go on -/
def SpanOk : Int → Int → List Pd → List (Int × Int) → Prop
  | lo', hi', p :: ps, a :: r => a.1 ≤ a.2 ∧ p.keep.low ≤ a.1 ∧ a.2 ≤ p.keep.last ∧ a.1 + p.want - p.buy.last ≤ lo' ∧ hi' ≤ a.2 + p.want - p.buy.low ∧ SpanOk a.1 a.2 ps r
  | _, _, [], [] => True
  | _, _, _, _ => False
/-- the same, but for the first's back end -/
def SpanT : List Pd → List (Int × Int) → Prop
  | p :: ps, a :: r => p.keep.low ≤ a.1 ∧ a.2 ≤ p.keep.last ∧ SpanOk a.1 a.2 ps r
  | [], [] => True
  | _, _ => False
/-- each lies within its keep -/
def Within : List Pd → List (Int × Int) → Prop
  | p :: ps, a :: r => p.keep.low ≤ a.1 ∧ a.2 ≤ p.keep.last ∧ Within ps r
  | [], [] => True
  | _, _ => False
theorem fwd_within : ∀ {ps : List Pd} {lo hi : Int}, Within ps (fwd lo hi ps)
  | [], _, _ => trivial
  | p :: ps, lo, hi => by
    refine ⟨?_, ?_, fwd_within⟩
    · show p.keep.low ≤ max _ _
      omega
    · show min _ _ ≤ p.keep.last
      omega
theorem bwd_ok : ∀ {ps : List Pd} {us : List Int} {s : Int} {r : List (Int × Int)}, Fits s ps us → Within ps r → Holds r (stk s ps us) → SpanT ps (bwd ps r) ∧ Holds (bwd ps r) (stk s ps us)
  | [], [], _, [], _, _, _ => ⟨trivial, trivial⟩
  | [], [], _, _ :: _, _, _, h => h.elim
  | [], _ :: _, _, _, h, _, _ => h.elim
  | _ :: _, [], _, _, h, _, _ => h.elim
  | _ :: _, _ :: _, _, [], _, h, _ => h.elim
  | [p], [u], s, [a], h, w, hh => ⟨⟨w.1, w.2.1, trivial⟩, hh⟩
  | [p], [u], s, _ :: _ :: _, h, w, hh => w.2.2.elim
  | [p], _ :: _ :: _, s, _, h, w, hh => h.2.2.2.2.elim
  | _ :: _ :: _, [u], s, _, h, w, hh => h.2.2.2.2.elim
  | p :: q :: ps, u :: v :: us, s, a :: r, h, w, hh => by
    obtain ⟨a1, a2, a3, a4, a5⟩ := h
    obtain ⟨w1, w2, w3⟩ := w
    obtain ⟨h1, h2, h3⟩ := hh
    obtain ⟨i1, i2⟩ := bwd_ok (r := r) a5 w3 h3
    unfold bwd
    split
    · rename_i b r' e
      rw [e] at i1 i2
      obtain ⟨j1, j2, j3⟩ := i1
      obtain ⟨l1, l2, l3⟩ := i2
      obtain ⟨f1, f2, _⟩ := a5
      have c1 : (bwd1 q a b).1 = max a.1 (b.1 + q.want - q.buy.last) := rfl
      have c2 : (bwd1 q a b).2 = min a.2 (b.2 + q.want - q.buy.low) := rfl
      refine ⟨⟨by omega, by omega, by omega, by omega, by omega, by omega, by omega, j3⟩, ⟨by omega, by omega, l1, l2, l3⟩⟩
    · rename_i e
      rw [e] at i1
      exact i1.elim
theorem spanOk_first {p : Pd} {ps : List Pd} {us : List Int} {s : Int} {r : List (Int × Int)} (h : Fits s (p :: ps) us) (t : SpanT (p :: ps) r) (hh : Holds r (stk s (p :: ps) us)) : SpanOk s s (p :: ps) r := by
  cases us with
  | nil => exact h.elim
  | cons u us =>
    cases r with
    | nil => exact t.elim
    | cons a r =>
      obtain ⟨t1, t2, t3⟩ := t
      obtain ⟨h1, h2, _⟩ := hh
      obtain ⟨a1, a2, a3, a4, a5⟩ := h
      exact ⟨by omega, t1, t2, by omega, by omega, t3⟩
theorem spans_ok {b : Int} {ps : List Pd} {us : List Int} (hf : Fits b ps us) (hne : ps ≠ []) : SpanOk b b ps (bwd ps (fwd b b ps)) := by
  obtain ⟨h1, h2⟩ := bwd_ok hf (fwd_within (lo := b) (hi := b)) (fwd_holds hf (Int.le_refl _) (Int.le_refl _))
  cases ps with
  | nil => exact absurd rfl hne
  | cons p ps => exact spanOk_first hf h1 h2
end MM
end

section
set_option Elab.async false
set_option linter.all false
set_option maxRecDepth 100000
set_option maxHeartbeats 1000000
/-! E18: the law's spans, of data. -/
namespace FD
open MM PySem L2
theorem fwd_loop (bk : D) : ∀ (ps : List Pd) (us : List Int) (s lo hi : Int) (pre : List (Int × Int)) (y4 y5 y6 y7 : Sl), (∀ p ∈ ps, p.buy.st.length ≤ 100000 ∧ p.keep.st.length ≤ 100000) → Fits s ps us → lo ≤ s → s ≤ hi → pre.length + ps.length < 90000 → ∃ z2 z3 z4 z5 z6, forL (gT (gC (gN 4) (gC (gN 5) (gC (gN 6) gE)))) (sSeq (sPar2 2 3 (fCall (g2 D.max2) (fCons (f2 D.ix (fVar 6) (fK (.int 0))) (fCons (f2 D.sub (f2 D.add (fVar 2) (f2 D.ix (fVar 4) (fK (.int 0)))) (fVar 5)) fNil))) (fCall (g2 D.min2) (fCons (fCall Phi__law_last (fCons (fVar 6) fNil)) (fCons (f2 D.sub (f2 D.add (fVar 3) (fCall Phi__law_last (fCons (fVar 4) fNil))) (fVar 5)) fNil))))
  (sSeq (sApp 1 (fTup (fCons (fVar 2) (fCons (fVar 3) fNil))))
  (sIf (bVal (f2 D.gt (fVar 2) (fVar 3)))
   (sRet (fK .non))
   sNil))) sNil (ps.map pD) [.dat bk, .own (pre.map sD), .dat (.int lo), .dat (.int hi), y4, y5, y6, y7] = some (.nx [.dat bk, .own ((pre ++ fwd lo hi ps).map sD), z2, z3, z4, z5, z6, y7])
  | [], us, s, lo, hi, pre, y4, y5, y6, y7, _, _, _, _, _ => ⟨_, _, y4, y5, y6, by simp [forL, sNil, fwd]; exact ⟨rfl, rfl⟩⟩
  | _ :: _, [], _, _, _, _, _, _, _, _, _, h, _, _, _ => h.elim
  | p :: ps, u :: us, s, lo, hi, pre, y4, y5, y6, y7, hc, h, h0, h1, hz => by
    obtain ⟨a1, a2, a3, a4, a5⟩ := h
    obtain ⟨c1, c2⟩ := hc p List.mem_cons_self
    have b0 : max p.keep.low (lo + p.buy.low - p.want) ≤ s + u - p.want := by omega
    have b1 : s + u - p.want ≤ min p.keep.last (hi + p.buy.last - p.want) := by omega
    simp only [List.length_cons] at hz
    obtain ⟨z2, z3, z4, z5, z6, e⟩ := fwd_loop bk ps us (s + u - p.want) (max p.keep.low (lo + p.buy.low - p.want)) (min p.keep.last (hi + p.buy.last - p.want)) (pre ++ [(max p.keep.low (lo + p.buy.low - p.want), min p.keep.last (hi + p.buy.last - p.want))]) (.dat (cD p.buy)) (.dat (.int p.want)) (.dat (cD p.keep)) y7 (fun q hq => hc q (List.mem_cons_of_mem _ hq)) a5 b0 b1 (by simp; omega)
    refine ⟨z2, z3, z4, z5, z6, ?_⟩
    have g : gT (gC (gN 4) (gC (gN 5) (gC (gN 6) gE))) (pD p) [.dat bk, .own (pre.map sD), .dat (.int lo), .dat (.int hi), y4, y5, y6, y7] = some [.dat bk, .own (pre.map sD), .dat (.int lo), .dat (.int hi), .dat (cD p.buy), .dat (.int p.want), .dat (cD p.keep), y7] := rfl
    have par : sPar2 2 3 (fCall (g2 D.max2) (fCons (f2 D.ix (fVar 6) (fK (.int 0))) (fCons (f2 D.sub (f2 D.add (fVar 2) (f2 D.ix (fVar 4) (fK (.int 0)))) (fVar 5)) fNil))) (fCall (g2 D.min2) (fCons (fCall Phi__law_last (fCons (fVar 6) fNil)) (fCons (f2 D.sub (f2 D.add (fVar 3) (fCall Phi__law_last (fCons (fVar 4) fNil))) (fVar 5)) fNil))) [.dat bk, .own (pre.map sD), .dat (.int lo), .dat (.int hi), .dat (cD p.buy), .dat (.int p.want), .dat (cD p.keep), y7] =
        some (.nx [.dat bk, .own (pre.map sD), .dat (.int (max p.keep.low (lo + p.buy.low - p.want))), .dat (.int (min p.keep.last (hi + p.buy.last - p.want))), .dat (cD p.buy), .dat (.int p.want), .dat (cD p.keep), y7]) := by
      have m1 : fCall (g2 D.max2) (fCons (f2 D.ix (fVar 6) (fK (.int 0))) (fCons (f2 D.sub (f2 D.add (fVar 2) (f2 D.ix (fVar 4) (fK (.int 0)))) (fVar 5)) fNil)) [.dat bk, .own (pre.map sD), .dat (.int lo), .dat (.int hi), .dat (cD p.buy), .dat (.int p.want), .dat (cD p.keep), y7] = some (.int (max p.keep.low (lo + p.buy.low - p.want))) :=
        fCall_e (fCons_e (f2_e (z := .int p.keep.low) rfl rfl rfl) (fCons_e (f2_e (x := .int (lo + p.buy.low)) (f2_e (y := .int p.buy.low) rfl (f2_e rfl rfl rfl) rfl) rfl rfl) fNil_e)) (max2_e _ _)
      have m2 : fCall (g2 D.min2) (fCons (fCall Phi__law_last (fCons (fVar 6) fNil)) (fCons (f2 D.sub (f2 D.add (fVar 3) (fCall Phi__law_last (fCons (fVar 4) fNil))) (fVar 5)) fNil)) [.dat bk, .own (pre.map sD), .dat (.int lo), .dat (.int hi), .dat (cD p.buy), .dat (.int p.want), .dat (cD p.keep), y7] = some (.int (min p.keep.last (hi + p.buy.last - p.want))) :=
        fCall_e (fCons_e (fCall_e (fCons_e rfl fNil_e) (law_last_e _ c2)) (fCons_e (f2_e (x := .int (hi + p.buy.last)) (f2_e (y := .int p.buy.last) rfl (fCall_e (fCons_e rfl fNil_e) (law_last_e _ c1)) rfl) rfl rfl) fNil_e)) (min2_e _ _)
      unfold sPar2
      rw [m1, Option.bind_some, m2]
      rfl
    have st := (sSeq_nx (g := sSeq (sApp 1 (fTup (fCons (fVar 2) (fCons (fVar 3) fNil)))) (sIf (bVal (f2 D.gt (fVar 2) (fVar 3))) (sRet (fK .non)) sNil)) par).trans ((sSeq_nx (sApp_e rfl (fTup_e (ds := [.int (max p.keep.low (lo + p.buy.low - p.want)), .int (min p.keep.last (hi + p.buy.last - p.want))]) rfl (show 2 ≤ 100000 by decide)) (by rw [List.length_map]; omega))).trans (sIf_f (bVal_e (b := false) (f2_e (x := .int (max p.keep.low (lo + p.buy.low - p.want))) (y := .int (min p.keep.last (hi + p.buy.last - p.want))) rfl rfl (by
      simp only [D.gt]
      congr 2
      rw [decide_eq_false_iff_not]
      omega))) rfl))
    simp only [List.map_cons, forL, g, Option.bind_some]
    rw [st]
    simp only [List.map_append, List.map_cons, List.map_nil] at e
    refine Eq.trans e ?_
    simp [fwd]
theorem rangeD_cons (a c : Int) (n : Nat) : rangeD a c (n + 1) = .int a :: rangeD (a + c) c n := by
  unfold rangeD
  rw [List.range_succ_eq_map, List.map_cons, List.map_map]
  congr 1
  · simp
  · apply List.map_congr_left
    intro i _
    show D.int _ = D.int _
    congr 1
    have : ((Nat.succ i : Nat) : Int) = (i : Int) + 1 := by omega
    rw [this, Int.add_mul]
    omega
abbrev bwdBody : FS := (sSeq (sAsg (gT (gC (gN 4) (gC (gN 5) (gC (gN 6) gE)))) (f2 D.ix (f2 D.ix (fVar 0) (fK (.int 1))) (f2 D.add (fVar 7) (fK (.int 1)))))
  (sSeq (sAsg (gT (gC (gN 2) (gC (gN 3) gE))) (fIxO 1 (f2 D.add (fVar 7) (fK (.int 1)))))
  (sPut 1 (fVar 7) (fTup (fCons (fCall (g2 D.max2) (fCons (f2 D.ix (fIxO 1 (fVar 7)) (fK (.int 0))) (fCons (f2 D.sub (f2 D.add (fVar 2) (fVar 5)) (fCall Phi__law_last (fCons (fVar 4) fNil))) fNil))) (fCons (fCall (g2 D.min2) (fCons (f2 D.ix (fIxO 1 (fVar 7)) (fK (.int 1))) (fCons (f2 D.sub (f2 D.add (fVar 3) (fVar 5)) (f2 D.ix (fVar 4) (fK (.int 0)))) fNil))) fNil))))))
theorem bwd_step (k : Book) (hc : ∀ p ∈ k.ps, p.buy.st.length ≤ 100000 ∧ p.keep.st.length ≤ 100000) (j : Nat) (q : Pd) (hq : k.ps[j + 1]? = some q) (A R : List (Int × Int)) (a b : Int × Int) (hA : A.length = j) (y2 y3 y4 y5 y6 : Sl) :
    bwdBody [.dat (bD k), .own ((A ++ a :: b :: R).map sD), y2, y3, y4, y5, y6, .dat (.int (j : Int))] = some (.nx [.dat (bD k), .own ((A ++ bwd1 q a b :: b :: R).map sD), .dat (.int b.1), .dat (.int b.2), .dat (cD q.buy), .dat (.int q.want), .dat (cD q.keep), .dat (.int (j : Int))]) := by
  have c1 := (hc q (List.mem_of_getElem? hq)).1
  have ca : ((j : Int) + 1) = ((j + 1 : Nat) : Int) := by omega
  have ix1 : f2 D.ix (f2 D.ix (fVar 0) (fK (.int 1))) (f2 D.add (fVar 7) (fK (.int 1))) [.dat (bD k), .own ((A ++ a :: b :: R).map sD), y2, y3, y4, y5, y6, .dat (.int (j : Int))] = some (pD q) :=
    f2_e (x := .tup (k.ps.map pD)) (y := .int ((j + 1 : Nat) : Int)) (f2_e rfl rfl rfl) (f2_e rfl rfl (by rw [← ca]; rfl)) (atI_pd _ _ _ hq)
  have gb : ((A ++ a :: b :: R).map sD)[j + 1]? = some (sD b) := by
    subst hA
    rw [List.getElem?_map, List.getElem?_append_right (by omega)]
    simp
  have ga : ((A ++ a :: b :: R).map sD)[j]? = some (sD a) := by
    subst hA
    rw [List.getElem?_map, List.getElem?_append_right (by omega)]
    simp
  have s2 : ∀ z2 z3, fIxO 1 (f2 D.add (fVar 7) (fK (.int 1))) [.dat (bD k), .own ((A ++ a :: b :: R).map sD), z2, z3, .dat (cD q.buy), .dat (.int q.want), .dat (cD q.keep), .dat (.int (j : Int))] = some (sD b) := fun z2 z3 => fIxO_n (j := j + 1) rfl (f2_e rfl rfl (by rw [← ca]; rfl)) gb
  have s3 : fIxO 1 (fVar 7) [.dat (bD k), .own ((A ++ a :: b :: R).map sD), .dat (.int b.1), .dat (.int b.2), .dat (cD q.buy), .dat (.int q.want), .dat (cD q.keep), .dat (.int (j : Int))] = some (sD a) := fIxO_n (j := j) rfl rfl ga
  refine (sSeq_nx (sAsg_e ix1 rfl)).trans ((sSeq_nx (sAsg_e (s2 _ _) rfl)).trans ((sPut_e (j := j) (z := sD (bwd1 q a b)) rfl rfl ?_ (fTup_e (fCons_e (fCall_e (fCons_e (f2_e (z := .int a.1) s3 rfl rfl) (fCons_e (f2_e (z := .int (b.1 + q.want - q.buy.last)) (f2_e rfl rfl rfl) (fCall_e (fCons_e rfl fNil_e) (law_last_e _ c1)) rfl) fNil_e)) (max2_e _ _)) (fCons_e (fCall_e (fCons_e (f2_e (z := .int a.2) s3 rfl rfl) (fCons_e (f2_e (z := .int (b.2 + q.want - q.buy.low)) (f2_e rfl rfl rfl) (f2_e (z := .int q.buy.low) rfl rfl rfl) rfl) fNil_e)) (min2_e _ _)) fNil_e)) (show 2 ≤ 100000 by decide))).trans ?_))
  · rw [List.length_map, List.length_append]
    simp only [List.length_cons]
    omega
  · congr 1
    congr 1
    show [_, Sl.own _, _, _, _, _, _, _] = _
    congr 3
    subst hA
    rw [← List.map_set, List.set_append_right _ _ (Nat.le_refl _)]
    simp
theorem bwd_loop (k : Book) (hc : ∀ p ∈ k.ps, p.buy.st.length ≤ 100000 ∧ p.keep.st.length ≤ 100000) (fw : List (Int × Int)) (hl : fw.length = k.ps.length) : ∀ (j : Nat) (y2 y3 y4 y5 y6 y7 : Sl), j < k.ps.length → ∃ z2 z3 z4 z5 z6 z7, forL (gN 7) bwdBody sNil (rangeD ((j : Int) - 1) (-1) j) [.dat (bD k), .own ((fw.take j ++ bwd (k.ps.drop j) (fw.drop j)).map sD), y2, y3, y4, y5, y6, y7] = some (.nx [.dat (bD k), .own ((bwd k.ps fw).map sD), z2, z3, z4, z5, z6, z7])
  | 0, y2, y3, y4, y5, y6, y7, _ => ⟨y2, y3, y4, y5, y6, y7, by simp [rangeD, forL, sNil]⟩
  | j + 1, y2, y3, y4, y5, y6, y7, hj => by
    obtain ⟨q, hq⟩ : ∃ q, k.ps[j + 1]? = some q := ⟨_, List.getElem?_eq_getElem hj⟩
    obtain ⟨p, hp⟩ : ∃ p, k.ps[j]? = some p := ⟨_, List.getElem?_eq_getElem (by omega)⟩
    obtain ⟨a, ha⟩ : ∃ a, fw[j]? = some a := ⟨_, List.getElem?_eq_getElem (by omega)⟩
    have dq : k.ps.drop (j + 1) = q :: k.ps.drop (j + 2) := (List.getElem_cons_drop hj).symm.trans (by rw [(List.getElem?_eq_some_iff.mp hq).2])
    have dp : k.ps.drop j = p :: k.ps.drop (j + 1) := (List.getElem_cons_drop (show j < k.ps.length by omega)).symm.trans (by rw [(List.getElem?_eq_some_iff.mp hp).2])
    have da : fw.drop j = a :: fw.drop (j + 1) := (List.getElem_cons_drop (show j < fw.length by omega)).symm.trans (by rw [(List.getElem?_eq_some_iff.mp ha).2])
    have ta : fw.take (j + 1) = fw.take j ++ [a] := by rw [List.take_succ, ha]; rfl
    have bl := bwd_len (ps := k.ps.drop (j + 1)) (r := fw.drop (j + 1)) (by rw [List.length_drop, List.length_drop]; omega)
    obtain ⟨b, R, hb⟩ : ∃ b R, bwd (k.ps.drop (j + 1)) (fw.drop (j + 1)) = b :: R := by
      cases h : bwd (k.ps.drop (j + 1)) (fw.drop (j + 1)) with
      | nil =>
        rw [h, List.length_drop, List.length_nil] at bl
        omega
      | cons b R => exact ⟨b, R, rfl⟩
    have bj : bwd (k.ps.drop j) (fw.drop j) = bwd1 q a b :: b :: R := by
      rw [dp, da, dq]
      rw [dq] at hb
      simp only [bwd, hb]
    obtain ⟨z2, z3, z4, z5, z6, z7, e⟩ := bwd_loop k hc fw hl j (.dat (.int b.1)) (.dat (.int b.2)) (.dat (cD q.buy)) (.dat (.int q.want)) (.dat (cD q.keep)) (.dat (.int (j : Int))) (by omega)
    refine ⟨z2, z3, z4, z5, z6, z7, ?_⟩
    have r0 : ((j + 1 : Nat) : Int) - 1 = (j : Int) := by omega
    have r1 : (j : Int) + -1 = (j : Int) - 1 := by omega
    rw [r0, rangeD_cons, r1, ta, hb, List.append_assoc, List.singleton_append]
    have st := bwd_step k hc j q hq (fw.take j) R a b (by rw [List.length_take]; omega) y2 y3 y4 y5 y6
    have g : gN 7 (.int (j : Int)) [.dat (bD k), .own ((fw.take j ++ a :: b :: R).map sD), y2, y3, y4, y5, y6, y7] = some [.dat (bD k), .own ((fw.take j ++ a :: b :: R).map sD), y2, y3, y4, y5, y6, .dat (.int (j : Int))] := rfl
    simp only [forL, g, Option.bind_some, st]
    rw [bj] at e
    exact e
theorem law_spans_e {k : Book} (h : k.Fine) {us : List Int} (hf : Fits k.b k.ps us) : Phi__law_spans [bD k] = some (.lst ((bwd k.ps (fwd k.b k.b k.ps)).map sD)) := by
  have h4 := h.len
  have hne : k.ps.length ≠ 0 := fun e => h.ne (List.eq_nil_of_length_eq_zero e)
  obtain ⟨z2, z3, z4, z5, z6, e⟩ := fwd_loop (bD k) k.ps us k.b k.b k.b [] .un .un .un .un h.lens hf (Int.le_refl _) (Int.le_refl _) (by simp; omega)
  have fl := fwd_len (ps := k.ps) (lo := k.b) (hi := k.b)
  obtain ⟨w2, w3, w4, w5, w6, w7, e2⟩ := bwd_loop k h.lens (fwd k.b k.b k.ps) fl (k.ps.length - 1) z2 z3 z4 z5 z6 .un (by omega)
  have one : ∀ (ps : List Pd) (fw : List (Int × Int)), ps.length = fw.length → ps.length ≠ 0 → fw.take (ps.length - 1) ++ bwd (ps.drop (ps.length - 1)) (fw.drop (ps.length - 1)) = fw := fun ps fw h1 h2 => by
    have l1 : (ps.drop (ps.length - 1)).length = 1 := by rw [List.length_drop]; omega
    obtain ⟨p, hp⟩ := List.length_eq_one_iff.mp l1
    rw [hp]
    have : bwd [p] (fw.drop (ps.length - 1)) = fw.drop (ps.length - 1) := rfl
    rw [this, List.take_append_drop]
  rw [one _ _ fl.symm hne] at e2
  have rg : fRngDn (f2 D.sub (fLenO 1) (fK (.int 2))) [.dat (bD k), .own ((fwd k.b k.b k.ps).map sD), z2, z3, z4, z5, z6, .un] = some (rangeD (((k.ps.length - 1 : Nat) : Int) - 1) (-1) (k.ps.length - 1)) := by
    have a1 : f2 D.sub (fLenO 1) (fK (.int 2)) [.dat (bD k), .own ((fwd k.b k.b k.ps).map sD), z2, z3, z4, z5, z6, .un] = some (.int (((k.ps.length - 1 : Nat) : Int) - 1)) := by
      refine f2_e (x := .int k.ps.length) (y := .int 2) ?_ rfl ?_
      · show some (D.int (((fwd k.b k.b k.ps).map sD).length : Int)) = _
        rw [List.length_map, fl]
      · simp only [D.sub]
        congr 2
        omega
    have p : (4611686018427387904 : Int) = 2 ^ 62 := by decide
    have ir : inR (((k.ps.length - 1 : Nat) : Int) - 1) = true := by
      unfold inR
      rw [← p, decide_eq_true_iff]
      omega
    unfold fRngDn
    rw [a1, Option.bind_some]
    simp only [ir, if_true]
    congr 2
    omega
  exact runD_rt rfl ((sSeq_nx (ρ' := [.dat (bD k), .own [], .dat (.int k.b), .dat (.int k.b), .un, .un, .un, .un]) rfl).trans ((sSeq_nx (sFor_e (ds := k.ps.map pD) (fItems_e (f2_e (z := .tup (k.ps.map pD)) rfl rfl rfl) rfl) e)).trans ((sSeq_nx (sFor_e rg e2)).trans ((sSeq_nx (sFrz_e rfl)).trans (sRet_e rfl)))))
end FD
end

section
set_option Elab.async false
set_option linter.all false
set_option maxRecDepth 100000
set_option maxHeartbeats 1000000
/-! W1: what is drawn. -/
namespace FD
open MM PySem L2
section
variable {ρ : Rho} {c : Nat} {P : D → Nat → Prop} {Po : Out → Nat → Prop} {Pl : List D → Nat → Prop} {i j : Nat} {m a b : FWE} {r : FWL} {f g : FWS} {fe : FE} {fl : FL} {ft : FT} {fs : FS} {dk : Addr} {d : D} {gg : FG}
theorem w_next {n : Int} (h : ρ[i]? = some (.ad dk)) (e : fe ρ = some (.int n)) (h0 : 0 < n) (h1 : n < 1073741824) (hc : c < 1000000) (q : ∀ r : Int, 0 ≤ r → r < n → P (.int r) (c + 1)) : (mCall Psinext dk i (mCons (mPure fe) mNil)).run ρ c P := ⟨h, _, e, n, rfl, h0, h1, hc, q⟩
theorem w_pur (e : fe ρ = some d) (q : P d c) : (mPure fe).run ρ c P := ⟨d, e, q⟩
theorem w_opp {g : D → D → Option D} (h : a.run ρ c fun x c1 => b.run ρ c1 fun y c2 => ∃ z, g x y = some z ∧ P z c2) : (mOp g a b).run ρ c P := h
theorem w_tupp (h : r.run ρ c fun ds c' => ds.length ≤ 100000 ∧ P (.tup ds) c') : (mTup r).run ρ c P := h
theorem w_lstt (h : r.run ρ c fun ds c' => ds.length ≤ 100000 ∧ P (.lst ds) c') : (mLst r).run ρ c P := h
theorem w_cons (h : a.run ρ c fun x c1 => r.run ρ c1 fun xs c2 => Pl (x :: xs) c2) : (mCons a r).run ρ c Pl := h
theorem w_nil (h : Pl [] c) : mNil.run ρ c Pl := h
theorem w_callc {Psi : FWD} (h : ρ[i]? = some (.ad dk)) (e : r.run ρ c fun ds c' => Psi.run dk ds c' P) : (mCall Psi dk i r).run ρ c P := ⟨h, e⟩
theorem w_sset (h : m.run ρ c fun d c' => g.run (ρ.set i (.dat d)) c' Po) : (mSeq (mSet i m) g).run ρ c Po := h
theorem w_set' (h : m.run ρ c fun d c' => Po (.nx (ρ.set i (.dat d))) c') : (mSet i m).run ρ c Po := h
theorem w_ret' (h : m.run ρ c fun d c' => Po (.rt d) c') : (mRet m).run ρ c Po := h
theorem w_sS {ρ' : Rho} (e : fs ρ = some (.nx ρ')) (h : g.run ρ' c Po) : (mSeq (mS fs) g).run ρ c Po := ⟨_, e, h⟩
theorem w_S {o : Out} (e : fs ρ = some o) (h : Po o c) : (mS fs).run ρ c Po := ⟨_, e, h⟩
theorem w_spar2 (h : a.run ρ c fun x c1 => b.run ρ c1 fun y c2 => g.run ((ρ.set i (.dat x)).set j (.dat y)) c2 Po) : (mSeq (mPar2 i j a b) g).run ρ c Po := h
theorem w_sparN2 {xs : List D} (e : fl ρ = some xs) (h : b.run ρ c fun y c2 => g.run ((ρ.set i (.own xs)).set j (.dat y)) c2 Po) : (mSeq (mParN2 i j fl b) g).run ρ c Po := ⟨xs, e, h⟩
theorem w_spar2N {ys : List D} (h : a.run ρ c fun x c1 => fl ρ = some ys ∧ g.run ((ρ.set i (.dat x)).set j (.own ys)) c1 Po) : (mSeq (mPar2N i j a fl) g).run ρ c Po := a.mono h fun x c1 h => ⟨ys, h.1, h.2⟩
theorem w_sapp {ds : List D} (h0 : ρ[i]? = some (.own ds)) (hz : ds.length < 100000) (h : m.run ρ c fun y c' => g.run (ρ.set i (.own (ds ++ [y]))) c' Po) : (mSeq (mApp i m) g).run ρ c Po := ⟨ds, h0, hz, h⟩
theorem w_ssif {x : Bool} (e : ft ρ = some x) (h : if x = true then f.run ρ c (fun o c' => ∃ ρ', o = .nx ρ' ∧ g.run ρ' c' Po) else g.run ρ c Po) : (mSeq (mSIf ft f mNilS) g).run ρ c Po := by
  refine ⟨x, e, ?_⟩
  cases x
  · exact h
  · refine f.mono h ?_
    rintro o c' ⟨ρ', rfl, h⟩
    exact h
theorem w_sfor {it : FWL} {body : FWS} (h : it.run ρ c fun ds c1 => (forWL gg body mNilS ds).run ρ c1 fun o c' => ∃ ρ', o = .nx ρ' ∧ g.run ρ' c' Po) : (mSeq (mFor it gg body mNilS) g).run ρ c Po := by
  refine it.mono h fun ds c1 h => (forWL gg body mNilS ds).mono h ?_
  rintro o c' ⟨ρ', rfl, h⟩
  exact h
theorem w_rng {m : FWE} (h : m.run ρ c fun d c' => ∃ n : Nat, d = .int n ∧ n < 1000 ∧ Pl ((List.range n).map fun i : Nat => .int (i : Int)) c') : (mRng1 m).run ρ c Pl := by
  refine m.mono h ?_
  rintro d c' ⟨n, rfl, hn, h⟩
  refine ⟨n, rfl, inR_of (by omega) (by omega), ?_⟩
  rw [Int.toNat_natCast, range_nat]
  exact h
theorem w_itp {it : FL} {ds : List D} (e : it ρ = some ds) (h : Pl ds c) : (mItP it).run ρ c Pl := ⟨ds, e, h⟩
end
/-- a loop with what holds before the m-th turn -/
theorem w_loop {α : Type} {gg : FG} {body : FWS} (e : α → D) (Inv : Nat → Rho → Nat → Prop) {Po : Out → Nat → Prop} : ∀ (xs : List α) (m : Nat) (ρ : Rho) (c : Nat), Inv m ρ c → (∀ a ∈ xs, ∀ m' ρ c, m ≤ m' → m' < m + xs.length → Inv m' ρ c → ∃ ρ1, gg (e a) ρ = some ρ1 ∧ body.run ρ1 c fun o c' => ∃ ρ2, o = .nx ρ2 ∧ Inv (m' + 1) ρ2 c') → (∀ ρ c, Inv (m + xs.length) ρ c → Po (.nx ρ) c) → (forWL gg body mNilS (xs.map e)).run ρ c Po
  | [], m, ρ, c, h0, _, hq => hq ρ c h0
  | a :: r, m, ρ, c, h0, hs, hq => by
    obtain ⟨ρ1, e1, h1⟩ := hs a List.mem_cons_self m ρ c (Nat.le_refl _) (by simp) h0
    refine ⟨ρ1, e1, body.mono h1 ?_⟩
    rintro o c' ⟨ρ2, rfl, h2⟩
    refine w_loop e Inv r (m + 1) ρ2 c' h2 (fun x hx m' ρ c a1 a2 => hs x (List.mem_cons_of_mem _ hx) m' ρ c (by omega) (by simp only [List.length_cons]; omega)) fun ρ c h => hq ρ c ?_
    have : m + (a :: r).length = m + 1 + r.length := by simp only [List.length_cons]; omega
    rw [this]
    exact h
/-! ### steps -/
structure StOk (s : List (Int × Int)) : Prop where
  pos : SPos s
  asc : Asc s
  pb : PB 12 s
  len : s.length ≤ 3
  tot : tot s ≤ 6
theorem st_tot : ∀ {s : List (Int × Int)}, (∀ a ∈ s, a.1 ≤ 2) → tot s ≤ 2 * s.length
  | [], _ => by simp [MM.tot]
  | a :: r, h => by
    have h1 := h a List.mem_cons_self
    have h2 := st_tot (s := r) fun b hb => h b (List.mem_cons_of_mem _ hb)
    obtain ⟨n, p⟩ := a
    simp only [MM.tot, List.length_cons] at h1 ⊢
    omega
theorem law_steps_w (dk : Addr) (g : Int) (h0 : 1 ≤ g) (h1 : g ≤ 2) (c : Nat) (hc : c < 900000) (P : D → Nat → Prop) (q : ∀ s c', StOk s → c' ≤ c + 8 → P (.tup (s.map sD)) c') : Psi__law_steps.run dk [.int g, .int 3] c P := by
  refine ⟨rfl, w_sparN2 (xs := []) rfl (w_opp (w_next rfl rfl (n := 13) (by decide) (by decide) (by omega) fun r r0 r1 => w_pur rfl ⟨.int (r - 8), rfl, ?_⟩))⟩
  refine w_sfor (w_rng (w_next rfl rfl (n := 4) (by decide) (by decide) (by omega) fun n n0 n1 => ?_))
  refine ⟨n.toNat, by rw [Int.toNat_of_nonneg n0], by omega, ?_⟩
  refine w_loop (fun i : Nat => .int (i : Int)) (fun m ρ c' => c' ≤ c + 2 + 2 * m ∧ ∃ (s : List (Int × Int)) (p : Int) (y : Sl), ρ = [.ad dk, .dat (.int g), .dat (.int 3), .own (s.map sD), .dat (.int p), y] ∧ s.length = m ∧ -8 ≤ p ∧ p ≤ 4 + 4 * m ∧ (∀ a ∈ s, 0 < a.1 ∧ a.1 ≤ 2 ∧ -8 ≤ a.2 ∧ a.2 ≤ 4 * m ∧ a.2 < p) ∧ Asc s) _ 0 _ _ ⟨by omega, [], r - 8, .un, rfl, rfl, by omega, by omega, fun a h => (by cases h), List.Pairwise.nil⟩ ?_ ?_
  · rintro k hk m ρ c1 hm0 hm1 ⟨hc1, s, p, y, rfl, hl, p0, p1, hs, ha⟩
    rw [List.length_range] at hm1
    refine ⟨_, rfl, w_sapp rfl (by rw [List.length_map]; omega) (w_tupp (w_cons (w_opp (w_pur rfl (w_next rfl rfl (n := g) (by omega) (by omega) (by omega) fun t t0 t1 => ⟨.int (1 + t), rfl, w_cons (w_pur rfl (w_nil ⟨show 2 ≤ 100000 by decide, w_set' (w_opp (w_pur (d := .int (p + 1)) rfl (w_next rfl rfl (n := 4) (by decide) (by decide) (by omega) fun u u0 u1 => ⟨.int (p + 1 + u), rfl, ?_⟩)))⟩))⟩)))))⟩
    refine ⟨_, rfl, by omega, s ++ [(1 + t, p)], p + 1 + u, .dat (.int (k : Int)), ?_, by simp [hl], by omega, by omega, fun a ha' => ?_, ?_⟩
    · rw [List.map_append]
      rfl
    · rcases List.mem_append.mp ha' with h | h
      · have := hs a h
        omega
      · rw [List.mem_singleton.mp h]
        refine ⟨?_, ?_, ?_, ?_, ?_⟩ <;> simp only <;> omega
    · refine List.pairwise_append.mpr ⟨ha, List.pairwise_singleton _ _, fun a h b hb => ?_⟩
      rw [List.mem_singleton.mp hb]
      have := hs a h
      show a.2 ≤ p
      omega
  · rintro ρ c1 ⟨hc1, s, p, y, rfl, hl, p0, p1, hs, ha⟩
    rw [List.length_range] at hl hc1 hs
    have ht := st_tot (s := s) fun a h => (hs a h).2.1
    refine ⟨_, rfl, w_S ((sSeq_nx (sFrz_e rfl)).trans (sRet_e (fCall_e (fCons_e rfl fNil_e) rfl))) (q s c1 ⟨fun a h => (hs a h).1, ha, fun a h => ?_, by omega, by omega⟩ (by omega))⟩
    have := hs a h
    omega
end FD
end

section
set_option Elab.async false
set_option linter.all false
set_option maxRecDepth 100000
set_option maxHeartbeats 1000000
/-! W2: curves and books drawn. -/
namespace FD
open MM PySem L2
theorem mul2 (g : Int) : D.mul (.int 2) (.int g) = some (.int (2 * g)) := by
  have : small 2 = true := by
    unfold small
    rw [decide_eq_true_iff]
    omega
  simp [D.mul, this]
structure CvOk (cv : Cv) : Prop where
  st : StOk cv.st
  cost : -20 ≤ cv.cost ∧ cv.cost ≤ 20
theorem CvOk.fine {cv : Cv} (h : CvOk cv) (hl : -1000 ≤ cv.low ∧ cv.low ≤ 1000) : cv.Fine :=
  ⟨⟨h.st.pos, h.st.asc⟩, h.st.len, h.st.pb, by omega, by have := h.cost; omega, by have := h.st.tot; omega⟩
theorem law_data_w (dk : Addr) (g : Int) (h0 : 1 ≤ g) (h1 : g ≤ 2) (c : Nat) (hc : c < 800000) (P : D → Nat → Prop) (q : ∀ cv c', CvOk cv → -2 ≤ cv.low → cv.low ≤ 2 → c' ≤ c + 10 → P (cD cv) c') : Psi__law_data.run dk [.int g, .int 3] c P := by
  refine ⟨rfl, w_sset (w_callc rfl (w_cons (w_pur (d := .int g) rfl (w_cons (w_pur (d := .int 3) rfl (w_nil (law_steps_w dk g h0 h1 c (by omega) _ fun s c1 hs hc1 => ?_)))))))⟩
  refine w_ret' (w_tupp (w_cons (w_opp (w_next (n := 2 * g + 1) rfl (f2_e (f2_e rfl rfl (mul2 g)) rfl rfl) (by omega) (by omega) (by omega) fun r r0 r1 => w_pur (d := .int g) rfl ⟨.int (r - g), rfl, w_cons (w_opp (w_next (n := 41) rfl rfl (by decide) (by decide) (by omega) fun t t0 t1 => w_pur (d := .int 20) rfl ⟨.int (t - 20), rfl, w_cons (w_pur (d := .tup (s.map sD)) rfl (w_nil ⟨show 3 ≤ 100000 by decide, ?_⟩))⟩))⟩))))
  exact q ⟨r - g, t - 20, s⟩ _ ⟨hs, by constructor <;> simp only <;> omega⟩ (by simp only; omega) (by simp only; omega) (by omega)
theorem law_around_w (dk : Addr) (g stock : Int) (h0 : 1 ≤ g) (h1 : g ≤ 2) (c : Nat) (hc : c < 800000) (P : D → Nat → Prop) (q : ∀ cv c', CvOk cv → cv.low ≤ stock → stock ≤ cv.last → stock - 6 ≤ cv.low → c' ≤ c + 10 → P (cD cv) c') : Psi__law_around.run dk [.int g, .int stock, .int 1] c P := by
  refine ⟨rfl, w_sset (w_callc rfl (w_cons (w_pur (d := .int g) rfl (w_cons (w_pur (d := .int 3) rfl (w_nil (law_steps_w dk g h0 h1 c (by omega) _ fun s c1 hs hc1 => ?_)))))))⟩
  have tn := tot_nn hs.pos.pos
  have tt := hs.tot
  have sl := hs.len
  refine w_sS (sSet_e (d := .int (tot s)) (fCall_e (fCons_e rfl fNil_e) (law_units_e s (by omega)))) (w_sset (w_opp (w_pur (d := .int stock) rfl (w_next (n := tot s + 1) rfl (f2_e rfl rfl rfl) (by omega) (by omega) (by omega) fun r r0 r1 => ⟨.int (stock - r), rfl, ?_⟩))))
  refine w_ssif (x := false) rfl ?_
  refine w_ret' (w_tupp (w_cons (w_pur (d := .int (stock - r)) rfl (w_cons (w_opp (w_next (n := 21) rfl rfl (by decide) (by decide) (by omega) fun t t0 t1 => w_pur (d := .int 10) rfl ⟨.int (t - 10), rfl, w_cons (w_pur (d := .tup (s.map sD)) rfl (w_nil ⟨show 3 ≤ 100000 by decide, ?_⟩))⟩))))))
  exact q ⟨stock - r, t - 10, s⟩ _ ⟨hs, by constructor <;> simp only <;> omega⟩ (by simp only; omega) (by simp only [Cv.last]; omega) (by simp only; omega) (by omega)
/-! ### books -/
def endS : Int → List Pd → List Int → Int
  | s, p :: ps, u :: us => endS (s + u - p.want) ps us
  | s, _, _ => s
theorem fits_snoc : ∀ {ps : List Pd} {us : List Int} {s : Int} {p : Pd} {u : Int}, Fits s ps us → p.buy.low ≤ u → u ≤ p.buy.last → p.keep.low ≤ endS s ps us + u - p.want → endS s ps us + u - p.want ≤ p.keep.last → Fits s (ps ++ [p]) (us ++ [u]) ∧ endS s (ps ++ [p]) (us ++ [u]) = endS s ps us + u - p.want
  | [], [], s, p, u, _, h1, h2, h3, h4 => ⟨⟨h1, h2, h3, h4, trivial⟩, rfl⟩
  | [], _ :: _, _, _, _, h, _, _, _, _ => h.elim
  | _ :: _, [], _, _, _, h, _, _, _, _ => h.elim
  | q :: ps, v :: us, s, p, u, ⟨a1, a2, a3, a4, a5⟩, h1, h2, h3, h4 => by
    obtain ⟨i1, i2⟩ := fits_snoc (s := s + v - q.want) a5 h1 h2 h3 h4
    exact ⟨⟨a1, a2, a3, a4, i1⟩, i2⟩
theorem law_book_w (dk : Addr) (g : Int) (h0 : 1 ≤ g) (h1 : g ≤ 2) (c : Nat) (hc : c < 700000) (P : D → Nat → Prop) (q : ∀ k us c', k.Fine → Fits k.b k.ps us → (∀ p ∈ k.ps, CvOk p.buy ∧ CvOk p.keep) → c' ≤ c + 200 → P (bD k) c') : Psi__law_book.run dk [.int g, .int 4, .bl true] c P := by
  have dv : ∃ v, D.fdiv (.int g) (.int 2) = some (.int v) ∧ 0 ≤ v ∧ v ≤ 1 := by
    have : g = 1 ∨ g = 2 := by omega
    rcases this with rfl | rfl
    · exact ⟨0, rfl, by decide, by decide⟩
    · exact ⟨1, rfl, by decide, by decide⟩
  obtain ⟨v, ev, v0, v1⟩ := dv
  refine ⟨rfl, w_spar2N (ys := []) (w_opp (w_next (n := 2 * g + 1) rfl (f2_e (f2_e rfl rfl (mul2 g)) rfl rfl) (by omega) (by omega) (by omega) fun r r0 r1 => w_pur (d := .int g) rfl ⟨.int (r - g), rfl, rfl, ?_⟩))⟩
  refine w_sS (sSet_e (d := .int (r - g)) rfl) (w_sfor (w_rng (w_opp (w_pur (d := .int 1) rfl (w_next (n := 4) rfl rfl (by decide) (by decide) (by omega) fun n n0 n1 => ⟨.int (1 + n), rfl, (1 + n).toNat, by rw [Int.toNat_of_nonneg (by omega)], by omega, ?_⟩)))))
  refine w_loop (fun i : Nat => .int (i : Int)) (fun m ρ c' => c' ≤ c + 2 + 40 * m ∧ ∃ (ps : List Pd) (us : List Int) (y7 y8 y9 y10 : Sl), ρ = [.ad dk, .dat (.int g), .dat (.int 4), .dat (.bl true), .dat (.int (r - g)), .own (ps.map pD), .dat (.int (endS (r - g) ps us)), y7, y8, y9, y10] ∧ ps.length = m ∧ Fits (r - g) ps us ∧ (-2 - 20 * (m : Int) ≤ endS (r - g) ps us ∧ endS (r - g) ps us ≤ 2 + 20 * m) ∧ ∀ p ∈ ps, p.Fine ∧ CvOk p.buy ∧ CvOk p.keep) _ 0 _ _ ⟨by omega, [], [], .un, .un, .un, .un, rfl, rfl, trivial, by simp only [endS]; omega, fun p h => (by cases h)⟩ ?_ ?_
  · rintro i hi m ρ c1 hm0 hm1 ⟨hc1, ps, us, y7, y8, y9, y10, rfl, hl, hf, ⟨e0, e1⟩, hp⟩
    rw [List.length_range] at hm1
    refine ⟨_, rfl, w_spar2 (w_callc rfl (w_cons (w_pur (d := .int g) rfl (w_cons (w_pur (d := .int 3) rfl (w_nil (law_data_w dk g h0 h1 c1 (by omega) _ fun cv c2 hcv l0 l1 hc2 => ?_)))))))⟩
    refine w_opp (w_next (n := 2 * g + 2) rfl (f2_e (f2_e rfl rfl (mul2 g)) rfl rfl) (by omega) (by omega) (by omega) fun w w0 w1 => w_pur (d := .int v) (f2_e rfl rfl ev) ⟨.int (w - v), rfl, ?_⟩)
    have tn := tot_nn hcv.st.pos.pos
    have tt := hcv.st.tot
    have sl := hcv.st.len
    refine w_sset (w_opp (w_opp (w_pur (d := .int (endS (r - g) ps us + cv.low)) (f2_e (y := .int cv.low) rfl (f2_e rfl rfl rfl) rfl) (w_next (n := tot cv.st + 1) rfl (f2_e (x := .int (tot cv.st)) (fCall_e (fCons_e (f2_e (z := .tup (cv.st.map sD)) rfl rfl rfl) fNil_e) (law_units_e cv.st (by omega))) rfl rfl) (by omega) (by omega) (by omega) fun t t0 t1 => ⟨.int (endS (r - g) ps us + cv.low + t), rfl, w_pur (d := .int (w - v)) rfl ⟨.int (endS (r - g) ps us + cv.low + t - (w - v)), rfl, ?_⟩⟩))))
    refine w_sset (w_callc rfl (w_cons (w_pur (d := .int g) rfl (w_cons (w_pur (d := .int (endS (r - g) ps us + cv.low + t - (w - v))) rfl (w_cons ⟨true, rfl, w_pur (d := .int 1) rfl (w_nil (law_around_w dk g _ h0 h1 _ (by omega) _ fun kp c3 hkp k0 k1 k2 hc3 => ?_))⟩))))))
    have sn := fits_snoc (p := ⟨cv, w - v, kp⟩) (u := cv.low + t) hf (by simp only; omega) (by simp only [Cv.last]; omega) (by simp only; omega) (by simp only; omega)
    refine w_S (sApp_e rfl (fTup_e (ds := [cD cv, .int (w - v), cD kp]) rfl (show 3 ≤ 100000 by decide)) (by rw [List.length_map]; omega)) ⟨_, rfl, by omega, ps ++ [⟨cv, w - v, kp⟩], us ++ [cv.low + t], .dat (.int (i : Int)), .dat (cD cv), .dat (.int (w - v)), .dat (cD kp), ?_, by simp [hl], sn.1, ?_, fun p hp' => ?_⟩
    · rw [sn.2]
      simp only
      rw [show endS (r - g) ps us + (cv.low + t) - (w - v) = endS (r - g) ps us + cv.low + t - (w - v) by omega, List.map_append]
      rfl
    · rw [sn.2]
      simp only
      omega
    · rcases List.mem_append.mp hp' with h | h
      · exact hp p h
      · rw [List.mem_singleton.mp h]
        exact ⟨⟨hcv.fine (by omega), hkp.fine (by omega), by simp only; omega⟩, hcv, hkp⟩
  · rintro ρ c1 ⟨hc1, ps, us, y7, y8, y9, y10, rfl, hl, hf, _, hp⟩
    rw [List.length_range] at hl hc1
    refine ⟨_, rfl, w_S (o := .rt (bD ⟨r - g, ps⟩)) ((sSeq_nx (sFrz_e rfl)).trans (sRet_e (fTup_e (fCons_e rfl (fCons_e (fCall_e (fCons_e rfl fNil_e) rfl) fNil_e)) (show 2 ≤ 100000 by decide)))) (q ⟨r - g, ps⟩ us c1 ⟨fun p h => (hp p h).1, ?_, by simp only; omega, by simp only; omega⟩ hf (fun p h => (hp p h).2) (by omega))⟩
    intro e
    simp only at e
    rw [e] at hl
    simp at hl
    omega
end FD
end

section
set_option Elab.async false
set_option linter.all false
set_option maxRecDepth 100000
set_option maxHeartbeats 1000000
/-! W3: plans drawn. -/
namespace FD
open MM PySem L2
theorem law_one_w (dk : Addr) (xs : List D) (h0 : 0 < xs.length) (h1 : xs.length < 10000) (c : Nat) (hc : c < 1000000) (P : D → Nat → Prop) (q : ∀ z ∈ xs, P z (c + 1)) : Psi__law_one.run dk [.lst xs] c P := by
  refine ⟨rfl, w_ret' (w_opp (w_pur (d := .lst xs) rfl (w_next (n := xs.length) rfl (fCall_e (fCons_e rfl fNil_e) rfl) (by omega) (by omega) hc fun r r0 r1 => ?_)))⟩
  have hr : r.toNat < xs.length := by omega
  refine ⟨xs[r.toNat], ?_, q _ (List.getElem_mem hr)⟩
  show atI xs r = _
  have := atI_nat xs r.toNat hr
  rw [Int.toNat_of_nonneg r0] at this
  rw [this, List.getElem?_eq_getElem hr]
theorem pick3 (d r t : Int) (hd : 0 ≤ d) (r0 : 0 ≤ r) (r1 : r ≤ d) (t0 : 0 ≤ t) (t1 : t < 3) : ∃ z, D.ix (.lst [.int 0, .int d, .int r]) (.int t) = some (.int z) ∧ 0 ≤ z ∧ z ≤ d := by
  have : t = 0 ∨ t = 1 ∨ t = 2 := by omega
  rcases this with rfl | rfl | rfl
  · exact ⟨0, rfl, Int.le_refl _, hd⟩
  · exact ⟨d, rfl, hd, Int.le_refl _⟩
  · exact ⟨r, rfl, r0, r1⟩
abbrev planBody (dk : Addr) : FWS := (mSeq (mS (sPar2 9 10 (fCall (g2 D.max2) (fCons (f2 D.ix (fVar 6) (fK (.int 0))) (fCons (f2 D.sub (f2 D.add (f2 D.ix (f2 D.ix (fVar 2) (fVar 5)) (fK (.int 0))) (fVar 7)) (fVar 4)) fNil))) (fCall (g2 D.min2) (fCons (fCall Phi__law_last (fCons (fVar 6) fNil)) (fCons (f2 D.sub (f2 D.add (f2 D.ix (f2 D.ix (fVar 2) (fVar 5)) (fK (.int 1))) (fVar 7)) (fVar 4)) fNil)))))
  (mSeq (mApp 3 (mOp D.add (mPure (fVar 9)) (mOp D.ix (mLst (mCons (mPure (fK (.int 0))) (mCons (mPure (f2 D.sub (fVar 10) (fVar 9))) (mCons (mCall Psinext dk 0 (mCons (mPure (f2 D.add (f2 D.sub (fVar 10) (fVar 9)) (fK (.int 1)))) mNil)) mNil)))) (mCall Psinext dk 0 (mCons (mPure (fK (.int 3))) mNil)))))
  (mS (sSet 4 (f2 D.sub (f2 D.add (fVar 4) (fIxO 3 (f1 D.neg (fK (.int 1))))) (fVar 7))))))
theorem plan_loop (dk : Addr) (bk : D) (Full : List (Int × Int)) {Po : Out → Nat → Prop} : ∀ (ps : List Pd) (R : List (Int × Int)) (lo hi : Int) (k : Nat) (stock : Int) (pre : List Int) (y5 y6 y7 y8 y9 y10 : Sl) (c : Nat), SpanOk lo hi ps R → lo ≤ stock → stock ≤ hi → Full.drop k = R → (∀ p ∈ ps, CvOk p.buy ∧ CvOk p.keep) → pre.length + ps.length < 90000 → c + 2 * ps.length < 900000 →
    (∀ us c' s' z5 z6 z7 z8 z9 z10, Fits stock ps us → c' ≤ c + 2 * ps.length → Po (.nx [.ad dk, .dat bk, .dat (.lst (Full.map sD)), .own ((pre ++ us).map .int), .dat (.int s'), z5, z6, z7, z8, z9, z10]) c') →
    (forWL (gT (gC (gN 5) (gC (gT (gC (gN 6) (gC (gN 7) (gC (gN 8) gE)))) gE))) (planBody dk) mNilS (enumD k (ps.map pD))).run [.ad dk, .dat bk, .dat (.lst (Full.map sD)), .own (pre.map .int), .dat (.int stock), y5, y6, y7, y8, y9, y10] c Po
  | [], R, lo, hi, k, stock, pre, y5, y6, y7, y8, y9, y10, c, _, _, _, _, _, _, _, q => by
    have := q [] c stock y5 y6 y7 y8 y9 y10 trivial (by simp)
    rw [List.append_nil] at this
    exact this
  | p :: ps, [], lo, hi, k, stock, pre, y5, y6, y7, y8, y9, y10, c, h, _, _, _, _, _, _, _ => h.elim
  | p :: ps, a :: R, lo, hi, k, stock, pre, y5, y6, y7, y8, y9, y10, c, h, s0, s1, hd, hp, hz, hc, q => by
    obtain ⟨a1, a2, a3, a4, a5, a6⟩ := h
    obtain ⟨cb, ck⟩ := hp p List.mem_cons_self
    have tn := tot_nn cb.st.pos.pos
    have tt := cb.st.tot
    have sl := cb.st.len
    simp only [List.length_cons] at hz hc q
    have hk : Full[k]? = some a := by
      have : (Full.drop k)[0]? = some a := by rw [hd]; rfl
      rw [List.getElem?_drop] at this
      exact this
    have hk' : Full.drop (k + 1) = R := by
      have : (Full.drop k).drop 1 = R := by rw [hd]; rfl
      rw [List.drop_drop] at this
      exact this
    have ixk : ∀ ρ : Rho, ρ[2]? = some (.dat (.lst (Full.map sD))) → ρ[5]? = some (.dat (.int (k : Int))) → f2 D.ix (fVar 2) (fVar 5) ρ = some (sD a) := fun ρ h2 h5 => by
      refine f2_e (fVar_e h2) (fVar_e h5) ?_
      have kl : k < Full.length := (List.getElem?_eq_some_iff.mp hk).1
      show atI (Full.map sD) (k : Int) = _
      rw [atI_nat _ _ (by simpa using kl), List.getElem?_map, hk]
      rfl
    have cl : p.buy.last = p.buy.low + tot p.buy.st := rfl
    have least_le : max p.buy.low (a.1 + p.want - stock) ≤ min p.buy.last (a.2 + p.want - stock) := by omega
    refine ⟨[.ad dk, .dat bk, .dat (.lst (Full.map sD)), .own (pre.map .int), .dat (.int stock), .dat (.int (k : Int)), .dat (cD p.buy), .dat (.int p.want), .dat (cD p.keep), y9, y10], rfl, ?_⟩
    have par : sPar2 9 10 (fCall (g2 D.max2) (fCons (f2 D.ix (fVar 6) (fK (.int 0))) (fCons (f2 D.sub (f2 D.add (f2 D.ix (f2 D.ix (fVar 2) (fVar 5)) (fK (.int 0))) (fVar 7)) (fVar 4)) fNil))) (fCall (g2 D.min2) (fCons (fCall Phi__law_last (fCons (fVar 6) fNil)) (fCons (f2 D.sub (f2 D.add (f2 D.ix (f2 D.ix (fVar 2) (fVar 5)) (fK (.int 1))) (fVar 7)) (fVar 4)) fNil))) [.ad dk, .dat bk, .dat (.lst (Full.map sD)), .own (pre.map .int), .dat (.int stock), .dat (.int (k : Int)), .dat (cD p.buy), .dat (.int p.want), .dat (cD p.keep), y9, y10] =
        some (.nx [.ad dk, .dat bk, .dat (.lst (Full.map sD)), .own (pre.map .int), .dat (.int stock), .dat (.int (k : Int)), .dat (cD p.buy), .dat (.int p.want), .dat (cD p.keep), .dat (.int (max p.buy.low (a.1 + p.want - stock))), .dat (.int (min p.buy.last (a.2 + p.want - stock)))]) := by
      have m1 : fCall (g2 D.max2) (fCons (f2 D.ix (fVar 6) (fK (.int 0))) (fCons (f2 D.sub (f2 D.add (f2 D.ix (f2 D.ix (fVar 2) (fVar 5)) (fK (.int 0))) (fVar 7)) (fVar 4)) fNil)) [.ad dk, .dat bk, .dat (.lst (Full.map sD)), .own (pre.map .int), .dat (.int stock), .dat (.int (k : Int)), .dat (cD p.buy), .dat (.int p.want), .dat (cD p.keep), y9, y10] = some (.int (max p.buy.low (a.1 + p.want - stock))) :=
        fCall_e (fCons_e (f2_e (z := .int p.buy.low) rfl rfl rfl) (fCons_e (f2_e (x := .int (a.1 + p.want)) (f2_e (x := .int a.1) (f2_e (ixk _ rfl rfl) rfl rfl) rfl rfl) rfl rfl) fNil_e)) (max2_e _ _)
      have m2 : fCall (g2 D.min2) (fCons (fCall Phi__law_last (fCons (fVar 6) fNil)) (fCons (f2 D.sub (f2 D.add (f2 D.ix (f2 D.ix (fVar 2) (fVar 5)) (fK (.int 1))) (fVar 7)) (fVar 4)) fNil)) [.ad dk, .dat bk, .dat (.lst (Full.map sD)), .own (pre.map .int), .dat (.int stock), .dat (.int (k : Int)), .dat (cD p.buy), .dat (.int p.want), .dat (cD p.keep), y9, y10] = some (.int (min p.buy.last (a.2 + p.want - stock))) :=
        fCall_e (fCons_e (fCall_e (fCons_e rfl fNil_e) (law_last_e _ (by omega))) (fCons_e (f2_e (x := .int (a.2 + p.want)) (f2_e (x := .int a.2) (f2_e (ixk _ rfl rfl) rfl rfl) rfl rfl) rfl rfl) fNil_e)) (min2_e _ _)
      unfold sPar2
      rw [m1, Option.bind_some, m2]
      rfl
    generalize hL : max p.buy.low (a.1 + p.want - stock) = L at par least_le
    generalize hM : min p.buy.last (a.2 + p.want - stock) = M at par least_le
    refine w_sS par (w_sapp rfl (by rw [List.length_map]; omega) (w_opp (w_pur (d := .int L) rfl (w_opp (w_lstt (w_cons (w_pur (d := .int 0) rfl (w_cons (w_pur (d := .int (M - L)) rfl (w_cons (w_next (n := M - L + 1) rfl rfl (by omega) (by omega) (by omega) fun r r0 r1 => w_nil ⟨show 3 ≤ 100000 by decide, w_next (n := 3) rfl rfl (by decide) (by decide) (by omega) fun t t0 t1 => ?_⟩)))))))))))
    obtain ⟨z, ez, z0, z1⟩ := pick3 (M - L) r t (by omega) r0 (by omega) t0 t1
    refine ⟨.int z, ez, .int (L + z), rfl, w_S (sSet_e (d := .int (stock + (L + z) - p.want)) (f2_e (x := .int (stock + (L + z))) (f2_e (y := .int (L + z)) rfl (fIxO_e rfl rfl (at_neg1 _ _)) rfl) rfl rfl)) ?_⟩
    have := plan_loop dk bk Full (Po := Po) ps R a.1 a.2 (k + 1) (stock + (L + z) - p.want) (pre ++ [L + z]) (.dat (.int (k : Int))) (.dat (cD p.buy)) (.dat (.int p.want)) (.dat (cD p.keep)) (.dat (.int L)) (.dat (.int M)) (c + 1 + 1) a6 (by omega) (by omega) hk' (fun x hx => hp x (List.mem_cons_of_mem _ hx)) (by simp; omega) (by omega) fun us c' s' z5 z6 z7 z8 z9 z10 hf hc' => by
      have := q ((L + z) :: us) c' s' z5 z6 z7 z8 z9 z10 ⟨by omega, by omega, by omega, by omega, hf⟩ (by omega)
      rw [List.append_assoc]
      exact this
    rw [List.map_append] at this
    exact this
end FD
end

section
set_option Elab.async false
set_option linter.all false
set_option maxRecDepth 100000
set_option maxHeartbeats 1000000
/-! W4: plans drawn, and wandered from. -/
namespace FD
open MM PySem L2
theorem law_some_plan_w (dk : Addr) {k : Book} (h : k.Fine) (hk : ∀ p ∈ k.ps, CvOk p.buy ∧ CvOk p.keep) {us : List Int} (hf : Fits k.b k.ps us) (c : Nat) (hc : c < 700000) (P : D → Nat → Prop) (q : ∀ vs c', Fits k.b k.ps vs → c' ≤ c + 8 → P (uD vs) c') : Psi__law_some_plan.run dk [bD k] c P := by
  have h4 := h.len
  have so := spans_ok hf h.ne
  have e0 : sPar3N 2 3 4 (fCall Phi__law_spans (fCons (fVar 1) fNil)) (fLst fNil) (f2 D.ix (fVar 1) (fK (.int 0))) [.ad dk, .dat (bD k), .un, .un, .un, .un, .un, .un, .un, .un, .un] = some (.nx [.ad dk, .dat (bD k), .dat (.lst ((bwd k.ps (fwd k.b k.b k.ps)).map sD)), .own [], .dat (.int k.b), .un, .un, .un, .un, .un, .un]) := by
    have m1 : fCall Phi__law_spans (fCons (fVar 1) fNil) [.ad dk, .dat (bD k), .un, .un, .un, .un, .un, .un, .un, .un, .un] = some (.lst ((bwd k.ps (fwd k.b k.b k.ps)).map sD)) := fCall_e (fCons_e rfl fNil_e) (law_spans_e h hf)
    unfold sPar3N
    rw [m1]
    rfl
  refine ⟨rfl, w_sS e0 (w_sfor (w_itp (ds := enumD 0 (k.ps.map pD)) rfl ?_))⟩
  refine plan_loop dk (bD k) (bwd k.ps (fwd k.b k.b k.ps)) k.ps _ k.b k.b 0 k.b [] .un .un .un .un .un .un c so (Int.le_refl _) (Int.le_refl _) rfl hk (by simp; omega) (by omega) fun vs c' s' z5 z6 z7 z8 z9 z10 hv hc' => ⟨_, rfl, w_S ((sSeq_nx (sFrz_e rfl)).trans (sRet_e (fCall_e (fCons_e rfl fNil_e) rfl))) (q vs c' hv (by omega))⟩
theorem lay_uD : ∀ vss : List (List Int), PyData.canLayAll0 (toPys (vss.map uD)) = true
  | [] => rfl
  | a :: r => by
    simp only [List.map_cons, uD, toPys, toPy, PyData.canLayAll0, PyData.canLay0, Bool.and_eq_true]
    exact ⟨lay_intD a, lay_uD r⟩
theorem law_wandered_w (dk : Addr) {k : Book} (h : k.Fine) {us : List Int} (hf : Fits k.b k.ps us) (c : Nat) (hc : c < 700000) (P : D → Nat → Prop) (q : ∀ vs c', Fits k.b k.ps vs → pcost k.b k.ps vs = pcost k.b k.ps us → c' ≤ c + 4 → P (uD vs) c') : Psi__law_wandered.run dk [bD k, uD us, .int 3] c P := by
  refine ⟨rfl, w_sfor (w_rng (w_next (n := 4) rfl rfl (by decide) (by decide) (by omega) fun n n0 n1 => ⟨n.toNat, by rw [Int.toNat_of_nonneg n0], by omega, ?_⟩))⟩
  refine w_loop (fun i : Nat => .int (i : Int)) (fun m ρ c' => c' ≤ c + 1 + m ∧ ∃ (vs : List Int) (y z : Sl), ρ = [.ad dk, .dat (bD k), .dat (uD vs), .dat (.int 3), y, z] ∧ Fits k.b k.ps vs ∧ pcost k.b k.ps vs = pcost k.b k.ps us) _ 0 _ _ ⟨by omega, us, .un, .un, rfl, hf, rfl⟩ ?_ ?_
  · rintro i hi m ρ c1 hm0 hm1 ⟨hc1, vs, y, z, rfl, hv, ev⟩
    rw [List.length_range] at hm1
    obtain ⟨vss, e1, e2, e3⟩ := law_equals_e h hv
    refine ⟨_, rfl, w_sS (sSet_e (fCall_e (fCons_e rfl (fCons_e rfl fNil_e)) e1)) ?_⟩
    refine ⟨!(vss.map uD).isEmpty, bVal_e (f2_e (x := .lst (vss.map uD)) (y := .lst []) rfl rfl ?_), ?_⟩
    · simp only [D.ne, D.eqq, lay_uD vss, if_true, Option.bind_some]
    · cases vss with
      | nil => exact ⟨_, rfl, by omega, vs, .dat (.int (i : Int)), .dat (.lst []), rfl, hv, ev⟩
      | cons a r =>
        refine w_set' (w_callc rfl (w_cons (w_pur (d := .lst ((a :: r).map uD)) rfl (w_nil (law_one_w dk ((a :: r).map uD) (by simp) (by rw [List.length_map]; omega) c1 (by omega) _ fun d hd => ?_)))))
        obtain ⟨ws, hw, rfl⟩ := List.mem_map.mp hd
        obtain ⟨f1, f2⟩ := e3 ws hw
        exact ⟨_, rfl, by omega, ws, .dat (.int (i : Int)), .dat (.lst ((a :: r).map uD)), rfl, f1, f2.trans ev⟩
  · rintro ρ c1 ⟨hc1, vs, y, z, rfl, hv, ev⟩
    rw [List.length_range] at hc1
    exact ⟨_, rfl, w_S (sRet_e rfl) (q vs c1 hv ev (by omega))⟩
end FD
end

section
set_option Elab.async false
set_option linter.all false
/-! M9: how great prices and costs can be. -/
namespace MM
structure EB (m : Int) (e : Ends) : Prop where
  lo : ∀ a, e.1 = some a → 0 - m ≤ a ∧ a ≤ m
  hi : ∀ a, e.2 = some a → 0 - m ≤ a ∧ a ≤ m
theorem EB.mono {m n : Int} {e : Ends} (h : EB m e) (hm : m ≤ n) : EB n e := ⟨fun a ha => by have := h.lo a ha; omega, fun a ha => by have := h.hi a ha; omega⟩
theorem ends_eb {c : Cv} {x : Int} (h : PB 12 c.st) : EB 12 (c.ends x) :=
  ⟨fun a ha => by
    obtain ⟨b, hb, e⟩ := lsl_mem ha
    have := h b hb
    omega, fun a ha => by
    obtain ⟨b, hb, e⟩ := pa_mem ha
    have := h b hb
    omega⟩
theorem cends_eb {m : Int} {e f : Ends} (he : EB m e) (hf : EB m f) : EB m (cends e f) :=
  ⟨fun a ha => by
    obtain ⟨h, _⟩ := omax_some ha
    rcases h with h | h
    · exact he.lo a h
    · exact hf.lo a h, fun a ha => by
    obtain ⟨h, _⟩ := omin_some ha
    rcases h with h | h
    · exact he.hi a h
    · exact hf.hi a h⟩
theorem wout_eb {m n : Int} {e f : Ends} (he : EB m e) (hf : EB n f) : EB (m + n) (wout e f) :=
  ⟨fun a ha => by
    obtain ⟨x, y, h1, h2, h3⟩ := osub_some ha
    have := he.lo x h1
    have := hf.hi y h2
    omega, fun a ha => by
    obtain ⟨x, y, h1, h2, h3⟩ := osub_some ha
    have := he.hi x h1
    have := hf.lo y h2
    omega⟩
theorem besd_eb {m q : Int} {e : Ends} (he : EB m e) (Q : Int) (h0 : 0 - Q ≤ q) (h1 : q ≤ Q) : EB (Q + m) (besd q e) :=
  ⟨fun a ha => by
    obtain ⟨x, h, e⟩ := besd_lo ha
    have := he.lo x h
    omega, fun a ha => by
    obtain ⟨x, h, e⟩ := besd_hi ha
    have := he.hi x h
    omega⟩
theorem cprice_b {m : Int} {e f : Ends} (m0 : 0 ≤ m) (he : EB m e) (hf : EB m f) : 0 - m ≤ cprice e f ∧ cprice e f ≤ m := by
  have hc := cends_eb he hf
  unfold cprice
  split
  · rename_i a ha
    exact hc.lo a ha
  · split
    · rename_i b hb
      exact hc.hi b hb
    · omega
theorem span_eb : ∀ {ps : List Pd} {us : List Int} {s : Int}, (∀ p ∈ ps, p.Fine) → EB (12 * ps.length) (span s ps us)
  | [], us, s, _ => ⟨fun a ha => by simp [span] at ha; subst ha; simp, fun a ha => by simp [span] at ha; subst ha; simp⟩
  | p :: ps, [], s, _ => by
    refine ⟨fun a ha => ?_, fun a ha => ?_⟩ <;> simp [span] at ha <;> subst ha <;> simp only [List.length_cons] <;> omega
  | p :: ps, u :: us, s, h => by
    have fp := h p List.mem_cons_self
    have ih := span_eb (ps := ps) (us := us) (s := s + u - p.want) fun q hq => h q (List.mem_cons_of_mem _ hq)
    have e : (12 * ((p :: ps).length : Int)) = 12 * ps.length + 12 := by
      simp only [List.length_cons]
      omega
    rw [e]
    exact cends_eb ((ends_eb fp.buy.pb).mono (by omega)) (wout_eb ih (ends_eb fp.keep.pb))
theorem prices_b : ∀ {ps : List Pd} {us : List Int} {s q Q : Int} {e : Ends}, (∀ p ∈ ps, p.Fine) → ps.length ≤ 4 → 0 - Q ≤ q → q ≤ Q → EB 12 e → ∀ a ∈ prices s ps us q e, 0 - (Q + 60 * ps.length) ≤ a ∧ a ≤ Q + 60 * ps.length
  | [], us, s, q, Q, e, _, _, _, _, _, a, ha => by simp [prices] at ha
  | p :: ps, [], s, q, Q, e, _, _, _, _, _, a, ha => by simp [prices] at ha
  | p :: ps, u :: us, s, q, Q, e, h, hl, h0, h1, he, a, ha => by
    have fp := h p List.mem_cons_self
    have sp := (span_eb (ps := p :: ps) (us := u :: us) (s := s) h)
    have b := cprice_b (m := Q + 60) (by omega) (sp.mono (by omega)) ((besd_eb he Q h0 h1).mono (by omega))
    simp only [prices, List.mem_cons] at ha
    simp only [List.length_cons] at hl ⊢
    rcases ha with ha | ha
    · rw [ha]
      omega
    · have := prices_b (Q := Q + 60) (fun q hq => h q (List.mem_cons_of_mem _ hq)) (by omega) b.1 b.2 (ends_eb fp.keep.pb) a ha
      omega
theorem grd_b : ∀ {s : List (Int × Int)} {l : Int}, Pos s → PB 12 s → 0 ≤ l → 0 - 12 * l ≤ grd s l ∧ grd s l ≤ 12 * l
  | [], l, _, _, h => by simp [grd]; omega
  | (n, p) :: r, l, hp, hb, h => by
    have hn : (0 : Int) ≤ n := hp (n, p) List.mem_cons_self
    have hq := hb (n, p) List.mem_cons_self
    simp only at hq
    have ih := grd_b (s := r) (l := l - min n l) (fun a ha => hp a (List.mem_cons_of_mem _ ha)) (fun a ha => hb a (List.mem_cons_of_mem _ ha)) (by omega)
    have k0 : 0 ≤ min n l := by omega
    simp only [grd]
    generalize min n l = k at *
    have c1 : p * k ≤ 12 * k := Int.mul_le_mul_of_nonneg_right hq.2 k0
    have c2 : (0 - 12) * k ≤ p * k := Int.mul_le_mul_of_nonneg_right hq.1 k0
    omega
/-- a curve's cost is small -/
structure Cv.Cheap (c : Cv) : Prop where
  pos : Pos c.st
  pb : PB 12 c.st
  tot : tot c.st ≤ 6
  cost : -20 ≤ c.cost ∧ c.cost ≤ 20
theorem Cv.Cheap.at_b {c : Cv} (h : c.Cheap) {x : Int} (h0 : c.low ≤ x) (h1 : x ≤ c.last) : -92 ≤ c.at x ∧ c.at x ≤ 92 := by
  have a := grd_b (l := x - c.low) h.pos h.pb (by omega)
  have := h.tot
  have := h.cost
  unfold Cv.last at h1
  unfold Cv.at
  omega
theorem pcost_b : ∀ {ps : List Pd} {us : List Int} {s : Int}, (∀ p ∈ ps, p.buy.Cheap ∧ p.keep.Cheap) → Fits s ps us → 0 - 184 * (ps.length : Int) ≤ pcost s ps us ∧ pcost s ps us ≤ 184 * ps.length
  | [], [], _, _, _ => by simp [pcost]
  | [], _ :: _, _, _, h => h.elim
  | _ :: _, [], _, _, h => h.elim
  | p :: ps, u :: us, s, hc, ⟨a1, a2, a3, a4, a5⟩ => by
    obtain ⟨c1, c2⟩ := hc p List.mem_cons_self
    have b1 := c1.at_b a1 a2
    have b2 := c2.at_b a3 a4
    have ih := pcost_b (fun q hq => hc q (List.mem_cons_of_mem _ hq)) a5
    simp only [pcost, List.length_cons]
    omega
end MM
end

section
set_option Elab.async false
set_option linter.all false
set_option maxRecDepth 100000
set_option maxHeartbeats 1000000
/-! W5: the law holds of data. -/
namespace FD
open MM PySem L2
abbrev wT : FT := bVal (f2 D.eq (fVar 6) (fK (.str "change")))
abbrev wB : FS := (sSeq (sSet 8 (fCall Phi_after_change (fCons (fVar 3) (fCons (fVar 4) (fCons (fVar 7) fNil)))))
  (sSeq (sIf (bOr (bNot (bVal (f2 D.lt (fCall Phi_cost_of (fCons (fVar 3) (fCons (fVar 8) fNil))) (fCall Phi_cost_of (fCons (fVar 3) (fCons (fVar 4) fNil)))))) (bVal (f2 D.le (fCall Phi_cost_of (fCons (fVar 3) (fCons (fVar 4) fNil))) (fVar 5))))
   (sRet (fK (.bl false)))
   sNil)
  (sSeq (sSet 4 (fVar 8))
  (sAsg (gT (gC (gN 6) (gC (gN 7) gE))) (fCall Phi_judge (fCons (fVar 3) (fCons (fVar 4) fNil)))))))
theorem while_step {t : FT} {f : FS} {n : Nat} {ρ ρ' : Rho} (h : t ρ = some true) (e : f ρ = some (.nx ρ')) : whileN t f (n + 1) ρ = whileN t f n ρ' := by
  simp only [whileN, h, Option.bind_some, if_true, e]
theorem while_stop {t : FT} {f : FS} {n : Nat} {ρ : Rho} (h : t ρ = some false) : whileN t f (n + 1) ρ = some (.nx ρ) := by
  simp only [whileN, h, Option.bind_some, if_neg Bool.false_ne_true]
theorem while_e {k : Book} (h : k.Fine) (hc : ∀ p ∈ k.ps, p.buy.Cheap ∧ p.keep.Cheap) {kk : Cv} (ch : Chain ⟨k.b, 0, []⟩ k.ps kk) (y0 y1 y2 : Sl) : ∀ (n : Nat) (us : List Int) (w d : D) (y8 : Sl), Fits k.b k.ps us → pcost k.b k.ps us + 1000 ≤ n → Phi_judge [bD k, uD us] = some (.tup [w, d]) →
    ∃ vs y8', Fits k.b k.ps vs ∧ NoSave k.b k.ps vs ∧ whileN wT wB n [y0, y1, y2, .dat (bD k), .dat (uD us), .dat (.int (0 - kk.gain 0)), .dat w, .dat d, y8] = some (.nx [y0, y1, y2, .dat (bD k), .dat (uD vs), .dat (.int (0 - kk.gain 0)), .dat (.str "prices"), .dat (uD (prices k.b k.ps vs 0 (none, none))), y8']) := by
  intro n
  induction n with
  | zero =>
    intro us w d y8 hf hn hj
    have := pcost_b hc hf
    have := h.len
    omega
  | succ n ih =>
    intro us w d y8 hf hn hj
    rcases judge_e h hf with ⟨c, hok, hs, e⟩ | ⟨hs, e⟩
    · rw [hj] at e
      have e' := Option.some.inj e
      injection e' with e'
      injection e' with ew e'
      injection e' with ed _
      subst ew ed
      have sv := hs
      unfold saves at sv
      rw [Bool.and_eq_true, decide_eq_true_iff] at sv
      obtain ⟨fv, lt⟩ := sv
      have ff := fitsB_iff.mp fv
      obtain ⟨w', d', ej⟩ : ∃ w' d', Phi_judge [bD k, uD (c.ap us)] = some (.tup [w', d']) := by
        rcases judge_e h ff with ⟨c', _, _, e⟩ | ⟨_, e⟩
        · exact ⟨_, _, e⟩
        · exact ⟨_, _, e⟩
      have low := low_le ch ff
      obtain ⟨vs, y8', h1, h2, h3⟩ := ih (c.ap us) w' d' (.dat (uD (c.ap us))) ff (by omega) ej
      refine ⟨vs, y8', h1, h2, ?_⟩
      have st : wB [y0, y1, y2, .dat (bD k), .dat (uD us), .dat (.int (0 - kk.gain 0)), .dat (.str "change"), .dat (chD c), y8] = some (.nx [y0, y1, y2, .dat (bD k), .dat (uD (c.ap us)), .dat (.int (0 - kk.gain 0)), .dat w', .dat d', .dat (uD (c.ap us))]) := by
        refine (sSeq_nx (sSet_e (fCall_e (fCons_e rfl (fCons_e rfl (fCons_e rfl fNil_e))) (after_change_e h hf c hok fv)))).trans ((sSeq_nx (sIf_f (bOr_e (a := false) (b := false) (bNot_e (bVal_e (b := true) (f2_e (fCall_e (fCons_e rfl (fCons_e rfl fNil_e)) (cost_of_e h ff)) (fCall_e (fCons_e rfl (fCons_e rfl fNil_e)) (cost_of_e h hf)) ?_))) fun _ => bVal_e (f2_e (fCall_e (fCons_e rfl (fCons_e rfl fNil_e)) (cost_of_e h hf)) (y := .int (0 - kk.gain 0)) rfl ?_)) rfl)).trans ((sSeq_nx (sSet_e rfl)).trans (sAsg_e (fCall_e (fCons_e rfl (fCons_e rfl fNil_e)) ej) rfl)))
        · simp only [D.lt]
          rw [decide_eq_true lt]
        · simp only [D.le]
          rw [decide_eq_false (by omega)]
      have t : wT [y0, y1, y2, .dat (bD k), .dat (uD us), .dat (.int (0 - kk.gain 0)), .dat (.str "change"), .dat (chD c), y8] = some true := rfl
      exact (while_step t st).trans h3
    · rw [hj] at e
      have e' := Option.some.inj e
      injection e' with e'
      injection e' with ew e'
      injection e' with ed _
      subst ew ed
      exact ⟨us, y8, hf, hs, while_stop rfl⟩
end FD
end

section
set_option Elab.async false
set_option linter.all false
set_option maxRecDepth 100000
set_option maxHeartbeats 1000000
/-! W6: the law holds of data. -/
namespace FD
open MM PySem L2
theorem CvOk.cheap {c : Cv} (h : CvOk c) : c.Cheap := ⟨h.st.pos.pos, h.st.pb, h.st.tot, h.cost⟩
theorem judge_least {k : Book} (h : k.Fine) {kk : Cv} (ch : Chain ⟨k.b, 0, []⟩ k.ps kk) {us : List Int} (hf : Fits k.b k.ps us) (el : pcost k.b k.ps us = 0 - kk.gain 0) : Phi_judge [bD k, uD us] = some (.tup [.str "prices", uD (prices k.b k.ps us 0 (none, none))]) := by
  rcases judge_e h hf with ⟨c, hok, sv, e⟩ | ⟨_, e⟩
  · exfalso
    unfold saves at sv
    rw [Bool.and_eq_true, decide_eq_true_iff] at sv
    have := low_le ch (fitsB_iff.mp sv.1)
    omega
  · exact e
theorem lawMath : LawMath := by
  intro dk
  refine w_sfor (w_itp (ds := (List.range 4).map fun i : Nat => .int (i : Int)) (rng1_e 4 (by omega) rfl) ?_)
  refine w_loop (fun i : Nat => .int (i : Int)) (fun m ρ c => c ≤ 1000 * m ∧ ∃ y2 y3 y4 y5 y6 y7 y8, ρ = [.un, .ad dk, y2, y3, y4, y5, y6, y7, y8]) _ 0 _ _ ⟨by omega, _, _, _, _, _, _, _, rfl⟩ ?_ ?_
  · rintro i hi m ρ c hm0 hm1 ⟨hc, y2, y3, y4, y5, y6, y7, y8, rfl⟩
    rw [List.length_range] at hm1
    refine ⟨_, rfl, w_sset (w_callc rfl (w_cons (w_opp (w_pur (d := .int 1) rfl (w_next (n := 2) rfl rfl (by decide) (by decide) (by omega) fun r r0 r1 => ⟨.int (1 + r), rfl, w_cons (w_pur (d := .int 4) rfl (w_cons (w_pur (d := .bl true) rfl (w_nil (law_book_w dk (1 + r) (by omega) (by omega) _ (by omega) _ fun k us0 c1 hk hf0 hcv hc1 => ?_)))))⟩)))))⟩
    have hch : ∀ p ∈ k.ps, p.buy.Cheap ∧ p.keep.Cheap := fun p hp => ⟨(hcv p hp).1.cheap, (hcv p hp).2.cheap⟩
    obtain ⟨kk, ch, lc⟩ := least_cost_e hk hf0
    refine w_spar2 (w_callc rfl (w_cons (w_pur (d := bD k) rfl (w_nil (law_some_plan_w dk hk hcv hf0 c1 (by omega) _ fun us c2 hf hc2 => w_pur (fCall_e (fCons_e rfl fNil_e) lc) ?_)))))
    refine w_sS (sIf_f (bNot_e (bVal_e (b := true) (fCall_e (fCons_e rfl (fCons_e rfl fNil_e)) (law_changes_right_e hk hf)))) rfl) ?_
    obtain ⟨w, d, ej⟩ : ∃ w d, Phi_judge [bD k, uD us] = some (.tup [w, d]) := by
      rcases judge_e hk hf with ⟨c', _, _, e⟩ | ⟨_, e⟩
      · exact ⟨_, _, e⟩
      · exact ⟨_, _, e⟩
    refine w_sS (sAsg_e (fCall_e (fCons_e rfl (fCons_e rfl fNil_e)) ej) rfl) ?_
    have pb := pcost_b hch hf
    have h4 := hk.len
    obtain ⟨vs, y8', hv, ns, we⟩ := while_e hk hch ch .un (.ad dk) (.dat (.int (i : Int))) 1000000 us w d y8 hf (by omega) ej
    obtain ⟨s1, s2, s3⟩ := strong ch hk.good hv ns
    have pr := prices_b (s := k.b) (us := vs) (q := 0) (Q := 0) (e := (none, none)) hk.ps h4 (by decide) (by decide) ⟨fun a ha => (by cases ha), fun a ha => (by cases ha)⟩
    have hp := holds_prices hk hv s1 fun a ha => by
      have := pr a ha
      omega
    rw [decide_eq_true s2] at hp
    refine w_sS we (w_sS (sIf_f (bOr_e (a := false) (b := false) rfl fun _ => bOr_e (a := false) (b := false) (bVal_e (f2_e (y := .int (0 - kk.gain 0)) (fCall_e (fCons_e rfl (fCons_e rfl fNil_e)) (cost_of_e hk hv)) rfl ?_)) fun _ => bNot_e (bVal_e (b := true) (fCall_e (fCons_e rfl (fCons_e rfl (fCons_e (fTup_e (fCons_e rfl (fCons_e rfl fNil_e)) (show 2 ≤ 100000 by decide)) fNil_e))) hp))) rfl) ?_)
    · simp [D.ne, D.eqq, s3]
    · refine w_sset (w_callc rfl (w_cons (w_pur (d := bD k) rfl (w_cons (w_pur (d := uD vs) rfl (w_cons (w_pur (d := .int 3) rfl (w_nil (law_wandered_w dk hk hv c2 (by omega) _ fun ws c3 hw ew hc3 => ?_)))))))))
      have jl := judge_least hk ch hw (ew.trans s3)
      refine w_S (sIf_f (bOr_e (a := false) (b := false) (bVal_e (f2_e (y := .int (0 - kk.gain 0)) (fCall_e (fCons_e rfl (fCons_e rfl fNil_e)) (cost_of_e hk hw)) rfl ?_)) fun _ => bOr_e (a := false) (b := false) (bVal_e (f2_e (x := .str "prices") (f2_e (fCall_e (fCons_e rfl (fCons_e rfl fNil_e)) jl) rfl rfl) rfl rfl)) fun _ => bNot_e (bVal_e (b := true) (fCall_e (fCons_e rfl (fCons_e rfl fNil_e)) (law_changes_right_e hk hw)))) rfl) ⟨_, rfl, by omega, _, _, _, _, _, _, _, rfl⟩
      simp [D.ne, D.eqq, ew, s3]
  · rintro ρ c ⟨hc, y2, y3, y4, y5, y6, y7, y8, rfl⟩
    exact ⟨_, rfl, w_S (sRet_e (d := .bl true) rfl) rfl⟩
end FD
end

section
set_option Elab.async false
set_option linter.all false
set_option maxRecDepth 100000
set_option maxHeartbeats 1000000
/-! DK: the deck, of data. -/
namespace FD
open MM PySem L2
def ab (i : Int) : Int := if i < 0 then -i else i
theorem scr_e (a : Addr) (ns : List Int) (hn : ns.length ≤ 63) (ρ : Rho) (h : ρ[0]? = some (.ad a)) : fScr a ns ρ = some (ns.map D.int) := by
  have e : cutD (ns.map D.int) none (some 63) = ns.map D.int := by
    unfold cutD
    have h1 := HT.sIx_nat (ns.map D.int).length (ns.map D.int).length 63
    have h2 : HT.sIx (ns.map D.int).length 0 none = 0 := rfl
    have h3 : ((63 : Nat) : Int) = 63 := rfl
    rw [h3] at h1
    rw [h1, h2, List.length_map, Nat.min_eq_right hn]
    simp only [Nat.sub_zero, List.drop_zero]
    exact List.take_of_length_le (by simp)
  unfold fScr
  rw [h]
  simp only [if_true, e]
theorem pow18 : D.pow (.int 10) (.int 18) = some (.int (10 ^ 18)) := by
  show (if (0 : Int) ≤ 18 ∧ (18 : Int) ≤ 1000000 ∧ (10 : Int).natAbs < 2 ^ 64 then some (D.int (10 ^ (18 : Int).toNat)) else none) = _
  rw [if_pos (by decide)]
  rfl
theorem deckMath : DeckMath := by
  intro a ns hn
  have k1 : ∀ ρ : Rho, ρ[0]? = some (.ad a) → 4 ≤ ρ.length → ρ.length = 4 → fComp [3] (fItems (fFrz (fScr a ns))) (gN 3) (bVal (f2 D.ge (fCall (g1 D.abs) (fCons (fVar 3) fNil)) (f2 D.pow (fK (.int 10)) (fK (.int 18))))) (fCall (g1 D.abs) (fCons (fVar 3) fNil)) ρ = some ((ns.filter fun i => decide (ab i ≥ 10 ^ 18)).map fun i => .int (ab i)) := fun ρ h h4 h5 => by
    refine fComp_of D.int _ (fun i => .int (ab i)) ns (fItems_e (fFrz_e (scr_e a ns hn ρ h)) rfl) (by omega) (compL_of _ _ _ _ fun i hi => ?_)
    match ρ, h5 with
    | [r0, r1, r2, r3], _ => exact ⟨[r0, r1, r2, .dat (.int i)], rfl, bVal_e (f2_e (x := .int (ab i)) (y := .int (10 ^ 18)) (fCall_e (fCons_e rfl fNil_e) rfl) (f2_e rfl rfl pow18) rfl), fun _ => fCall_e (fCons_e rfl fNil_e) rfl⟩
  have k2 : ∀ ρ : Rho, ρ[0]? = some (.ad a) → ρ.length = 4 → fComp [3] (fItems (fFrz (fScr a ns))) (gN 3) (bVal (f2 D.lt (fCall (g1 D.abs) (fCons (fVar 3) fNil)) (f2 D.pow (fK (.int 10)) (fK (.int 18))))) (fCall (g1 D.abs) (fCons (fVar 3) fNil)) ρ = some ((ns.filter fun i => decide (ab i < 10 ^ 18)).map fun i => .int (ab i)) := fun ρ h h5 => by
    refine fComp_of D.int _ (fun i => .int (ab i)) ns (fItems_e (fFrz_e (scr_e a ns hn ρ h)) rfl) (by omega) (compL_of _ _ _ _ fun i hi => ?_)
    match ρ, h5 with
    | [r0, r1, r2, r3], _ => exact ⟨[r0, r1, r2, .dat (.int i)], rfl, bVal_e (f2_e (x := .int (ab i)) (y := .int (10 ^ 18)) (fCall_e (fCons_e rfl fNil_e) rfl) (f2_e rfl rfl pow18) rfl), fun _ => fCall_e (fCons_e rfl fNil_e) rfl⟩
  have m : ∀ l : List Int, (l.map fun i => D.int (ab i)) = (l.map ab).map D.int := fun l => by rw [List.map_map]; rfl
  generalize hA : (ns.filter fun i => decide (ab i ≥ 10 ^ 18)).map ab = A
  generalize hB : (ns.filter fun i => decide (ab i < 10 ^ 18)).map ab = B
  have bl : B.length ≤ 63 := by
    rw [← hB, List.length_map]
    exact Nat.le_trans (List.length_filter_le _ _) hn
  refine ⟨A, B ++ (if B.isEmpty then [(ns.length : Int) + 29] else []), ?_, ?_, ?_, ?_⟩
  · refine (sSeq_nx (sSetN_e ((k1 _ rfl (by simp) rfl).trans (by rw [m, hA])))).trans ((sSeq_nx (sSetN_e ((k2 _ rfl rfl).trans (by rw [m, hB])))).trans ((sSeq_nx (sFrz_e rfl)).trans ((sSeq_nx (sFrz_e rfl)).trans (sRet_e (fFrz_e (fLst_e (fCons_e rfl (fCons_e (x := .lst ((B ++ (if B.isEmpty then [(ns.length : Int) + 29] else [])).map .int)) ?_ (fCons_e rfl fNil_e))) (show 3 ≤ 100000 by decide)))))))
    have rep : fRep (fFrz (fLst (fCons (f2 D.add (fScrLen a ns) (fK (.int 29))) fNil))) (fCall (g1 D.toI) (fCons (f2 D.eq (fVar 2) (fFrz (fLst fNil))) fNil)) [.ad a, .dat (.lst (A.map .int)), .dat (.lst (B.map .int)), .un] = some ((if B.isEmpty then [(ns.length : Int) + 29] else []).map .int) := by
      have x1 : fFrz (fLst (fCons (f2 D.add (fScrLen a ns) (fK (.int 29))) fNil)) [.ad a, .dat (.lst (A.map .int)), .dat (.lst (B.map .int)), .un] = some (.lst [.int ((ns.length : Int) + 29)]) := by
        refine fFrz_e (fLst_e (fCons_e (f2_e (x := .int ns.length) ?_ rfl rfl) fNil_e) (show 1 ≤ 100000 by decide))
        show (if a = a then some (D.int ns.length) else none) = _
        rw [if_pos rfl]
      have x2 : fCall (g1 D.toI) (fCons (f2 D.eq (fVar 2) (fFrz (fLst fNil))) fNil) [.ad a, .dat (.lst (A.map .int)), .dat (.lst (B.map .int)), .un] = some (.int (if B.isEmpty then 1 else 0)) := by
        refine fCall_e (fCons_e (f2_e (x := .lst (B.map .int)) (y := .lst []) (z := .bl B.isEmpty) rfl rfl ?_) fNil_e) rfl
        simp only [D.eq, D.eqq, lay_intD B, if_true, Option.bind_some]
        cases B <;> rfl
      unfold fRep
      rw [x1, Option.bind_some, x2]
      cases B <;> rfl
    exact (fFrz_e (fCatL_e rfl (fFrz_e rep) (by rw [List.length_map, List.length_map]; split <;> simp <;> omega))).trans (by rw [List.map_append])
  · intro e
    have := List.append_eq_nil_iff.mp e
    rw [this.1] at this
    simp at this
  · intro x hx
    rw [← hA] at hx
    obtain ⟨i, hi, rfl⟩ := List.mem_map.mp hx
    exact of_decide_eq_true (List.mem_filter.mp hi).2
  · intro x hx
    rcases List.mem_append.mp hx with h | h
    · rw [← hB] at h
      obtain ⟨i, hi, rfl⟩ := List.mem_map.mp h
      exact of_decide_eq_true (List.mem_filter.mp hi).2
    · split at h
      · rw [List.mem_singleton.mp h]
        omega
      · cases h
end FD
end

theorem PySem.Challenge.cw_dearcurves_k49_whole_changes_lead_to_a_c_holds : PySem.Challenge.rw_dearcurves_k49_whole_changes_lead_to_a_c.Holds :=
  law_end FD.deckMath FD.lawMath
