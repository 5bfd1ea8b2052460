import PyProof.Rows.All
import Wide.All
import OpenK.AllK
import Wide.FinOn
import HandS.ForMost
import HandS.ForExc
import HandS.Evl
import HandS.IsInst
import HandS.RevRange
import HandS.ExcIs
import HandS.ExcValue
import HandS.Style
import HandS.Conv
import HandS.SortInts
import HandS.Dict
import HandS.DictComp
import HandS.SortKw
import KE.DataMinMax
import HandS.Iter
import HandS.WordsDict
import HandS.SetKeys
import HandS.More
import HandS.Replace
import KE.SortData
import HandS.Sort
import PyProof.StrLawsFirst
import HandS.Defaults
import HandS.Words
import HandS.Text
import HandS.Call
import PyProof.StrLawsIn
import PyProof.P3Eq
import PySem.Challenge.RW_mirrorwords_k09_what_is_refused
set_option Elab.async false
set_option linter.all false
set_option maxRecDepth 100000
set_option maxHeartbeats 4000000
/-! texts as lists of codes; the ledger of a frame's own objects; what a reading comes to -/
namespace Mw
open PySem PySem.Spec PyProof.Rows L2 Evl

abbrev Tx := List Nat
/-- a text by its codes -/
def T (l : Tx) : Str := ⟨l.toArray⟩
theorem T_inj {a b : Tx} (h : T a = T b) : a = b := by
  have q : a.toArray = b.toArray := congrArg Str.cps h
  simpa using q
theorem T_eq (a b : Tx) : (T a = T b) ↔ a = b := ⟨T_inj, fun h => by rw [h]⟩
theorem T_len (a : Tx) : (T a).length = a.length := by simp [T, Str.length]
theorem T_cps (a : Tx) : (T a).cps.toList = a := by simp [T]
theorem T_of (s : Str) : s = T s.cps.toList := by simp [T]
theorem T_app (a b : Tx) : T a ++ T b = T (a ++ b) := by
  show Str.append (T a) (T b) = T (a ++ b)
  simp [Str.append, T]
abbrev tS (l : Tx) : V := .str (T l)
theorem tS_eq (a b : Tx) : (tS a = tS b) ↔ a = b := ⟨fun h => T_inj (V.str.inj h), fun h => by rw [h]⟩
theorem dec_tS (a b : Tx) : decide (tS a = tS b) = decide (a = b) := by
  by_cases h : a = b
  · rw [decide_eq_true h, decide_eq_true ((tS_eq a b).mpr h)]
  · rw [decide_eq_false h, decide_eq_false (fun z => h ((tS_eq a b).mp z))]
theorem dec_tI (a b : Int) : decide (V.int a = V.int b) = decide (a = b) := by
  by_cases h : a = b
  · rw [decide_eq_true h, decide_eq_true (by rw [h])]
  · rw [decide_eq_false h, decide_eq_false (fun z => h (V.int.inj z))]
theorem dec_tB (a b : Bool) : decide (V.bl a = V.bl b) = (a == b) := by
  cases a <;> cases b <;> first | decide | rfl
theorem sz6 {n : Nat} (h : n ≤ 1000000) : n ≤ sizeLine := by rw [sizeLine_eq]; omega
theorem szL6 {n : Nat} (h : n < 1000000) : n < sizeLine := by rw [sizeLine_eq]; omega

/-! ### the named readings of operators -/
abbrev rAddI : R2 := rI0 fun i j => .int (i + j)
abbrev rSubI : R2 := rI0 fun i j => .int (i - j)
abbrev rMulI : R2 := rI CMul fun i j => .int (i * j)
abbrev rDivI : R2 := rI CDiv fun i j => .int (i / j)
abbrev rModI : R2 := rI (fun _ j => 0 < j) fun i j => .int (i % j)
abbrev rPowI : R2 := rI CPow fun i j => .int (i ^ j.toNat)
abbrev rLtI : R2 := rI0 fun i j => .bl (decide (i < j))
abbrev rLeI : R2 := rI0 fun i j => .bl (decide (i ≤ j))
abbrev rGtI : R2 := rI0 fun i j => .bl (decide (j < i))
abbrev rGeI : R2 := rI0 fun i j => .bl (decide (j ≤ i))
abbrev rAddT : R2 := fun x y H Q => ∃ i j, x = .str i ∧ y = .str j ∧ i.length + j.length ≤ sizeLine ∧ Q (.str (i ++ j)) H
abbrev rLtT' : R2 := fun x y H Q => ∃ i j, x = .str i ∧ y = .str j ∧ Q (.bl (decide (i.cps.toList < j.cps.toList))) H
abbrev rGtT' : R2 := fun x y H Q => ∃ i j, x = .str i ∧ y = .str j ∧ Q (.bl (decide (j.cps.toList < i.cps.toList))) H
abbrev rInC : R2 := fun x y H Q => ∃ (c : Nat) (z : Str), x = .str ⟨#[c]⟩ ∧ y = .str z ∧ Q (.bl (decide (c ∈ z.cps.toList))) H
abbrev rNinC : R2 := fun x y H Q => ∃ (c : Nat) (z : Str), x = .str ⟨#[c]⟩ ∧ y = .str z ∧ Q (.bl (!decide (c ∈ z.cps.toList))) H
abbrev rIsNn : R2 := fun x y H Q => y = .non ∧ Q (.bl (decide (x = .non))) H
abbrev rNotNn : R2 := fun x y H Q => y = .non ∧ Q (.bl (!decide (x = .non))) H
abbrev rLenT : List V → Hp → VK → Prop := fun xs H Q => ∃ z : Str, xs = [.str z] ∧ z.length ≤ sizeLine ∧ Q (.int z.length) H
abbrev rMax2I : List V → Hp → VK → Prop := fun xs H Q => ∃ i j, xs = [.int i, .int j] ∧ Q (.int (if j > i then j else i)) H
abbrev rMin2I : List V → Hp → VK → Prop := fun xs H Q => ∃ i j, xs = [.int i, .int j] ∧ Q (.int (if j < i then j else i)) H
abbrev tNegI (ta : TE) : TE := tUn (rU fun i => .int (-i)) ta

/-! ### values -/
section
variable {K : PySem.W.Frag} {σ : L2.St} {H H' : Hp} {ta tb tc te : TE} {t u : TT} {x y z v w : V} {r r' : R2}
theorem e_negI {i : Int} (h : Ev ta σ H (.int i)) : Ev (tNegI ta) σ H (.int (-i)) := ev_un h ru_neg
theorem r_eqI {i j : Int} : RV rEq (.int i) (.int j) H (.bl (decide (i = j))) := fun H1 _ _ q => ⟨rfl, by rw [dec_tI]; exact q H1 (Ex.refl H1)⟩
theorem r_neI {i j : Int} : RV rNe (.int i) (.int j) H (.bl (!decide (i = j))) := fun H1 _ _ q => ⟨rfl, by rw [dec_tI]; exact q H1 (Ex.refl H1)⟩
theorem r_eqS {a b : Tx} : RV rEq (tS a) (tS b) H (.bl (decide (a = b))) := fun H1 _ _ q => ⟨rfl, by rw [dec_tS]; exact q H1 (Ex.refl H1)⟩
theorem r_neS {a b : Tx} : RV rNe (tS a) (tS b) H (.bl (!decide (a = b))) := fun H1 _ _ q => ⟨rfl, by rw [dec_tS]; exact q H1 (Ex.refl H1)⟩
theorem r_addT {a b : Tx} (h : a.length + b.length ≤ 1000000) : RV rAddT (tS a) (tS b) H (tS (a ++ b)) := fun H1 _ _ q =>
  ⟨_, _, rfl, rfl, by rw [T_len, T_len]; exact sz6 h, by rw [T_app]; exact q H1 (Ex.refl H1)⟩
theorem r_ltT {a b : Tx} : RV rLtT' (tS a) (tS b) H (.bl (decide (a < b))) := fun H1 _ _ q => ⟨_, _, rfl, rfl, by rw [T_cps, T_cps]; exact q H1 (Ex.refl H1)⟩
theorem r_gtT {a b : Tx} : RV rGtT' (tS a) (tS b) H (.bl (decide (b < a))) := fun H1 _ _ q => ⟨_, _, rfl, rfl, by rw [T_cps, T_cps]; exact q H1 (Ex.refl H1)⟩
theorem r_inC {c : Nat} {l : Tx} : RV rInC (tS [c]) (tS l) H (.bl (decide (c ∈ l))) := fun H1 _ _ q => ⟨c, T l, rfl, rfl, by rw [T_cps]; exact q H1 (Ex.refl H1)⟩
theorem r_ninC {c : Nat} {l : Tx} : RV rNinC (tS [c]) (tS l) H (.bl (!decide (c ∈ l))) := fun H1 _ _ q => ⟨c, T l, rfl, rfl, by rw [T_cps]; exact q H1 (Ex.refl H1)⟩
theorem r_isN {x : V} : RV rIsNn x .non H (.bl (decide (x = .non))) := fun H1 _ _ q => ⟨rfl, q H1 (Ex.refl H1)⟩
theorem r_notN {x : V} : RV rNotNn x .non H (.bl (!decide (x = .non))) := fun H1 _ _ q => ⟨rfl, q H1 (Ex.refl H1)⟩
/-- the item of a text, at a place within -/
def at0 (l : Tx) (i : Int) : Nat := l.getD i.toNat 0
theorem atI_at0 {l : Tx} {i : Int} (h0 : 0 ≤ i) (h1 : i < l.length) : atI l i = some (at0 l i) := by
  obtain ⟨n, rfl⟩ : ∃ n : Nat, i = n := ⟨i.toNat, by omega⟩
  have hn : n < l.length := by omega
  refine atI_nat ?_
  unfold at0
  simp [List.getD, List.getElem?_eq_getElem hn]
theorem r_ixS {l : Tx} {i : Int} (h0 : 0 ≤ i) (h1 : i < l.length) (hl : l.length ≤ 1000000) : RV rIxS (tS l) (.int i) H (tS [at0 l i]) := fun H1 _ _ q =>
  ⟨T l, i, at0 l i, rfl, rfl, by rw [T_len]; exact sz6 hl, by rw [T_cps]; exact atI_at0 h0 h1, q H1 (Ex.refl H1)⟩
/-- an item of a list that is read, the list's items made of ns by f -/
theorem atI_map {α : Type} {f : α → V} {ns : List α} {i : Int} {n : α} (h0 : 0 ≤ i) (h : ns[i.toNat]? = some n) : atI (ns.map f) i = some (f n) := by
  obtain ⟨m, rfl⟩ : ∃ m : Nat, i = m := ⟨i.toNat, by omega⟩
  refine atI_nat ?_
  rw [List.getElem?_map]
  have h' : ns[m]? = some n := by simpa using h
  rw [h']; rfl
theorem rc_lenT {l : Tx} (hl : l.length ≤ 1000000) : RC rLenT [tS l] H (.int l.length) := fun H1 _ _ q => ⟨T l, rfl, by rw [T_len]; exact sz6 hl, by rw [T_len]; exact q H1 (Ex.refl H1)⟩
theorem rc_lenL {p : Addr} {xs : List V} (h : SqL K H p xs) : RC (rLenS K) [.ref p] H (.int xs.length) := fun H1 e _ q => ⟨p, xs, rfl, .inl (ex_l e h), q H1 (Ex.refl H1)⟩
theorem rc_max2 {i j : Int} : RC rMax2I [.int i, .int j] H (.int (max i j)) := fun H1 _ _ q => ⟨i, j, rfl, by
  have e : (if j > i then j else i) = max i j := by omega
  rw [e]; exact q H1 (Ex.refl H1)⟩
theorem rc_min2 {i j : Int} : RC rMin2I [.int i, .int j] H (.int (min i j)) := fun H1 _ _ q => ⟨i, j, rfl, by
  have e : (if j < i then j else i) = min i j := by omega
  rw [e]; exact q H1 (Ex.refl H1)⟩
theorem rc_all {p : Addr} {bs : List Bool} (h : SqL K H p (bs.map V.bl)) : RC (rAll K) [.ref p] H (.bl (bs.all id)) := fun H1 e _ q => ⟨p, bs, rfl, ex_l e h, q H1 (Ex.refl H1)⟩
/-- a built-in upon a new list -/
theorem e_cbN {r : List V → Hp → VK → Prop} {xs : List V} (h : EvL te σ H xs) (hr : ∀ p H1, Ex H H1 → H1 p = some (.lst xs) → RC r [.ref p] H1 z) : Ev (tCB r (tCons te tNil)) σ H z := fun H1 e Q q =>
  h H1 e _ fun p H2 _ e2 h2 => hr p H2 (e.trans e2) h2 H2 (Ex.refl H2) Q fun H3 e3 => q H3 (e2.trans e3)
theorem e_if {b : Bool} (h : EvT t σ H b) (h1 : b = true → Ev ta σ H v) (h2 : b = false → Ev tb σ H w) : Ev (tIf t ta tb) σ H (if b then v else w) := fun H1 e Q q => h H1 e _ fun H2 e2 => by
  cases b with
  | true => exact h1 rfl H2 (e.trans e2) Q fun H3 e3 => q H3 (e2.trans e3)
  | false => exact h2 rfl H2 (e.trans e2) Q fun H3 e3 => q H3 (e2.trans e3)
theorem et_yes : EvT tYes σ H true := fun H1 _ _ q => q H1 (Ex.refl H1)
/-- slices of texts -/
theorem sl_cut (l : Tx) (lo hi : Option Int) : cutS (T l) lo hi = T ((l.drop (HT.sIx l.length 0 lo)).take (HT.sIx l.length l.length hi - HT.sIx l.length 0 lo)) := by
  unfold cutS
  simp [T, Str.length]
theorem e_sl {tl th : TO} {l : Tx} {lo hi : Option Int} (h : Ev te σ H (tS l)) (h1 : EvO tl σ H lo) (h2 : EvO th σ H hi) (hl : l.length ≤ 1000000) :
    Ev (tSl rSlS te tl th) σ H (tS ((l.drop (HT.sIx l.length 0 lo)).take (HT.sIx l.length l.length hi - HT.sIx l.length 0 lo))) := fun H1 e _ q =>
  h H1 e _ fun H2 e2 => h1 H2 (e.trans e2) _ fun H3 e3 => h2 H3 ((e.trans e2).trans e3) _ fun H4 e4 =>
    ⟨T l, rfl, by rw [T_len]; exact sz6 hl, by rw [sl_cut]; exact q H4 ((e2.trans e3).trans e4)⟩
theorem sIx_pos (n d : Nat) (i : Int) (h : 0 ≤ i) : HT.sIx n d (some i) = min i.toNat n := by
  obtain ⟨m, rfl⟩ : ∃ m : Nat, i = m := ⟨i.toNat, by omega⟩
  rw [HT.sIx_nat]; simp
end

/-! ### the ledger -/
/-- H0: the heap at the entry; S: what of it may have changed; L: objects that are known and not among the others of H0 -/
structure Am (S : List Addr) (H0 : Hp) (L : List (Addr × HO)) (H : Hp) : Prop where
  old : ∀ a o, H0 a = some o → a ∉ S → H a = some o
  own : ∀ p ∈ L, H p.1 = some p.2
  new : ∀ p ∈ L, H0 p.1 = none ∨ p.1 ∈ S
  nd : (L.map (·.1)).Nodup
section
variable {S : List Addr} {H0 H H1 : Hp} {L : List (Addr × HO)} {p : Addr} {o o' : HO}
theorem Am.start (H : Hp) : Am [] H [] H := ⟨fun _ _ h _ => h, (fun _ h => (by cases h)), (fun _ h => (by cases h)), List.Pairwise.nil⟩
theorem Am.ex (am : Am S H0 L H) (e : Ex H H1) : Am S H0 L H1 := ⟨fun a o h n => e a o (am.old a o h n), fun p h => e _ _ (am.own p h), am.new, am.nd⟩
theorem Am.add (am : Am S H0 L H) (hp : H p = none) (e : Ex H H1) (h : H1 p = some o) : Am S H0 ((p, o) :: L) H1 := by
  refine ⟨fun a o h n => e a o (am.old a o h n), fun q hq => ?_, fun q hq => ?_, ?_⟩
  · rcases List.mem_cons.mp hq with rfl | hq
    · exact h
    · exact e _ _ (am.own q hq)
  · rcases List.mem_cons.mp hq with rfl | hq
    · show H0 p = none ∨ p ∈ S
      by_cases hs : p ∈ S
      · exact .inr hs
      · refine .inl ?_
        cases z : H0 p with
        | none => rfl
        | some w => rw [am.old p w z hs] at hp; cases hp
    · exact am.new q hq
  · refine List.nodup_cons.mpr ⟨fun hm => ?_, am.nd⟩
    obtain ⟨q, hq, e1⟩ := List.mem_map.mp hm
    have z := am.own q hq
    have e2 : q.1 = p := e1
    rw [e2, hp] at z; cases z
theorem Am.new1 (am : Am S H0 L H) (hp : H p = none) : Am S H0 ((p, o) :: L) (upd H p o) := am.add hp (Ex.new hp) upd_same
theorem nodup_at {α β : Type} : ∀ {l : List (α × β)} {i j : Nat} {x y : α × β}, (l.map (·.1)).Nodup → l[i]? = some x → l[j]? = some y → x.1 = y.1 → i = j
  | l, i, j, x, y, nd, h1, h2, e => by
    have a1 : (l.map (·.1))[i]? = some x.1 := by rw [List.getElem?_map, h1]; rfl
    have a2 : (l.map (·.1))[j]? = some x.1 := by rw [List.getElem?_map, h2]; exact congrArg some e.symm
    obtain ⟨b1, c1⟩ := List.getElem?_eq_some_iff.mp a1
    obtain ⟨b2, c2⟩ := List.getElem?_eq_some_iff.mp a2
    exact (List.getElem_inj nd).mp (c1.trans c2.symm)
theorem Am.set (i : Nat) (am : Am S H0 L H) (h : L[i]? = some (p, o)) : Am S H0 (L.set i (p, o')) (upd H p o') := by
  have hm : (p, o) ∈ L := List.mem_of_getElem? h
  have hi : i < L.length := (List.getElem?_eq_some_iff.mp h).1
  refine ⟨fun a u ha n => ?_, fun q hq => ?_, fun q hq => ?_, ?_⟩
  · have hne : a ≠ p := fun z => by
      rcases am.new _ hm with k | k
      · rw [z, k] at ha; cases ha
      · exact n (z ▸ k)
    rw [upd_ne hne]; exact am.old a u ha n
  · obtain ⟨j, hj⟩ := List.getElem?_of_mem hq
    by_cases e : j = i
    · subst e
      rw [List.getElem?_set_self hi] at hj
      cases hj
      exact upd_same
    · rw [List.getElem?_set_ne (Ne.symm e)] at hj
      have hne : q.1 ≠ p := fun z => e (nodup_at am.nd hj h z)
      rw [upd_ne hne]
      exact am.own q (List.mem_of_getElem? hj)
  · obtain ⟨j, hj⟩ := List.getElem?_of_mem hq
    by_cases e : j = i
    · subst e
      rw [List.getElem?_set_self hi] at hj
      cases hj
      exact am.new (p, o) hm
    · rw [List.getElem?_set_ne (Ne.symm e)] at hj
      exact am.new q (List.mem_of_getElem? hj)
  · have e : (L.set i (p, o')).map (·.1) = L.map (·.1) := by
      rw [List.map_set]
      apply List.ext_getElem?
      intro j
      by_cases e : i = j
      · subst e
        rw [List.getElem?_set_self (by simpa using hi), List.getElem?_map, h]; rfl
      · rw [List.getElem?_set_ne e]
    rw [e]; exact am.nd
theorem Am.sub {L' : List (Addr × HO)} (am : Am S H0 L H) (h : L'.Sublist L) : Am S H0 L' H :=
  ⟨am.old, fun p hp => am.own p (h.subset hp), fun p hp => am.new p (h.subset hp), am.nd.sublist (h.map _)⟩
theorem Am.at (i : Nat) (am : Am S H0 L H) (h : L[i]? = some (p, o)) : H p = some o := am.own _ (List.mem_of_getElem? h)
theorem Am.toEx (am : Am [] H0 L H) : Ex H0 H := fun a o h => am.old a o h (by simp)
theorem Am.free (i : Nat) (am : Am [] H0 L H) (h : L[i]? = some (p, o)) : H0 p = none := by
  rcases am.new _ (List.mem_of_getElem? h) with k | k
  · exact k
  · cases k
end

/-! ### statements over the ledger -/
section
variable {K : PySem.W.Frag} {S : List Addr} {H0 H H' : Hp} {L : List (Addr × HO)} {σ : L2.St} {ta tb te : TE} {t : TT} {x y z v w : V} {D : Ends} {tu tw tz : TS}
theorem a_asg {i : Nat} (am : Am S H0 L H) (h : Ev te σ H v) (k : ∀ H, Am S H0 L H → D.nx (σ.set i (some v)) H) : tAsg te (gName i) D σ H := s_asg h fun H1 e => k H1 (am.ex e)
theorem aq_asg {i : Nat} (am : Am S H0 L H) (h : Ev te σ H v) (k : ∀ H, Am S H0 L H → tz D (σ.set i (some v)) H) : tSeq (tAsg te (gName i)) tz D σ H := q_asg h fun H1 e => k H1 (am.ex e)
theorem a_asgL {i : Nat} {xs : List V} (am : Am S H0 L H) (h : EvL te σ H xs) (k : ∀ p H, Am S H0 ((p, .lst xs) :: L) H → D.nx (σ.set i (some (.ref p))) H) : tAsg te (gName i) D σ H :=
  s_asgL h fun p H1 hp e h1 => k p H1 (am.add hp e h1)
theorem aq_asgL {i : Nat} {xs : List V} (am : Am S H0 L H) (h : EvL te σ H xs) (k : ∀ p H, Am S H0 ((p, .lst xs) :: L) H → tz D (σ.set i (some (.ref p))) H) : tSeq (tAsg te (gName i)) tz D σ H :=
  q_asgL h fun p H1 hp e h1 => k p H1 (am.add hp e h1)
theorem a_ret (am : Am S H0 L H) (h : Ev te σ H v) (k : ∀ H, Am S H0 L H → D.rt v H) : tRet te D σ H := s_ret h fun H1 e => k H1 (am.ex e)
theorem a_retL {xs : List V} (am : Am S H0 L H) (h : EvL te σ H xs) (k : ∀ p H, Am S H0 ((p, .lst xs) :: L) H → D.rt (.ref p) H) : tRet te D σ H := s_retL h fun p H1 hp e h1 => k p H1 (am.add hp e h1)
theorem a_if {b : Bool} (am : Am S H0 L H) (h : EvT t σ H b) (h1 : b = true → ∀ H, Am S H0 L H → tu D σ H) (h2 : b = false → ∀ H, Am S H0 L H → tw D σ H) : tIfS t tu tw D σ H :=
  s_if h (fun e H1 x => h1 e H1 (am.ex x)) fun e H1 x => h2 e H1 (am.ex x)
theorem aq_if {b : Bool} (am : Am S H0 L H) (h : EvT t σ H b) (h1 : b = true → ∀ H, Am S H0 L H → tu { D with nx := tz D } σ H) (h2 : b = false → ∀ H, Am S H0 L H → tw { D with nx := tz D } σ H) : tSeq (tIfS t tu tw) tz D σ H :=
  q_if h (fun e H1 x => h1 e H1 (am.ex x)) fun e H1 x => h2 e H1 (am.ex x)
theorem aq_when {b : Bool} (am : Am S H0 L H) (h : EvT t σ H b) (h1 : b = true → ∀ H, Am S H0 L H → tu { D with nx := tz D } σ H) (h2 : b = false → ∀ H, Am S H0 L H → tz D σ H) : tSeq (tIfS t tu tNext) tz D σ H :=
  aq_if am h h1 h2
theorem a_when {b : Bool} (am : Am S H0 L H) (h : EvT t σ H b) (h1 : b = true → ∀ H, Am S H0 L H → tu D σ H) (h2 : b = false → ∀ H, Am S H0 L H → D.nx σ H) : tIfS t tu tNext D σ H :=
  a_if am h h1 h2
theorem a_drop (am : Am S H0 L H) (h : Ev te σ H v) (k : ∀ H, Am S H0 L H → D.nx σ H) : tDrop te D σ H := s_drop h fun H1 e => k H1 (am.ex e)
theorem aq_drop (am : Am S H0 L H) (h : Ev te σ H v) (k : ∀ H, Am S H0 L H → tz D σ H) : tSeq (tDrop te) tz D σ H := q_drop h fun H1 e => k H1 (am.ex e)
/-- xs.append(e), xs in the ledger at i -/
theorem a_app (i : Nat) {l : Addr} {xs : List V} (am : Am S H0 L H) (hi : L[i]? = some (l, .lst xs)) (ha : Ev ta σ H (.ref l)) (h : Ev te σ H v) (hz : xs.length < 100000)
    (k : ∀ H, Am S H0 (L.set i (l, .lst (xs ++ [v]))) H → D.nx σ H) : tDrop (tBM K "list" rAppend ta (tCons te tNil)) D σ H :=
  s_app (am.at i hi) ha h hz fun H1 e => k _ ((am.ex e).set i hi)
theorem aq_app (i : Nat) {l : Addr} {xs : List V} (am : Am S H0 L H) (hi : L[i]? = some (l, .lst xs)) (ha : Ev ta σ H (.ref l)) (h : Ev te σ H v) (hz : xs.length < 100000)
    (k : ∀ H, Am S H0 (L.set i (l, .lst (xs ++ [v]))) H → tz D σ H) : tSeq (tDrop (tBM K "list" rAppend ta (tCons te tNil))) tz D σ H :=
  q_app (am.at i hi) ha h hz fun H1 e => k _ ((am.ex e).set i hi)
/-- xs[j] = e -/
theorem a_setL (i : Nat) {l : Addr} {xs : List V} {j : Nat} (am : Am S H0 L H) (hi : L[i]? = some (l, .lst xs)) (h : Ev te σ H v) (ho : Ev ta σ H (.ref l)) (hj' : Ev tb σ H (.int (j : Int))) (hj : j < xs.length)
    (k : ∀ H, Am S H0 (L.set i (l, .lst (xs.set j v))) H → D.nx σ H) : tAsg te (gSub ta tb rSetL) D σ H :=
  s_setL (am.at i hi) h ho hj' hj fun H1 e => k _ ((am.ex e).set i hi)
theorem aq_setL (i : Nat) {l : Addr} {xs : List V} {j : Nat} (am : Am S H0 L H) (hi : L[i]? = some (l, .lst xs)) (h : Ev te σ H v) (ho : Ev ta σ H (.ref l)) (hj' : Ev tb σ H (.int (j : Int))) (hj : j < xs.length)
    (k : ∀ H, Am S H0 (L.set i (l, .lst (xs.set j v))) H → tz D σ H) : tSeq (tAsg te (gSub ta tb rSetL)) tz D σ H :=
  q_setL (am.at i hi) h ho hj' hj fun H1 e => k _ ((am.ex e).set i hi)

/-! ### what is walked -/
/-- J walks xs, wherever the heap is as P says -/
def Sq (J : It) (P : Hp → Prop) (xs : List V) : Prop := ∀ H, P H → (∀ (i : Nat) x, xs[i]? = some x → J.go i H ∧ ∀ y H', J.yld i H y H' → H' = H ∧ y = x) ∧ J.stop xs.length H
def Wk (wi : TI) (σ : L2.St) (H : Hp) (P : Hp → Prop) (xs : List V) : Prop := ∀ H1, Ex H H1 → ∀ R : It → Hp → Prop, (∀ J H2, Ex H1 H2 → Sq J P xs → R J H2) → wi σ H1 R
/-- over a new list -/
def WkN (wi : TI) (σ : L2.St) (H : Hp) (xs : List V) : Prop := ∀ H1, Ex H H1 → ∀ R : It → Hp → Prop, (∀ p J H2, H1 p = none → Ex H1 H2 → H2 p = some (.lst xs) → Sq J (fun H' => H' p = some (.lst xs)) xs → R J H2) → wi σ H1 R
theorem sq_list {a : Addr} {xs : List V} : Sq (Itl K a) (fun H => SqL K H a xs) xs := fun H h =>
  ⟨fun i x hx => ⟨⟨xs, x, h, hx⟩, fun y H' hy => ⟨hy.1, Option.some.inj ((hy.2 xs h).symm.trans hx)⟩⟩, ⟨xs, h, Nat.le_refl _⟩⟩
theorem sq_tup {a : Addr} {xs : List V} : Sq (Itt K a) (fun H => SqT K H a xs) xs := fun H h =>
  ⟨fun i x hx => ⟨⟨xs, x, h, hx⟩, fun y H' hy => ⟨hy.1, Option.some.inj ((hy.2 xs h).symm.trans hx)⟩⟩, ⟨xs, h, Nat.le_refl _⟩⟩
theorem sq_range {lo : Int} {n : Nat} : Sq (Itr lo n) (fun _ => True) ((List.range n).map fun i => .int (lo + (i : Nat))) := fun H _ => by
  refine ⟨fun i x hx => ?_, by show n ≤ _; simp⟩
  rw [List.getElem?_map] at hx
  by_cases hi : i < n
  · rw [List.getElem?_range hi] at hx
    exact ⟨hi, fun y H' hy => ⟨hy.1, hy.2.trans (Option.some.inj hx)⟩⟩
  · rw [List.getElem?_eq_none (by simp; omega)] at hx; cases hx
theorem sq_rangeC {lo c : Int} {n : Nat} : Sq (Itc lo c n) (fun _ => True) ((List.range n).map fun i => .int (lo + (i : Nat) * c)) := fun H _ => by
  refine ⟨fun i x hx => ?_, by show n ≤ _; simp⟩
  rw [List.getElem?_map] at hx
  by_cases hi : i < n
  · rw [List.getElem?_range hi] at hx
    exact ⟨hi, fun y H' hy => ⟨hy.1, hy.2.trans (Option.some.inj hx)⟩⟩
  · rw [List.getElem?_eq_none (by simp; omega)] at hx; cases hx
theorem sq_text {l : Tx} : Sq (Its (T l)) (fun _ => True) (l.map fun c => tS [c]) := fun H _ => by
  refine ⟨fun i x hx => ?_, by show (T l).cps.size ≤ _; simp [T]⟩
  rw [List.getElem?_map] at hx
  cases hc : l[i]? with
  | none => rw [hc] at hx; cases hx
  | some c =>
    rw [hc] at hx
    have hi : i < l.length := (List.getElem?_eq_some_iff.mp hc).1
    refine ⟨by show i < (T l).cps.size; simpa [T] using hi, fun y H' hy => ⟨hy.1, ?_⟩⟩
    obtain ⟨c', e1, e2⟩ := hy.2
    have e3 : l[i]? = some c' := by simpa [T] using e1
    rw [hc] at e3
    have e4 : c = c' := Option.some.inj e3
    subst e4
    exact e2.trans (Option.some.inj hx)
theorem wk_list {a : Addr} {xs : List V} {tl : TE} (h : Ev tl σ H (.ref a)) (hx : SqL K H a xs) : Wk (iList K tl) σ H (fun H => SqL K H a xs) xs := fun H1 e R q =>
  h H1 e _ fun H2 e2 => ⟨a, rfl, ⟨xs, ex_l (e.trans e2) hx⟩, q _ H2 e2 sq_list⟩
theorem wk_tup {a : Addr} {xs : List V} {tl : TE} (h : Ev tl σ H (.ref a)) (hx : SqT K H a xs) : Wk (iTup K tl) σ H (fun H => SqT K H a xs) xs := fun H1 e R q =>
  h H1 e _ fun H2 e2 => ⟨a, rfl, ⟨xs, ex_t (e.trans e2) hx⟩, q _ H2 e2 sq_tup⟩
theorem wk_range1 {ta : TA} {n : Int} (h : EvA ta σ H [.int n]) (hn : -1000000 ≤ n ∧ n ≤ 1000000) : Wk (iRng1 ta) σ H (fun _ => True) ((List.range n.toNat).map fun i => .int (i : Nat)) := fun H1 e R q =>
  h H1 e _ fun H2 e2 => ⟨n, rfl, by omega, by omega, q _ H2 e2 (by
    have z := sq_range (lo := 0) (n := n.toNat)
    simpa only [Int.zero_add] using z)⟩
theorem wk_range2 {ta : TA} {lo n : Int} (h : EvA ta σ H [.int lo, .int n]) (hn : -1000000 ≤ lo ∧ lo ≤ 1000000 ∧ -1000000 ≤ n ∧ n ≤ 1000000) :
    Wk (iRng2 ta) σ H (fun _ => True) ((List.range (n - lo).toNat).map fun i => .int (lo + (i : Nat))) := fun H1 e R q =>
  h H1 e _ fun H2 e2 => ⟨lo, n, rfl, ⟨by omega, by omega, by omega, by omega⟩, q _ H2 e2 sq_range⟩
theorem wk_text {te : TE} {l : Tx} (h : Ev te σ H (tS l)) : Wk (iStr te) σ H (fun _ => True) (l.map fun c => tS [c]) := fun H1 e R q =>
  h H1 e _ fun H2 e2 => ⟨T l, rfl, q _ H2 e2 sq_text⟩
theorem wk_newL {xs : List V} {tl : TE} (h : EvL tl σ H xs) : WkN (iList K tl) σ H xs := fun H1 e R q =>
  h H1 e _ fun p H2 hp e2 h2 => ⟨p, rfl, ⟨xs, sq_of h2⟩, q p _ H2 hp e2 h2 fun H3 h3 => sq_list H3 (sq_of h3)⟩

/-! ### loops -/
/-- over ns, told by f: Iv by what is gone through -/
theorem a_for {α : Type} {wi : TI} {P : Hp → Prop} {f : α → V} {ns : List α} {j : Nat} (Iv : List α → L2.St → Hp → Prop) (am : Am S H0 L H) (hw : Wk wi σ H P (ns.map f)) (h0 : ∀ H, Am S H0 L H → Iv [] σ H)
    (hP : ∀ pre σ' H', Iv pre σ' H' → P H')
    (hs : ∀ pre n post σ' H', ns = pre ++ n :: post → Iv pre σ' H' → tu { D with nx := Iv (pre ++ [n]), ct := Iv (pre ++ [n]), bk := D.nx } (σ'.set j (some (f n))) H')
    (hd : ∀ σ' H', Iv ns σ' H' → D.nx σ' H') : tFor wi (gName j) tu D σ H := by
  refine hw H (Ex.refl H) _ fun J H2 e sq => ?_
  refine ⟨fun i m σ' H' => i + m = ns.length ∧ Iv (ns.take i) σ' H', ⟨ns.length, by omega, h0 H2 (am.ex e)⟩, ?_⟩
  rintro i m σ' H' ⟨im, hI⟩
  obtain ⟨q1, q2⟩ := sq H' (hP _ _ _ hI)
  by_cases hi : i < ns.length
  · have g : (ns.map f)[i]? = some (f ns[i]) := by rw [List.getElem?_map, List.getElem?_eq_getElem hi]; rfl
    have hsp : ns = ns.take i ++ ns[i] :: ns.drop (i + 1) := by
      rw [← List.drop_eq_getElem_cons hi, List.take_append_drop]
    have ht : ns.take (i + 1) = ns.take i ++ [ns[i]] := by rw [List.take_succ_eq_append_getElem hi]
    obtain ⟨g1, g2⟩ := q1 i _ g
    refine .inr ⟨g1, Iv (ns.take i ++ [ns[i]]), fun σ2 H2 hN => ⟨m - 1, by omega, by omega, by rw [ht]; exact hN⟩, fun y H'' hy => ?_⟩
    obtain ⟨e1, e2⟩ := g2 y H'' hy
    subst e1 e2
    exact hs _ _ _ σ' H'' hsp hI
  · have ei : i = ns.length := by omega
    subst ei
    rw [List.take_length] at hI
    rw [List.length_map] at q2
    exact .inl ⟨q2, hd σ' H' hI⟩
theorem aq_for {α : Type} {wi : TI} {P : Hp → Prop} {f : α → V} {ns : List α} {j : Nat} (Iv : List α → L2.St → Hp → Prop) (am : Am S H0 L H) (hw : Wk wi σ H P (ns.map f)) (h0 : ∀ H, Am S H0 L H → Iv [] σ H)
    (hP : ∀ pre σ' H', Iv pre σ' H' → P H')
    (hs : ∀ pre n post σ' H', ns = pre ++ n :: post → Iv pre σ' H' → tu { D with nx := Iv (pre ++ [n]), ct := Iv (pre ++ [n]), bk := tz D } (σ'.set j (some (f n))) H')
    (hd : ∀ σ' H', Iv ns σ' H' → tz D σ' H') : tSeq (tFor wi (gName j) tu) tz D σ H := a_for (D := { D with nx := tz D }) Iv am hw h0 hP hs hd
/-- while -/
theorem a_while (W : Nat → L2.St → Hp → Prop) (m0 : Nat) (h0 : W m0 σ H)
    (hs : ∀ m σ' H', W m σ' H' → ∃ b, EvT t σ' H' b ∧ (b = true → ∀ H1, Ex H' H1 → ∀ N : L2.St → Hp → Prop, (∀ m' σ2 H2, m' < m → W m' σ2 H2 → N σ2 H2) → tu { D with nx := N, ct := N, bk := D.nx } σ' H1) ∧ (b = false → ∀ H1, Ex H' H1 → D.nx σ' H1)) : tWhile t tu D σ H :=
  s_while W m0 h0 fun m σ' H' hw => by
    obtain ⟨b, hb, h1, h2⟩ := hs m σ' H' hw
    exact ⟨b, hb, fun e H1 ex => ⟨fun σ2 H2 => ∃ m', m' < m ∧ W m' σ2 H2, fun _ _ h => h, h1 e H1 ex _ fun m' σ2 H2 l w => ⟨m', l, w⟩⟩, h2⟩
theorem aq_while (W : Nat → L2.St → Hp → Prop) (m0 : Nat) (h0 : W m0 σ H)
    (hs : ∀ m σ' H', W m σ' H' → ∃ b, EvT t σ' H' b ∧ (b = true → ∀ H1, Ex H' H1 → ∀ N : L2.St → Hp → Prop, (∀ m' σ2 H2, m' < m → W m' σ2 H2 → N σ2 H2) → tu { D with nx := N, ct := N, bk := tz D } σ' H1) ∧ (b = false → ∀ H1, Ex H' H1 → tz D σ' H1)) : tSeq (tWhile t tu) tz D σ H := a_while (D := { D with nx := tz D }) W m0 h0 hs

/-! ### comprehensions -/
theorem filter_snoc {α : Type} (b : α → Bool) (l : List α) (n : α) : (l ++ [n]).filter b = l.filter b ++ (if b n = true then [n] else []) := by
  rw [List.filter_append]
  by_cases h : b n = true
  · rw [if_pos h, List.filter_cons_of_pos h]; rfl
  · rw [if_neg h, List.filter_cons_of_neg h]; rfl
theorem el_lc {α : Type} {wi : TI} {P : Hp → Prop} {f : α → V} {ns : List α} {j : Nat} {vs : List Nat} (b : α → Bool) (v : α → V) (hw : Wk wi σ H P (ns.map f)) (hm : ∀ H H', Ex H H' → P H → P H') (hp : P H) (hz : ns.length ≤ 100000)
    (hv : ∀ x, wipe ((wipe σ vs).set j (some x)) vs = wipe σ vs)
    (ht : ∀ n ∈ ns, EvT t ((wipe σ vs).set j (some (f n))) H (b n)) (he : ∀ n ∈ ns, b n = true → Ev te ((wipe σ vs).set j (some (f n))) H (v n)) :
    EvL (tLc wi (gName j) t te vs) σ H ((ns.filter b).map v) := fun H1 e Q q => by
  refine hw H1 e _ fun J H2 e2 sq => fun Dl hD => ?_
  refine ⟨fun i m H' => i + m = ns.length ∧ Ex H2 H' ∧ H' Dl = some (.lst (((ns.take i).filter b).map v)), ⟨ns.length, by omega, Ex.new hD, upd_same⟩, ?_⟩
  rintro i m H' ⟨im, e3, hl⟩
  obtain ⟨q1, q2⟩ := sq H' (hm _ _ ((e.trans e2).trans e3) hp)
  by_cases hi : i < ns.length
  · have g : (ns.map f)[i]? = some (f ns[i]) := by rw [List.getElem?_map, List.getElem?_eq_getElem hi]; rfl
    have hmem : ns[i] ∈ ns := List.getElem_mem hi
    have ht2 : ns.take (i + 1) = ns.take i ++ [ns[i]] := by rw [List.take_succ_eq_append_getElem hi]
    obtain ⟨g1, g2⟩ := q1 i _ g
    refine .inr ⟨g1, fun H'' => Ex H2 H'' ∧ H'' Dl = some (.lst (((ns.take (i + 1)).filter b).map v)), fun H'' hN => ⟨m - 1, by omega, by omega, hN.1, hN.2⟩, fun y H'' hy => ?_⟩
    obtain ⟨e4, e5⟩ := g2 y H'' hy
    subst e4 e5
    refine ⟨hv _, ?_⟩
    refine ht _ hmem H'' ((e.trans e2).trans e3) _ fun H5 e6 => ?_
    rw [ht2, filter_snoc]
    cases hb : b ns[i] with
    | true =>
      show te ((wipe σ vs).set j (some (f ns[i]))) H5 _
      refine he _ hmem hb H5 (((e.trans e2).trans e3).trans e6) _ fun H6 e7 => ?_
      refine ⟨_, e7 _ _ (e6 _ _ hl), ?_, Ex.mut ((e3.trans e6).trans e7) hD, ?_⟩
      · refine szL6 ?_
        rw [List.length_map]
        have := List.length_filter_le b (ns.take i)
        rw [List.length_take] at this
        omega
      · rw [upd_same, if_pos rfl, List.map_append]; rfl
    | false =>
      show Ex H2 H5 ∧ _
      refine ⟨e3.trans e6, ?_⟩
      rw [if_neg Bool.false_ne_true, List.append_nil]
      exact e6 _ _ hl
  · have ei : i = ns.length := by omega
    subst ei
    rw [List.take_length] at hl
    rw [List.length_map] at q2
    exact .inl ⟨q2, q Dl H' (fresh_back e2 hD) (e2.trans e3) hl⟩
/-- without a test -/
theorem el_lcY {α : Type} {wi : TI} {P : Hp → Prop} {f : α → V} {ns : List α} {j : Nat} {vs : List Nat} (v : α → V) (hw : Wk wi σ H P (ns.map f)) (hm : ∀ H H', Ex H H' → P H → P H') (hp : P H) (hz : ns.length ≤ 100000)
    (hv : ∀ x, wipe ((wipe σ vs).set j (some x)) vs = wipe σ vs) (he : ∀ n ∈ ns, Ev te ((wipe σ vs).set j (some (f n))) H (v n)) :
    EvL (tLc wi (gName j) tYes te vs) σ H (ns.map v) := by
  have z := el_lc (t := tYes) (fun _ => true) v hw hm hp hz hv (fun _ _ => et_yes) (fun n hn _ => he n hn)
  rwa [List.filter_eq_self.mpr (fun _ _ => rfl)] at z
theorem pm_true {H H' : Hp} (_ : Ex H H') (_ : True) : True := trivial
/-- items of a new list -/
theorem el_lcN {α : Type} {tl : TE} {f : α → V} {ns : List α} {j : Nat} {vs : List Nat} (b : α → Bool) (v : α → V) (h : EvL tl σ H (ns.map f)) (hz : ns.length ≤ 100000)
    (hv : ∀ x, wipe ((wipe σ vs).set j (some x)) vs = wipe σ vs)
    (ht : ∀ n ∈ ns, EvT t ((wipe σ vs).set j (some (f n))) H (b n)) (he : ∀ n ∈ ns, b n = true → Ev te ((wipe σ vs).set j (some (f n))) H (v n)) :
    EvL (tLc (iList K tl) (gName j) t te vs) σ H ((ns.filter b).map v) := fun H1 e Q q =>
  h H1 e _ fun p H2 hp e2 h2 => by
    have z := el_lc (σ := σ) (H := H2) (wi := iList K (tC (.ref p))) (f := f) (ns := ns) (j := j) (vs := vs) (t := t) (te := te) b v (wk_list ev_c (sq_of h2)) (fun _ _ ex s => ex_l ex s) (sq_of h2) hz hv
      (fun n hn => (ht n hn).mono (e.trans e2)) (fun n hn hb => (he n hn hb).mono (e.trans e2))
    exact z H2 (Ex.refl H2) Q fun p' H3 hp' e3 h3 => q p' H3 (fresh_back e2 hp') (e2.trans e3) h3
end
end Mw
/-! rules of our own over the layer -/
namespace Mw
open PySem PySem.Spec PyProof.Rows L2 Evl

/-- where the classes stand -/
structure Ad where
  K : PySem.W.Frag
  cME : Addr
  cBT : Addr
  cBL : Addr
  cBW : Addr
  cBA : Addr
  cNT : Addr
  cNP : Addr
  cFu : Addr
  cBook : Addr
  cGroups : Addr

section
variable {X : Cx} {e : Expr} {te : TE} {pos : Pos}
theorem pe_globS {x z : Str} (hg : Gl X x) (hm : ∃ t, X.mg x = some (.str z t)) (hd : (x == ("__debug__" : Str)) = false := by decide) : PE X (.Name x pos) (tC (.str z)) := by
  obtain ⟨t, h⟩ := hm
  exact pe_glob hg h ⟨t, rfl⟩ hd
theorem pe_globI {x : Str} {i : Int} (hg : Gl X x) (hm : ∃ t, X.mg x = some (.int i t)) (hd : (x == ("__debug__" : Str)) = false := by decide) : PE X (.Name x pos) (tC (.int i)) := by
  obtain ⟨t, h⟩ := hm
  exact pe_glob hg h ⟨t, rfl⟩ hd

/-! ### calls -/
/-- a def that may be called by its name -/
structure Cal (P : Program) (w : World) (K : PySem.W.Frag) (mg : Str → Option Value) (base : Heap) (CX : CXT) (k : Nat) (x : Str) (ps : List Str) (sp : Sp) : Prop where
  ex : ∃ f fd, FnOk P w K mg base CX k f fd ps sp ∧ mg x = some (.ref f) ∧ PySem.W.keepIn K (.ref f) = true ∧ Binds K fd ps []
theorem pe_cal {CX : CXT} {k : Nat} {x : Str} {ps : List Str} {sp : Sp} {E : XK} {e : Expr} {es : List Expr} {t : TA} {p : Pos} (c : Cal X.prog X.w X.K X.mg X.base CX k x ps sp) (hr : Room k X.A) (hg : Gl X x) (hx : Passes CX X E) (ha : PA X (e :: es) t)
    (hdb : (x == ("__debug__" : Str)) = false := by decide) (he : starEach (e :: es) X.env = (false, eval e X.env) :: starEach es X.env := by rfl) (hpl : (backTo pos (starEach es X.env)).any (·.1) = false := by rfl) :
    PE X (.Call (.Name x p) (e :: es) [] pos) (tCall sp [] E t) := by
  obtain ⟨f, fd, F, hm, hk, hb⟩ := c.ex
  exact pe_call F hr hg hm hk hb .nil hx ha hdb he hpl
theorem pe_calS {k : Nat} {x : Str} {ps : List Str} {sp : Sp} {E : L2.St → XK} {e : Expr} {es : List Expr} {t : TA} {p : Pos} {CX : CXT} (c : Cal X.prog X.w X.K X.mg X.base CX k x ps sp) (hr : Room k X.A) (hg : Gl X x) (hx : ∀ σ, PassesAt CX X σ (E σ)) (ha : PA X (e :: es) t)
    (hdb : (x == ("__debug__" : Str)) = false := by decide) (he : starEach (e :: es) X.env = (false, eval e X.env) :: starEach es X.env := by rfl) (hpl : (backTo pos (starEach es X.env)).any (·.1) = false := by rfl) :
    PE X (.Call (.Name x p) (e :: es) [] pos) (tCallS sp E t) := by
  obtain ⟨f, fd, F, hm, hk, hb⟩ := c.ex
  exact pe_callS F hr hg hm hk hb hx ha hdb he hpl
theorem passX {E : XK} (tk : Takes X (fun cls d _ H => E cls d H)) : Passes (L2.CX X.prog X.w) X E := passes_call tk fun _ _ _ _ h => h

/-! ### raise C('..') -/
def tRz (E : XK) (C : Addr) : TS := fun _ _ H => E (.ref C) none H
/-- what the written part says of an own exception without own __init__ -/
structure XCls (K : PySem.W.Frag) (mg : Str → Option Value) (x : Str) (C : Addr) : Prop where
  g : mg x = some (.ref C)
  ex : PySem.W.excIn K C [.type "ValueError", .type "Exception", .type "BaseException", .type "object"] "ValueError.__new__" = true
  kp : PySem.W.keepIn K (.ref C) = true
  sb : PySem.W.subIn K (.ref C) (.type "BaseException") = some true
  ty : PySem.W.typeIn K (.ref C) = some (.type "type")
theorem ps_rz {x m : Str} {j : Nat} {p p2 pos2 : Pos} {E : XK} {C : Addr} (hc : X.calm = true) (c : XCls X.K X.mg x C) (hg : Gl X x) (tk : Takes X (fun cls d _ H => E cls d H)) (hdb : (x == ("__debug__" : Str)) = false := by decide) :
    PS X (.Raise (some (.Call (.Name x p) [.Constant (.str m) j p2] [] pos)) none pos2) (tRz E C) :=
  ps_raise hc tk (pmk_own PySem.F.excBase_ValueError c.ex c.g c.kp (raises_own c.sb c.ty) hg hdb)

/-! ### text[::-1] -/
def tRevT (te : TE) : TE := fun σ H Q => te σ H fun x H1 => ∃ z : Str, x = .str z ∧ z.length ≤ sizeLine ∧ Q (.str ⟨z.cps.toList.reverse.toArray⟩) H1
theorem range_down (n : Nat) : Builtin.Str.strSliceIndices none none (-1) n = (List.range n).reverse := by
  show sliceRange (((n : Nat) : Int) - 1) (-1) (-1) = _
  rw [PySem.W.krv_sliceRange, PySem.W.krv_range]
theorem pick_down (z : Str) : ((List.range z.length).reverse.filterMap (z.cps[·]?)) = z.cps.toList.reverse := by
  rw [List.filterMap_reverse]
  exact congrArg List.reverse (PySem.W.krv_all z.cps)
theorem pe_revT {k : Nat} {p1 p2 p3 : Pos} (he : PE X e te) : PE X (.Subscript e (.Slice none none (some (.UnaryOp .USub (.Constant (.int 1) k p1) p2)) p3) pos) (tRevT te) := by
  refine ⟨fun pins s σ H Q I h => Subscript_ (thn (he.run pins s σ H _ I h) fun v s1 hv => ?_)⟩
  obtain ⟨x, H1, J, rx, z, ex, hz, q⟩ := hv
  subst ex
  obtain ⟨t, rfl⟩ := rx
  have hd : PO X (some (.UnaryOp .USub (.Constant (.int 1) k p1) p2)) (tPart (tNegI (tC (.int 1)))) := po_some (pe_un un_neg pe_int)
  refine wpAny_Slice (thn ((po_none (X := X)).run pins s1 σ H1 (fun o G => o = none ∧ G = H1) J ⟨rfl, rfl⟩) fun vl s2 w1 => ?_)
  obtain ⟨l, G1, J1, pl, rfl, rfl⟩ := w1
  refine thn ((po_none (X := X)).run pins s2 σ G1 (fun o G => o = none ∧ G = G1) J1 ⟨rfl, rfl⟩) fun vu s3 w2 => ?_
  obtain ⟨u, G2, J2, pu, rfl, rfl⟩ := w2
  refine thn (hd.run pins s3 σ G2 (fun o G => o = some (-1) ∧ G = G2) J2 ⟨1, rfl, -1, rfl, rfl, rfl⟩) fun vs s4 w3 => ?_
  obtain ⟨o, G3, J3, ps, rfl, rfl⟩ := w3
  have J4 : Inv X pins σ G3 { s4 with heap := s4.heap.push { cls := .type "slice", data := .fields #[vl, vu, vs] } } := J3.kept (t' := s4.toks) fun b ob z => Heap.get?_push_of_some _ z
  obtain ⟨l1, rfl, q1⟩ := IsPart.raw pl
  obtain ⟨u1, rfl, q2⟩ := IsPart.raw pu
  obtain ⟨d1, rfl, q3⟩ := IsPart.raw ps
  obtain ⟨⟨di, dt⟩, rfl⟩ : ∃ y, d1 = some y := by
    cases d1 with
    | none => cases q3
    | some y => exact ⟨y, rfl⟩
  have q4 : di = -1 := Option.some.inj q3
  subst q4
  refine tail_any (ops := [.str z t, .ref s4.heap.objs.size]) (typeIs_str _ z t) PySem.F.slot_str_getitem.lookup ?_ (by with_unfolding_all rfl)
  refine wpAny_getItem_str_slice (l := l1) (u := u1) (st := some (-1, dt)) ⟨_, Heap.get?_push_size _ rfl, rfl, rfl⟩ rfl ?_
  have q1' : l1.map (·.1) = none := q1
  have q2' : u1.map (·.1) = none := q2
  have pk : slicePicked z l1 u1 (some (-1, dt)) = (List.range z.length).reverse := by
    unfold slicePicked
    rw [q1', q2']
    exact range_down _
  unfold sliceMade
  rw [pk, if_neg (show ¬ (((Option.map (·.1) (some ((-1 : Int), dt))).getD 1 == 1 && ((List.range z.length).reverse.length == z.length)) = true) from fun w => by
    rw [Bool.and_eq_true] at w
    have w1 : ((-1 : Int) == 1) = true := w.1
    exact absurd w1 (by decide)), pick_down]
  exact ⟨by show (z.cps.toList.reverse.toArray).size ≤ sizeLine; simpa [Str.length] using hz, .str _, G3, J4.tok _, ⟨_, rfl⟩, q⟩
end
section
variable {σ : L2.St} {H : Hp} {te : TE}
theorem e_rev {l : Tx} (h : Ev te σ H (tS l)) (hl : l.length ≤ 1000000) : Ev (tRevT te) σ H (tS l.reverse) := fun H1 e _ q =>
  h H1 e _ fun H2 e2 => ⟨T l, rfl, by rw [T_len]; exact sz6 hl, by rw [T_cps]; exact q H2 e2⟩
end

/-! ### text * int -/
def rMulT : R2 := fun x y H Q => ∃ (z : Str) (n : Int), x = .str z ∧ y = .int n ∧ 0 ≤ n ∧ n ≤ 1000000 ∧ z.length * n.toNat ≤ 1000000 ∧ Q (.str ⟨(List.replicate n.toNat z.cps.toList).flatten.toArray⟩) H
theorem fold_cat (xs : List (Array Nat)) : ∀ acc : Array Nat, (xs.foldl (· ++ ·) acc).toList = acc.toList ++ (xs.map Array.toList).flatten := by
  induction xs with
  | nil => intro acc; simp
  | cons x r ih => intro acc; rw [List.foldl_cons, ih]; simp
theorem fold_rep (z : Str) (k : Nat) : (⟨(List.replicate k z.cps).foldl (· ++ ·) #[]⟩ : Str) = ⟨(List.replicate k z.cps.toList).flatten.toArray⟩ := by
  congr 1
  apply Array.toList_inj.mp
  rw [fold_cat]
  simp
theorem tooL6 {n : Nat} (h : n ≤ 1000000) : Builtin.Str.tooLong n = false := by
  unfold Builtin.Str.tooLong
  rw [decide_eq_false]
  have := sizeLine_eq
  omega
theorem op_mulT {X : Cx} : OpR X (binaryOp .Mult) rMulT := by
  intro pins s σ H x y v u Q I rx ry h
  obtain ⟨z, n, rfl, rfl, h0, h1, h2, q⟩ := h
  obtain ⟨t, rfl⟩ := rx
  obtain ⟨t', rfl⟩ := ry
  have fin : ∀ r : Str, r = ⟨(List.replicate n.toNat z.cps.toList).flatten.toArray⟩ → r.length ≤ sizeLine → ∀ k, EP X pins σ Q (.str r k) { s with toks := s.toks + 1 } := fun r e _ k =>
    ⟨.str r, H, I.tok _, ⟨_, rfl⟩, by rw [e]; exact q⟩
  have hlen : ∀ k : Nat, (⟨(List.replicate k z.cps.toList).flatten.toArray⟩ : Str).length = z.length * k := fun k => by
    simp [Str.length, Nat.mul_comm]
  refine PySem.P.mul_str (by
    rw [decide_eq_false (by omega), decide_eq_false (by omega)]; rfl) (fun a b => ?_) (fun a b => tooL6 h2) ?_
  · have hn : 1 ≤ n := by omega
    obtain ⟨m, rfl⟩ : ∃ m : Nat, n = m := ⟨n.toNat, by omega⟩
    have h3 : z.length * m ≤ 1000000 := h2
    have h4 : ((z.length * m : Nat) : Int) ≤ ((1000000 : Nat) : Int) := Int.ofNat_le.mpr h3
    rw [Int.natCast_mul] at h4
    have h5 : (z.length : Int) ≤ (2 ^ 63 - 1) / (m : Int) := (Int.le_ediv_iff_mul_le (by omega)).mpr (by omega)
    omega
  · by_cases a : n < 1
    · have e : n = 0 := by omega
      subst e
      rw [if_pos a]
      exact ⟨by show 0 ≤ sizeLine; exact Nat.zero_le _, fin _ rfl (Nat.zero_le _) _⟩
    · rw [if_neg a]
      by_cases b : (n == 1 || z.length == 0) = true
      · rw [if_pos b]
        refine ⟨.str z, H, I, ⟨_, rfl⟩, ?_⟩
        have ez : z = ⟨(List.replicate n.toNat z.cps.toList).flatten.toArray⟩ := by
          rcases Bool.or_eq_true _ _ ▸ b with b | b
          · have e : n = 1 := by simpa using b
            subst e
            simp
          · have e : z.cps = #[] := by
              have : z.cps.size = 0 := by simpa [Str.length] using b
              exact Array.eq_empty_of_size_eq_zero this
            obtain ⟨c⟩ := z
            dsimp only at e
            subst e
            simp
        rw [← ez] at q
        exact q
      · rw [if_neg b]
        have hl : (⟨(List.replicate n.toNat z.cps).foldl (· ++ ·) #[]⟩ : Str).length ≤ sizeLine := by
          rw [fold_rep, hlen]
          exact sz6 h2
        exact ⟨hl, fin _ (fold_rep z n.toNat) hl _⟩
def repT (l : Tx) (n : Nat) : Tx := (List.replicate n l).flatten
theorem r_mulT {H : Hp} {l : Tx} {n : Int} (h0 : 0 ≤ n) (h1 : n ≤ 1000000) (h2 : l.length * n.toNat ≤ 1000000) : RV rMulT (tS l) (.int n) H (tS (repT l n.toNat)) := fun H1 _ _ q =>
  ⟨T l, n, rfl, rfl, h0, h1, by rw [T_len]; exact h2, by rw [T_cps]; exact q H1 (Ex.refl H1)⟩
end Mw
/-! an error that a try catches and a name keeps; what isinstance says of it -/
namespace Mw
open PySem PySem.Spec PyProof.Rows L2 Evl

/-- an error of the class at C that stands at a -/
def ExK (C a : Addr) : HO := .ext fun h => ∃ (oe : Obj) (vs : Array Value), h.get? a = some oe ∧ Zc (.ref C) none oe ∧ oe.data = .fields vs
section
variable {X : Cx} {pins : List (Addr × Obj)} {σ : L2.St} {H : Hp} {s : Shared} {a : Addr} {o : HO}
/-- an object that the frame did not find at its entry is taken up -/
theorem track (I : Inv X pins σ H s) (hn : H a = none) (hL : a ≠ X.env.locals) (h0 : X.s_0.heap.get? a = none) (hc : ∀ x c, X.env.cells.lookup x = some c → c ≠ a) (hp : ∀ p ∈ X.pn ++ pins, p.1 ≠ a)
    (new : ObjOk X.prog X.w (upd H a o) s.heap a o) : Inv X pins σ (upd H a o) s := by
  have ne0 : ∀ b u, X.s_0.heap.get? b = some u → b ≠ a := fun b u e z => by rw [z, h0] at e; cases e
  have neH : ∀ b u, H b = some u → b ≠ a := fun b u e z => by rw [z, hn] at e; cases e
  constructor
  · exact I.ok
  · exact I.os
  · exact I.bare
  · have b := I.base
    constructor
    · exact b.keep
    · exact b.slot
    · intro c u e n x
      rw [upd_ne (ne0 c u e)]; exact b.free c u e n x
    · exact b.there
    · intro c xs e
      have z := b.tups c xs e
      rw [upd_ne (neH c _ z)]; exact z
    · intro c u v e
      have z := b.frzs c u v e
      rw [upd_ne (neH c _ z)]; exact z
    · intro c ps e
      obtain ⟨m, z⟩ := b.tbls c ps e
      exact ⟨m, by rw [upd_ne (neH c _ z)]; exact z⟩
  · exact I.loc
  · exact I.cell
  · rw [upd_ne (Ne.symm hL)]; exact I.free
  · intro x c e
    rw [upd_ne (hc x c e)]; exact I.freeC x c e
  · intro p m
    obtain ⟨e1, e2, e3⟩ := I.pin p m
    exact ⟨e1, by rw [upd_ne (hp p m)]; exact e2, e3⟩
  · exact I.hok.laidN (fun _ _ z => z) hn new
  · exact I.len
end

/-- try: BODY except C as n: y = n: y keeps what was caught -/
def tTryK (K : PySem.W.Frag) (C : Addr) (i j : Nat) (tb : WX → TS) : TS := fun D σ H =>
  tb (fun cls d σ' H' => ∃ D' : Addr, cls = .ref D' ∧ d = none ∧ PySem.W.exmOne K (.ref D') (.ref C) = some true ∧ ∀ a, H' a = none → D.nx ((σ'.set j (some (.ref a))).set i none) (upd H' a (ExK D' a))) D σ H
section
variable {X : Cx} {x n y : Str} {C : Addr} {i j : Nat} {body : List Stmt} {np p1 p2 p3 pos pos' : Pos} {tb : WX → TS}
theorem ps_tryK (hs : X.stack = X.env :: X.outer) (hf : X.env.frame = some X.env.locals) (hex : X.ex = []) (hN : X.N.Nodup) (hi : X.N[i]? = some n) (hj : X.N[j]? = some y) (hij : i ≠ j) (hln : X.env.scope.names.lookup n = some .local) (hly : X.env.scope.names.lookup y = some .local)
    (hg : Gl X x) (hm : X.mg x = some (.ref C)) (hb : ∀ (W : WX) (pn : List (Addr × Obj)) (xe : Value → Shared → Prop), Takes (X.tr pn xe) W → PSs (X.tr pn xe) body (tb W))
    (hd : (n == ("__debug__" : Str)) = false := by decide) (hdc : (n == ("__classdict__" : Str)) = false := by decide) (hdx : (x == ("__debug__" : Str)) = false := by decide) (hsw : swapsWith (.Name n p1) (some (.Name y p2)) p3.line X.env = pure false := by rfl) :
    PS X (.Try body [.ExceptHandler (some (.Name x np)) (some n) [.Assign [.Name y p2] (.Name n p1) p3] pos'] [] [] pos) (tTryK X.K C i j tb) := by
  refine ⟨fun pins s σ H D I h => ?_⟩
  have ok := I.ok
  have hfr : X.A.frames = some (X.env :: X.outer) := by rw [← hs]; exact ok.frames
  have sui : ∀ (a : Addr) (l : List (Addr × Obj)), PSs (X.suite a l) [.Assign [.Name y p2] (.Name n p1) p3] (tAsg (tVar i) (gName j)) := fun a l =>
    pss_one (ps_set (X := X.suite a l) (i := j) hN hj (.inl hly) (pe_var (X := X.suite a l) hi (.inl hln) hd hdc) hsw (.inr hly))
  let Wt : WX := fun cls d σ' H' => ∃ D' : Addr, cls = .ref D' ∧ d = none ∧ PySem.W.exmOne X.K (.ref D') (.ref C) = some true ∧ ∀ a, H' a = none → D.nx ((σ'.set j (some (.ref a))).set i none) (upd H' a (ExK D' a))
  let Q3 : Value → Shared → Prop := fun e s3 => wpAny (model X.prog X.w) X.A (handleBy e X.env [.ExceptHandler (some (.Name x np)) (some n) [.Assign [.Name y p2] (.Name n p1) p3] pos']) (SP X pins D) X.xe s3
  let Q1 : Value → Shared → Prop := fun e s1 => wpAny (model X.prog X.w) X.A (noteFrame e X.env) (fun _ s2 => wpAny (model X.prog X.w) X.A (setFlight e none) (fun _ s3 => Q3 e s3) X.xe s2) X.xe s1
  have tk : Takes (X.tr (X.pn ++ pins) Q1) Wt := by
    intro u s' xx
    obtain ⟨a, B, sI, pins', σ1, H1, cls, d, rfl, J0, nb, up, sky, na, os, ag, D', rfl, rfl, hex1, kn⟩ := xx
    have J : Inv X pins σ1 H1 sI := J0.ofTry ok
    have sk : Sky B (X.env :: X.outer) a (Zc (.ref D') none) X.env.locals s'.heap := by
      have z := sky
      rw [show (X.tr (X.pn ++ pins) Q1).stack = X.env :: X.outer from hs] at z
      exact z
    show wpAny (model X.prog X.w) X.A (noteFrame (.ref a) X.env) (fun _ s2 => wpAny (model X.prog X.w) X.A (setFlight (.ref a) none) (fun _ s3 => Q3 (.ref a) s3) X.xe s2) X.xe s'
    refine Sky.land Zc.steady hfr hf sk fun g fl upg => ?_
    have Jg : Inv X pins σ1 H1 { s' with heap := g } := J.landed nb fl.1 (up.trans upg) os ag
    obtain ⟨og, vg, hag, hzg, hdg⟩ := fl.there
    have nfr : a ∉ frs (X.env :: X.outer) := fun hmem => by
      obtain ⟨_, o', e', hnf⟩ := fl.2.2.1.mem hmem
      rw [hag] at e'
      cases e'
      exact hnf _ hdg
    have nL : a ≠ X.env.locals := fun z => nfr (List.mem_filterMap.mpr ⟨X.env, List.mem_cons_self, by rw [hf, z]⟩)
    have nF : a ∉ X.fs := fun hmem => by
      obtain ⟨e1, he1, q1⟩ := List.mem_filterMap.mp hmem
      exact nfr (List.mem_filterMap.mpr ⟨e1, List.mem_cons_of_mem _ he1, q1⟩)
    have Sg := Jg.suite hag hdg na nL nF
    have nI : sI.heap.get? a = none := by
      cases z : sI.heap.get? a with
      | none => rfl
      | some u =>
        have nfr' : a ∉ frs X.stack := by rw [hs]; exact nfr
        have z2 := nb a u z nfr'
        rw [fl.2.1] at z2
        cases z2
    have n0 : X.s_0.heap.get? a = none := by
      cases z : X.s_0.heap.get? a with
      | none => rfl
      | some u =>
        obtain ⟨o', z2⟩ := J.base.there a u z (by rw [hex]; exact List.not_mem_nil)
        rw [nI] at z2
        cases z2
    refine wpAny_handleBy_cons (codeAny_handlers_test ?_) (fun q => by cases q)
    have LT : PySem.W.Looks (model X.prog X.w) g (typeOf (.ref a)) (.ref D') := fun A Q E s k q => wpAny_typeOf_ref (k _ _ hag) (by rw [hzg.1]; exact q)
    have LM := PySem.W.exm_one (M := model X.prog X.w) Jg.kIn LT hex1
    refine ld_glob (X := X.suite a ((a, og) :: (X.pn ++ pins))) Sg hg hm (LM.here ?_) hdx
    refine codeAny_handlers_suite_as (HandSPX.lands_againZ fl fun g2 fl2 upg2 => ?_)
    have Jk : Inv X pins σ1 H1 { s' with heap := g2 } := J.landed nb fl2.1 ((up.trans upg).trans upg2) os ag
    obtain ⟨o2, v2, ha2, hz2, hd2⟩ := fl2.there
    have Jt : Inv X pins σ1 (upd H1 a (ExK D' a)) { s' with heap := g2 } := track Jk na nL n0
      (fun x1 c e1 z => by
        obtain ⟨v, oc, e2, e3⟩ := Jk.cell x1 c e1
        rw [z] at e2
        have e4 : g2.get? a = some oc := e2
        rw [ha2] at e4
        cases e4
        rw [hd2] at e3
        cases e3)
      (fun p m z => by
        obtain ⟨e1, _⟩ := J.pin p m
        rw [z, nI] at e1
        cases e1)
      ⟨⟨o2, v2, ha2, hz2, hd2⟩, ⟨o2, ha2⟩, fun h1 h2 w1 k => by
        obtain ⟨u1, u2, e1, e2, e3⟩ := w1
        exact ⟨u1, u2, k _ e1, e2, e3⟩⟩
    have St : Inv (X.suite a (X.pn ++ pins)) [] σ1 (upd H1 a (ExK D' a)) { s' with heap := g2 } :=
      ⟨Jt.ok.suite _ _, Jt.os, Jt.bare, Jt.base, Jt.loc, Jt.cell, Jt.free, Jt.freeC, fun p hp => Jt.pin p (by rw [List.append_nil] at hp; exact hp), Jt.hok, Jt.len⟩
    refine store_ok (X := X.suite a (X.pn ++ pins)) (v := .ref a) St hN hi (.inl hln) rfl (fun s5 S5 => ?_) (.inr hln)
    have hlen : i < σ1.length := by rw [Jt.len]; exact (List.getElem?_eq_some_iff.mp hi).1
    refine wpAny_mono ((sui a (X.pn ++ pins)).run [] s5 _ _ { nx := fun σ2 H2 => σ2 = (σ1.set i (some (.ref a))).set j (some (.ref a)) ∧ H2 = upd H1 a (ExK D' a), rt := fun _ _ => False } S5 ⟨.ref a, by rw [List.getElem?_set_self hlen], rfl, rfl⟩) (fun f s6 hsp => ?_) (fun _ _ z => False.elim z)
    cases f with
    | next =>
      obtain ⟨σ6, H6, S6, rfl, rfl⟩ := hsp
      have J6 : Inv X pins ((σ1.set i (some (.ref a))).set j (some (.ref a))) (upd H1 a (ExK D' a)) s6 :=
        ⟨ok, S6.os, S6.bare, S6.base, S6.loc, S6.cell, S6.free, S6.freeC, fun p hp => S6.pin p (List.mem_append_left _ hp), S6.hok, S6.len⟩
      refine gone_ok J6 hN hi hln fun s7 J7 => ⟨_, _, J7, ?_⟩
      have e : ((σ1.set i (some (V.ref a))).set j (some (V.ref a))).set i none = (σ1.set j (some (V.ref a))).set i none := by
        rw [List.set_comm _ _ hij, List.set_set]
      rw [e]
      exact kn a na
    | brk => obtain ⟨_, _, _, z⟩ := hsp; exact z.elim
    | cont => obtain ⟨_, _, _, z⟩ := hsp; exact z.elim
    | ret u => obtain ⟨_, _, _, _, _, z⟩ := hsp; exact z.elim
  refine wpAny_Try_except (wpAny_mono ((hb Wt (X.pn ++ pins) Q1 tk).run [] s σ H D (I.toTry _) h) (fun f s1 hsp => ?_) (fun e s1 he => he))
  cases f with
  | next => obtain ⟨σ2, H2, J2, q⟩ := hsp; exact wpAny_execs_nil ⟨σ2, H2, J2.ofTry ok, q⟩
  | brk => obtain ⟨σ2, H2, J2, q⟩ := hsp; exact ⟨σ2, H2, J2.ofTry ok, q⟩
  | cont => obtain ⟨σ2, H2, J2, q⟩ := hsp; exact ⟨σ2, H2, J2.ofTry ok, q⟩
  | ret u => obtain ⟨v, σ2, H2, J2, r, q⟩ := hsp; exact ⟨v, σ2, H2, J2.ofTry ok, r, q⟩
end

/-! ### isinstance of what is kept -/
def rIsX (K : PySem.W.Frag) : List V → Hp → VK → Prop := fun xs H Q => ∃ (a D : Addr) (c : V) (u : Value) (b : Bool), xs = [.ref a, c] ∧ H a = some (ExK D a) ∧ ExcC K D ∧ ClsV c u ∧ PySem.W.kitOne K (.ref D) u = some b ∧ Q (.bl b) H
def rIsXT (K : PySem.W.Frag) : List V → Hp → VK → Prop := fun xs H Q => ∃ (a D tp : Addr) (cs : List V) (us : List Value) (b : Bool), xs = [.ref a, .ref tp] ∧ H a = some (ExK D a) ∧ ExcC K D ∧ H tp = some (.tup cs) ∧ Paired ClsV cs us ∧ PySem.W.kitAny K (.ref D) us = some b ∧ Q (.bl b) H
section
variable {X : Cx} {pins : List (Addr × Obj)} {σ : L2.St} {H : Hp} {s : Shared} {a D : Addr}
theorem exk_at (I : Inv X pins σ H s) (h : H a = some (ExK D a)) (C : ExcC X.K D) : ∃ oe, PySem.W.KitX X.K (.ref a) (.ref D) (fun h => PySem.W.InstAt h a oe D none) ∧ PySem.W.InstAt s.heap a oe D none := by
  obtain ⟨⟨oe, vs, e1, e2, e3⟩, _⟩ := I.hok a _ h
  refine ⟨oe, PySem.W.handS_kitx_exc C.hg C.hk C.hs C.hd C.ha C.hn C.ht C.hm, ?_⟩
  obtain ⟨oc, od, dt, sl⟩ := oe
  obtain ⟨z1, z2⟩ := e2
  dsimp only at z1 z2 e3
  subst z1 z2 e3
  exact ⟨e1, rfl, rfl, trivial⟩
theorem call_isX : CallR X (.builtin "isinstance") (rIsX X.K) := by
  intro pins s σ H xs us Q I r h
  obtain ⟨a, D, c, u, b, rfl, hh, C, k, e, q⟩ := h
  obtain ⟨u1, u2, rfl, r1, r2⟩ := vals2 r
  cases (show u1 = Value.ref a from r1)
  have e2 := k.eq r2
  subst e2
  obtain ⟨oe, Z, J⟩ := exk_at I hh C
  exact PySem.W.kia_one Z I.kIn J e (fun z => nomatch z) fun tk => ⟨.bl b, H, I.tok tk, rfl, q⟩
theorem call_isXT : CallR X (.builtin "isinstance") (rIsXT X.K) := by
  intro pins s σ H xs us Q I r h
  obtain ⟨a, D, tp, cs, ws, b, rfl, hh, C, hT, k, e, q⟩ := h
  obtain ⟨u1, u2, rfl, r1, r2⟩ := vals2 r
  cases (show u1 = Value.ref a from r1)
  cases (show u2 = Value.ref tp from r2)
  obtain ⟨oe, Z, J⟩ := exk_at I hh C
  obtain ⟨_, its, rv, o, h1, h2, n, h3⟩ := (show ObjOk X.prog X.w H s.heap tp (.tup cs) from I.hok tp _ hT)
  have e3 := ClsV.all k rv
  subst e3
  obtain ⟨oc, od, dt, sl⟩ := o
  simp only at h2 h3
  subst h2 h3
  exact PySem.W.kia_tup Z I.kIn J h1 e (fun z => nomatch z) fun tk => ⟨.bl b, H, I.tok tk, rfl, q⟩
end
section
variable {K : PySem.W.Frag} {σ : L2.St} {H H' : Hp} {a D : Addr} {te : TE} {ta : TA}
theorem rc_isX {c : V} {u : Value} {b : Bool} (h : H a = some (ExK D a)) (C : ExcC K D) (k : ClsV c u) (e : PySem.W.kitOne K (.ref D) u = some b) : RC (rIsX K) [.ref a, c] H (.bl b) := fun H1 x _ q =>
  ⟨a, D, c, u, b, rfl, x a _ h, C, k, e, q H1 (Ex.refl H1)⟩
/-- isinstance(x, (c, ..)), the tuple made on the way -/
theorem e_isXT {cs : List V} {us : List Value} {b : Bool} (h : H a = some (ExK D a)) (C : ExcC K D) (hx : Ev te σ H (.ref a)) (hc : EvA ta σ H cs) (hz : cs.length ≤ 1000) (k : Paired ClsV cs us) (e : PySem.W.kitAny K (.ref D) us = some b) :
    Ev (tCB (rIsXT K) (tCons te (tCons (tTup ta) tNil))) σ H (.bl b) := fun H1 x Q q =>
  hx H1 x _ fun H2 x2 => eu_tup hc (by omega) H2 (x.trans x2) _ fun p H3 _ x3 h3 => ⟨a, D, p, cs, us, b, rfl, ((x.trans x2).trans x3) a _ h, C, h3, k, e, q H3 (x2.trans x3)⟩
theorem rc_isi {x c : V} {t u : Value} {b : Bool} (ty : ∀ H1, Ex H H1 → TyX K H1 x t) (k : ClsV c u) (e : PySem.W.kitOne K t u = some b) : RC (rIsi K) [x, c] H (.bl b) := fun H1 ex _ q => ⟨x, c, t, u, b, rfl, k, ty H1 ex, e, q H1 (Ex.refl H1)⟩
end

/-! ### kinds of things; written texts -/
theorem tyOf_ex {K : PySem.W.Frag} {H H1 : Hp} {x : V} {t : Value} (e : Ex H H1) (h : TyOf K H x t) : TyOf K H1 x t := by
  cases h with
  | non => exact .non
  | bl b => exact .bl b
  | int i => exact .int i
  | str z => exact .str z
  | flt z => exact .flt z
  | lst h => exact .lst (e _ _ h)
  | frz h => exact .frz (e _ _ h)
  | tup h => exact .tup (e _ _ h)
  | dK h => exact .dK (e _ _ h)
  | dT h => exact .dT (e _ _ h)
  | ins h c h1 h2 h3 h4 => exact .ins (e _ _ h) c h1 h2 h3 h4
theorem tyX_ex {K : PySem.W.Frag} {H H1 : Hp} {x : V} {t : Value} (e : Ex H H1) (h : TyX K H x t) : TyX K H1 x t := by
  cases h with
  | base h => exact .base (tyOf_ex e h)
  | byt b => exact .byt b
  | set h => exact .set (e _ _ h)
  | kList h c => exact .kList h c
  | kTuple h c => exact .kTuple h c
  | kDict h c => exact .kDict h c
  | fTuple h => exact .fTuple (e _ _ h)
  | fDict h => exact .fDict (e _ _ h)
/-- v is no text -/
def Odd (K : PySem.W.Frag) (H : Hp) (v : V) : Prop := ∃ n : String, TyX K H v (.type n) ∧ n ∈ ["NoneType", "int", "bool", "list", "tuple", "dict"]
theorem Odd.ex {K : PySem.W.Frag} {H H1 : Hp} {v : V} (e : Ex H H1) (h : Odd K H v) : Odd K H1 v := by
  obtain ⟨n, h1, h2⟩ := h
  exact ⟨n, tyX_ex e h1, h2⟩
theorem odd_str {K : PySem.W.Frag} {n : String} (h : n ∈ ["NoneType", "int", "bool", "list", "tuple", "dict"]) : PySem.W.kitOne K (.type n) (.type "str") = some false := by
  simp only [List.mem_cons, List.not_mem_nil, or_false] at h
  rcases h with rfl | rfl | rfl | rfl | rfl | rfl <;> exact kit_ty (by decide +kernel)
section
variable {X : Cx} {pos : Pos}
theorem pe_strT {x : Str} {l : Tx} {j : Nat} (h : x = T l) : PE X (.Constant (.str x) j pos) (tC (tS l)) := by
  subst h; exact pe_str
theorem pe_globT {x : Str} {l : Tx} (hg : Gl X x) (hm : ∃ t, X.mg x = some (.str (T l) t)) (hd : (x == ("__debug__" : Str)) = false := by decide) : PE X (.Name x pos) (tC (tS l)) := pe_globS hg hm hd
end
def letters : Tx := [97, 98, 99, 100, 101, 102, 103, 104, 105, 106, 107, 108, 109, 110, 111, 112, 113, 114, 115, 116, 117, 118, 119, 120, 121, 122]
section
variable {K : PySem.W.Frag} {σ : L2.St} {H H' : Hp} {ta tb te : TE} {x y z v : V}
theorem r_divI {i j : Int} (h : 0 < j ∧ j < 1073741824) : RV rDivI (.int i) (.int j) H (.int (i / j)) := rv_I h
theorem r_modI {i j : Int} (h : 0 < j) : RV rModI (.int i) (.int j) H (.int (i % j)) := rv_I h
theorem r_mulI {i j : Int} (h : (-(2 ^ 64) < i ∧ i < 2 ^ 64) ∨ (-(2 ^ 64) < j ∧ j < 2 ^ 64)) : RV rMulI (.int i) (.int j) H (.int (i * j)) := rv_I h
theorem r_powI {i j : Int} (h : 0 ≤ j ∧ j ≤ 1000000 ∧ i.natAbs < 2 ^ 64) : RV rPowI (.int i) (.int j) H (.int (i ^ j.toNat)) := rv_I h
theorem r_eqN {i : V} : RV rEq .non .non H (.bl true) := fun H1 _ _ q => ⟨rfl, q H1 (Ex.refl H1)⟩
/-- a promise that a value comes of it; E is not wished -/
def spV (R : List V → Hp → V → Prop) : Sp := fun vs H Q _ => ∃ v, R vs H v ∧ ∀ H', Ex H H' → Q v H'
/-- .. a new list -/
def spL (R : List V → Hp → List V → Prop) : Sp := fun vs H Q _ => ∃ xs, R vs H xs ∧ ∀ p H', H p = none → Ex H H' → H' p = some (.lst xs) → Q (.ref p) H'
/-- .. a value, or an error of the class at C -/
def spVX (R : List V → Hp → V → Prop) (B : List V → Hp → Addr → Prop) : Sp := fun vs H Q E => (∃ v, R vs H v ∧ ∀ H', Ex H H' → Q v H') ∨ ∃ C, B vs H C ∧ ∀ H', Ex H H' → E (.ref C) none H'
def spLX (R : List V → Hp → List V → Prop) (B : List V → Hp → Addr → Prop) : Sp := fun vs H Q E => (∃ xs, R vs H xs ∧ ∀ p H', H p = none → Ex H H' → H' p = some (.lst xs) → Q (.ref p) H') ∨ ∃ C, B vs H C ∧ ∀ H', Ex H H' → E (.ref C) none H'
theorem e_callV {R : List V → Hp → V → Prop} {E : XK} {ta : TA} {vs : List V} (h : EvA ta σ H vs) (hR : ∀ H1, Ex H H1 → R vs H1 z) : Ev (tCall (spV R) [] E ta) σ H z :=
  ev_call h fun H1 e Q q E => ⟨z, by rw [List.append_nil]; exact hR H1 e, q⟩
theorem e_callL {R : List V → Hp → List V → Prop} {E : XK} {ta : TA} {vs xs : List V} (h : EvA ta σ H vs) (hR : ∀ H1, Ex H H1 → R vs H1 xs) : EvL (tCall (spL R) [] E ta) σ H xs :=
  el_call h fun H1 e Q q E => ⟨xs, by rw [List.append_nil]; exact hR H1 e, q⟩
theorem e_callVX {R : List V → Hp → V → Prop} {B : List V → Hp → Addr → Prop} {E : XK} {ta : TA} {vs : List V} (h : EvA ta σ H vs) (hR : ∀ H1, Ex H H1 → R vs H1 z) : Ev (tCall (spVX R B) [] E ta) σ H z :=
  ev_call h fun H1 e Q q E => .inl ⟨z, by rw [List.append_nil]; exact hR H1 e, q⟩
theorem e_callLX {R : List V → Hp → List V → Prop} {B : List V → Hp → Addr → Prop} {E : XK} {ta : TA} {vs xs : List V} (h : EvA ta σ H vs) (hR : ∀ H1, Ex H H1 → R vs H1 xs) : EvL (tCall (spLX R B) [] E ta) σ H xs :=
  el_call h fun H1 e Q q E => .inl ⟨xs, by rw [List.append_nil]; exact hR H1 e, q⟩
end

/-! ### "".join(..) -/
abbrev rJoin (K : PySem.W.Frag) : V → List V → Hp → VK → Prop := fun x xs H Q => ∃ a p, ∃ ys : List Str, x = .str a ∧ xs = [.ref p] ∧ (SqL K H p (ys.map V.str) ∨ SqT K H p (ys.map V.str)) ∧ (ys.map (·.length)).sum + ys.length * a.length ≤ 16777216 ∧ Q (.str (Txt.join a ys)) H
abbrev tJoin (K : PySem.W.Frag) (to te : TE) : TE := tM1 (rJoin K) to te
theorem joinL_nil : ∀ ls : List Tx, TL.joinL [] ls = ls.flatten
  | [] => rfl
  | [p] => by show p = [p].flatten; simp
  | p :: q :: r => by
    show p ++ ([] ++ TL.joinL [] (q :: r)) = (p :: q :: r).flatten
    rw [joinL_nil (q :: r)]; simp
theorem join_T (ls : List Tx) : Txt.join (T []) (ls.map T) = T ls.flatten := by
  refine TL.ext_tl ?_
  rw [TL.join_eq, TL.tl_join, List.map_map]
  show TL.joinL [] (ls.map (TL.tl ∘ T)) = ls.flatten
  have e : (TL.tl ∘ T) = (id : Tx → Tx) := funext fun l => T_cps l
  rw [e, List.map_id, joinL_nil]
theorem sum_len (ls : List Tx) : ((ls.map T).map (·.length)).sum = ls.flatten.length := by
  rw [List.length_flatten, List.map_map]
  exact congrArg List.sum (List.map_congr_left fun l _ => T_len l)
section
variable {K : PySem.W.Frag} {σ : L2.St} {H H' : Hp} {ta tb te to : TE} {x y z v : V}
theorem e_join {ls : List Tx} (ho : Ev to σ H (tS [])) (h : EvL te σ H (ls.map tS)) (hz : ls.flatten.length ≤ 1000000) : Ev (tJoin K to te) σ H (tS ls.flatten) := fun H1 e _ q =>
  ho H1 e _ fun H2 e2 => ⟨⟨_, rfl⟩, h H2 (e.trans e2) _ fun p H3 _ e3 h3 => ⟨T [], p, ls.map T, rfl, rfl, .inl (by rw [List.map_map]; exact sq_of h3), by
    rw [sum_len, T_len]; simp only [List.length_nil, Nat.mul_zero]; omega, by rw [join_T]; exact q H3 (e2.trans e3)⟩⟩
/-- a list that is there -/
theorem e_joinL {ls : List Tx} {p : Addr} (ho : Ev to σ H (tS [])) (h : Ev te σ H (.ref p)) (hp : SqL K H p (ls.map tS)) (hz : ls.flatten.length ≤ 1000000) : Ev (tJoin K to te) σ H (tS ls.flatten) := fun H1 e _ q =>
  ho H1 e _ fun H2 e2 => ⟨⟨_, rfl⟩, h H2 (e.trans e2) _ fun H3 e3 => ⟨T [], p, ls.map T, rfl, rfl, .inl (by rw [List.map_map]; exact ex_l ((e.trans e2).trans e3) hp), by
    rw [sum_len, T_len]; simp only [List.length_nil, Nat.mul_zero]; omega, by rw [join_T]; exact q H3 (e2.trans e3)⟩⟩
theorem cut_map {α : Type} (f : α → V) (ns : List α) (lo hi : Option Int) : cutV (ns.map f) lo hi = ((ns.drop (HT.sIx ns.length 0 lo)).take (HT.sIx ns.length ns.length hi - HT.sIx ns.length 0 lo)).map f := by
  unfold cutV
  rw [List.length_map, List.map_take, List.map_drop]
/-- a slice of a list that is read -/
theorem e_slL {α : Type} {f : α → V} {ns : List α} {tl th : TO} {a : Addr} {lo hi : Option Int} (h : Ev te σ H (.ref a)) (h1 : EvO tl σ H lo) (h2 : EvO th σ H hi) (hs : SqL K H a (ns.map f)) :
    EvL (tSl (rSlL K) te tl th) σ H (((ns.drop (HT.sIx ns.length 0 lo)).take (HT.sIx ns.length ns.length hi - HT.sIx ns.length 0 lo)).map f) := by
  rw [← cut_map]
  exact el_sl h h1 h2 hs
/-- one of several values -/
def EvP (te : TE) (σ : L2.St) (H : Hp) (P : V → Prop) : Prop := ∀ H1, Ex H H1 → ∀ Q : VK, (∀ v H2, P v → Ex H1 H2 → Q v H2) → te σ H1 Q
variable {S : List Addr} {H0 : Hp} {L : List (Addr × HO)} {D : Ends} {tz : TS} {P : V → Prop}
theorem a_asgP {i : Nat} (am : Am S H0 L H) (h : EvP te σ H P) (k : ∀ v H, P v → Am S H0 L H → D.nx (σ.set i (some v)) H) : tAsg te (gName i) D σ H := h H (Ex.refl H) _ fun v H1 p e => k v H1 p (am.ex e)
theorem aq_asgP {i : Nat} (am : Am S H0 L H) (h : EvP te σ H P) (k : ∀ v H, P v → Am S H0 L H → tz D (σ.set i (some v)) H) : tSeq (tAsg te (gName i)) tz D σ H := a_asgP (D := { D with nx := tz D }) am h k
theorem a_retP (am : Am S H0 L H) (h : EvP te σ H P) (k : ∀ v H, P v → Am S H0 L H → D.rt v H) : tRet te D σ H := h H (Ex.refl H) _ fun v H1 p e => k v H1 p (am.ex e)
end

/-! ### slices of texts by their common forms -/
theorem cut_to {α : Type} (l : List α) {i : Int} (h : 0 ≤ i) : (l.drop (HT.sIx l.length 0 none)).take (HT.sIx l.length l.length (some i) - HT.sIx l.length 0 none) = l.take i.toNat := by
  rw [HT.sIx_none, sIx_pos _ _ _ h, List.drop_zero, Nat.sub_zero]
  rw [List.take_eq_take_iff]; omega
theorem cut_from {α : Type} (l : List α) {i : Int} (h : 0 ≤ i) : (l.drop (HT.sIx l.length 0 (some i))).take (HT.sIx l.length l.length none - HT.sIx l.length 0 (some i)) = l.drop i.toNat := by
  rw [HT.sIx_none, sIx_pos _ _ _ h]
  by_cases c : i.toNat ≤ l.length
  · rw [Nat.min_eq_left c, List.take_of_length_le (by rw [List.length_drop]; exact Nat.le_refl _)]
  · rw [Nat.min_eq_right (by omega), List.drop_of_length_le (Nat.le_refl _), List.drop_of_length_le (by omega : l.length ≤ i.toNat)]
    simp
theorem cut_mid {α : Type} (l : List α) {i j : Int} (h : 0 ≤ i) (h2 : 0 ≤ j) : (l.drop (HT.sIx l.length 0 (some i))).take (HT.sIx l.length l.length (some j) - HT.sIx l.length 0 (some i)) = (l.drop i.toNat).take (j.toNat - i.toNat) := by
  rw [sIx_pos _ _ _ h, sIx_pos _ _ _ h2]
  by_cases c : i.toNat ≤ l.length
  · rw [Nat.min_eq_left c, List.take_eq_take_iff, List.length_drop]; omega
  · rw [List.drop_of_length_le (by omega : l.length ≤ min i.toNat l.length), List.drop_of_length_le (by omega : l.length ≤ i.toNat)]
    simp
theorem sIx_neg1 (n d : Nat) : HT.sIx n d (some (-1)) = n - 1 := by
  have h := HT.clip_eq (-1) n d
  rw [if_pos (by decide)] at h
  omega
theorem cut_but {α : Type} (l : List α) : (l.drop (HT.sIx l.length 0 none)).take (HT.sIx l.length l.length (some (-1)) - HT.sIx l.length 0 none) = l.dropLast := by
  rw [HT.sIx_none, sIx_neg1, List.drop_zero, Nat.sub_zero, List.dropLast_eq_take]
/-- without its first and last -/
def inL {α : Type} (l : List α) : List α := l.tail.dropLast
theorem cut_in {α : Type} (l : List α) : (l.drop (HT.sIx l.length 0 (some 1))).take (HT.sIx l.length l.length (some (-1)) - HT.sIx l.length 0 (some 1)) = inL l := by
  rw [sIx_neg1, sIx_pos _ _ _ (by decide)]
  unfold inL
  rw [List.dropLast_eq_take, List.length_tail]
  cases l with
  | nil => rfl
  | cons x r =>
    have e : min (1 : Int).toNat (x :: r).length = 1 := by
      show min 1 (r.length + 1) = 1
      omega
    rw [e]
    rfl
section
variable {σ : L2.St} {H : Hp} {te ti tj : TE} {l : Tx} {i j : Int}
theorem e_slTo (h : Ev te σ H (tS l)) (h1 : Ev ti σ H (.int i)) (h0 : 0 ≤ i) (hl : l.length ≤ 1000000) : Ev (tSl rSlS te tNoPart (tPart ti)) σ H (tS (l.take i.toNat)) := by
  have z := e_sl h eo_none (eo_some h1) hl
  rwa [cut_to l h0] at z
theorem e_slFrom (h : Ev te σ H (tS l)) (h1 : Ev ti σ H (.int i)) (h0 : 0 ≤ i) (hl : l.length ≤ 1000000) : Ev (tSl rSlS te (tPart ti) tNoPart) σ H (tS (l.drop i.toNat)) := by
  have z := e_sl h (eo_some h1) eo_none hl
  rwa [cut_from l h0] at z
theorem e_slMid (h : Ev te σ H (tS l)) (h1 : Ev ti σ H (.int i)) (h2 : Ev tj σ H (.int j)) (h0 : 0 ≤ i) (h3 : 0 ≤ j) (hl : l.length ≤ 1000000) : Ev (tSl rSlS te (tPart ti) (tPart tj)) σ H (tS ((l.drop i.toNat).take (j.toNat - i.toNat))) := by
  have z := e_sl h (eo_some h1) (eo_some h2) hl
  rwa [cut_mid l h0 h3] at z
theorem e_slBut (h : Ev te σ H (tS l)) (hl : l.length ≤ 1000000) : Ev (tSl rSlS te tNoPart (tPart (tNegI (tC (.int 1))))) σ H (tS l.dropLast) := by
  have z := e_sl h eo_none (eo_some (e_negI (ev_c (v := .int 1)))) hl
  rwa [cut_but l] at z
theorem e_slIn (h : Ev te σ H (tS l)) (hl : l.length ≤ 1000000) : Ev (tSl rSlS te (tPart (tC (.int 1))) (tPart (tNegI (tC (.int 1))))) σ H (tS (inL l)) := by
  have z := e_sl h (eo_some (ev_c (v := .int 1))) (eo_some (e_negI (ev_c (v := .int 1)))) hl
  rwa [cut_in l] at z
end

/-! ### what is known of the error classes -/
structure XC (A : Ad) (D : Addr) (b0 b1 b2 b3 b4 b5 b6 : Bool) : Prop where
  ex : ExcC A.K D
  exm : PySem.W.exmOne A.K (.ref D) (.ref A.cME) = some true
  ve : PySem.W.kitOne A.K (.ref D) (.type "ValueError") = some true
  kBT : PySem.W.kitOne A.K (.ref D) (.ref A.cBT) = some b0
  kBL : PySem.W.kitOne A.K (.ref D) (.ref A.cBL) = some b1
  kBW : PySem.W.kitOne A.K (.ref D) (.ref A.cBW) = some b2
  kBA : PySem.W.kitOne A.K (.ref D) (.ref A.cBA) = some b3
  kNT : PySem.W.kitOne A.K (.ref D) (.ref A.cNT) = some b4
  kNP : PySem.W.kitOne A.K (.ref D) (.ref A.cNP) = some b5
  kFu : PySem.W.kitOne A.K (.ref D) (.ref A.cFu) = some b6
/-- the call lets out an error of the class at C -/
def SpX (sp : Sp) (vs : List V) (H : Hp) (C : Addr) : Prop := ∀ H1, Ex H H1 → ∀ (Q : VK) (E : XK), (∀ H2, Ex H1 H2 → E (.ref C) none H2) → sp vs H1 Q E
section
variable {K : PySem.W.Frag} {σ : L2.St} {H H0 : Hp} {S : List Addr} {L : List (Addr × HO)} {ta : TA} {D : Ends} {tz : TS} {C ME : Addr} {sp : Sp} {vs : List V}
theorem spx_VX {R : List V → Hp → V → Prop} {B : List V → Hp → Addr → Prop} (h : ∀ H1, Ex H H1 → B vs H1 C) : SpX (spVX R B) vs H C := fun H1 e Q E q => .inr ⟨C, h H1 e, q⟩
theorem spx_LX {R : List V → Hp → List V → Prop} {B : List V → Hp → Addr → Prop} (h : ∀ H1, Ex H H1 → B vs H1 C) : SpX (spLX R B) vs H C := fun H1 e Q E q => .inr ⟨C, h H1 e, q⟩
theorem aq_tryK {i j : Nat} (am : Am S H0 L H) (h : EvA ta σ H vs) (hs : SpX sp vs H C) (xm : PySem.W.exmOne K (.ref C) (.ref ME) = some true)
    (k : ∀ a H, Am S H0 ((a, ExK C a) :: L) H → tz D ((σ.set j (some (.ref a))).set i none) H) : tSeq (tTryK K ME i j fun W => tDrop (tCallS sp (WE W) ta)) tz D σ H :=
  h H (Ex.refl H) _ fun H1 e1 => hs H1 e1 _ _ fun H2 e2 => ⟨C, rfl, rfl, xm, fun a ha => k a _ ((am.ex (e1.trans e2)).new1 ha)⟩
/-- .. that lets out nothing, and hands back one value -/
theorem aq_tryN {i j : Nat} {z : V} (am : Am S H0 L H) (h : EvA ta σ H vs) (hs : SpV sp vs H z) (k : ∀ H, Am S H0 L H → tz D σ H) : tSeq (tTryK K ME i j fun W => tDrop (tCallS sp (WE W) ta)) tz D σ H :=
  h H (Ex.refl H) _ fun H1 e1 => hs H1 e1 _ (fun H2 e2 => k H2 (am.ex (e1.trans e2))) _
end

/-! ### == of lists -/
section
variable {K : PySem.W.Frag} {σ : L2.St} {H H0 : Hp} {S : List Addr} {L : List (Addr × HO)} {ta tb te : TE} {D : Ends} {tz : TS} {p q : Addr}
def dI (ns : List Int) : PyData := .list (ns.map .int)
def dTs (ls : List Tx) : PyData := .list (ls.map fun l => .str (T l))
theorem dpAll_ints : ∀ ns : List Int, DpAll K H (ns.map V.int) (ns.map PyData.int)
  | [] => .nil
  | n :: r => .cons (.int n) (dpAll_ints r)
theorem dpAll_texts : ∀ ls : List Tx, DpAll K H (ls.map tS) (ls.map fun l => PyData.str (T l))
  | [] => .nil
  | l :: r => .cons (.str (T l)) (dpAll_texts r)
theorem dp_ints {ns : List Int} (h : SqL K H p (ns.map V.int)) : Dp K H (.ref p) (dI ns) := .lst h (dpAll_ints ns)
theorem dp_texts {ls : List Tx} (h : SqL K H p (ls.map tS)) : Dp K H (.ref p) (dTs ls) := .lst h (dpAll_texts ls)
theorem layAll_ints : ∀ ns : List Int, PyData.canLayAll0 (ns.map PyData.int) = true
  | [] => by simp [PyData.canLayAll0]
  | n :: r => by simp [PyData.canLayAll0, PyData.canLay0, layAll_ints r]
theorem depth_ints : ∀ ns : List Int, PyData.depthAll (ns.map PyData.int) = 0
  | [] => by simp [PyData.depthAll]
  | n :: r => by simp [PyData.depthAll, PyData.depth, depth_ints r]
theorem shaped_ints (ns : List Int) : SeqAt.shaped (dI ns) = true := by
  unfold SeqAt.shaped dI
  rw [PyData.canLay0, layAll_ints, PyData.depth, depth_ints]; rfl
theorem eqvAll_ints : ∀ a b : List Int, PyData.eqvAll (a.map PyData.int) (b.map PyData.int) = decide (a = b)
  | [], [] => by simp [PyData.eqvAll]
  | [], y :: b => by simp [PyData.eqvAll]
  | x :: a, [] => by simp [PyData.eqvAll]
  | x :: a, y :: b => by
    rw [List.map_cons, List.map_cons, PyData.eqvAll, eqvAll_ints a b, PyData.eqv]
    by_cases h1 : x = y
    · by_cases h2 : a = b <;> simp [h1, h2]
    · simp [h1]
theorem eqv_ints (a b : List Int) : PyData.eqv (dI a) (dI b) = decide (a = b) := by
  unfold dI; rw [PyData.eqv, eqvAll_ints]
def okT (l : Tx) : Bool := PyData.strOk (T l)
theorem layAll_texts : ∀ ls : List Tx, (∀ l ∈ ls, okT l = true) → PyData.canLayAll0 (ls.map fun l => PyData.str (T l)) = true
  | [], _ => by simp [PyData.canLayAll0]
  | l :: r, h => by
    have h1 : PyData.strOk (T l) = true := h l (List.mem_cons_self ..)
    simp only [List.map_cons, PyData.canLayAll0, PyData.canLay0, h1, layAll_texts r fun x hx => h x (List.mem_cons_of_mem _ hx), Bool.and_self]
theorem depth_texts : ∀ ls : List Tx, PyData.depthAll (ls.map fun l => PyData.str (T l)) = 0
  | [] => by simp [PyData.depthAll]
  | l :: r => by simp [PyData.depthAll, PyData.depth, depth_texts r]
theorem shaped_texts {ls : List Tx} (h : ∀ l ∈ ls, okT l = true) : SeqAt.shaped (dTs ls) = true := by
  unfold SeqAt.shaped dTs
  rw [PyData.canLay0, layAll_texts ls h, PyData.depth, depth_texts]; rfl
theorem eqvAll_texts : ∀ a b : List Tx, PyData.eqvAll (a.map fun l => PyData.str (T l)) (b.map fun l => PyData.str (T l)) = decide (a = b)
  | [], [] => by simp [PyData.eqvAll]
  | [], y :: b => by simp [PyData.eqvAll]
  | x :: a, [] => by simp [PyData.eqvAll]
  | x :: a, y :: b => by
    rw [List.map_cons, List.map_cons, PyData.eqvAll, eqvAll_texts a b, PyData.eqv]
    by_cases h1 : x = y
    · by_cases h2 : a = b <;> simp [h1, h2]
    · have h3 : ¬ T x = T y := fun z => h1 (T_inj z)
      simp [h1, h3]
theorem eqv_texts (a b : List Tx) : PyData.eqv (dTs a) (dTs b) = decide (a = b) := by
  unfold dTs; rw [PyData.eqv, eqvAll_texts]
theorem dp_ex {H1 : Hp} (e : Ex H H1) : ∀ {v : V} {d : PyData}, Dp K H v d → Dp K H1 v d := fun {v d} h => by
  refine Dp.rec (motive_1 := fun v d _ => Dp K H1 v d) (motive_2 := fun vs ds _ => DpAll K H1 vs ds) .non (fun b => .bl b) (fun i => .int i) (fun x => .str x) (fun s _ ih => .lst (ex_l e s) ih) (fun s _ ih => .tup (ex_t e s) ih) .nil (fun _ _ a b => .cons a b) h
theorem rv_eqD {x y : V} {d e : PyData} {b : Bool} (h1 : Dp K H x d) (h2 : Dp K H y e) (s1 : SeqAt.shaped d = true) (s2 : SeqAt.shaped e = true) (hb : PyData.eqv d e = b) : RV (rEqD K) x y H (.bl b) := fun H1 ex _ q =>
  ⟨d, e, dp_ex ex h1, dp_ex ex h2, s1, s2, by rw [hb]; exact q H1 (Ex.refl H1)⟩
theorem rv_neD {x y : V} {d e : PyData} {b : Bool} (h1 : Dp K H x d) (h2 : Dp K H y e) (s1 : SeqAt.shaped d = true) (s2 : SeqAt.shaped e = true) (hb : PyData.eqv d e = b) : RV (rNeD K) x y H (.bl (!b)) := fun H1 ex _ q =>
  ⟨d, e, dp_ex ex h1, dp_ex ex h2, s1, s2, by rw [hb]; exact q H1 (Ex.refl H1)⟩
theorem rv_eqI {a b : List Int} (h1 : SqL K H p (a.map V.int)) (h2 : SqL K H q (b.map V.int)) : RV (rEqD K) (.ref p) (.ref q) H (.bl (decide (a = b))) := rv_eqD (dp_ints h1) (dp_ints h2) (shaped_ints a) (shaped_ints b) (eqv_ints a b)
theorem rv_neI {a b : List Int} (h1 : SqL K H p (a.map V.int)) (h2 : SqL K H q (b.map V.int)) : RV (rNeD K) (.ref p) (.ref q) H (.bl (!decide (a = b))) := rv_neD (dp_ints h1) (dp_ints h2) (shaped_ints a) (shaped_ints b) (eqv_ints a b)
theorem rv_eqTs {a b : List Tx} (h1 : SqL K H p (a.map tS)) (h2 : SqL K H q (b.map tS)) (o1 : ∀ l ∈ a, okT l = true) (o2 : ∀ l ∈ b, okT l = true) : RV (rEqD K) (.ref p) (.ref q) H (.bl (decide (a = b))) := rv_eqD (dp_texts h1) (dp_texts h2) (shaped_texts o1) (shaped_texts o2) (eqv_texts a b)
theorem rv_neTs {a b : List Tx} (h1 : SqL K H p (a.map tS)) (h2 : SqL K H q (b.map tS)) (o1 : ∀ l ∈ a, okT l = true) (o2 : ∀ l ∈ b, okT l = true) : RV (rNeD K) (.ref p) (.ref q) H (.bl (!decide (a = b))) := rv_neD (dp_texts h1) (dp_texts h2) (shaped_texts o1) (shaped_texts o2) (eqv_texts a b)

/-! ### displays of things of many kinds: each item bears p -/
def EvQ (te : TE) (σ : L2.St) (H : Hp) (P : V → Hp → Prop) : Prop := ∀ H1, Ex H H1 → ∀ Q : VK, (∀ v H2, Ex H1 H2 → P v H2 → Q v H2) → te σ H1 Q
def EvQA (ta : TA) (σ : L2.St) (H : Hp) (n : Nat) (P : V → Hp → Prop) : Prop := ∀ H1, Ex H H1 → ∀ Q : List V → Hp → Prop, (∀ vs H2, Ex H1 H2 → vs.length = n → (∀ v ∈ vs, P v H2) → Q vs H2) → ta σ H1 Q
variable {P : V → Hp → Prop}
theorem EvQ.mono {H' : Hp} (e : Ex H H') (h : EvQ te σ H P) : EvQ te σ H' P := fun H1 a Q q => h H1 (e.trans a) Q q
theorem eq_ev {v : V} (h : Ev te σ H v) (hp : ∀ H1, Ex H H1 → P v H1) : EvQ te σ H P := fun H1 e Q q => h H1 e Q fun H2 e2 => q v H2 e2 (hp H2 (e.trans e2))
theorem eq_evL {xs : List V} (h : EvL te σ H xs) (hp : ∀ p H1, Ex H H1 → H1 p = some (.lst xs) → P (.ref p) H1) : EvQ te σ H P := fun H1 e Q q => h H1 e Q fun p H2 _ e2 h2 => q _ H2 e2 (hp p H2 (e.trans e2) h2)
theorem eq_evU {xs : List V} (h : EvU te σ H xs) (hp : ∀ p H1, Ex H H1 → H1 p = some (.tup xs) → P (.ref p) H1) : EvQ te σ H P := fun H1 e Q q => h H1 e Q fun p H2 _ e2 h2 => q _ H2 e2 (hp p H2 (e.trans e2) h2)
theorem eq_dnew (hp : ∀ p H1, H1 p = some (.dK []) → P (.ref p) H1) : EvQ tDNewK σ H P := fun H1 _ Q q => fun p h => q _ _ (Ex.new h) (hp p _ upd_same)
theorem eqa_nil : EvQA tNil σ H 0 P := fun H1 _ Q q => q [] H1 (Ex.refl H1) rfl fun v h => by cases h
theorem eqa_cons {tr : TA} {n : Nat} (hm : ∀ v H H', Ex H H' → P v H → P v H') (h : EvQ te σ H P) (hr : EvQA tr σ H n P) : EvQA (tCons te tr) σ H (n + 1) P := fun H1 e Q q =>
  h H1 e _ fun v H2 e2 pv => hr H2 (e.trans e2) _ fun vs H3 e3 hl pa => q _ H3 (e2.trans e3) (by rw [List.length_cons, hl]) fun w hw => by
    rcases List.mem_cons.mp hw with rfl | hw
    · exact hm _ _ _ e3 pv
    · exact pa w hw
theorem aq_asgQ {i n : Nat} {ta : TA} (am : Am S H0 L H) (hm : ∀ v H H', Ex H H' → P v H → P v H') (h : EvQA ta σ H n P) (hn : n ≤ 1000) (k : ∀ p xs H, Am S H0 ((p, .lst xs) :: L) H → xs.length = n → (∀ v ∈ xs, P v H) → tz D (σ.set i (some (.ref p))) H) :
    tSeq (tAsg (tLst ta) (gName i)) tz D σ H := h H (Ex.refl H) _ fun xs H1 e hl pa => ⟨sz6 (by omega), fun p hp => k p xs _ ((am.ex e).new1 hp) hl fun v hv => hm v _ _ (Ex.new hp) (pa v hv)⟩
end

/-! ### isinstance of an own error class, from what the top has left -/
section
variable {K : PySem.W.Frag} {C D : Addr}
theorem kit_self : PySem.W.kitOne K (.ref D) (.ref D) = some true := by
  unfold PySem.W.kitOne
  rw [if_pos (beq_self_eq_true _)]
theorem kit_cls (h1 : PySem.W.isClsIn K C = true) (h2 : PySem.W.typeIn K (.ref C) = some (.type "type")) (h3 : PySem.W.subIn K (.ref D) (.ref C) = some false) (h4 : (Value.ref D == Value.ref C) = false) : PySem.W.kitOne K (.ref D) (.ref C) = some false := by
  have e : ((PySem.W.clsIn K C).isSome && PySem.W.typeIn K (.ref C) == some (.type "type")) = true := by
    have h1' : (PySem.W.clsIn K C).isSome = true := h1
    rw [h1', h2]; rfl
  unfold PySem.W.kitOne
  rw [h4, if_neg Bool.false_ne_true]
  show (if ((PySem.W.clsIn K C).isSome && PySem.W.typeIn K (.ref C) == some (.type "type")) = true then PySem.W.subIn K (.ref D) (.ref C) else none) = some false
  rw [if_pos e, h3]
theorem kit_ve (h : PySem.W.subIn K (.ref D) (.type "ValueError") = some true) : PySem.W.kitOne K (.ref D) (.type "ValueError") = some true := by
  have e : (Value.ref D == Value.type "ValueError") = false := by rfl
  unfold PySem.W.kitOne
  rw [e, if_neg Bool.false_ne_true]
  show (if PySem.W.kitMeta "ValueError" = true then PySem.W.subIn K (.ref D) (.type "ValueError") else none) = some true
  rw [if_pos (by decide +kernel), h]
end

/-! ### more of lists, tries, ranges -/
section
variable {K : PySem.W.Frag} {σ : L2.St} {H H0 : Hp} {S : List Addr} {L : List (Addr × HO)} {ta tb te : TE} {D : Ends} {tz : TS} {C ME : Addr}
/-- xs + ys, both new -/
theorem el_cat {xs ys : List V} (ha : EvL ta σ H xs) (hb : EvL tb σ H ys) (hz : xs.length + ys.length ≤ 1000000) : EvL (tOp rCat ta tb) σ H (xs ++ ys) := fun H1 e Q q =>
  ha H1 e _ fun p H2 hp e2 h2 => hb H2 (e.trans e2) _ fun r H3 hr e3 h3 => ⟨p, r, xs, ys, rfl, rfl, e3 p _ h2, h3, sz6 hz, fun l hl => q l _ (fresh_back (e2.trans e3) hl) ((e2.trans e3).trans (Ex.new hl)) upd_same⟩
/-- xs + ys, the first one there -/
theorem el_catV {xs ys : List V} {p : Addr} (ha : Ev ta σ H (.ref p)) (h : H p = some (.lst xs)) (hb : EvL tb σ H ys) (hz : xs.length + ys.length ≤ 1000000) : EvL (tOp rCat ta tb) σ H (xs ++ ys) := fun H1 e Q q =>
  ha H1 e _ fun H2 e2 => hb H2 (e.trans e2) _ fun r H3 hr e3 h3 => ⟨p, r, xs, ys, rfl, rfl, ((e.trans e2).trans e3) p _ h, h3, sz6 hz, fun l hl => q l _ (fresh_back (e2.trans e3) hl) ((e2.trans e3).trans (Ex.new hl)) upd_same⟩
/-- a slice of a new list -/
theorem el_slN {xs : List V} {tl th : TO} {lo hi : Option Int} (h : EvL te σ H xs) (h1 : EvO tl σ H lo) (h2 : EvO th σ H hi) : EvL (tSl (rSlL K) te tl th) σ H (cutV xs lo hi) := fun H1 e Q q =>
  h H1 e _ fun p H2 hp e2 h3 => h1 H2 (e.trans e2) _ fun H3 e3 => h2 H3 ((e.trans e2).trans e3) _ fun H4 e4 =>
    ⟨p, xs, rfl, sq_of ((e3.trans e4) p _ h3), fun l hl => q l _ (fresh_back ((e2.trans e3).trans e4) hl) (((e2.trans e3).trans e4).trans (Ex.new hl)) upd_same⟩
/-- an item of a new list -/
theorem e_ixN {xs : List V} {i : Int} {v : V} (h : EvL ta σ H xs) (hi : Ev tb σ H (.int i)) (ha : atI xs i = some v) : Ev (tOp (rIxL K) ta tb) σ H v :=
  ev_opL1 h (fun _ e => hi.mono e) fun _ _ h1 _ => rv_ixL (sq_of h1) ha
/-- a try whose body lets out an error of the class at C, the slots as they were -/
theorem aq_tryB {i j : Nat} {tb : WX → TS} (am : Am S H0 L H) (xm : PySem.W.exmOne K (.ref C) (.ref ME) = some true) (hb : ∀ (W : WX) (D : Ends), (∀ H1, Ex H H1 → W (.ref C) none σ H1) → tb W D σ H)
    (k : ∀ a H, Am S H0 ((a, ExK C a) :: L) H → tz D ((σ.set j (some (.ref a))).set i none) H) : tSeq (tTryK K ME i j tb) tz D σ H :=
  hb _ _ fun H1 e1 => ⟨C, rfl, rfl, xm, fun a ha => k a _ ((am.ex e1).new1 ha)⟩
theorem x_drop {W : WX} {sp : Sp} {ta : TA} {vs : List V} (h : EvA ta σ H vs) (hs : SpX sp vs H C) (hw : ∀ H1, Ex H H1 → W (.ref C) none σ H1) : tDrop (tCallS sp (WE W) ta) D σ H :=
  h H (Ex.refl H) _ fun H1 e1 => hs H1 e1 _ _ fun H2 e2 => hw H2 (e1.trans e2)
theorem wk_range3 {ta : TA} {lo n : Int} {c : Nat} (h : EvA ta σ H [.int lo, .int n, .int c]) (hc : 1 ≤ c) (hc2 : c ≤ 1000) (hn : -1000000 ≤ lo ∧ lo ≤ 1000000 ∧ -1000000 ≤ n ∧ n ≤ 1000000) :
    Wk (iRng3 ta) σ H (fun _ => True) ((List.range (Builtin.Range.rangeSize lo n c).toNat).map fun i => .int (lo + (i : Nat) * (c : Int))) := fun H1 e R q =>
  h H1 e _ fun H2 e2 => by
    have hs : 0 ≤ Builtin.Range.rangeSize lo n c := by
      unfold Builtin.Range.rangeSize
      rw [if_pos (by omega)]
      split
      · have := Int.ediv_nonneg (a := n - lo - 1) (b := (c : Int)) (by omega) (by omega)
        omega
      · exact Int.le_refl 0
    have hs2 : Builtin.Range.rangeSize lo n c ≤ 3000000 := by
      unfold Builtin.Range.rangeSize
      rw [if_pos (by omega)]
      split
      · have := Int.ediv_le_self (a := n - lo - 1) (c : Int) (by omega)
        omega
      · decide
    refine ⟨lo, n, c, (Builtin.Range.rangeSize lo n c).toNat, rfl, ⟨by omega, by omega, ?_, by omega⟩, q _ H2 e2 sq_rangeC⟩
    have fl : ∀ x : Int, -100000000 ≤ x → x ≤ 100000000 → Builtin.Range.rangeFitsLong x = true := fun x h1 h2 => by
      unfold Builtin.Range.rangeFitsLong
      rw [Bool.and_eq_true]
      exact ⟨decide_eq_true (by omega), decide_eq_true (by omega)⟩
    unfold Builtin.Range.small
    rw [if_pos (by omega), fl _ (by omega) (by omega), fl _ (by omega) (by omega), fl _ (by omega) (by omega), fl _ (by omega) (by omega), fl _ (by omega) (by omega)]
    simp
def dB (bs : List Bool) : PyData := .list (bs.map .bool)
theorem dpAll_bools : ∀ bs : List Bool, DpAll K H (bs.map V.bl) (bs.map PyData.bool)
  | [] => .nil
  | b :: r => .cons (.bl b) (dpAll_bools r)
theorem layAll_bools : ∀ bs : List Bool, PyData.canLayAll0 (bs.map PyData.bool) = true
  | [] => by simp [PyData.canLayAll0]
  | b :: r => by simp [PyData.canLayAll0, PyData.canLay0, layAll_bools r]
theorem depth_bools : ∀ bs : List Bool, PyData.depthAll (bs.map PyData.bool) = 0
  | [] => by simp [PyData.depthAll]
  | b :: r => by simp [PyData.depthAll, PyData.depth, depth_bools r]
theorem shaped_bools (bs : List Bool) : SeqAt.shaped (dB bs) = true := by
  unfold SeqAt.shaped dB
  rw [PyData.canLay0, layAll_bools, PyData.depth, depth_bools]; rfl
theorem eqvAll_bools : ∀ a b : List Bool, PyData.eqvAll (a.map PyData.bool) (b.map PyData.bool) = decide (a = b)
  | [], [] => by simp [PyData.eqvAll]
  | [], y :: b => by simp [PyData.eqvAll]
  | x :: a, [] => by simp [PyData.eqvAll]
  | x :: a, y :: b => by
    rw [List.map_cons, List.map_cons, PyData.eqvAll, eqvAll_bools a b, PyData.eqv]
    by_cases h1 : x = y
    · by_cases h2 : a = b <;> simp [h1, h2]
    · simp [h1]
theorem rv_eqBs {p q : Addr} {a b : List Bool} (h1 : SqL K H p (a.map V.bl)) (h2 : SqL K H q (b.map V.bl)) : RV (rEqD K) (.ref p) (.ref q) H (.bl (decide (a = b))) :=
  rv_eqD (.lst h1 (dpAll_bools a)) (.lst h2 (dpAll_bools b)) (shaped_bools a) (shaped_bools b) (show PyData.eqv (dB a) (dB b) = decide (a = b) by unfold dB; rw [PyData.eqv, eqvAll_bools])
end
end Mw
namespace Mw
open PySem PySem.Spec PyProof.Rows L2 Evl
/-! # mathematics: arms -/
/-- how far a text reads alike from a places ahead of .. and on from b -/
def ext (l : Tx) : Nat → Nat → Nat
  | 0, _ => 0
  | a + 1, b => if b < l.length ∧ l.getD a 0 = l.getD b 0 then ext l a (b + 1) + 1 else 0
def armN (l : Tx) (m : Nat) : Nat := ext l ((m + 1) / 2) (m / 2 + 1)
/-- the step-th pair about a middle is there and alike -/
def okA (l : Tx) (m s : Nat) : Prop := s < (m + 1) / 2 ∧ m / 2 + 1 + s < l.length ∧ l.getD ((m + 1) / 2 - 1 - s) 0 = l.getD (m / 2 + 1 + s) 0
theorem ext_lt (l : Tx) : ∀ (a b s : Nat), s < ext l a b → s < a ∧ b + s < l.length ∧ l.getD (a - 1 - s) 0 = l.getD (b + s) 0
  | 0, b, s, h => by simp [ext] at h
  | a + 1, b, s, h => by
    rw [ext] at h
    by_cases c : b < l.length ∧ l.getD a 0 = l.getD b 0
    · rw [if_pos c] at h
      cases s with
      | zero => exact ⟨Nat.succ_pos _, c.1, c.2⟩
      | succ s =>
        obtain ⟨h1, h2, h3⟩ := ext_lt l a (b + 1) s (by omega)
        refine ⟨by omega, by omega, ?_⟩
        rw [show a + 1 - 1 - (s + 1) = a - 1 - s by omega, show b + (s + 1) = b + 1 + s by omega]
        exact h3
    · rw [if_neg c] at h; omega
theorem ext_not (l : Tx) : ∀ (a b : Nat), ¬ (ext l a b < a ∧ b + ext l a b < l.length ∧ l.getD (a - 1 - ext l a b) 0 = l.getD (b + ext l a b) 0)
  | 0, b => fun h => by simp [ext] at h
  | a + 1, b => by
    rw [ext]
    by_cases c : b < l.length ∧ l.getD a 0 = l.getD b 0
    · rw [if_pos c]
      intro h
      refine ext_not l a (b + 1) ⟨by omega, by omega, ?_⟩
      rw [show a - 1 - ext l a (b + 1) = a + 1 - 1 - (ext l a (b + 1) + 1) by omega, show b + 1 + ext l a (b + 1) = b + (ext l a (b + 1) + 1) by omega]
      exact h.2.2
    · rw [if_neg c]
      intro h
      exact c ⟨by omega, by simpa using h.2.2⟩
theorem arm_lt {l : Tx} {m s : Nat} (h : s < armN l m) : okA l m s := ext_lt l _ _ s h
theorem arm_not (l : Tx) (m : Nat) : ¬ okA l m (armN l m) := ext_not l _ _
theorem arm_eq {l : Tx} {m n : Nat} (h : ∀ s, s < n → okA l m s) (hn : ¬ okA l m n) : armN l m = n := by
  rcases Nat.lt_trichotomy (armN l m) n with c | c | c
  · exact absurd (h _ c) (arm_not l m)
  · exact c
  · exact absurd (arm_lt c) hn
theorem arm_le (l : Tx) (m : Nat) : armN l m ≤ (m + 1) / 2 := by
  rcases Nat.eq_zero_or_pos (armN l m) with c | c
  · omega
  · have := (arm_lt (l := l) (m := m) (s := armN l m - 1) (by omega)).1
    omega
theorem arm_in {l : Tx} {m : Nat} (hm : m / 2 < l.length) : m / 2 + armN l m < l.length := by
  rcases Nat.eq_zero_or_pos (armN l m) with c | c
  · omega
  · have := (arm_lt (l := l) (m := m) (s := armN l m - 1) (by omega)).2.1
    omega
/-- what lies within a reach is alike, place by place -/
theorem arm_pal {l : Tx} {a p q : Nat} (hpq : p + q = a) (hp : p ≤ a / 2 + armN l a) (hq : q ≤ a / 2 + armN l a) : l.getD p 0 = l.getD q 0 := by
  have key : ∀ p q, p + q = a → p < q → q ≤ a / 2 + armN l a → l.getD p 0 = l.getD q 0 := fun p q e lt le => by
    obtain ⟨h1, h2, h3⟩ := arm_lt (l := l) (m := a) (s := q - (a / 2 + 1)) (by omega)
    rw [show (a + 1) / 2 - 1 - (q - (a / 2 + 1)) = p by omega, show a / 2 + 1 + (q - (a / 2 + 1)) = q by omega] at h3
    exact h3
  rcases Nat.lt_trichotomy p q with c | c | c
  · exact key p q hpq c hq
  · rw [c]
  · exact (key q p (by omega) c hp).symm
/-- what lies within a longer reach is told by its mirror -/
theorem arm_mirror {l : Tx} {a m o : Nat} (ham : a ≤ m) (ho : m + o = 2 * a) (hlen : a / 2 + armN l a < l.length) (h : (m + 1) / 2 + armN l o < a / 2 + armN l a) : armN l m = armN l o := by
  have hle := arm_le l a
  refine arm_eq (fun s hs => ?_) fun hok => arm_not l o ?_
  · obtain ⟨h1, h2, h3⟩ := arm_lt hs
    refine ⟨?_, ?_, ?_⟩
    · omega
    · omega
    · have e1 := arm_pal (l := l) (a := a) (p := (m + 1) / 2 - 1 - s) (q := a - ((m + 1) / 2 - 1 - s)) (by omega) (by omega) (by omega)
      have e2 := arm_pal (l := l) (a := a) (p := m / 2 + 1 + s) (q := a - (m / 2 + 1 + s)) (by omega) (by omega) (by omega)
      rw [e1, e2]
      rw [show (o + 1) / 2 - 1 - s = a - (m / 2 + 1 + s) by omega, show o / 2 + 1 + s = a - ((m + 1) / 2 - 1 - s) by omega] at h3
      exact h3.symm
  · obtain ⟨h1, h2, h3⟩ := hok
    refine ⟨?_, ?_, ?_⟩
    · omega
    · omega
    · have e1 := arm_pal (l := l) (a := a) (p := (m + 1) / 2 - 1 - armN l o) (q := a - ((m + 1) / 2 - 1 - armN l o)) (by omega) (by omega) (by omega)
      have e2 := arm_pal (l := l) (a := a) (p := m / 2 + 1 + armN l o) (q := a - (m / 2 + 1 + armN l o)) (by omega) (by omega) (by omega)
      rw [show (o + 1) / 2 - 1 - armN l o = a - (m / 2 + 1 + armN l o) by omega, show o / 2 + 1 + armN l o = a - ((m + 1) / 2 - 1 - armN l o) by omega]
      rw [← e1, ← e2]
      exact h3.symm
end Mw
namespace Mw
open PySem PySem.Spec PyProof.Rows L2 Evl
/-! # mathematics: mirror words at a word's end -/
def pal (l : Tx) : Bool := decide (l = l.reverse)
/-- all mirror words at the end, the longest first -/
def endsT : Tx → List Tx
  | [] => []
  | c :: r => if pal (c :: r) then (c :: r) :: endsT r else endsT r
def tailF (l : Tx) : Tx := (endsT l.tail).headD []
theorem endsT_head : ∀ r : Tx, endsT ((endsT r).headD []) = endsT r
  | [] => rfl
  | c :: r => by
    rw [endsT]
    by_cases h : pal (c :: r) = true
    · rw [if_pos h, List.headD_cons, endsT, if_pos h]
    · rw [if_neg h]
      exact endsT_head r
theorem endsT_tail (l : Tx) : endsT (tailF l) = endsT l.tail := endsT_head l.tail
theorem endsT_pal {l : Tx} (h : pal l = true) (h0 : l ≠ []) : endsT l = l :: endsT l.tail := by
  cases l with
  | nil => exact absurd rfl h0
  | cons c r => rw [endsT, if_pos h]; rfl
theorem mem_endsT : ∀ {l w : Tx}, w ∈ endsT l → pal w = true ∧ w ≠ [] ∧ ∃ k, w = l.drop k
  | [], w, h => by cases h
  | c :: r, w, h => by
    rw [endsT] at h
    by_cases hp : pal (c :: r) = true
    · rw [if_pos hp] at h
      rcases List.mem_cons.mp h with rfl | h
      · exact ⟨hp, by simp, 0, rfl⟩
      · obtain ⟨a, b, k, e⟩ := mem_endsT h
        exact ⟨a, b, k + 1, e⟩
    · rw [if_neg hp] at h
      obtain ⟨a, b, k, e⟩ := mem_endsT h
      exact ⟨a, b, k + 1, e⟩
theorem tailF_pal (l : Tx) : tailF l = [] ∨ pal (tailF l) = true := by
  unfold tailF
  cases h : endsT l.tail with
  | nil => exact .inl rfl
  | cons w r => exact .inr (mem_endsT (l := l.tail) (w := w) (by rw [h]; exact List.mem_cons_self ..)).1
theorem len_endsT : ∀ l : Tx, (endsT l).length ≤ l.length
  | [] => Nat.le_refl _
  | c :: r => by
    have := len_endsT r
    rw [endsT]
    split
    · rw [List.length_cons, List.length_cons]; omega
    · rw [List.length_cons]; omega
theorem tailF_lt {l : Tx} (h : l ≠ []) : (tailF l).length < l.length := by
  cases l with
  | nil => exact absurd rfl h
  | cons c r =>
    unfold tailF
    show ((endsT r).headD []).length < r.length + 1
    cases e : endsT r with
    | nil => exact Nat.succ_pos _
    | cons w s =>
      obtain ⟨_, _, k, hk⟩ := mem_endsT (l := r) (w := w) (by rw [e]; exact List.mem_cons_self ..)
      rw [List.headD_cons, hk, List.length_drop]
      omega
/-- place by place -/
theorem endsT_range : ∀ l : Tx, ((List.range l.length).filter fun i => pal (l.drop i)).map (fun i => l.drop i) = endsT l
  | [] => rfl
  | c :: r => by
    rw [endsT, List.length_cons, List.range_succ_eq_map, ← endsT_range r]
    have e : ((List.range r.length).map Nat.succ).filter (fun i => pal ((c :: r).drop i)) = ((List.range r.length).filter fun i => pal (r.drop i)).map Nat.succ := by
      rw [List.filter_map]; rfl
    by_cases h : pal (c :: r) = true
    · rw [if_pos h, List.filter_cons_of_pos (by exact h), e, List.map_cons, List.map_map]; rfl
    · rw [if_neg h, List.filter_cons_of_neg (by exact h), e, List.map_map]; rfl
theorem endsT_skip {l : Tx} {i : Nat} (h : pal (l.drop i) = false) (hi : i < l.length) : endsT (l.drop i) = endsT (l.drop (i + 1)) := by
  rw [List.drop_eq_getElem_cons hi] at h ⊢
  rw [endsT, h, if_neg Bool.false_ne_true]
theorem endsT_hit {l : Tx} {i : Nat} (h : pal (l.drop i) = true) (hi : i < l.length) : (endsT (l.drop i)).headD [] = l.drop i := by
  rw [List.drop_eq_getElem_cons hi] at h ⊢
  rw [endsT, if_pos h, List.headD_cons]
end Mw
namespace Mw
open PySem PySem.Spec PyProof.Rows L2 Evl

/-! # mathematics: a text parted into as few mirror words as can be -/
def sub (l : Tx) (p e : Nat) : Tx := (l.drop p).take (e - p)
theorem sub_len {l : Tx} {p e : Nat} (h : e ≤ l.length) : (sub l p e).length = e - p := by
  unfold sub
  rw [List.length_take, List.length_drop]; omega
theorem getD_sub {l : Tx} {p e i : Nat} (hi : i < e - p) : (sub l p e).getD i 0 = l.getD (p + i) 0 := by
  unfold sub
  rw [List.getD_eq_getElem?_getD, List.getD_eq_getElem?_getD, List.getElem?_take_of_lt hi, List.getElem?_drop]
theorem ext_getD {a b : Tx} (hl : a.length = b.length) (h : ∀ i, i < a.length → a.getD i 0 = b.getD i 0) : a = b := by
  refine List.ext_getElem hl fun i h1 h2 => ?_
  have := h i h1
  rwa [List.getD_eq_getElem?_getD, List.getD_eq_getElem?_getD, List.getElem?_eq_getElem h1, List.getElem?_eq_getElem h2] at this
theorem pal_iff {l : Tx} : pal l = true ↔ ∀ i, i < l.length → l.getD i 0 = l.getD (l.length - 1 - i) 0 := by
  have key : ∀ i, i < l.length → l.reverse.getD i 0 = l.getD (l.length - 1 - i) 0 := fun i hi => by
    rw [List.getD_eq_getElem?_getD, List.getD_eq_getElem?_getD, List.getElem?_reverse hi]
  unfold pal
  rw [decide_eq_true_eq]
  constructor
  · intro h i hi
    rw [← key i hi, ← h]
  · intro h
    exact ext_getD (by rw [List.length_reverse]) fun i hi => by rw [key i hi]; exact h i hi
theorem pal_sub {l : Tx} {p e : Nat} (he : e ≤ l.length) : pal (sub l p e) = true ↔ ∀ i, p ≤ i → i < e → l.getD i 0 = l.getD (p + e - 1 - i) 0 := by
  rw [pal_iff, sub_len he]
  constructor
  · intro h i h1 h2
    have z := h (i - p) (by omega)
    rw [getD_sub (by omega), getD_sub (by omega)] at z
    rw [show p + (i - p) = i by omega, show p + (e - p - 1 - (i - p)) = p + e - 1 - i by omega] at z
    exact z
  · intro h i hi
    rw [getD_sub hi, getD_sub (by omega)]
    have z := h (p + i) (by omega) (by omega)
    rw [show p + e - 1 - (p + i) = p + (e - p - 1 - i) by omega] at z
    exact z
/-- a mirror word within a text is told by the arm of its middle -/
theorem reach_arm {l : Tx} {p e : Nat} (hp : p < e) (he : e ≤ l.length) : pal (sub l p e) = true ↔ e - 1 ≤ (p + e - 1) / 2 + armN l (p + e - 1) := by
  rw [pal_sub he]
  constructor
  · intro h
    rcases Nat.lt_or_ge ((p + e - 1) / 2 + armN l (p + e - 1)) (e - 1) with c | c
    · refine absurd ?_ (arm_not l (p + e - 1))
      refine ⟨by omega, by omega, ?_⟩
      have z := h ((p + e - 1) / 2 + 1 + armN l (p + e - 1)) (by omega) (by omega)
      rw [z]
      congr 1
      omega
    · exact c
  · intro h i h1 h2
    exact arm_pal (a := p + e - 1) (by omega) (by omega) (by omega)
theorem reach_ms {l : Tx} {p : Nat} {e : Nat} : (p < e ∧ e ≤ l.length ∧ pal (sub l p e) = true) ↔ ∃ m s : Nat, m < 2 * l.length - 1 ∧ s ≤ armN l m ∧ s ≤ (m + 1) / 2 ∧ (m + 1) / 2 - s = p ∧ e = m / 2 + s + 1 ∧ p < m / 2 + s + 1 := by
  constructor
  · rintro ⟨h1, h2, h3⟩
    have z := (reach_arm h1 h2).mp h3
    exact ⟨p + e - 1, e - 1 - (p + e - 1) / 2, by omega, by omega, by omega, by omega, by omega, by omega⟩
  · rintro ⟨m, s, h1, h2, h3, h4, h5, h6⟩
    have hin := arm_in (l := l) (m := m) (by omega)
    have hem : p + e - 1 = m := by omega
    refine ⟨by omega, by omega, (reach_arm (by omega) (by omega)).mpr ?_⟩
    rw [hem]
    omega
theorem pal_one {l : Tx} {p : Nat} (h : p < l.length) : pal (sub l p (p + 1)) = true :=
  (pal_sub h).mpr fun i h1 h2 => by rw [show p + (p + 1) - 1 - i = i by omega]
/-- the law's choice -/
def stepF (l : Tx) (p : Nat) (best : List (List Tx)) (found : Option (List Tx)) (e : Nat) : Option (List Tx) :=
  if pal (sub l p e) && (found.isNone || decide (1 + (best.getD (l.length - e) []).length < (found.getD []).length)) then some (sub l p e :: best.getD (l.length - e) []) else found
def rowN (l : Tx) (p : Nat) (best : List (List Tx)) (k : Nat) : Option (List Tx) := ((List.range k).map fun i => l.length - i).foldl (stepF l p best) none
theorem rowN_succ (l : Tx) (p : Nat) (best : List (List Tx)) (k : Nat) : rowN l p best (k + 1) = stepF l p best (rowN l p best k) (l.length - k) := by
  unfold rowN
  rw [List.range_succ, List.map_append, List.foldl_append]; rfl
def bests (l : Tx) : Nat → List (List Tx)
  | 0 => [[]]
  | k + 1 => bests l k ++ [(rowN l (l.length - (k + 1)) (bests l k) (k + 1)).getD []]
theorem len_bests (l : Tx) : ∀ k, (bests l k).length = k + 1
  | 0 => rfl
  | k + 1 => by rw [bests, List.length_append, len_bests l k]; rfl
def bst (l : Tx) (i : Nat) : List Tx := (bests l i).getD i []
theorem bests_at (l : Tx) {i k : Nat} (h : i ≤ k) : (bests l k).getD i [] = bst l i := by
  induction k with
  | zero => rw [show i = 0 by omega]; rfl
  | succ k ih =>
    by_cases c : i ≤ k
    · rw [← ih c, bests, List.getD_eq_getElem?_getD, List.getD_eq_getElem?_getD, List.getElem?_append_left (by rw [len_bests]; omega)]
    · rw [show i = k + 1 by omega]; rfl
theorem bst_succ (l : Tx) (k : Nat) : bst l (k + 1) = (rowN l (l.length - (k + 1)) (bests l k) (k + 1)).getD [] := by
  unfold bst
  rw [bests, List.getD_eq_getElem?_getD, List.getElem?_append_right (by rw [len_bests]; omega), len_bests, Nat.sub_self]
  rfl
/-- what is chosen out of the ends that are looked at -/
theorem row_spec (l : Tx) (p : Nat) (best : List (List Tx)) (k : Nat) : (rowN l p best k = none ∧ ∀ i, i < k → pal (sub l p (l.length - i)) = false) ∨
    ∃ i, i < k ∧ pal (sub l p (l.length - i)) = true ∧ rowN l p best k = some (sub l p (l.length - i) :: best.getD (l.length - (l.length - i)) []) ∧
      ∀ i', i' < k → pal (sub l p (l.length - i')) = true → (best.getD (l.length - (l.length - i)) []).length ≤ (best.getD (l.length - (l.length - i')) []).length ∧ (i' < i → (best.getD (l.length - (l.length - i)) []).length < (best.getD (l.length - (l.length - i')) []).length) := by
  induction k with
  | zero => exact .inl ⟨rfl, fun i h => by omega⟩
  | succ k ih =>
    rw [rowN_succ]
    unfold stepF
    by_cases hp : pal (sub l p (l.length - k)) = true
    · rcases ih with ⟨h1, h2⟩ | ⟨i, h1, h2, h3, h4⟩
      · rw [hp, h1]
        refine .inr ⟨k, by omega, hp, rfl, fun i' hi' hp' => ?_⟩
        rcases Nat.lt_or_ge i' k with c | c
        · rw [h2 i' c] at hp'; cases hp'
        · rw [show i' = k by omega]
          exact ⟨Nat.le_refl _, fun z => by omega⟩
      · rw [hp, h3, Bool.true_and]
        show _ ∨ _
        by_cases c : 1 + (best.getD (l.length - (l.length - k)) []).length < (sub l p (l.length - i) :: best.getD (l.length - (l.length - i)) []).length
        · rw [if_pos (by show (false || decide _) = true; rw [Bool.false_or]; exact decide_eq_true c)]
          rw [List.length_cons] at c
          refine .inr ⟨k, by omega, hp, rfl, fun i' hi' hp' => ?_⟩
          rcases Nat.lt_or_ge i' k with c2 | c2
          · have := (h4 i' c2 hp').1
            exact ⟨by omega, fun _ => by omega⟩
          · rw [show i' = k by omega]
            exact ⟨Nat.le_refl _, fun z => by omega⟩
        · rw [if_neg (by show ¬ (false || decide _) = true; rw [Bool.false_or, decide_eq_true_eq]; exact c)]
          rw [List.length_cons] at c
          refine .inr ⟨i, by omega, h2, rfl, fun i' hi' hp' => ?_⟩
          rcases Nat.lt_or_ge i' k with c2 | c2
          · exact h4 i' c2 hp'
          · rw [show i' = k by omega]
            exact ⟨by omega, fun z => by omega⟩
    · have hp : pal (sub l p (l.length - k)) = false := by simpa using hp
      rw [hp, if_neg (by simp)]
      rcases ih with ⟨h1, h2⟩ | ⟨i, h1, h2, h3, h4⟩
      · refine .inl ⟨h1, fun i hi => ?_⟩
        rcases Nat.lt_or_ge i k with c | c
        · exact h2 i c
        · rw [show i = k by omega]; exact hp
      · refine .inr ⟨i, by omega, h2, h3, fun i' hi' hp' => ?_⟩
        rcases Nat.lt_or_ge i' k with c | c
        · exact h4 i' c hp'
        · rw [show i' = k by omega, hp] at hp'; cases hp'
theorem bst_spec {l : Tx} {p : Nat} (hp : p < l.length) : ∃ e, p < e ∧ e ≤ l.length ∧ pal (sub l p e) = true ∧ bst l (l.length - p) = sub l p e :: bst l (l.length - e) ∧
    ∀ e', p < e' → e' ≤ l.length → pal (sub l p e') = true → (bst l (l.length - e)).length ≤ (bst l (l.length - e')).length ∧ (e < e' → (bst l (l.length - e)).length < (bst l (l.length - e')).length) := by
  obtain ⟨k, hk⟩ : ∃ k, l.length - p = k + 1 := ⟨l.length - p - 1, by omega⟩
  have hkp : l.length - (k + 1) = p := by omega
  rcases row_spec l p (bests l k) (k + 1) with ⟨_, h2⟩ | ⟨i, h1, h2, h3, h4⟩
  · have z := h2 k (by omega)
    rw [show l.length - k = p + 1 by omega, pal_one hp] at z
    cases z
  · refine ⟨l.length - i, by omega, by omega, h2, ?_, fun e' a1 a2 a3 => ?_⟩
    · rw [hk, bst_succ, hkp, h3, Option.getD_some, bests_at l (by omega)]
    · have z := h4 (l.length - e') (by omega) (by rw [show l.length - (l.length - e') = e' by omega]; exact a3)
      rw [bests_at l (by omega), bests_at l (by omega), show l.length - (l.length - (l.length - e')) = l.length - e' by omega] at z
      exact ⟨z.1, fun c => z.2 (by omega)⟩
theorem bst_zero (l : Tx) : bst l 0 = [] := rfl
theorem bst_flat (l : Tx) : ∀ k p, l.length - p = k → p ≤ l.length → (bst l (l.length - p)).flatten = l.drop p := by
  intro k
  induction k using Nat.strongRecOn with
  | _ k ih =>
    intro p hk hp
    rcases Nat.lt_or_ge p l.length with c | c
    · obtain ⟨e, h1, h2, h3, h4, _⟩ := bst_spec c
      rw [h4, List.flatten_cons, ih (l.length - e) (by omega) e rfl h2]
      unfold sub
      have e1 : l.drop e = (l.drop p).drop (e - p) := by rw [List.drop_drop, show p + (e - p) = e by omega]
      rw [e1, List.take_append_drop]
    · rw [show l.length - p = 0 by omega, bst_zero, List.drop_of_length_le c]; rfl
theorem bst_len (l : Tx) : ∀ k p, l.length - p = k → (bst l (l.length - p)).length ≤ l.length - p := by
  intro k
  induction k using Nat.strongRecOn with
  | _ k ih =>
    intro p hk
    rcases Nat.lt_or_ge p l.length with c | c
    · obtain ⟨e, h1, h2, h3, h4, _⟩ := bst_spec c
      have := ih (l.length - e) (by omega) e rfl
      rw [h4, List.length_cons]
      omega
    · rw [show l.length - p = 0 by omega, bst_zero]; exact Nat.le_refl _
theorem bst_all (l : Tx) : (bst l l.length).flatten = l := by
  have := bst_flat l l.length 0 (by omega) (by omega)
  rwa [Nat.sub_zero] at this
theorem mem_bst (l : Tx) : ∀ k p, l.length - p = k → ∀ w ∈ bst l (l.length - p), ∃ a e, a < e ∧ e ≤ l.length ∧ pal (sub l a e) = true ∧ w = sub l a e := by
  intro k
  induction k using Nat.strongRecOn with
  | _ k ih =>
    intro p hk w hw
    rcases Nat.lt_or_ge p l.length with c | c
    · obtain ⟨e, h1, h2, h3, h4, _⟩ := bst_spec c
      rw [h4] at hw
      rcases List.mem_cons.mp hw with rfl | hw
      · exact ⟨p, e, h1, h2, h3, rfl⟩
      · exact ih (l.length - e) (by omega) e rfl w hw
    · rw [show l.length - p = 0 by omega, bst_zero] at hw; cases hw
/-- where the first word of the told parting ends -/
def goesN (l : Tx) (p : Nat) : Nat := p + ((bst l (l.length - p)).headD []).length
theorem goes_eq {l : Tx} {p e : Nat} {r : List Tx} (h : bst l (l.length - p) = sub l p e :: r) (hp : p < e) (he : e ≤ l.length) : goesN l p = e := by
  unfold goesN
  rw [h, List.headD_cons, sub_len he]; omega
theorem set_range {α : Type} (f : Nat → α) (n j : Nat) (v : α) : ((List.range n).map f).set j v = (List.range n).map fun i => if i = j then v else f i := by
  apply List.ext_getElem?
  intro i
  rw [List.getElem?_set]
  by_cases e : j = i
  · subst e
    rw [if_pos rfl]
    by_cases c : j < n
    · rw [if_pos (by simpa using c), List.getElem?_map, List.getElem?_range c]; simp
    · rw [if_neg (by simpa using c), List.getElem?_eq_none (by simp; omega)]
  · rw [if_neg e, List.getElem?_map, List.getElem?_map]
    by_cases c : i < n
    · rw [List.getElem?_range c]
      simp [Ne.symm e]
    · rw [List.getElem?_eq_none (by simp; omega)]; rfl
theorem at_range {α : Type} (f : Nat → α) {n j : Nat} (h : j < n) : ((List.range n).map f)[j]? = some (f j) := by
  rw [List.getElem?_map, List.getElem?_range h]; rfl
theorem row_some (l : Tx) (best : List (List Tx)) {k : Nat} (h : k + 1 ≤ l.length) : ∃ ws, rowN l (l.length - (k + 1)) best (k + 1) = some ws := by
  rcases row_spec l (l.length - (k + 1)) best (k + 1) with ⟨_, h2⟩ | ⟨i, _, _, h3, _⟩
  · have z := h2 k (by omega)
    rw [show l.length - k = l.length - (k + 1) + 1 by omega, pal_one (by omega)] at z
    cases z
  · exact ⟨_, h3⟩
/-! lists of ints, by place -/
def entF (R : Nat → Addr) (X : Nat → List Int) (n : Nat) : List (Addr × List V) := (List.range n).map fun i => (R i, (X i).map V.int)
theorem entF_at {R : Nat → Addr} {X : Nat → List Int} {n i : Nat} (h : i < n) : (entF R X n)[i]? = some (R i, (X i).map V.int) := at_range _ h
theorem entF_set {R : Nat → Addr} {X : Nat → List Int} {n i : Nat} {ys : List Int} : (entF R X n).set i (R i, ys.map V.int) = entF R (fun j => if j = i then ys else X j) n := by
  unfold entF
  rw [set_range]
  refine List.map_congr_left fun j _ => ?_
  by_cases e : j = i
  · subst e; simp only [if_true]
  · simp only [if_neg e]

end Mw
namespace Mw
open PySem PySem.Spec PyProof.Rows L2 Evl
/-! # mathematics: how often mirror words stand, what a letter brings -/
def cnt : Tx → Tx → Nat
  | [], _ => 0
  | c :: r, w => (if w <+: c :: r then 1 else 0) + cnt r w
theorem cnt_snoc {w : Tx} (hw : w ≠ []) (c : Nat) : ∀ t : Tx, cnt (t ++ [c]) w = cnt t w + if w <:+ t ++ [c] then 1 else 0
  | [] => by
    show (if w <+: [c] then 1 else 0) + 0 = 0 + (if w <:+ [c] then 1 else 0)
    have e : w <+: [c] ↔ w <:+ [c] := by
      have a := List.prefix_concat_iff (l₁ := w) (l₂ := []) (a := c)
      have b := List.suffix_cons_iff (l₁ := w) (l₂ := []) (a := c)
      rw [List.nil_append, List.prefix_nil] at a
      rw [List.suffix_nil] at b
      rw [a, b]
    simp only [e]
    omega
  | d :: t => by
    have ih := cnt_snoc hw c t
    show (if w <+: d :: (t ++ [c]) then 1 else 0) + cnt (t ++ [c]) w = ((if w <+: d :: t then 1 else 0) + cnt t w) + (if w <:+ d :: (t ++ [c]) then 1 else 0)
    rw [ih]
    by_cases e : w = d :: (t ++ [c])
    · have h1 : w <+: d :: (t ++ [c]) := by rw [e]; exact List.prefix_refl _
      have h2 : w <:+ d :: (t ++ [c]) := by rw [e]; exact List.suffix_refl _
      have h3 : ¬ w <+: d :: t := fun z => by have := z.length_le; rw [e] at this; simp at this; omega
      have h4 : ¬ w <:+ t ++ [c] := fun z => by have := z.length_le; rw [e] at this; simp at this; omega
      rw [if_pos h1, if_pos h2, if_neg h3, if_neg h4]; omega
    · have h1 : w <+: d :: (t ++ [c]) ↔ w <+: d :: t := by
        rw [show d :: (t ++ [c]) = (d :: t) ++ [c] from rfl, List.prefix_concat_iff]
        exact ⟨fun z => z.elim (fun z => absurd z e) id, .inr⟩
      have h2 : w <:+ d :: (t ++ [c]) ↔ w <:+ t ++ [c] := by
        rw [List.suffix_cons_iff]
        exact ⟨fun z => z.elim (fun z => absurd z e) id, .inr⟩
      simp only [h1, h2]; omega
theorem cnt_rev {w : Tx} (hw : w ≠ []) : ∀ t : Tx, cnt t.reverse w = cnt t w.reverse
  | [] => rfl
  | c :: t => by
    rw [List.reverse_cons, cnt_snoc hw, cnt_rev hw t]
    show _ = (if w.reverse <+: c :: t then 1 else 0) + cnt t w.reverse
    have e : w <:+ t.reverse ++ [c] ↔ w.reverse <+: c :: t := by
      rw [← List.reverse_cons, ← List.reverse_prefix, List.reverse_reverse]
    simp only [e]; omega
theorem cnt_pos {w : Tx} (hw : w ≠ []) : ∀ {t : Tx}, 0 < cnt t w ↔ w <:+: t
  | [] => by
    show 0 < 0 ↔ _
    rw [List.infix_nil]
    exact ⟨fun z => absurd z (Nat.lt_irrefl 0), fun z => absurd z hw⟩
  | c :: t => by
    rw [List.infix_cons_iff, ← cnt_pos hw]
    show 0 < (if w <+: c :: t then 1 else 0) + cnt t w ↔ _
    by_cases e : w <+: c :: t
    · rw [if_pos e]; exact ⟨fun _ => .inl e, fun _ => by omega⟩
    · rw [if_neg e, Nat.zero_add]; exact ⟨.inr, fun z => z.elim (fun z => absurd z e) id⟩
theorem cnt_le (w : Tx) : ∀ t : Tx, cnt t w ≤ t.length
  | [] => Nat.le_refl _
  | c :: t => by
    have := cnt_le w t
    show (if w <+: c :: t then 1 else 0) + cnt t w ≤ t.length + 1
    split <;> omega
/-- a mirror word -/
def mir (w : Tx) : Bool := pal w && decide (w ≠ [])
theorem mir_iff {w : Tx} : mir w = true ↔ pal w = true ∧ w ≠ [] := by
  unfold mir; rw [Bool.and_eq_true, decide_eq_true_eq]
theorem mir_rev {w : Tx} (h : mir w = true) : w.reverse = w := by
  have := (mir_iff.mp h).1
  unfold pal at this
  exact (of_decide_eq_true this).symm
/-- how often a mirror word stands; nought of what is none -/
def cntD (t w : Tx) : Nat := if mir w = true then cnt t w else 0
theorem cntD_rev (t w : Tx) : cntD t.reverse w = cntD t w := by
  unfold cntD
  split
  · next h => rw [cnt_rev (mir_iff.mp h).2, mir_rev h]
  · rfl
theorem cntD_nil (w : Tx) : cntD [] w = 0 := by unfold cntD; split <;> rfl
theorem cntD_no (t : Tx) : cntD t [] = 0 := rfl
theorem mem_ends {u w : Tx} : w ∈ endsT u ↔ mir w = true ∧ w <:+ u := by
  induction u with
  | nil =>
    rw [List.suffix_nil, mir_iff]
    exact ⟨fun h => (by cases h), fun h => absurd h.2 h.1.2⟩
  | cons c r ih =>
    rw [List.suffix_cons_iff, endsT]
    by_cases hp : pal (c :: r) = true
    · rw [if_pos hp, List.mem_cons, ih]
      constructor
      · rintro (rfl | ⟨h1, h2⟩)
        · exact ⟨mir_iff.mpr ⟨hp, by simp⟩, .inl rfl⟩
        · exact ⟨h1, .inr h2⟩
      · rintro ⟨h1, (rfl | h2)⟩
        · exact .inl rfl
        · exact .inr ⟨h1, h2⟩
    · rw [if_neg hp, ih]
      constructor
      · rintro ⟨h1, h2⟩; exact ⟨h1, .inr h2⟩
      · rintro ⟨h1, (rfl | h2)⟩
        · exact absurd (mir_iff.mp h1).1 hp
        · exact ⟨h1, h2⟩
theorem cntD_snoc (t w : Tx) (c : Nat) : cntD (t ++ [c]) w = cntD t w + if w ∈ endsT (t ++ [c]) then 1 else 0 := by
  unfold cntD
  by_cases h : mir w = true
  · have e : w ∈ endsT (t ++ [c]) ↔ w <:+ t ++ [c] := by rw [mem_ends]; exact ⟨fun z => z.2, fun z => ⟨h, z⟩⟩
    rw [if_pos h, if_pos h, cnt_snoc (mir_iff.mp h).2]
    simp only [e]
  · rw [if_neg h, if_neg h, if_neg fun z => h (mem_ends.mp z).1]
theorem cntD_pos {t w : Tx} : 0 < cntD t w ↔ mir w = true ∧ w <:+: t := by
  unfold cntD
  by_cases h : mir w = true
  · rw [if_pos h, cnt_pos (mir_iff.mp h).2]; exact ⟨fun z => ⟨h, z⟩, fun z => z.2⟩
  · rw [if_neg h]; exact ⟨fun z => absurd z (Nat.lt_irrefl 0), fun z => absurd z.1 h⟩
/-- the longest mirror word at the end -/
def lps (u : Tx) : Tx := (endsT u).headD []
theorem endsT_lps (u : Tx) : endsT (lps u) = endsT u := endsT_head u
theorem tailF_eq (l : Tx) : tailF l = lps l.tail := rfl
theorem lps_suf (u : Tx) : lps u <:+ u := by
  unfold lps
  cases h : endsT u with
  | nil => exact List.nil_suffix
  | cons w r => exact (mem_ends.mp (show w ∈ endsT u by rw [h]; exact List.mem_cons_self ..)).2
theorem lps_pal (u : Tx) : pal (lps u) = true := by
  unfold lps
  cases h : endsT u with
  | nil => rfl
  | cons w r => exact (mir_iff.mp (mem_ends.mp (show w ∈ endsT u by rw [h]; exact List.mem_cons_self ..)).1).1
theorem lps_rev (u : Tx) : (lps u).reverse = lps u := by
  have := lps_pal u
  unfold pal at this
  exact (of_decide_eq_true this).symm
theorem pal_one1 (c : Nat) : mir [c] = true := mir_iff.mpr ⟨by unfold pal; simp, by simp⟩
theorem lps_snoc (t : Tx) (c : Nat) : lps (t ++ [c]) ∈ endsT (t ++ [c]) := by
  have h : [c] ∈ endsT (t ++ [c]) := mem_ends.mpr ⟨pal_one1 c, List.suffix_append ..⟩
  unfold lps
  cases e : endsT (t ++ [c]) with
  | nil => rw [e] at h; cases h
  | cons w r => exact List.mem_cons_self ..
theorem lps_mir (t : Tx) (c : Nat) : mir (lps (t ++ [c])) = true := (mem_ends.mp (lps_snoc t c)).1
theorem lps_mir' {t : Tx} (h : t ≠ []) : mir (lps t) = true := by
  rw [← List.dropLast_concat_getLast h]; exact lps_mir _ _
theorem lps_max {u w : Tx} (h : w ∈ endsT u) : w.length ≤ (lps u).length := by
  rw [← endsT_lps] at h
  exact (mem_ends.mp h).2.length_le
theorem lps_cons (c : Nat) (r : Tx) : lps (c :: r) = if pal (c :: r) = true then c :: r else lps r := by
  unfold lps
  rw [endsT]
  split <;> rfl
/-- only the longest one can be new -/
theorem only_new {t w : Tx} {c : Nat} (h : w ∈ endsT (t ++ [c])) (hne : w ≠ lps (t ++ [c])) : 0 < cntD t w := by
  have hm := (mem_ends.mp h).1
  rw [← endsT_lps] at h
  have hs := (mem_ends.mp h).2
  refine cntD_pos.mpr ⟨hm, ?_⟩
  have hp : w <+: lps (t ++ [c]) := by
    rw [← List.reverse_suffix, lps_rev, mir_rev hm]; exact hs
  have hW := lps_suf (t ++ [c])
  obtain ⟨x, d, e⟩ : ∃ x d, lps (t ++ [c]) = x ++ [d] := by
    have h0 := (mir_iff.mp (lps_mir t c)).2
    exact ⟨_, _, (List.dropLast_concat_getLast h0).symm⟩
  rw [e] at hp hW hne
  rw [List.prefix_concat_iff] at hp
  have hx : x <:+ t := by
    obtain ⟨y, hy⟩ := hW
    rw [← List.append_assoc] at hy
    have := (List.append_inj' hy rfl).1
    exact ⟨y, this⟩
  exact (hp.resolve_left hne).isInfix.trans hx.isInfix
/-! ## growing -/
def condG (t : Tx) (c : Nat) (y : Tx) : Bool := decide (y.length < t.length) && decide (t.getD (t.length - 1 - y.length) 0 = c)
def grow (t : Tx) (c : Nat) : List Tx → Tx
  | [] => if condG t c [] = true then [c, c] else [c]
  | y :: r => if condG t c y = true then c :: (y ++ [c]) else grow t c r
theorem grow_congr {t s : Tx} {c : Nat} : ∀ {E : List Tx}, (∀ y ∈ E, condG t c y = condG s c y) → condG t c [] = condG s c [] → grow t c E = grow s c E
  | [], _, h => by rw [grow, grow, h]
  | y :: r, h, h0 => by
    rw [grow, grow, h y (List.mem_cons_self ..), grow_congr (fun z hz => h z (List.mem_cons_of_mem _ hz)) h0]
theorem condG_suf {t s : Tx} {c : Nat} {y : Tx} (h : s <:+ t) (hy : y.length < s.length) : condG t c y = condG s c y := by
  obtain ⟨x, rfl⟩ := h
  unfold condG
  rw [List.length_append, decide_eq_true hy, decide_eq_true (by omega), List.getD_eq_getElem?_getD, List.getD_eq_getElem?_getD, List.getElem?_append_right (by omega), show x.length + s.length - 1 - y.length - x.length = s.length - 1 - y.length by omega]
theorem condG_self (t : Tx) (c : Nat) : condG t c t = false := by
  unfold condG; rw [decide_eq_false (Nat.lt_irrefl _)]; rfl
theorem pal_wrap {c d : Nat} {r : Tx} : pal (d :: (r ++ [c])) = true ↔ d = c ∧ pal r = true := by
  unfold pal
  rw [decide_eq_true_eq, decide_eq_true_eq, List.reverse_cons, List.reverse_append]
  show d :: (r ++ [c]) = (c :: r.reverse) ++ [d] ↔ _
  rw [List.cons_append, List.cons.injEq]
  constructor
  · rintro ⟨rfl, h⟩; exact ⟨rfl, (List.append_inj' h rfl).1⟩
  · rintro ⟨rfl, h⟩; exact ⟨rfl, by rw [← h]⟩
theorem grow_lps (c : Nat) : ∀ s : Tx, grow s c (endsT s) = lps (s ++ [c])
  | [] => by
    show grow [] c [] = lps [c]
    rw [grow, condG_self, lps_cons, if_pos (mir_iff.mp (pal_one1 c)).1]; rfl
  | d :: r => by
    have ih := grow_lps c r
    have e1 : grow (d :: r) c (endsT (d :: r)) = grow (d :: r) c (endsT r) := by
      rw [endsT]
      split
      · rw [grow, condG_self]; rfl
      · rfl
    rw [e1, List.cons_append, lps_cons]
    have hlt : ∀ y : Tx, y.length < r.length → condG (d :: r) c y = condG r c y := fun y hy => condG_suf (List.suffix_cons d r) hy
    have hself : condG (d :: r) c r = decide (d = c) := by
      unfold condG
      rw [List.length_cons, decide_eq_true (by omega), show r.length + 1 - 1 - r.length = 0 by omega]; rfl
    by_cases hp : pal (d :: (r ++ [c])) = true
    · rw [if_pos hp]
      obtain ⟨rfl, hr⟩ := pal_wrap.mp hp
      cases r with
      | nil => show grow [d] d [] = _; rw [grow, hself, if_pos (by simp)]; rfl
      | cons a r' => rw [endsT_pal hr (by simp), grow, hself, if_pos (by simp)]
    · rw [if_neg hp, ← ih]
      have key : ∀ y ∈ endsT r, condG (d :: r) c y = condG r c y := fun y hy => by
        obtain ⟨h1, h2⟩ := mem_ends.mp hy
        rcases Nat.lt_or_ge y.length r.length with l | l
        · exact hlt y l
        · have e : y = r := h2.eq_of_length (Nat.le_antisymm h2.length_le l)
          subst e
          rw [hself, condG_self]
          exact decide_eq_false fun z => hp (pal_wrap.mpr ⟨z, (mir_iff.mp h1).1⟩)
      refine grow_congr key ?_
      cases r with
      | nil =>
        rw [hself, condG_self]
        exact decide_eq_false fun z => hp (pal_wrap.mpr ⟨z, rfl⟩)
      | cons a r' => exact hlt [] (by simp)
/-- the tail of a mirror word that a letter has made -/
theorem grow_tail {t s : Tx} {c : Nat} (hs : s <:+ t) (hm : mir s = true) : grow t c (endsT (tailF s)) = tailF (c :: (s ++ [c])) := by
  obtain ⟨h1, h0⟩ := mir_iff.mp hm
  rw [tailF_eq, endsT_lps, tailF_eq, List.tail_cons, ← grow_lps, endsT_pal h1 h0, grow, condG_self, if_neg Bool.false_ne_true]
  have hl : 0 < s.length := List.length_pos_iff.mpr h0
  refine grow_congr (fun y hy => condG_suf hs ?_) (condG_suf hs (by exact hl))
  have := (mem_ends.mp hy).2.length_le
  rw [List.length_tail] at this
  omega
/-- the longest mirror word made by a letter: of one letter, of two, or about one that stood at the end -/
theorem lps_form (t : Tx) (c : Nat) : lps (t ++ [c]) = [c] ∨ lps (t ++ [c]) = [c, c] ∨ ∃ s, s <:+ t ∧ mir s = true ∧ lps (t ++ [c]) = c :: (s ++ [c]) := by
  rw [← grow_lps]
  have key : ∀ E : List Tx, (∀ y ∈ E, y ∈ endsT t) → grow t c E = [c] ∨ grow t c E = [c, c] ∨ ∃ s, s <:+ t ∧ mir s = true ∧ grow t c E = c :: (s ++ [c]) := by
    intro E
    induction E with
    | nil => intro _; rw [grow]; split
             · exact .inr (.inl rfl)
             · exact .inl rfl
    | cons y r ih =>
      intro h
      rw [grow]
      split
      · obtain ⟨a, b⟩ := mem_ends.mp (h y (List.mem_cons_self ..))
        exact .inr (.inr ⟨y, b, a, rfl⟩)
      · exact ih fun z hz => h z (List.mem_cons_of_mem _ hz)
  exact key _ fun _ h => h

end Mw
namespace Mw
open PySem PySem.Spec PyProof.Rows L2 Evl
/-! # mathematics: what begins and ends at the places of a text -/
def hdN (t : Tx) (i : Nat) : Nat := (lps (t.drop i).reverse).length
def enN (t : Tx) (i : Nat) : Nat := (lps (t.take (i + 1))).length
theorem pal_rev (u : Tx) : pal u.reverse = pal u := by
  unfold pal
  rw [List.reverse_reverse]
  exact decide_eq_decide.mpr eq_comm
theorem rev_of_pal {u : Tx} (h : pal u = true) : u.reverse = u := by
  unfold pal at h
  exact (of_decide_eq_true h).symm
theorem lps_pos {u : Tx} (h : u ≠ []) : 0 < (lps u).length := List.length_pos_iff.mpr (mir_iff.mp (lps_mir' h)).2
theorem hdN_pos {t : Tx} {i : Nat} (h : i < t.length) : 0 < hdN t i := lps_pos (by rw [Ne, List.reverse_eq_nil_iff, List.drop_eq_nil_iff]; omega)
theorem enN_pos {t : Tx} {i : Nat} (h : i < t.length) : 0 < enN t i := lps_pos (by rw [Ne, List.take_eq_nil_iff]; rintro (z | z); · omega
                                                                                   · rw [z] at h; exact absurd h (Nat.not_lt_zero _))
theorem hdN_le (t : Tx) (i : Nat) : hdN t i ≤ t.length - i := by
  have := (lps_suf (t.drop i).reverse).length_le
  rw [List.length_reverse, List.length_drop] at this
  exact this
theorem enN_le (t : Tx) (i : Nat) : enN t i ≤ i + 1 := by
  have := (lps_suf (t.take (i + 1))).length_le
  rw [List.length_take] at this
  unfold enN
  omega
theorem enN_le2 (t : Tx) (i : Nat) : enN t i ≤ t.length := by
  have := (lps_suf (t.take (i + 1))).length_le
  rw [List.length_take] at this
  unfold enN
  omega
theorem begin_cut (t : Tx) (i : Nat) : (t.drop i).take (hdN t i) = lps (t.drop i).reverse := by
  have h := lps_suf (t.drop i).reverse
  rw [← List.reverse_prefix, List.reverse_reverse, lps_rev] at h
  exact (List.prefix_iff_eq_take.mp h).symm
theorem end_cut {t : Tx} {i : Nat} (hi : i < t.length) : (t.drop (i + 1 - enN t i)).take (i + 1 - (i + 1 - enN t i)) = lps (t.take (i + 1)) := by
  have h := List.suffix_iff_eq_drop.mp (lps_suf (t.take (i + 1)))
  rw [List.length_take, Nat.min_eq_left (by omega)] at h
  rw [h, List.drop_take]; rfl
theorem begin_pre (t : Tx) (i : Nat) : lps (t.drop i).reverse <+: t.drop i := by
  have h := lps_suf (t.drop i).reverse
  rw [← List.reverse_prefix, List.reverse_reverse, lps_rev] at h
  exact h
theorem hdN_max {t w : Tx} {i : Nat} (hm : mir w = true) (h : w <+: t.drop i) : w.length ≤ hdN t i := by
  refine lps_max (mem_ends.mpr ⟨hm, ?_⟩)
  rw [← List.reverse_suffix, mir_rev hm] at h
  exact h
/-! ## a letter put, a letter cut -/
theorem hdN_snoc {t : Tx} {c i : Nat} (h : i ≤ t.length) : hdN (t ++ [c]) i = if pal ((t ++ [c]).drop i) = true then t.length + 1 - i else hdN t i := by
  have e : (t ++ [c]).drop i = t.drop i ++ [c] := List.drop_append_of_le_length h
  unfold hdN
  rw [e, List.reverse_append, List.reverse_singleton, List.singleton_append, lps_cons]
  have e2 : pal (c :: (t.drop i).reverse) = pal (t.drop i ++ [c]) := by
    rw [← pal_rev (t.drop i ++ [c]), List.reverse_append, List.reverse_singleton, List.singleton_append]
  rw [e2]
  split
  · rw [List.length_cons, List.length_reverse, List.length_drop]; omega
  · rfl
theorem enN_snoc {t : Tx} {c i : Nat} (h : i < t.length) : enN (t ++ [c]) i = enN t i := by
  unfold enN
  rw [List.take_append_of_le_length (by omega)]
theorem enN_last (t : Tx) (c : Nat) : enN (t ++ [c]) t.length = (lps (t ++ [c])).length := by
  unfold enN
  rw [List.take_of_length_le (by rw [List.length_append]; exact Nat.le_refl _)]
theorem enN_cons {t : Tx} {c i : Nat} : enN (c :: t) i = if pal ((c :: t).take (i + 1)) = true then min (i + 1) (t.length + 1) else (lps (t.take i)).length := by
  unfold enN
  rw [List.take_succ_cons, lps_cons]
  split
  · rw [List.length_cons, List.length_take]; omega
  · rfl
theorem hdN_cons (t : Tx) (c i : Nat) : hdN (c :: t) (i + 1) = hdN t i := rfl
theorem hdN_first (t : Tx) (c : Nat) : hdN (c :: t) 0 = (lps (t.reverse ++ [c])).length := by
  unfold hdN
  rw [List.drop_zero, List.reverse_cons]
/-- which places the words of a chain reach -/
theorem ends_at {u : Tx} {i : Nat} (hi : i < u.length) : ((endsT u).any fun w => decide (u.length - w.length = i)) = pal (u.drop i) := by
  rw [Bool.eq_iff_iff, List.any_eq_true]
  constructor
  · rintro ⟨w, hw, e⟩
    obtain ⟨h1, h2⟩ := mem_ends.mp hw
    have e := of_decide_eq_true e
    rw [← e, ← List.suffix_iff_eq_drop.mp h2]
    exact (mir_iff.mp h1).1
  · intro h
    refine ⟨u.drop i, mem_ends.mpr ⟨mir_iff.mpr ⟨h, ?_⟩, List.drop_suffix ..⟩, ?_⟩
    · rw [Ne, List.drop_eq_nil_iff]; omega
    · rw [List.length_drop]; exact decide_eq_true (by omega)
theorem ends_atR {u : Tx} {i : Nat} (hi : i < u.length) : ((endsT u.reverse).any fun w => decide (w.length - 1 = i)) = pal (u.take (i + 1)) := by
  have h := ends_at (u := u.reverse) (i := u.length - 1 - i) (by rw [List.length_reverse]; omega)
  rw [List.drop_reverse, pal_rev, show u.length - (u.length - 1 - i) = i + 1 by omega] at h
  rw [← h, Bool.eq_iff_iff, List.any_eq_true, List.any_eq_true]
  have key : ∀ w ∈ endsT u.reverse, (decide (w.length - 1 = i) = true ↔ decide (u.reverse.length - w.length = u.length - 1 - i) = true) := fun w hw => by
    obtain ⟨h1, h2⟩ := mem_ends.mp hw
    have a := h2.length_le
    have b := List.length_pos_iff.mpr (mir_iff.mp h1).2
    rw [List.length_reverse] at a ⊢
    rw [decide_eq_true_eq, decide_eq_true_eq]
    omega
  exact ⟨fun ⟨w, hw, e⟩ => ⟨w, hw, (key w hw).mp e⟩, fun ⟨w, hw, e⟩ => ⟨w, hw, (key w hw).mpr e⟩⟩
/-- what stands at the places behind a walk along a chain -/
def chF (pos : Tx → Nat) (g f : Nat → Nat) (E : List Tx) : Nat → Nat := fun i => if (E.any fun w => decide (pos w = i)) = true then g i else f i
theorem chF_nil (pos : Tx → Nat) (g f : Nat → Nat) : chF pos g f [] = f := rfl
theorem chF_snoc (pos : Tx → Nat) (g f : Nat → Nat) (E : List Tx) (w : Tx) : chF pos g f (E ++ [w]) = fun i => if i = pos w then g (pos w) else chF pos g f E i := by
  funext i
  unfold chF
  rw [List.any_append]
  by_cases h : i = pos w
  · subst h
    rw [if_pos rfl, if_pos]
    rw [Bool.or_eq_true]; right
    simp
  · rw [if_neg h]
    have e : ([w].any fun w => decide (pos w = i)) = false := by
      simp only [List.any_cons, List.any_nil, Bool.or_false]
      exact decide_eq_false fun z => h z.symm
    rw [e, Bool.or_false]
theorem hd_put {t : Tx} {c i : Nat} (hi : i < t.length + 1) : chF (fun w => (t ++ [c]).length - w.length) (fun i => t.length + 1 - i) (fun i => if i = t.length then 1 else hdN t i) (endsT (t ++ [c])) i = hdN (t ++ [c]) i := by
  unfold chF
  rw [ends_at (by rw [List.length_append]; exact hi), hdN_snoc (by omega)]
  by_cases h : i = t.length
  · subst h
    have e : (t ++ [c]).drop t.length = [c] := by rw [List.drop_append_of_le_length (Nat.le_refl _), List.drop_length]; rfl
    rw [e, if_pos (mir_iff.mp (pal_one1 c)).1, if_pos (mir_iff.mp (pal_one1 c)).1]
  · dsimp only
    rw [if_neg h]
theorem tail_snoc {v : Tx} {c i : Nat} (hi : i ≤ v.length) (hp : pal ((v ++ [c]).drop i) = true) : tailF ((v ++ [c]).drop i) = lps (v.drop i).reverse := by
  rw [← rev_of_pal hp, List.drop_append_of_le_length hi, List.reverse_append]
  rfl
theorem hd_cut {v : Tx} {c i : Nat} (hi : i < v.length) : chF (fun w => (v ++ [c]).length - w.length) (fun i => (tailF ((v ++ [c]).drop i)).length) (hdN (v ++ [c])) (endsT (v ++ [c])) i = hdN v i := by
  unfold chF
  rw [ends_at (by rw [List.length_append]; exact Nat.lt_succ_of_lt hi), hdN_snoc (by omega)]
  by_cases h : pal ((v ++ [c]).drop i) = true
  · rw [if_pos h]
    dsimp only
    rw [tail_snoc (by omega) h]; rfl
  · rw [if_neg h, if_neg h]
theorem en_put {t : Tx} {c i : Nat} (hi : i < t.length + 1) : chF (fun w => w.length - 1) (fun i => i + 1) (fun i => if i = 0 then 1 else enN t (i - 1)) (endsT (t.reverse ++ [c])) i = enN (c :: t) i := by
  unfold chF
  rw [← List.reverse_cons, ends_atR (by exact hi), enN_cons]
  split
  · dsimp only
    omega
  · cases i with
    | zero => next h => exact absurd (mir_iff.mp (pal_one1 c)).1 h
    | succ i => rfl
theorem en_cut {r : Tx} {c i : Nat} (hi : i < r.length) : chF (fun w => w.length - 1) (fun i => (tailF ((c :: r).take (i + 1))).length) (enN (c :: r)) (endsT (c :: r).reverse) (i + 1) = enN r i := by
  unfold chF
  rw [ends_atR (by exact Nat.succ_lt_succ hi), enN_cons]
  split
  · rfl
  · rfl
/-! ## unlike mirror words: never more than letters -/
theorem some_new {v w : Tx} {c : Nat} (h : 0 < cntD (v ++ [c]) w) (hne : w ≠ lps (v ++ [c])) : 0 < cntD v w := by
  rw [cntD_snoc] at h
  by_cases hm : w ∈ endsT (v ++ [c])
  · exact only_new hm hne
  · rw [if_neg hm] at h; exact h
theorem cntD_le (u w : Tx) : cntD u w ≤ u.length := by
  have := cnt_le w u
  unfold cntD
  split <;> omega
theorem words_le : ∀ (n : Nat) (t : Tx) (W : List Tx), t.length = n → W.Nodup → (∀ w ∈ W, 0 < cntD t w) → W.length ≤ n
  | 0, t, W, ht, _, hW => by
    cases W with
    | nil => exact Nat.le_refl _
    | cons w r =>
      have h := hW w (List.mem_cons_self ..)
      rw [List.eq_nil_of_length_eq_zero ht, cntD_nil] at h
      exact absurd h (Nat.lt_irrefl 0)
  | n + 1, t, W, ht, nd, hW => by
    have h0 : t ≠ [] := by rintro rfl; simp at ht
    obtain ⟨v, c, rfl⟩ : ∃ v c, t = v ++ [c] := ⟨_, _, (List.dropLast_concat_getLast h0).symm⟩
    have hv : v.length = n := by rw [List.length_append] at ht; simpa using ht
    have ih := words_le n v (W.filter fun w => decide (w ≠ lps (v ++ [c]))) hv (nd.sublist List.filter_sublist) fun w hw => by
      obtain ⟨a, b⟩ := List.mem_filter.mp hw
      exact some_new (hW w a) (of_decide_eq_true b)
    have key : ∀ (x : Tx) (l : List Tx), l.Nodup → l.length ≤ (l.filter fun w => decide (w ≠ x)).length + 1 := by
      intro x l
      induction l with
      | nil => intro _; exact Nat.zero_le _
      | cons y l ih =>
        intro nd
        obtain ⟨n1, n2⟩ := List.nodup_cons.mp nd
        by_cases e : y = x
        · subst e
          have e2 : l.filter (fun w => decide (w ≠ y)) = l := List.filter_eq_self.mpr fun z hz => decide_eq_true fun q => n1 (q ▸ hz)
          rw [List.filter_cons_of_neg (by simp), e2]; exact Nat.le_refl _
        · have := ih n2
          rw [List.filter_cons_of_pos (by exact decide_eq_true e), List.length_cons, List.length_cons]; omega
    have := key (lps (v ++ [c])) W nd
    omega
theorem new_word {v : Tx} {c : Nat} {ks : List Tx} (nd : ks.Nodup) (hk : ∀ w, w ∈ ks ↔ 0 < cntD (v ++ [c]) w) : ks.filter (fun w => decide (cntD v w = 0)) = if cntD v (lps (v ++ [c])) = 0 then [lps (v ++ [c])] else [] := by
  have hmem : ∀ w, w ∈ ks.filter (fun w => decide (cntD v w = 0)) ↔ w = lps (v ++ [c]) ∧ cntD v w = 0 := fun w => by
    rw [List.mem_filter, decide_eq_true_eq, hk]
    constructor
    · rintro ⟨a, b⟩
      refine ⟨?_, b⟩
      by_cases e : w = lps (v ++ [c])
      · exact e
      · have := some_new a e; omega
    · rintro ⟨rfl, b⟩
      refine ⟨?_, b⟩
      rw [cntD_snoc, if_pos (lps_snoc v c)]; omega
  have nd2 := nd.sublist (List.filter_sublist (p := fun w => decide (cntD v w = 0)) (l := ks))
  generalize ks.filter (fun w => decide (cntD v w = 0)) = fs at hmem nd2
  by_cases h : cntD v (lps (v ++ [c])) = 0
  · rw [if_pos h]
    cases fs with
    | nil => exact absurd ((hmem _).mpr ⟨rfl, h⟩) (by simp)
    | cons x r =>
      have hx := ((hmem x).mp (List.mem_cons_self ..)).1
      cases r with
      | nil => rw [hx]
      | cons y r =>
        have hy := ((hmem y).mp (List.mem_cons_of_mem _ (List.mem_cons_self ..))).1
        exact absurd (by rw [hx, hy]; exact List.mem_cons_self ..) (List.nodup_cons.mp nd2).1
  · rw [if_neg h]
    cases fs with
    | nil => rfl
    | cons x r =>
      obtain ⟨a, b⟩ := (hmem x).mp (List.mem_cons_self ..)
      rw [a] at b; exact absurd b h
/-! ## the mirror words in order -/
def leW (a b : Tx) : Bool := decide (a.length < b.length) || (decide (a.length = b.length) && decide (a ≤ b))
theorem leW_iff {a b : Tx} : leW a b = true ↔ a.length < b.length ∨ (a.length = b.length ∧ a ≤ b) := by
  unfold leW
  rw [Bool.or_eq_true, Bool.and_eq_true, decide_eq_true_eq, decide_eq_true_eq, decide_eq_true_eq]
theorem leW_anti {a b : Tx} (h1 : leW a b = true) (h2 : leW b a = true) : a = b := by
  rw [leW_iff] at h1 h2
  rcases h1 with h1 | ⟨h1, h3⟩
  · rcases h2 with h2 | ⟨h2, _⟩ <;> omega
  · rcases h2 with h2 | ⟨_, h4⟩
    · omega
    · exact List.le_antisymm h3 h4
theorem leW_trans (a b c : Tx) (h1 : leW a b = true) (h2 : leW b c = true) : leW a c = true := by
  rw [leW_iff] at h1 h2 ⊢
  rcases h1 with h1 | ⟨h1, h3⟩
  · rcases h2 with h2 | ⟨h2, _⟩ <;> (left; omega)
  · rcases h2 with h2 | ⟨h2, h4⟩
    · left; omega
    · right; exact ⟨by omega, List.le_trans h3 h4⟩
theorem leW_total (a b : Tx) : (leW a b || leW b a) = true := by
  rw [Bool.or_eq_true, leW_iff, leW_iff]
  rcases Nat.lt_trichotomy a.length b.length with h | h | h
  · exact .inl (.inl h)
  · rcases List.le_total a b with c | c
    · exact .inl (.inr ⟨h, c⟩)
    · exact .inr (.inr ⟨h.symm, c⟩)
  · exact .inr (.inl h)
theorem sorted_one {α : Type} {le : α → α → Bool} (anti : ∀ {a b}, le a b = true → le b a = true → a = b) : ∀ {l m : List α}, l.Perm m → l.Pairwise (fun a b => le a b = true) → m.Pairwise (fun a b => le a b = true) → l = m
  | [], m, p, _, _ => (List.Perm.eq_nil p.symm).symm
  | x :: l, [], p, _, _ => absurd p.length_eq (by simp)
  | x :: l, y :: m, p, h1, h2 => by
    obtain ⟨a1, a2⟩ := List.pairwise_cons.mp h1
    obtain ⟨b1, b2⟩ := List.pairwise_cons.mp h2
    have e : x = y := by
      rcases List.mem_cons.mp (p.mem_iff.mp (List.mem_cons_self ..) : x ∈ y :: m) with e | hx
      · exact e
      · rcases List.mem_cons.mp (p.mem_iff.mpr (List.mem_cons_self ..) : y ∈ x :: l) with e | hy
        · exact e.symm
        · exact anti (a1 y hy) (b1 x hx)
    subst e
    rw [sorted_one anti p.cons_inv a2 b2]
structure RowsOf (f : Tx → Nat) (ws : List Tx) : Prop where
  nd : ws.Nodup
  up : ws.Pairwise fun a b => leW a b = true
  mem : ∀ w, w ∈ ws ↔ 0 < f w
theorem rows_one {f : Tx → Nat} {a b : List Tx} (h1 : RowsOf f a) (h2 : RowsOf f b) : a = b :=
  sorted_one leW_anti ((List.perm_ext_iff_of_nodup h1.nd h2.nd).mpr fun w => (h1.mem w).trans (h2.mem w).symm) h1.up h2.up
theorem rows_of {f : Tx → Nat} {ks ws : List Tx} (nd : ks.Nodup) (hk : ∀ w, w ∈ ks ↔ 0 < f w) (p : ws.Perm ks) (up : ws.Pairwise fun a b => leW a b = true) : RowsOf f ws :=
  ⟨p.nodup_iff.mpr nd, up, fun w => p.mem_iff.trans (hk w)⟩
def dedT : List Tx → List Tx
  | [] => []
  | x :: r => if x ∈ dedT r then dedT r else x :: dedT r
theorem dedT_spec : ∀ l : List Tx, (dedT l).Nodup ∧ ∀ w, w ∈ dedT l ↔ w ∈ l
  | [] => ⟨List.Pairwise.nil, fun _ => Iff.rfl⟩
  | x :: r => by
    obtain ⟨a, b⟩ := dedT_spec r
    rw [dedT]
    split
    · next h => exact ⟨a, fun w => by rw [b, List.mem_cons]; exact ⟨.inr, fun z => z.elim (fun z => by rw [z]; exact (b x).mp h) id⟩⟩
    · next h => exact ⟨List.nodup_cons.mpr ⟨h, a⟩, fun w => by rw [List.mem_cons, List.mem_cons, b]⟩
def subsT (t : Tx) : List Tx := (List.range t.length).flatMap fun i => (List.range (t.length + 1)).map fun k => (t.drop i).take k
def wordsL (t : Tx) : List Tx := (dedT ((subsT t).filter fun w => decide (0 < cntD t w))).mergeSort leW
theorem words_rows (t : Tx) : RowsOf (cntD t) (wordsL t) := by
  obtain ⟨a, b⟩ := dedT_spec ((subsT t).filter fun w => decide (0 < cntD t w))
  refine rows_of a (fun w => ?_) (List.mergeSort_perm ..) (List.pairwise_mergeSort leW_trans leW_total _)
  rw [b, List.mem_filter, decide_eq_true_eq]
  refine ⟨fun z => z.2, fun z => ⟨?_, z⟩⟩
  obtain ⟨hm, x, y, e⟩ := cntD_pos.mp z
  have hl := List.length_pos_iff.mpr (mir_iff.mp hm).2
  refine List.mem_flatMap.mpr ⟨x.length, List.mem_range.mpr ?_, List.mem_map.mpr ⟨w.length, List.mem_range.mpr ?_, ?_⟩⟩
  · rw [← e]; simp only [List.length_append]; omega
  · rw [← e]; simp only [List.length_append]; omega
  · rw [← e, List.append_assoc, List.drop_left, List.take_left]
theorem words_eq {t : Tx} {ks ws : List Tx} (nd : ks.Nodup) (hk : ∀ w, w ∈ ks ↔ 0 < cntD t w) (p : ws.Perm ks) (up : ws.Pairwise fun a b => leW a b = true) : ws = wordsL t := rows_one (rows_of nd hk p up) (words_rows t)
theorem len_words (t : Tx) : (wordsL t).length ≤ t.length := words_le _ t _ rfl (words_rows t).nd fun w h => ((words_rows t).mem w).mp h
theorem mem_words {t w : Tx} : w ∈ wordsL t ↔ mir w = true ∧ w <:+: t := ((words_rows t).mem w).trans cntD_pos
theorem infix_at {t w : Tx} (hw : w ≠ []) : w <:+: t ↔ ∃ i, i < t.length ∧ w <+: t.drop i := by
  constructor
  · rintro ⟨x, y, e⟩
    have hl := List.length_pos_iff.mpr hw
    refine ⟨x.length, by rw [← e]; simp only [List.length_append]; omega, y, ?_⟩
    rw [← e, List.append_assoc, List.drop_left]
  · rintro ⟨i, _, h⟩
    exact h.isInfix.trans (List.drop_suffix i t).isInfix
/-! ## the longest one -/
def mostF (t : Tx) : Nat := ((List.range t.length).map (hdN t)).foldr max 0
theorem foldr_max : ∀ l : List Nat, (∀ y ∈ l, y ≤ l.foldr max 0) ∧ (l ≠ [] → l.foldr max 0 ∈ l)
  | [] => ⟨fun _ h => (by cases h), fun h => absurd rfl h⟩
  | x :: r => by
    obtain ⟨a, b⟩ := foldr_max r
    rw [List.foldr_cons]
    refine ⟨fun y hy => ?_, fun _ => ?_⟩
    · rcases List.mem_cons.mp hy with rfl | hy
      · exact Nat.le_max_left ..
      · exact Nat.le_trans (a y hy) (Nat.le_max_right ..)
    · rcases Nat.le_total x (r.foldr max 0) with c | c
      · rw [Nat.max_eq_right c]
        cases r with
        | nil =>
          have : x = 0 := by simpa using c
          rw [this]; exact List.mem_cons_self ..
        | cons z s => exact List.mem_cons_of_mem _ (b (by simp))
      · rw [Nat.max_eq_left c]; exact List.mem_cons_self ..
theorem most_ge {t : Tx} {i : Nat} (h : i < t.length) : hdN t i ≤ mostF t := (foldr_max _).1 _ (List.mem_map.mpr ⟨i, List.mem_range.mpr h, rfl⟩)
theorem most_at {t : Tx} (h : t ≠ []) : ∃ i, i < t.length ∧ hdN t i = mostF t := by
  obtain ⟨i, hi, e⟩ := List.mem_map.mp ((foldr_max ((List.range t.length).map (hdN t))).2 (by
    rw [Ne, List.map_eq_nil_iff, List.range_eq_nil]
    exact fun z => h (List.eq_nil_of_length_eq_zero z)))
  exact ⟨i, List.mem_range.mp hi, e⟩
theorem most_pos {t : Tx} (h : t ≠ []) : 0 < mostF t := by
  obtain ⟨i, hi, e⟩ := most_at h
  rw [← e]; exact hdN_pos hi
def firstF (t : Tx) : Nat := (List.range t.length).findIdx fun i => decide (hdN t i = mostF t)
theorem first_spec {t : Tx} (h : t ≠ []) : firstF t < t.length ∧ hdN t (firstF t) = mostF t ∧ ∀ j, j < firstF t → hdN t j ≠ mostF t := by
  obtain ⟨i, hi, e⟩ := most_at h
  have hl : firstF t < (List.range t.length).length := List.findIdx_lt_length_of_exists ⟨i, List.mem_range.mpr hi, decide_eq_true e⟩
  have h1 := List.findIdx_getElem (p := fun i => decide (hdN t i = mostF t)) (w := hl)
  have h1 := of_decide_eq_true h1
  have h3 : (List.range t.length)[(List.range t.length).findIdx fun i => decide (hdN t i = mostF t)]'hl = firstF t := List.getElem_range hl
  rw [h3] at h1
  refine ⟨by simpa using hl, h1, fun j hj z => ?_⟩
  have h2 := List.not_of_lt_findIdx (p := fun i => decide (hdN t i = mostF t)) (xs := List.range t.length) (i := j) hj
  rw [List.getElem_range] at h2
  exact absurd z (of_decide_eq_false h2)
def longF (t : Tx) : Tx := if t = [] then [] else lps (t.drop (firstF t)).reverse
theorem long_cut {t : Tx} : (t.drop (if t = [] then 0 else firstF t)).take (mostF t) = longF t := by
  unfold longF
  by_cases h : t = []
  · rw [if_pos h, h]; rfl
  · rw [if_neg h, if_neg h, ← (first_spec h).2.1, begin_cut]
theorem len_long (t : Tx) : (longF t).length = mostF t := by
  unfold longF
  by_cases h : t = []
  · rw [if_pos h, h]; rfl
  · rw [if_neg h, ← (first_spec h).2.1]; rfl
theorem word_most {t w : Tx} (h : w ∈ wordsL t) : w.length ≤ mostF t := by
  obtain ⟨hm, hi⟩ := mem_words.mp h
  obtain ⟨i, hi, hp⟩ := (infix_at (mir_iff.mp hm).2).mp hi
  exact Nat.le_trans (hdN_max hm hp) (most_ge hi)
theorem begin_word {t : Tx} {i : Nat} (hi : i < t.length) : lps (t.drop i).reverse ∈ wordsL t := by
  have h0 : (t.drop i).reverse ≠ [] := by rw [Ne, List.reverse_eq_nil_iff, List.drop_eq_nil_iff]; omega
  refine mem_words.mpr ⟨lps_mir' h0, (begin_pre t i).isInfix.trans (List.drop_suffix i t).isInfix⟩
theorem words_nil {t : Tx} : wordsL t = [] ↔ t = [] := by
  constructor
  · intro h
    cases t with
    | nil => rfl
    | cons c r =>
      have := begin_word (t := c :: r) (i := 0) (Nat.succ_pos _)
      rw [h] at this; cases this
  · rintro rfl
    exact List.eq_nil_of_length_eq_zero (Nat.le_zero.mp (len_words []))
theorem last_long {t : Tx} (h : wordsL t ≠ []) : ((wordsL t).getLast h).length = mostF t := by
  have ht : t ≠ [] := fun z => h (words_nil.mpr z)
  refine Nat.le_antisymm (word_most (List.getLast_mem h)) ?_
  obtain ⟨i, hi, e⟩ := most_at ht
  have hm := begin_word hi
  have up := (words_rows t).up
  rw [← e]
  show (lps (t.drop i).reverse).length ≤ _
  generalize lps (t.drop i).reverse = w at hm
  have key : ∀ {l : List Tx} (h : l ≠ []), l.Pairwise (fun a b => leW a b = true) → ∀ w ∈ l, w.length ≤ (l.getLast h).length := by
    intro l h up w hw
    rw [← List.dropLast_concat_getLast h] at hw up
    rcases List.mem_append.mp hw with hw | hw
    · have := (List.pairwise_append.mp up).2.2 w hw _ (List.mem_singleton.mpr rfl)
      rw [leW_iff] at this
      omega
    · rw [List.mem_singleton.mp hw]; exact Nat.le_refl _
  exact key h up w hm

end Mw
namespace Mw
open PySem PySem.Spec PyProof.Rows L2 Evl
/-! ## chains -/
theorem chain_next : ∀ {u : Tx} {pre r : List Tx} {w : Tx}, endsT u = pre ++ w :: r → tailF w = r.headD []
  | [], pre, r, w, h => by
    have := congrArg List.length h
    simp [endsT] at this
  | c :: s, pre, r, w, h => by
    rw [endsT] at h
    by_cases hp : pal (c :: s) = true
    · rw [if_pos hp] at h
      cases pre with
      | nil =>
        obtain ⟨h1, h2⟩ := List.cons.inj h
        rw [← h1, ← h2]; rfl
      | cons x pre => exact chain_next (List.cons.inj h).2
    · rw [if_neg hp] at h
      exact chain_next h
theorem ends_down : ∀ u : Tx, (endsT u).Pairwise fun a b => b.length < a.length
  | [] => List.Pairwise.nil
  | c :: s => by
    rw [endsT]
    split
    · refine List.pairwise_cons.mpr ⟨fun w hw => ?_, ends_down s⟩
      have := (mem_ends.mp hw).2.length_le
      rw [List.length_cons]; omega
    · exact ends_down s
theorem ends_notin {u : Tx} {pre r : List Tx} {w : Tx} (h : endsT u = pre ++ w :: r) : w ∉ pre := fun hm => by
  have hd := ends_down u
  rw [h] at hd
  have := (List.pairwise_append.mp hd).2.2 w hm w (List.mem_cons_self ..)
  exact Nat.lt_irrefl _ this
theorem pos_put {t w : Tx} {c : Nat} : 0 < cntD (t ++ [c]) w ↔ 0 < cntD t w ∨ w = lps (t ++ [c]) := by
  constructor
  · intro h
    by_cases e : w = lps (t ++ [c])
    · exact .inr e
    · exact .inl (some_new h e)
  · rintro (h | h)
    · rw [cntD_snoc]; omega
    · rw [h, cntD_snoc, if_pos (lps_snoc t c)]; omega
theorem inL_wrap (c d : Nat) (s : Tx) : inL (c :: (s ++ [d])) = s := by
  unfold inL
  rw [List.tail_cons, List.dropLast_concat]
/-- the tail of the word that a letter makes, by its length -/
theorem tail_word (t : Tx) (c : Nat) : ((lps (t ++ [c])).length = 1 ∧ tailF (lps (t ++ [c])) = []) ∨ ((lps (t ++ [c])).length = 2 ∧ tailF (lps (t ++ [c])) = [c]) ∨
    (2 < (lps (t ++ [c])).length ∧ ∃ s, s <:+ t ∧ mir s = true ∧ inL (lps (t ++ [c])) = s ∧ grow t c (endsT (tailF s)) = tailF (lps (t ++ [c]))) := by
  rcases lps_form t c with h | h | ⟨s, h1, h2, h⟩
  · left; rw [h]; exact ⟨rfl, rfl⟩
  · right; left; rw [h]
    refine ⟨rfl, ?_⟩
    show lps [c] = [c]
    rw [lps_cons, if_pos (mir_iff.mp (pal_one1 c)).1]
  · right; right
    refine ⟨?_, s, h1, h2, by rw [h, inL_wrap], by rw [h]; exact grow_tail h1 h2⟩
    have := List.length_pos_iff.mpr (mir_iff.mp h2).2
    rw [h, List.length_cons, List.length_append, List.length_singleton]; omega
theorem ends_len {u w : Tx} (h : w ∈ endsT u) : 0 < w.length ∧ w.length ≤ u.length := by
  obtain ⟨h1, h2⟩ := mem_ends.mp h
  exact ⟨List.length_pos_iff.mpr (mir_iff.mp h1).2, h2.length_le⟩
theorem tail_mem {t s w : Tx} (hs : s <:+ t) (h : w ∈ endsT (tailF s)) : 0 < cntD t w := by
  rw [tailF_eq, endsT_lps] at h
  obtain ⟨h1, h2⟩ := mem_ends.mp h
  exact cntD_pos.mpr ⟨h1, (h2.trans ((List.tail_suffix s).trans hs)).isInfix⟩
theorem ends_pos {t w : Tx} (h : w ∈ endsT t) : 0 < cntD t w := by
  obtain ⟨h1, h2⟩ := mem_ends.mp h
  exact cntD_pos.mpr ⟨h1, h2.isInfix⟩
/-! ## where a word stands first -/
def idxF (t w : Tx) : Nat := (List.range t.length).findIdx fun i => decide (w <+: t.drop i)
theorem idx_spec {t w : Tx} (hw : w ∈ wordsL t) : idxF t w < t.length ∧ w <+: t.drop (idxF t w) ∧ ∀ k, k < idxF t w → ¬ w <+: t.drop k := by
  obtain ⟨hm, hi⟩ := mem_words.mp hw
  obtain ⟨i, hi, hp⟩ := (infix_at (mir_iff.mp hm).2).mp hi
  have hl : idxF t w < (List.range t.length).length := List.findIdx_lt_length_of_exists ⟨i, List.mem_range.mpr hi, decide_eq_true hp⟩
  have h1 := of_decide_eq_true (List.findIdx_getElem (p := fun i => decide (w <+: t.drop i)) (w := hl))
  have h3 : (List.range t.length)[(List.range t.length).findIdx fun i => decide (w <+: t.drop i)]'hl = idxF t w := List.getElem_range hl
  rw [h3] at h1
  refine ⟨by simpa using hl, h1, fun k hk z => ?_⟩
  have h2 := List.not_of_lt_findIdx (p := fun i => decide (w <+: t.drop i)) (xs := List.range t.length) (i := k) hk
  rw [List.getElem_range] at h2
  exact absurd z (of_decide_eq_false h2)
theorem first_idx {t w : Tx} (hw : w ∈ wordsL t) (hl : w.length = mostF t) : firstF t ≤ idxF t w := by
  obtain ⟨h1, h2, _⟩ := idx_spec hw
  have ht : t ≠ [] := fun z => by subst z; exact absurd h1 (Nat.not_lt_zero _)
  obtain ⟨_, _, f3⟩ := first_spec ht
  rcases Nat.lt_or_ge (idxF t w) (firstF t) with c | c
  · have a := hdN_max (mem_words.mp hw).1 h2
    have b := most_ge h1
    exact absurd (by omega : hdN t (idxF t w) = mostF t) (f3 _ c)
  · exact c
theorem first_is {t : Tx} (ht : t ≠ []) : ∃ w, w ∈ wordsL t ∧ w.length = mostF t ∧ idxF t w = firstF t := by
  obtain ⟨f1, f2, _⟩ := first_spec ht
  have hw := begin_word f1
  refine ⟨_, hw, f2, Nat.le_antisymm ?_ (first_idx hw f2)⟩
  obtain ⟨_, _, h3⟩ := idx_spec hw
  rcases Nat.lt_or_ge (firstF t) (idxF t (lps (t.drop (firstF t)).reverse)) with c | c
  · exact absurd (begin_pre t (firstF t)) (h3 _ c)
  · exact c
/-! ## words that read alike by their make -/
theorem pal_app_rev (h : Tx) : pal (h ++ h.reverse) = true := by
  unfold pal
  rw [List.reverse_append, List.reverse_reverse]
  exact decide_eq_true rfl
theorem pal_app_but (h : Tx) : pal (h ++ h.dropLast.reverse) = true := by
  cases e : h with
  | nil => rfl
  | cons a r =>
    obtain ⟨x, c, hx⟩ : ∃ x c, a :: r = x ++ [c] := ⟨_, _, (List.dropLast_concat_getLast (by simp)).symm⟩
    rw [hx, List.dropLast_concat]
    unfold pal
    refine decide_eq_true ?_
    simp
theorem pal_rep (c n : Nat) : pal (List.replicate n c) = true := by
  unfold pal
  rw [List.reverse_replicate]
  exact decide_eq_true rfl
theorem filter_last {P : Nat → Bool} {N m : Nat} (hm : m < N) (hp : P m = true) (hn : ∀ k, m < k → k < N → P k = false) : (List.range N).filter P = (List.range m).filter P ++ [m] := by
  have key : ∀ d, m + 1 + d ≤ N → (List.range (m + 1 + d)).filter P = (List.range m).filter P ++ [m] := by
    intro d
    induction d with
    | zero => intro _; rw [Nat.add_zero, List.range_succ, List.filter_append, List.filter_cons_of_pos hp]; rfl
    | succ d ih =>
      intro h
      rw [← Nat.add_assoc, List.range_succ, List.filter_append, ih (by omega), List.filter_cons_of_neg (by rw [hn _ (by omega) (by omega)]; exact Bool.false_ne_true)]
      simp
  have := key (N - (m + 1)) (by omega)
  rwa [show m + 1 + (N - (m + 1)) = N by omega] at this
/-- the mirror words that begin at a place: the longest is the last one -/
theorem begins_last {t : Tx} {p : Nat} (hp : p < t.length) : ((List.range (t.length - p)).filter fun k => pal ((t.drop p).take (k + 1))).map (fun k => (t.drop p).take (k + 1)) =
    ((List.range (hdN t p - 1)).filter fun k => pal ((t.drop p).take (k + 1))).map (fun k => (t.drop p).take (k + 1)) ++ [lps (t.drop p).reverse] := by
  have h1 := hdN_pos hp
  have h2 := hdN_le t p
  have hc := begin_cut t p
  have e : hdN t p - 1 + 1 = hdN t p := by omega
  rw [filter_last (m := hdN t p - 1) (by omega) (by rw [e, hc]; exact lps_pal _) fun k hk hk2 => ?_, List.map_append, List.map_singleton, e, hc]
  rw [← Bool.not_eq_true]
  intro hpal
  have hl : ((t.drop p).take (k + 1)).length = k + 1 := by rw [List.length_take, List.length_drop]; omega
  have := hdN_max (t := t) (w := (t.drop p).take (k + 1)) (i := p) (mir_iff.mpr ⟨hpal, fun z => by rw [z] at hl; cases hl⟩) (List.take_prefix ..)
  omega
/-- those that end there: the longest is the first one -/
theorem ends_first {t : Tx} {p : Nat} (hp : p < t.length) : ((List.range (p + 1)).filter fun k => pal ((t.drop k).take (p + 1 - k))).map (fun k => (t.drop k).take (p + 1 - k)) = endsT (t.take (p + 1)) := by
  have e := endsT_range (t.take (p + 1))
  rw [List.length_take, Nat.min_eq_left (by omega)] at e
  rw [← e]
  simp only [List.drop_take]

end Mw
/-! lists of lists, enumerate, walks downwards, min, max, sorted -/
namespace Mw
open PySem PySem.Spec PyProof.Rows L2 Evl

section
variable {K : PySem.W.Frag} {S : List Addr} {H0 H H1 : Hp} {L L' : List (Addr × HO)} {σ : L2.St} {ta : TA} {te tl : TE} {D : Ends} {tu tz : TS}
theorem Am.perm (am : Am S H0 L H) (h : L'.Perm L) : Am S H0 L' H :=
  ⟨am.old, fun p hp => am.own p (h.mem_iff.mp hp), fun p hp => am.new p (h.mem_iff.mp hp), (h.map _).nodup_iff.mpr am.nd⟩
theorem Am.drop1 {p : Addr × HO} (am : Am S H0 (p :: L) H) : Am S H0 L H := am.sub (List.sublist_cons_self _ _)
/-- a new list that meets P -/
def EvLP (te : TE) (σ : L2.St) (H : Hp) (P : List V → Prop) : Prop := ∀ H1, Ex H H1 → ∀ Q : VK, (∀ p xs H2, P xs → H1 p = none → Ex H1 H2 → H2 p = some (.lst xs) → Q (.ref p) H2) → te σ H1 Q
theorem EvL.toP {xs : List V} {P : List V → Prop} (h : EvL te σ H xs) (hp : P xs) : EvLP te σ H P := fun H1 e Q q => h H1 e Q fun p H2 a b c => q p xs H2 hp a b c
theorem EvLP.mono {P : List V → Prop} (e : Ex H H1) (h : EvLP te σ H P) : EvLP te σ H1 P := fun H2 e2 Q q => h H2 (e.trans e2) Q q
/-- the ledger's part of a list of lists -/
def ledE (ents : List (Addr × List V)) : List (Addr × HO) := ents.map fun e => (e.1, HO.lst e.2)
def refE (ents : List (Addr × List V)) : List V := ents.map fun e => V.ref e.1
theorem ledE_set (ents : List (Addr × List V)) (i : Nat) (r : Addr) (xs : List V) : ledE (ents.set i (r, xs)) = (ledE ents).set i (r, .lst xs) := List.map_set
theorem refE_set {ents : List (Addr × List V)} {i : Nat} {r : Addr} {xs ys : List V} (h : ents[i]? = some (r, ys)) : refE (ents.set i (r, xs)) = refE ents := by
  unfold refE
  rw [List.map_set]
  apply List.ext_getElem?
  intro j
  by_cases e : i = j
  · subst e
    have hi := (List.getElem?_eq_some_iff.mp h).1
    rw [List.getElem?_set_self (by simpa using hi), List.getElem?_map, h]; rfl
  · rw [List.getElem?_set_ne e]
/-- a comprehension of new lists -/
theorem lc_lists {α : Type} {wi : TI} {P : Hp → Prop} {f : α → V} {ns : List α} {j : Nat} {vs : List Nat} (Pg : α → List V → Prop) (am : Am S H0 L H) (hw : Wk wi σ H P (ns.map f)) (hm : ∀ H H', Ex H H' → P H → P H') (hp : P H) (hz : ns.length ≤ 100000)
    (hv : ∀ x, wipe ((wipe σ vs).set j (some x)) vs = wipe σ vs) (he : ∀ n ∈ ns, EvLP te ((wipe σ vs).set j (some (f n))) H (Pg n)) {Q : VK}
    (k : ∀ p ents H2, Paired (fun n e => Pg n e.2) ns ents → Am S H0 ((p, .lst (refE ents)) :: (ledE ents ++ L)) H2 → Ex H H2 → Q (.ref p) H2) : tLc wi (gName j) tYes te vs σ H Q := by
  refine hw H (Ex.refl H) _ fun J H2 e2 sq => fun Dl hD => ?_
  refine ⟨fun i m H' => i + m = ns.length ∧ Ex H2 H' ∧ ∃ ents, Paired (fun n (e : Addr × List V) => Pg n e.2) (ns.take i) ents ∧ Am S H0 ((Dl, .lst (refE ents)) :: (ledE ents ++ L)) H',
    ⟨ns.length, by omega, Ex.new hD, [], .nil, (am.ex e2).new1 hD⟩, ?_⟩
  rintro i m H' ⟨im, e3, ents, pr, am⟩
  obtain ⟨q1, q2⟩ := sq H' (hm _ _ (e2.trans e3) hp)
  have hlen : ents.length = (ns.take i).length := (Paired.length pr).symm
  by_cases hi : i < ns.length
  · have g : (ns.map f)[i]? = some (f ns[i]) := by rw [List.getElem?_map, List.getElem?_eq_getElem hi]; rfl
    have hmem : ns[i] ∈ ns := List.getElem_mem hi
    have ht2 : ns.take (i + 1) = ns.take i ++ [ns[i]] := by rw [List.take_succ_eq_append_getElem hi]
    obtain ⟨g1, g2⟩ := q1 i _ g
    refine .inr ⟨g1, fun H'' => Ex H2 H'' ∧ ∃ ents, Paired (fun n (e : Addr × List V) => Pg n e.2) (ns.take (i + 1)) ents ∧ Am S H0 ((Dl, .lst (refE ents)) :: (ledE ents ++ L)) H'', fun H'' hN => ⟨m - 1, by omega, by omega, hN.1, hN.2⟩, fun y H'' hy => ?_⟩
    obtain ⟨e4, e5⟩ := g2 y H'' hy
    subst e4 e5
    refine ⟨hv _, ?_⟩
    show te ((wipe σ vs).set j (some (f ns[i]))) H'' _
    refine he _ hmem H'' (e2.trans e3) _ fun r xs H6 px hr e7 h6 => ?_
    have am6 := am.add hr e7 h6
    have am7 := am6.set (o' := .lst (refE ents ++ [.ref r])) 1 rfl
    refine ⟨_, am6.at 1 rfl, ?_, Ex.mut (e3.trans e7) hD, ents ++ [(r, xs)], ?_, am7.perm ?_⟩
    · refine szL6 ?_
      unfold refE
      rw [List.length_map, hlen, List.length_take]
      omega
    · rw [ht2]
      exact pr.snoc px
    · show List.Perm ((Dl, HO.lst (refE (ents ++ [(r, xs)]))) :: (ledE (ents ++ [(r, xs)]) ++ L)) ((r, HO.lst xs) :: (Dl, HO.lst (refE ents ++ [V.ref r])) :: (ledE ents ++ L))
      have e1 : refE (ents ++ [(r, xs)]) = refE ents ++ [V.ref r] := by unfold refE; rw [List.map_append]; rfl
      have e2 : ledE (ents ++ [(r, xs)]) = ledE ents ++ [(r, HO.lst xs)] := by unfold ledE; rw [List.map_append]; rfl
      rw [e1, e2, List.append_assoc]
      refine List.Perm.trans (List.Perm.cons _ ?_) (List.Perm.swap ..)
      exact List.perm_middle
  · have ei : i = ns.length := by omega
    subst ei
    rw [List.take_length] at pr
    rw [List.length_map] at q2
    exact .inl ⟨q2, k Dl ents H' pr am (e2.trans e3)⟩
theorem aq_asgLL {α : Type} {wi : TI} {P : Hp → Prop} {f : α → V} {ns : List α} {i j : Nat} {vs : List Nat} (Pg : α → List V → Prop) (am : Am S H0 L H) (hw : Wk wi σ H P (ns.map f)) (hm : ∀ H H', Ex H H' → P H → P H') (hp : P H) (hz : ns.length ≤ 100000)
    (hv : ∀ x, wipe ((wipe σ vs).set j (some x)) vs = wipe σ vs) (he : ∀ n ∈ ns, EvLP te ((wipe σ vs).set j (some (f n))) H (Pg n))
    (k : ∀ p ents H2, Paired (fun n e => Pg n e.2) ns ents → Am S H0 ((p, .lst (refE ents)) :: (ledE ents ++ L)) H2 → tz D (σ.set i (some (.ref p))) H2) : tSeq (tAsg (tLc wi (gName j) tYes te vs) (gName i)) tz D σ H :=
  lc_lists Pg am hw hm hp hz hv he (Q := fun x H1 => tz D (σ.set i (some x)) H1) fun p ents H2 h1 h2 _ => k p ents H2 h1 h2
theorem a_retLL {α : Type} {wi : TI} {P : Hp → Prop} {f : α → V} {ns : List α} {j : Nat} {vs : List Nat} (Pg : α → List V → Prop) (am : Am S H0 L H) (hw : Wk wi σ H P (ns.map f)) (hm : ∀ H H', Ex H H' → P H → P H') (hp : P H) (hz : ns.length ≤ 100000)
    (hv : ∀ x, wipe ((wipe σ vs).set j (some x)) vs = wipe σ vs) (he : ∀ n ∈ ns, EvLP te ((wipe σ vs).set j (some (f n))) H (Pg n))
    (k : ∀ p ents H2, Paired (fun n e => Pg n e.2) ns ents → Am S H0 ((p, .lst (refE ents)) :: (ledE ents ++ L)) H2 → D.rt (.ref p) H2) : tRet (tLc wi (gName j) tYes te vs) D σ H :=
  lc_lists Pg am hw hm hp hz hv he (Q := fun x H1 => D.rt x H1) fun p ents H2 h1 h2 _ => k p ents H2 h1 h2
theorem paired_at {α β : Type} {F : α → β → Prop} : ∀ {xs : List α} {ys : List β} {i : Nat} {x : α}, Paired F xs ys → xs[i]? = some x → ∃ y, ys[i]? = some y ∧ F x y
  | _, _, _, _, .nil, h => by cases h
  | _, _, 0, _, .cons (b := b) f _, h => ⟨b, rfl, by rw [← Option.some.inj h]; exact f⟩
  | _, _, i + 1, _, .cons _ r, h => paired_at (i := i) r h
/-- enumerate of a list -/
theorem a_forE {α : Type} {f : α → V} {ns : List α} {i j : Nat} {a : Addr} (Iv : List α → L2.St → Hp → Prop) (am : Am S H0 L H) (h : EvA ta σ H [.ref a]) (hq : SqL K H a (ns.map f)) (h0 : ∀ H, Am S H0 L H → Iv [] σ H)
    (hP : ∀ pre σ' H', Iv pre σ' H' → SqL K H' a (ns.map f))
    (hs : ∀ pre n post σ' H' H'', ns = pre ++ n :: post → Iv pre σ' H' → Ex H' H'' → tu { D with nx := Iv (pre ++ [n]), ct := Iv (pre ++ [n]), bk := D.nx } ((σ'.set i (some (.int (pre.length : Nat)))).set j (some (f n))) H'')
    (hd : ∀ σ' H', Iv ns σ' H' → D.nx σ' H') : tFor (iEnum K ta) (gTup K 2 (gCons (gName i) (gCons (gName j) gNil))) tu D σ H := by
  refine h H (Ex.refl H) _ fun H2 e => ⟨a, _, rfl, ex_l e hq, ?_⟩
  refine ⟨fun i m σ' H' => i + m = ns.length ∧ Iv (ns.take i) σ' H', ⟨ns.length, by omega, h0 H2 (am.ex e)⟩, ?_⟩
  rintro i' m σ' H' ⟨im, hI⟩
  have hq' := hP _ _ _ hI
  by_cases hi : i' < ns.length
  · have g : (ns.map f)[i']? = some (f ns[i']) := by rw [List.getElem?_map, List.getElem?_eq_getElem hi]; rfl
    have hsp : ns = ns.take i' ++ ns[i'] :: ns.drop (i' + 1) := by
      rw [← List.drop_eq_getElem_cons hi, List.take_append_drop]
    have ht : ns.take (i' + 1) = ns.take i' ++ [ns[i']] := by rw [List.take_succ_eq_append_getElem hi]
    refine .inr ⟨⟨_, _, hq', g⟩, Iv (ns.take i' ++ [ns[i']]), fun σ2 H2 hN => ⟨m - 1, by omega, by omega, by rw [ht]; exact hN⟩, fun y H'' hy => ?_⟩
    obtain ⟨T, x, rfl, hT, rfl, hx⟩ := hy
    have e1 : f ns[i'] = x := Option.some.inj (g.symm.trans (hx _ hq'))
    subst e1
    have z := hs _ _ _ σ' H' _ hsp hI (Ex.new (o := .tup [.int (i' : Nat), f ns[i']]) hT)
    rw [show (ns.take i').length = i' by rw [List.length_take]; omega] at z
    exact ⟨T, [.int (i' : Nat), f ns[i']], rfl, st_of upd_same, rfl, _, _, rfl, _, _, rfl, rfl, z⟩
  · have ei : i' = ns.length := by omega
    subst ei
    rw [List.take_length] at hI
    exact .inl ⟨⟨_, hq', by rw [List.length_map]; exact Nat.le_refl _⟩, hd σ' H' hI⟩
theorem aq_forE {α : Type} {f : α → V} {ns : List α} {i j : Nat} {a : Addr} (Iv : List α → L2.St → Hp → Prop) (am : Am S H0 L H) (h : EvA ta σ H [.ref a]) (hq : SqL K H a (ns.map f)) (h0 : ∀ H, Am S H0 L H → Iv [] σ H)
    (hP : ∀ pre σ' H', Iv pre σ' H' → SqL K H' a (ns.map f))
    (hs : ∀ pre n post σ' H' H'', ns = pre ++ n :: post → Iv pre σ' H' → Ex H' H'' → tu { D with nx := Iv (pre ++ [n]), ct := Iv (pre ++ [n]), bk := tz D } ((σ'.set i (some (.int (pre.length : Nat)))).set j (some (f n))) H'')
    (hd : ∀ σ' H', Iv ns σ' H' → tz D σ' H') : tSeq (tFor (iEnum K ta) (gTup K 2 (gCons (gName i) (gCons (gName j) gNil))) tu) tz D σ H := a_forE (D := { D with nx := tz D }) Iv am h hq h0 hP hs hd
/-- .. of a new list, which stays at the ledger's head -/
theorem aq_forEN {α : Type} {f : α → V} {ns : List α} {i j : Nat} (Iv : Addr → List α → L2.St → Hp → Prop) (am : Am S H0 L H) (h : EvL te σ H (ns.map f)) (h0 : ∀ p H, Am S H0 ((p, .lst (ns.map f)) :: L) H → Iv p [] σ H)
    (hP : ∀ p pre σ' H', Iv p pre σ' H' → H' p = some (.lst (ns.map f)))
    (hs : ∀ p pre n post σ' H' H'', ns = pre ++ n :: post → Iv p pre σ' H' → Ex H' H'' → tu { D with nx := Iv p (pre ++ [n]), ct := Iv p (pre ++ [n]), bk := tz D } ((σ'.set i (some (.int (pre.length : Nat)))).set j (some (f n))) H'')
    (hd : ∀ p σ' H', Iv p ns σ' H' → tz D σ' H') : tSeq (tFor (iEnum K (tCons te tNil)) (gTup K 2 (gCons (gName i) (gCons (gName j) gNil))) tu) tz D σ H :=
  h H (Ex.refl H) _ fun p H2 hp e2 h2 => by
    have z := aq_forE (σ := σ) (D := D) (i := i) (j := j) (tu := tu) (tz := tz) (ta := tCons (tC (.ref p)) tNil) (f := f) (ns := ns) (Iv p) (am.add hp e2 h2) (ea_cons ev_c ea_nil) (sq_of h2 : SqL K H2 p _) (h0 p) (fun pre σ' H' hi => sq_of (hP _ _ _ _ hi)) (hs p) (hd p)
    exact z
theorem a_forEN {α : Type} {f : α → V} {ns : List α} {i j : Nat} (Iv : Addr → List α → L2.St → Hp → Prop) (am : Am S H0 L H) (h : EvL te σ H (ns.map f)) (h0 : ∀ p H, Am S H0 ((p, .lst (ns.map f)) :: L) H → Iv p [] σ H)
    (hP : ∀ p pre σ' H', Iv p pre σ' H' → H' p = some (.lst (ns.map f)))
    (hs : ∀ p pre n post σ' H' H'', ns = pre ++ n :: post → Iv p pre σ' H' → Ex H' H'' → tu { D with nx := Iv p (pre ++ [n]), ct := Iv p (pre ++ [n]), bk := D.nx } ((σ'.set i (some (.int (pre.length : Nat)))).set j (some (f n))) H'')
    (hd : ∀ p σ' H', Iv p ns σ' H' → D.nx σ' H') : tFor (iEnum K (tCons te tNil)) (gTup K 2 (gCons (gName i) (gCons (gName j) gNil))) tu D σ H :=
  h H (Ex.refl H) _ fun p H2 hp e2 h2 => by
    have z := a_forE (σ := σ) (D := D) (i := i) (j := j) (tu := tu) (ta := tCons (tC (.ref p)) tNil) (f := f) (ns := ns) (Iv p) (am.add hp e2 h2) (ea_cons ev_c ea_nil) (sq_of h2 : SqL K H2 p _) (h0 p) (fun pre σ' H' hi => sq_of (hP _ _ _ _ hi)) (hs p) (hd p)
    exact z
/-- downwards -/
theorem wk_rev {n : Int} (h : Ev te σ H (.int n)) (hn : 0 ≤ n ∧ n ≤ 1000000) : Wk (iRevR (tRg1 te)) σ H (fun _ => True) ((List.range n.toNat).map fun i => .int (n - 1 - (i : Nat))) := fun H1 e R q =>
  h H1 e _ fun H2 e2 => by
    refine ⟨n, rfl, by decide, by decide, by omega, by omega, q _ H2 e2 ?_⟩
    have z := sq_rangeC (lo := 0 + (((n - 0).toNat : Nat) : Int) - 1) (c := -1) (n := (n - 0).toNat)
    have e3 : ((List.range n.toNat).map fun i => V.int (n - 1 - (i : Nat))) = (List.range (n - 0).toNat).map fun i => V.int (0 + (((n - 0).toNat : Nat) : Int) - 1 + (i : Nat) * -1) := by
      rw [Int.sub_zero]
      refine List.map_congr_left fun i _ => ?_
      congr 1
      omega
    rw [e3]
    exact z
theorem wk_range3m {lo n : Int} (h : EvA ta σ H [.int lo, .int n, .int (-1)]) (hn : -1000000 ≤ lo ∧ lo ≤ 1000000 ∧ -1000000 ≤ n ∧ n ≤ 1000000) :
    Wk (iRng3 ta) σ H (fun _ => True) ((List.range (lo - n).toNat).map fun i => .int (lo - (i : Nat))) := fun H1 e R q =>
  h H1 e _ fun H2 e2 => by
    refine ⟨lo, n, -1, _, rfl, RgC.neg (by omega) (by omega) (by omega) (by omega), q _ H2 e2 ?_⟩
    have z := sq_rangeC (lo := lo) (c := -1) (n := (lo - n).toNat)
    have e3 : ((List.range (lo - n).toNat).map fun i => V.int (lo - (i : Nat))) = (List.range (lo - n).toNat).map fun i => V.int (lo + (i : Nat) * -1) := by
      refine List.map_congr_left fun i _ => ?_
      congr 1
      omega
    rw [e3]
    exact z
theorem rc_min {p : Addr} {ns : List Int} {m : Int} (h : SqL K H p (ns.map V.int)) (hm : m ∈ ns) (hl : ∀ y ∈ ns, m ≤ y) : RC (rMin K) [.ref p] H (.int m) := fun H1 e Q q =>
  ⟨p, ns, rfl, ex_l e h, List.length_pos_of_mem hm, fun m' h1 h2 => by
    have e3 : m' = m := Int.le_antisymm (h2 m hm) (hl m' h1)
    rw [e3]
    exact q H1 (Ex.refl H1)⟩
theorem rc_max {p : Addr} {ns : List Int} {m : Int} (h : SqL K H p (ns.map V.int)) (hm : m ∈ ns) (hl : ∀ y ∈ ns, y ≤ m) : RC (rMax K) [.ref p] H (.int m) := fun H1 e Q q =>
  ⟨p, ns, rfl, ex_l e h, List.length_pos_of_mem hm, fun m' h1 h2 => by
    have e3 : m' = m := Int.le_antisymm (hl m' h1) (h2 m hm)
    rw [e3]
    exact q H1 (Ex.refl H1)⟩
/-- [x] * n -/
theorem el_rep {x : V} {n : Int} {tb : TE} (h : EvL tl σ H [x]) (hb : Ev tb σ H (.int n)) (h0 : 0 ≤ n ∧ n ≤ 1000000) : EvL (tOp rRep tl tb) σ H (List.replicate n.toNat x) := fun H1 e Q q =>
  h H1 e _ fun p H2 hp e2 h2 => hb H2 (e.trans e2) _ fun H3 e3 => by
    refine ⟨p, n, [x], rfl, rfl, e3 _ _ h2, by omega, by omega, ?_, fun r hr => ?_⟩
    · show 1 * n.toNat ≤ sizeLine
      rw [Nat.one_mul]
      exact sz6 (by omega)
    · have e4 : (List.replicate n.toNat [x]).flatten = List.replicate n.toNat x := by
        induction n.toNat with
        | zero => rfl
        | succ k ih => rw [List.replicate_succ, List.flatten_cons, ih]; rfl
      rw [e4]
      exact q r _ (fresh_back (e2.trans e3) hr) ((e2.trans e3).trans (Ex.new hr)) upd_same
/-- sorted of ints -/
theorem elp_sortI {p : Addr} {ns : List Int} (h : Ev te σ H (.ref p)) (hs : SqL K H p (ns.map V.int)) : EvLP (tCB (rSortedI K) (tCons te tNil)) σ H fun xs => ∃ ns' : List Int, xs = ns'.map V.int ∧ ns'.Perm ns ∧ ns'.Pairwise (· ≤ ·) := fun H1 e Q q =>
  h H1 e _ fun H2 e2 => ⟨p, ns, rfl, ex_l (e.trans e2) hs, fun ns' r h1 h2 hr => q r _ _ ⟨ns', rfl, h1, h2⟩ (fresh_back e2 hr) (e2.trans (Ex.new hr)) upd_same⟩
end
end Mw
/-! own classes: making, methods, attributes; dicts; what a callee may change -/
namespace Mw
open PySem PySem.Spec PyProof.Rows L2 Evl

/-! ### calls of methods, making -/
structure Mcal (P : Program) (w : World) (K : PySem.W.Frag) (mg : Str → Option Value) (base : Heap) (CX : CXT) (k : Nat) (C : Addr) (m : Str) (ps : List Str) (sp : Sp) : Prop where
  ex : ∃ f fd, FnOk P w K mg base CX k f fd ps sp ∧ Meth K C m f ∧ Binds K fd ps []
structure Mkc (P : Program) (w : World) (K : PySem.W.Frag) (mg : Str → Option Value) (base : Heap) (CX : CXT) (k : Nat) (x : Str) (ps : List Str) (C : Addr) (sp : Sp) : Prop where
  ex : ∃ f fd, FnOk P w K mg base CX k f fd ps sp ∧ mg x = some (.ref C) ∧ Mk K C f ∧ Binds K fd ps []
section
variable {X : Cx} {CX : CXT} {k : Nat} {C : Addr} {x m : Str} {ps : List Str} {sp : Sp} {E : XK} {e o : Expr} {es : List Expr} {ta : TE} {t : TA} {p pos apos : Pos}
theorem pe_mcal {pl : Sem Bool} (c : Mcal X.prog X.w X.K X.mg X.base CX k C m ps sp) (cl : Cls X.K C) (hr : Room k X.A) (hx : Passes CX X E) (he : PE X o ta) (ha : PA X (e :: es) t)
    (hst : starEach (e :: es) X.env = (false, eval e X.env) :: starEach es X.env := by rfl) (hpl : (backTo pos (starEach es X.env)).any (·.1) = false := by rfl)
    (ht : eval (.Call (.Attribute o m apos) (e :: es) [] pos) X.env = (do
      let ov ← eval o X.env
      standAt apos.atName
      let (f, first) ← holding [ov] (getMethod ov m pl)
      callWith pos f first (backTo pos (starEach (e :: es) X.env)) (backToKw pos (keywordEach [] X.env))) := by rfl) :
    PE X (.Call (.Attribute o m apos) (e :: es) [] pos) (tMeth C m sp [] E ta t) := by
  obtain ⟨f, fd, F, hm, hb⟩ := c.ex
  exact pe_meth he cl hm F hr hb .nil hx ha hst hpl ht
theorem pe_mcal0 {pl : Sem Bool} (c : Mcal X.prog X.w X.K X.mg X.base CX k C m ps sp) (cl : Cls X.K C) (hr : Room k X.A) (hx : Passes CX X E) (he : PE X o ta)
    (ht : eval (.Call (.Attribute o m apos) [] [] pos) X.env = (do
      let ov ← eval o X.env
      standAt apos.atName
      let (f, first) ← holding [ov] (getMethod ov m pl)
      callWith pos f first (backTo pos (starEach [] X.env)) (backToKw pos (keywordEach [] X.env))) := by rfl) :
    PE X (.Call (.Attribute o m apos) [] [] pos) (tMeth C m sp [] E ta tNil) := by
  obtain ⟨f, fd, F, hm, hb⟩ := c.ex
  exact pe_meth0 he cl hm F hr hb .nil hx ht
theorem pe_mk (c : Mkc X.prog X.w X.K X.mg X.base CX k x ps C sp) (hr : Room (k + 1) X.A) (hg : Gl X x) (hx : Passes CX X E) (ha : PA X (e :: es) t)
    (hdb : (x == ("__debug__" : Str)) = false := by decide) (he : starEach (e :: es) X.env = (false, eval e X.env) :: starEach es X.env := by rfl) (hpl : (backTo pos (starEach es X.env)).any (·.1) = false := by rfl) :
    PE X (.Call (.Name x p) (e :: es) [] pos) (tMake C sp [] E t) := by
  obtain ⟨f, fd, F, hm, M, hb⟩ := c.ex
  exact pe_make M F hr hg hm hb .nil hx ha hdb he hpl
end

/-! ### what a callee may change -/
/-- these objects stand -/
def Has (H : Hp) (L : List (Addr × HO)) : Prop := (∀ p ∈ L, H p.1 = some p.2) ∧ (L.map (·.1)).Nodup
section
variable {K : PySem.W.Frag} {S : List Addr} {H0 H H' : Hp} {L La Lb : List (Addr × HO)} {σ : L2.St} {ta te tv tl : TE} {t : TA} {D : Ends} {tz : TS} {C dx g : Addr} {fs : List (Str × V)} {m f : Str} {sp : Sp} {E : XK} {vs : List V} {v : V} {o : HO} {Q : VK}
theorem Has.ex (h : Has H L) (e : Ex H H') : Has H' L := ⟨fun p hp => e _ _ (h.1 p hp), h.2⟩
theorem Has.at (i : Nat) {p : Addr} (h : Has H L) (hi : L[i]? = some (p, o)) : H p = some o := h.1 _ (List.mem_of_getElem? hi)
theorem Has.am (h : Has H L) : Am (L.map (·.1)) H L H := ⟨fun a o h _ => h, h.1, fun p hp => .inr (List.mem_map.mpr ⟨p, hp, rfl⟩), h.2⟩
theorem Am.has (am : Am S H0 (La ++ L) H) : Has H La := ⟨fun p hp => am.own p (List.mem_append_left _ hp), by
  have z := am.nd
  rw [List.map_append] at z
  exact (List.nodup_append.mp z).1⟩
theorem Am.hasAll (am : Am S H0 L H) : Has H L := ⟨am.own, am.nd⟩
theorem Am.call (am : Am S H0 (La ++ L) H) (am2 : Am (La.map (·.1)) H Lb H') : Am S H0 (Lb ++ L) H' := by
  have nd := am.nd
  rw [List.map_append, List.nodup_append] at nd
  obtain ⟨n1, n2, n3⟩ := nd
  have notin : ∀ q ∈ L, q.1 ∉ La.map (·.1) := fun q hq hm => n3 _ hm _ (List.mem_map.mpr ⟨q, hq, rfl⟩) rfl
  refine ⟨fun a u ha hn => ?_, fun p hp => ?_, fun p hp => ?_, ?_⟩
  · refine am2.old a u (am.old a u ha hn) fun hm => ?_
    obtain ⟨q, hq, e⟩ := List.mem_map.mp hm
    rcases am.new q (List.mem_append_left _ hq) with z | z
    · rw [e, ha] at z; cases z
    · rw [e] at z; exact hn z
  · rcases List.mem_append.mp hp with hp | hp
    · exact am2.own p hp
    · exact am2.old _ _ (am.own p (List.mem_append_right _ hp)) (notin p hp)
  · rcases List.mem_append.mp hp with hp | hp
    · rcases am2.new p hp with z | z
      · by_cases hs : p.1 ∈ S
        · exact .inr hs
        · refine .inl ?_
          cases w : H0 p.1 with
          | none => rfl
          | some u => rw [am.old _ _ w hs] at z; cases z
      · obtain ⟨q, hq, e⟩ := List.mem_map.mp z
        have z2 := am.new q (List.mem_append_left _ hq)
        rw [e] at z2
        exact z2
    · exact am.new p (List.mem_append_right _ hp)
  · rw [List.map_append, List.nodup_append]
    refine ⟨am2.nd, n2, fun x hx y hy e => ?_⟩
    subst e
    obtain ⟨p, hp, e1⟩ := List.mem_map.mp hx
    obtain ⟨q, hq, e2⟩ := List.mem_map.mp hy
    rcases am2.new p hp with z | z
    · have z2 := am.own q (List.mem_append_right _ hq)
      rw [e2, ← e1, z] at z2
      cases z2
    · exact notin q hq (by rw [e2, ← e1]; exact z)
/-- a callee that only looks -/
theorem Am.call0 (am : Am S H0 L H) (am2 : Am [] H Lb H') : Am S H0 (Lb ++ L) H' := Am.call (La := []) am am2

/-! ### attributes, methods -/
theorem e_fld (h : Ev ta σ H (.ref g)) (hg : H g = some (.ins C dx fs)) (c : Cls K C) (n : NoAttr K C f) (hl : fs.lookup f = some v) : Ev (tFld K ta f) σ H v := fun H1 e Q q =>
  h H1 e _ fun H2 e2 => ⟨g, C, dx, fs, v, rfl, (e.trans e2) _ _ hg, c, n, hl, q H2 e2⟩
theorem t_meth (h : Ev ta σ H (.ref g)) (hg : H g = some (.ins C dx fs)) (hl : fs.lookup m = none) (ht : EvA t σ H vs) (k : ∀ H1, Ex H H1 → sp (.ref g :: vs) H1 Q E) : tMeth C m sp [] E ta t σ H Q :=
  h H (Ex.refl H) _ fun H2 e2 => ⟨g, dx, fs, rfl, e2 _ _ hg, hl, ht H2 e2 _ fun H3 e3 => by rw [List.append_nil]; exact k H3 (e2.trans e3)⟩
theorem e_methV {R : List V → Hp → V → Prop} (h : Ev ta σ H (.ref g)) (hg : H g = some (.ins C dx fs)) (hl : fs.lookup m = none) (ht : EvA t σ H vs) (hR : ∀ H1, Ex H H1 → R (.ref g :: vs) H1 v) : Ev (tMeth C m (spV R) [] E ta t) σ H v := fun H1 e Q q =>
  t_meth (h.mono e) (e _ _ hg) hl (ht.mono e) fun H2 e2 => ⟨v, hR H2 (e.trans e2), fun H3 e3 => q H3 (e2.trans e3)⟩
theorem e_methVX {R : List V → Hp → V → Prop} {B : List V → Hp → Addr → Prop} (h : Ev ta σ H (.ref g)) (hg : H g = some (.ins C dx fs)) (hl : fs.lookup m = none) (ht : EvA t σ H vs) (hR : ∀ H1, Ex H H1 → R (.ref g :: vs) H1 v) : Ev (tMeth C m (spVX R B) [] E ta t) σ H v := fun H1 e Q q =>
  t_meth (h.mono e) (e _ _ hg) hl (ht.mono e) fun H2 e2 => .inl ⟨v, hR H2 (e.trans e2), fun H3 e3 => q H3 (e2.trans e3)⟩
theorem e_methL {R : List V → Hp → List V → Prop} {xs : List V} (h : Ev ta σ H (.ref g)) (hg : H g = some (.ins C dx fs)) (hl : fs.lookup m = none) (ht : EvA t σ H vs) (hR : ∀ H1, Ex H H1 → R (.ref g :: vs) H1 xs) : EvL (tMeth C m (spL R) [] E ta t) σ H xs := fun H1 e Q q =>
  t_meth (h.mono e) (e _ _ hg) hl (ht.mono e) fun H2 e2 => ⟨xs, hR H2 (e.trans e2), fun p H3 a b c => q p H3 (fresh_back e2 a) (e2.trans b) c⟩
theorem aq_methD (am : Am S H0 L H) (h : Ev ta σ H (.ref g)) (hg : H g = some (.ins C dx fs)) (hl : fs.lookup m = none) (ht : EvA t σ H vs) (k : ∀ H1, Am S H0 L H1 → sp (.ref g :: vs) H1 (fun _ H2 => tz D σ H2) E) :
    tSeq (tDrop (tMeth C m sp [] E ta t)) tz D σ H := t_meth (Q := fun _ H2 => tz D σ H2) h hg hl ht fun H1 e => k H1 (am.ex e)
theorem a_methD (am : Am S H0 L H) (h : Ev ta σ H (.ref g)) (hg : H g = some (.ins C dx fs)) (hl : fs.lookup m = none) (ht : EvA t σ H vs) (k : ∀ H1, Am S H0 L H1 → sp (.ref g :: vs) H1 (fun _ H2 => D.nx σ H2) E) :
    tDrop (tMeth C m sp [] E ta t) D σ H := t_meth (Q := fun _ H2 => D.nx σ H2) h hg hl ht fun H1 e => k H1 (am.ex e)
theorem aq_methA {i : Nat} (am : Am S H0 L H) (h : Ev ta σ H (.ref g)) (hg : H g = some (.ins C dx fs)) (hl : fs.lookup m = none) (ht : EvA t σ H vs) (k : ∀ H1, Am S H0 L H1 → sp (.ref g :: vs) H1 (fun v H2 => tz D (σ.set i (some v)) H2) E) :
    tSeq (tAsg (tMeth C m sp [] E ta t) (gName i)) tz D σ H := t_meth (Q := fun v H2 => tz D (σ.set i (some v)) H2) h hg hl ht fun H1 e => k H1 (am.ex e)
theorem aq_make {i : Nat} (am : Am S H0 L H) (ht : EvA t σ H vs) (k : ∀ g dx H1, Am S H0 ((g, .ins C dx []) :: (dx, .own g) :: L) H1 → sp (.ref g :: vs) H1 (fun v H2 => v = .non ∧ tz D (σ.set i (some (.ref g))) H2) E) :
    tSeq (tAsg (tMake C sp [] E t) (gName i)) tz D σ H := ht H (Ex.refl H) _ fun H1 e => fun x dx hx hdx ne => by
  rw [List.append_nil]
  refine k x dx _ (((am.ex e).new1 hdx).new1 ?_)
  rw [upd_ne (Ne.symm ne)]
  exact hx
theorem aq_callA {i : Nat} (am : Am S H0 L H) (ht : EvA t σ H vs) (k : ∀ H1, Am S H0 L H1 → sp vs H1 (fun v H2 => tz D (σ.set i (some v)) H2) E) : tSeq (tAsg (tCall sp [] E t) (gName i)) tz D σ H :=
  ht H (Ex.refl H) _ fun H1 e => by rw [List.append_nil]; exact k H1 (am.ex e)
theorem aq_callD (am : Am S H0 L H) (ht : EvA t σ H vs) (k : ∀ H1, Am S H0 L H1 → sp vs H1 (fun _ H2 => tz D σ H2) E) : tSeq (tDrop (tCall sp [] E t)) tz D σ H :=
  ht H (Ex.refl H) _ fun H1 e => by rw [List.append_nil]; exact k H1 (am.ex e)
/-- a comprehension over enumerate -/
theorem el_lcE {α : Type} {f : α → V} {ns : List α} {i j : Nat} {wl : List Nat} {a : Addr} (w : Nat → V) (h : EvA t σ H [.ref a]) (hq : SqL K H a (ns.map f)) (hz : ns.length ≤ 100000)
    (hv : ∀ x y, wipe (((wipe σ wl).set i (some x)).set j (some y)) wl = wipe σ wl)
    (he : ∀ (k : Nat) (n : α), ns[k]? = some n → Ev te (((wipe σ wl).set i (some (.int k))).set j (some (f n))) H (w k)) :
    EvL (tLc (iEnum K t) (gTup K 2 (gCons (gName i) (gCons (gName j) gNil))) tYes te wl) σ H ((List.range ns.length).map w) := fun H1 e Q q => by
  refine h H1 e _ fun H2 e2 => ⟨a, _, rfl, ex_l (e.trans e2) hq, fun Dl hD => ?_⟩
  refine ⟨fun i' m H' => i' + m = ns.length ∧ Ex H2 H' ∧ H' Dl = some (.lst ((List.range i').map w)), ⟨ns.length, by omega, Ex.new hD, upd_same⟩, ?_⟩
  rintro i' m H' ⟨im, e3, hl⟩
  have hq' : SqL K H' a (ns.map f) := ex_l ((e.trans e2).trans e3) hq
  by_cases hi : i' < ns.length
  · have g0 : ns[i']? = some ns[i'] := List.getElem?_eq_getElem hi
    have g : (ns.map f)[i']? = some (f ns[i']) := by rw [List.getElem?_map, g0]; rfl
    refine .inr ⟨⟨_, _, hq', g⟩, fun H'' => Ex H2 H'' ∧ H'' Dl = some (.lst ((List.range (i' + 1)).map w)), fun H'' hN => ⟨m - 1, by omega, by omega, hN.1, hN.2⟩, fun y H'' hy => ?_⟩
    obtain ⟨T, x, rfl, hT, rfl, hx⟩ := hy
    have e1 : f ns[i'] = x := Option.some.inj (g.symm.trans (hx _ hq'))
    subst e1
    have e4 : Ex H' (upd H' T (.tup [.int (i' : Nat), f ns[i']])) := Ex.new hT
    refine ⟨T, [.int (i' : Nat), f ns[i']], rfl, st_of upd_same, rfl, _, _, rfl, _, _, rfl, rfl, hv _ _, ?_⟩
    show te _ _ _
    refine he i' _ g0 _ (((e.trans e2).trans e3).trans e4) _ fun H6 e7 => ?_
    refine ⟨_, e7 _ _ (e4 _ _ hl), ?_, Ex.mut ((e3.trans e4).trans e7) hD, ?_⟩
    · rw [List.length_map, List.length_range]
      exact szL6 (by omega)
    · rw [upd_same, List.range_succ, List.map_append]; rfl
  · have ei : i' = ns.length := by omega
    subst ei
    exact .inl ⟨⟨_, hq', by rw [List.length_map]; exact Nat.le_refl _⟩, q Dl H' (fresh_back e2 hD) (e2.trans e3) hl⟩
/-- a < b < c and the like -/
theorem e_chain {r r' : R2} {tb tc : TE} {x y z : V} {b c : Bool} (h1 : Ev ta σ H x) (h2 : Ev tb σ H y) (hr : RV r x y H (.bl b)) (h3 : b = true → Ev tc σ H z) (hr2 : b = true → RV r' y z H (.bl c)) : Ev (tChain r r' ta tb tc) σ H (.bl (b && c)) := fun H1 e Q q =>
  h1 H1 e _ fun H2 e2 => h2 H2 (e.trans e2) _ fun H3 e3 => hr H3 ((e.trans e2).trans e3) _ fun H4 e4 => ⟨b, rfl, by
    have e14 := ((e.trans e2).trans e3).trans e4
    cases b with
    | false => exact q H4 ((e2.trans e3).trans e4)
    | true =>
      rw [if_pos rfl]
      exact h3 rfl H4 e14 _ fun H5 e5 => hr2 rfl H5 (e14.trans e5) _ fun H6 e6 => q H6 ((((e2.trans e3).trans e4).trans e5).trans e6)⟩
/-- a new object -/
def EvN (te : TE) (σ : L2.St) (H : Hp) (o : HO) : Prop := ∀ H1, Ex H H1 → ∀ Q : VK, (∀ p H2, H1 p = none → Ex H1 H2 → H2 p = some o → Q (.ref p) H2) → te σ H1 Q
theorem en_dnew : EvN tDNewK σ H (.dK []) := fun H1 e Q q p hp => q p _ hp (Ex.new hp) upd_same
theorem aq_asgN {i : Nat} (am : Am S H0 L H) (h : EvN te σ H o) (k : ∀ p H, Am S H0 ((p, o) :: L) H → tz D (σ.set i (some (.ref p))) H) : tSeq (tAsg te (gName i)) tz D σ H :=
  h H (Ex.refl H) _ fun p H1 hp e h1 => k p H1 (am.add hp e h1)
theorem a_fldN (i : Nat) (am : Am S H0 L H) (hi : L[i]? = some (g, .ins C dx fs)) (hv : EvN tv σ H o) (ho : ∀ H1, Ex H H1 → Ev ta σ H1 (.ref g)) (c : Cls K C) (n : NoAttr K C f) (hz : fs.length < 1000)
    (k : ∀ p H, Am S H0 ((p, o) :: L.set i (g, .ins C dx (putF f (.ref p) fs))) H → D.nx σ H) : sFld K ta tv f D σ H :=
  hv H (Ex.refl H) _ fun p H1 hp e h1 => ho H1 e H1 (Ex.refl H1) _ fun H2 e2 => by
    have am2 := (am.add hp e h1).ex e2
    exact ⟨g, C, dx, fs, rfl, am2.at (i + 1) hi, c, n, hz, k p _ (am2.set (i + 1) hi)⟩
theorem aq_fldN (i : Nat) (am : Am S H0 L H) (hi : L[i]? = some (g, .ins C dx fs)) (hv : EvN tv σ H o) (ho : ∀ H1, Ex H H1 → Ev ta σ H1 (.ref g)) (c : Cls K C) (n : NoAttr K C f) (hz : fs.length < 1000)
    (k : ∀ p H, Am S H0 ((p, o) :: L.set i (g, .ins C dx (putF f (.ref p) fs))) H → tz D σ H) : tSeq (sFld K ta tv f) tz D σ H := a_fldN (D := { D with nx := tz D }) i am hi hv ho c n hz k
theorem aq_par {i j : Nat} {x y : V} (am : Am S H0 L H) (h : EvA t σ H [x, y]) (k : ∀ H, Am S H0 L H → tz D ((σ.set i (some x)).set j (some y)) H) : tSeq (tPar i j t) tz D σ H :=
  h H (Ex.refl H) _ fun H1 e => ⟨x, y, rfl, k H1 (am.ex e)⟩
/-- list(range(n)) -/
theorem el_lrg {n : Nat} (h : Ev te σ H (.int n)) (hn : n ≤ 1000000) : EvL (tLstRg (tRg1 te)) σ H ((List.range n).map fun i => .int (i : Nat)) := fun H1 e Q q =>
  h H1 e _ fun H2 e2 => ⟨n, rfl, RgOk.of_le (by omega) (by omega) (by omega) (by omega), fun r hr => by
    have e3 : rgV 0 (n : Int) = (List.range n).map fun i => V.int (i : Nat) := by
      unfold rgV
      rw [Int.sub_zero, Int.toNat_natCast]
      refine List.map_congr_left fun i _ => ?_
      rw [Int.zero_add]
    rw [e3]
    exact q r _ (fresh_back e2 hr) (e2.trans (Ex.new hr)) upd_same⟩

/-! ### dicts -/
theorem e_dget {a : Addr} {kvs : List (Key × V)} {k : Key} (hd : Ev ta σ H (.ref a)) (hk : Ev te σ H (kV k)) (h : H a = some (.dK kvs)) (hv : valV kvs k = some v) : Ev (tDGet ta te) σ H v := fun H1 e Q q =>
  hd H1 e _ fun H2 e2 => hk H2 (e.trans e2) _ fun H3 e3 => ⟨a, v, rfl, by rw [← hv]; exact DGet.k (((e.trans e2).trans e3) _ _ h), q H3 (e2.trans e3)⟩
theorem e_din {a : Addr} {kvs : List (Key × V)} {k : Key} (hk : Ev te σ H (kV k)) (hd : Ev ta σ H (.ref a)) (h : H a = some (.dK kvs)) : Ev (tDIn te ta) σ H (.bl (valV kvs k).isSome) := fun H1 e Q q =>
  hk H1 e _ fun H2 e2 => hd H2 (e.trans e2) _ fun H3 e3 => ⟨a, _, rfl, DGet.k (((e.trans e2).trans e3) _ _ h), q H3 (e2.trans e3)⟩
theorem e_dnin {a : Addr} {kvs : List (Key × V)} {k : Key} (hk : Ev te σ H (kV k)) (hd : Ev ta σ H (.ref a)) (h : H a = some (.dK kvs)) : Ev (tDNotIn te ta) σ H (.bl (!(valV kvs k).isSome)) := fun H1 e Q q =>
  hk H1 e _ fun H2 e2 => hd H2 (e.trans e2) _ fun H3 e3 => ⟨a, _, rfl, DGet.k (((e.trans e2).trans e3) _ _ h), q H3 (e2.trans e3)⟩
theorem e_dget2 {tx : TE} {a : Addr} {kvs : List (Key × V)} {k : Key} {z : V} (hd : Ev ta σ H (.ref a)) (hk : Ev te σ H (kV k)) (hz : Ev tx σ H z) (h : H a = some (.dK kvs)) : Ev (tDGet2 ta te tx) σ H ((valV kvs k).getD z) := fun H1 e Q q =>
  hd H1 e _ fun H2 e2 => ⟨a, rfl, .inl ⟨kvs, .inl ((e.trans e2) _ _ h)⟩, hk H2 (e.trans e2) _ fun H3 e3 => hz H3 ((e.trans e2).trans e3) _ fun H4 e4 => ⟨_, DGet.k ((((e.trans e2).trans e3).trans e4) _ _ h), q H4 ((e2.trans e3).trans e4)⟩⟩
theorem a_dput (i : Nat) {a : Addr} {kvs : List (Key × V)} {k : Key} (am : Am S H0 L H) (hi : L[i]? = some (a, .dK kvs)) (hd : Ev ta σ H (.ref a)) (hk : Ev te σ H (kV k)) (hv : Ev tv σ H v) (hz : kvs.length < 100000)
    (kk : ∀ H, Am S H0 (L.set i (a, .dK (putK kvs k v))) H → D.nx σ H) : sDPut ta te tv D σ H :=
  hv H (Ex.refl H) _ fun H1 e1 => hd H1 e1 _ fun H2 e2 => hk H2 (e1.trans e2) _ fun H3 e3 => by
    have am3 := am.ex ((e1.trans e2).trans e3)
    exact ⟨a, _, rfl, DPut.k (am3.at i hi) (szL6 (by omega)), kk _ (am3.set i hi)⟩
theorem aq_dput (i : Nat) {a : Addr} {kvs : List (Key × V)} {k : Key} (am : Am S H0 L H) (hi : L[i]? = some (a, .dK kvs)) (hd : Ev ta σ H (.ref a)) (hk : Ev te σ H (kV k)) (hv : Ev tv σ H v) (hz : kvs.length < 100000)
    (kk : ∀ H, Am S H0 (L.set i (a, .dK (putK kvs k v))) H → tz D σ H) : tSeq (sDPut ta te tv) tz D σ H := a_dput (D := { D with nx := tz D }) i am hi hd hk hv hz kk
theorem aq_dpop (i : Nat) {a : Addr} {kvs : List (Key × V)} {k : Key} (am : Am S H0 L H) (hi : L[i]? = some (a, .dK kvs)) (hd : Ev ta σ H (.ref a)) (hk : Ev te σ H (kV k)) (hv : valV kvs k = some v)
    (kk : ∀ H, Am S H0 (L.set i (a, .dK (dropK kvs k))) H → tz D σ H) : tSeq (tDrop (tDPop1 ta te)) tz D σ H :=
  hd H (Ex.refl H) _ fun H1 e1 => by
    have am1 := am.ex e1
    exact ⟨a, rfl, .inl ⟨kvs, .inl (am1.at i hi)⟩, hk H1 e1 _ fun H2 e2 => by
      have am2 := am1.ex e2
      exact ⟨kvs, k, v, am2.at i hi, rfl, hv, kk _ (am2.set i hi)⟩⟩
end
end Mw
/-! values that are told by what they meet (EvQ), tuples, != of many kinds -/
namespace Mw
open PySem PySem.Spec PyProof.Rows L2 Evl
abbrev rTupS (K : PySem.W.Frag) : List V → Hp → VK → Prop := fun xs H Q => ∃ p ys, xs = [.ref p] ∧ ((SqL K H p ys ∧ ∀ l, H l = none → Q (.ref l) (upd H l (.tup ys))) ∨ (SqT K H p ys ∧ Q (.ref p) H))
/-- != of data, or of two dicts that are equal -/
def rNeX (K : PySem.W.Frag) : R2 := fun x y H Q => rNeD K x y H Q ∨ rNeDA x y H Q
theorem op_neX {X : Cx} (hu : X.A.units + 64 < cLine) : OpR X (compareOp .NotEq) (rNeX X.K) := by
  intro pins s σ H x y v u Q I rx ry h
  rcases h with h | h
  · exact op_neD hu pins s σ H x y v u Q I rx ry h
  · exact op_ne_dictA (by omega) pins s σ H x y v u Q I rx ry h
section
variable {K : PySem.W.Frag} {S : List Addr} {H0 H H1 : Hp} {L : List (Addr × HO)} {σ : L2.St} {ta : TA} {te tl ti tb : TE} {t : TT} {D : Ends} {tz : TS} {P : V → Hp → Prop}
theorem aq_asgE {i : Nat} (am : Am S H0 L H) (h : EvQ te σ H P) (k : ∀ v H, P v H → Am S H0 L H → tz D (σ.set i (some v)) H) : tSeq (tAsg te (gName i)) tz D σ H := h H (Ex.refl H) _ fun v H1 e p => k v H1 p (am.ex e)
theorem a_retE (am : Am S H0 L H) (h : EvQ te σ H P) (k : ∀ v H, P v H → Am S H0 L H → D.rt v H) : tRet te D σ H := h H (Ex.refl H) _ fun v H1 e p => k v H1 p (am.ex e)
theorem eq_if {b : Bool} (h : EvT t σ H b) (h1 : b = true → EvQ te σ H P) (h2 : b = false → EvQ tl σ H P) : EvQ (tIf t te tl) σ H P := fun H1 e Q q => h H1 e _ fun H2 e2 => by
  cases b with
  | true =>
    rw [if_pos rfl]
    exact h1 rfl H2 (e.trans e2) Q fun v H3 e3 => q v H3 (e2.trans e3)
  | false =>
    rw [if_neg Bool.false_ne_true]
    exact h2 rfl H2 (e.trans e2) Q fun v H3 e3 => q v H3 (e2.trans e3)
/-- an item of a display of many kinds -/
theorem eq_ixL {n j : Nat} (hm : ∀ v H H', Ex H H' → P v H → P v H') (h : EvQA ta σ H n P) (hi : Ev ti σ H (.int (j : Nat))) (hj : j < n) (hn : n ≤ 1000) : EvQ (tOp (rIxL K) (tLst ta) ti) σ H P := fun H1 e Q q =>
  h H1 e _ fun vs H2 e2 hl hv => ⟨sz6 (by omega), fun p hp => hi _ ((e.trans e2).trans (Ex.new hp)) _ fun H3 e3 => by
    have hh : H3 p = some (.lst vs) := e3 _ _ upd_same
    have hjl : j < vs.length := by omega
    exact ⟨p, vs, j, _, rfl, rfl, sq_of hh, atI_nat (List.getElem?_eq_getElem hjl), q _ H3 ((e2.trans (Ex.new hp)).trans e3) (hm _ _ _ ((Ex.new hp).trans e3) (hv _ (List.getElem_mem hjl)))⟩⟩
/-- [xs], xs new -/
theorem eq_nest {xs : List V} (h : EvL te σ H xs) (hp : ∀ p q H1, Ex H H1 → H1 p = some (.lst [.ref q]) → H1 q = some (.lst xs) → P (.ref p) H1) : EvQ (tLst (tCons te tNil)) σ H P := fun H1 e Q q =>
  h H1 e _ fun r H2 hr e2 h2 => ⟨sz6 (by show 1 ≤ _; decide), fun p hpn => q _ _ (e2.trans (Ex.new hpn)) (hp p r _ ((e.trans e2).trans (Ex.new hpn)) upd_same (Ex.new hpn _ _ h2))⟩
theorem eq_N {o : HO} (h : EvN te σ H o) (hp : ∀ p H1, Ex H H1 → H1 p = some o → P (.ref p) H1) : EvQ te σ H P := fun H1 e Q q => h H1 e Q fun p H2 _ e2 h2 => q _ H2 e2 (hp p H2 (e.trans e2) h2)
theorem en_disp1 {k : Int} {v : V} : EvN (tDisp [((tC (.int k)), (tC v))]) σ H (.dK [(.inl k, v)]) := fun H1 e Q q => fun p hp => ⟨upd_same, [(.inl k, v)], rfl, (by show 1 ≤ 15; decide), q p _ hp (Ex.mut (Ex.new hp) hp) upd_same⟩
theorem en_tup {p : Addr} {xs : List V} (h : Ev te σ H (.ref p)) (hs : SqL K H p xs) : EvN (tCB (rTupS K) (tCons te tNil)) σ H (.tup xs) := fun H1 e Q q =>
  h H1 e _ fun H2 e2 => ⟨p, xs, rfl, .inl ⟨ex_l (e.trans e2) hs, fun l hl => q l _ (fresh_back e2 hl) (e2.trans (Ex.new hl)) upd_same⟩⟩
theorem r_notB {a b : Bool} : RV rNotB (.bl a) (.bl b) H (.bl (!decide (a = b))) := fun H1 _ _ q => ⟨a, b, rfl, rfl, q H1 (Ex.refl H1)⟩
theorem r_isB {a b : Bool} : RV rIsB (.bl a) (.bl b) H (.bl (decide (a = b))) := fun H1 _ _ q => ⟨a, b, rfl, rfl, q H1 (Ex.refl H1)⟩
/-- xs + ys, the second one there -/
theorem el_catW {xs ys : List V} {p : Addr} (ha : EvL te σ H xs) (hb : Ev tb σ H (.ref p)) (h : H p = some (.lst ys)) (hz : xs.length + ys.length ≤ 1000000) : EvL (tOp rCat te tb) σ H (xs ++ ys) := fun H1 e Q q =>
  ha H1 e _ fun r H2 hr e2 h2 => hb H2 (e.trans e2) _ fun H3 e3 => ⟨r, p, xs, ys, rfl, rfl, e3 r _ h2, ((e.trans e2).trans e3) p _ h, sz6 hz, fun l hl => q l _ (fresh_back (e2.trans e3) hl) ((e2.trans e3).trans (Ex.new hl)) upd_same⟩
end
end Mw
/-! max and min with default= -/
namespace Mw
open PySem PySem.Spec PyProof.Rows L2 Evl
theorem foldl_min_spec : ∀ (ns : List Int) (n : Int), ns.foldl min n ∈ n :: ns ∧ ∀ y ∈ n :: ns, ns.foldl min n ≤ y
  | [], n => ⟨List.mem_cons_self .., fun y hy => by rw [List.mem_singleton.mp hy]; exact Int.le_refl _⟩
  | k :: r, n => by
    obtain ⟨h1, h2⟩ := foldl_min_spec r (min n k)
    rw [List.foldl_cons]
    refine ⟨?_, fun y hy => ?_⟩
    · rcases List.mem_cons.mp h1 with h | h
      · rw [h]
        rcases Int.le_total n k with c | c
        · rw [Int.min_eq_left c]; exact List.mem_cons_self ..
        · rw [Int.min_eq_right c]; exact List.mem_cons_of_mem _ (List.mem_cons_self ..)
      · exact List.mem_cons_of_mem _ (List.mem_cons_of_mem _ h)
    · have h0 := h2 _ (List.mem_cons_self ..)
      rcases List.mem_cons.mp hy with rfl | hy
      · omega
      · rcases List.mem_cons.mp hy with rfl | hy
        · omega
        · exact h2 y (List.mem_cons_of_mem _ hy)
theorem foldl_max_spec : ∀ (ns : List Int) (n : Int), ns.foldl max n ∈ n :: ns ∧ ∀ y ∈ n :: ns, y ≤ ns.foldl max n
  | [], n => ⟨List.mem_cons_self .., fun y hy => by rw [List.mem_singleton.mp hy]; exact Int.le_refl _⟩
  | k :: r, n => by
    obtain ⟨h1, h2⟩ := foldl_max_spec r (max n k)
    rw [List.foldl_cons]
    refine ⟨?_, fun y hy => ?_⟩
    · rcases List.mem_cons.mp h1 with h | h
      · rw [h]
        rcases Int.le_total n k with c | c
        · rw [Int.max_eq_right c]; exact List.mem_cons_of_mem _ (List.mem_cons_self ..)
        · rw [Int.max_eq_left c]; exact List.mem_cons_self ..
      · exact List.mem_cons_of_mem _ (List.mem_cons_of_mem _ h)
    · have h0 := h2 _ (List.mem_cons_self ..)
      rcases List.mem_cons.mp hy with rfl | hy
      · omega
      · rcases List.mem_cons.mp hy with rfl | hy
        · omega
        · exact h2 y (List.mem_cons_of_mem _ hy)
/-- max(xs, default=z), min(xs, default=z) of ints -/
def rMaxDI (K : PySem.W.Frag) : List V → List V → Hp → VK → Prop := fun xs zs H Q => ∃ (p : Addr) (ns : List Int) (z : V), xs = [.ref p] ∧ zs = [z] ∧ SqL K H p (ns.map V.int) ∧ (ns = [] → Q z H) ∧ ∀ m, m ∈ ns → (∀ y ∈ ns, y ≤ m) → Q (.int m) H
def rMinDI (K : PySem.W.Frag) : List V → List V → Hp → VK → Prop := fun xs zs H Q => ∃ (p : Addr) (ns : List Int) (z : V), xs = [.ref p] ∧ zs = [z] ∧ SqL K H p (ns.map V.int) ∧ (ns = [] → Q z H) ∧ ∀ m, m ∈ ns → (∀ y ∈ ns, m ≤ y) → Q (.int m) H
theorem alike_ints (ns : List Int) : PySem.W.AlikeAll (ns.map PyData.int) := ⟨fun x hx y hy => by
  obtain ⟨a, _, rfl⟩ := List.mem_map.mp hx
  obtain ⟨b, _, rfl⟩ := List.mem_map.mp hy
  rfl, fun x hx => by
  obtain ⟨a, _, rfl⟩ := List.mem_map.mp hx
  exact fun z => by cases z⟩
theorem cr_maxDI {X : Cx} (hc : X.calm = true) (hu : X.A.units + 64 < cLine) : CallRK X (.builtin "max") [Str.ofString "default"] (rMaxDI X.K) := by
  intro pins s σ H xs zs us ws Q I rx rz h
  obtain ⟨p, ns, z, rfl, rfl, hs, h0, h1⟩ := h
  obtain ⟨u, rfl, ru⟩ := vals1 rz
  obtain ⟨its, rv, hl, _⟩ := I.list hs
  rw [Vals.ref1 rx]
  obtain ⟨as, hr⟩ := Dp.readsAll I _ _ _ (dpAll_ints ns) rv
  refine PySem.W.max_list_default (I.ok.hd hc) hl.isList (by simpa using hr) (alike_ints ns) (by rw [depth_ints]; omega) (fun hn h' tk hk => ?_) fun y ys i v h' tk bs hxs hv hrd hk => ?_
  · exact ⟨z, H, I.kept hk, ru, h0 (List.map_eq_nil_iff.mp hn)⟩
  · cases ns with
    | nil => cases hxs
    | cons n r =>
      rw [List.map_cons] at hxs
      obtain ⟨rfl, rfl⟩ := List.cons.inj hxs
      rw [PySem.W.maxD_ints] at hrd
      cases hrd with
      | int j t =>
        obtain ⟨m1, m2⟩ := foldl_max_spec r n
        exact ⟨.int _, H, I.kept hk, ⟨t, rfl⟩, h1 _ m1 m2⟩
theorem cr_minDI {X : Cx} (hc : X.calm = true) (hu : X.A.units + 64 < cLine) : CallRK X (.builtin "min") [Str.ofString "default"] (rMinDI X.K) := by
  intro pins s σ H xs zs us ws Q I rx rz h
  obtain ⟨p, ns, z, rfl, rfl, hs, h0, h1⟩ := h
  obtain ⟨u, rfl, ru⟩ := vals1 rz
  obtain ⟨its, rv, hl, _⟩ := I.list hs
  rw [Vals.ref1 rx]
  obtain ⟨as, hr⟩ := Dp.readsAll I _ _ _ (dpAll_ints ns) rv
  refine PySem.W.min_list_default (I.ok.hd hc) hl.isList (by simpa using hr) (alike_ints ns) (by rw [depth_ints]; omega) (fun hn h' tk hk => ?_) fun y ys i v h' tk bs hxs hv hrd hk => ?_
  · exact ⟨z, H, I.kept hk, ru, h0 (List.map_eq_nil_iff.mp hn)⟩
  · cases ns with
    | nil => cases hxs
    | cons n r =>
      rw [List.map_cons] at hxs
      obtain ⟨rfl, rfl⟩ := List.cons.inj hxs
      rw [PySem.W.minD_ints] at hrd
      cases hrd with
      | int j t =>
        obtain ⟨m1, m2⟩ := foldl_min_spec r n
        exact ⟨.int _, H, I.kept hk, ⟨t, rfl⟩, h1 _ m1 m2⟩
/-- min(xs, default=z) of texts -/
def rMinDS (K : PySem.W.Frag) : List V → List V → Hp → VK → Prop := fun xs zs H Q => ∃ (p : Addr) (ls : List Tx) (z : V), xs = [.ref p] ∧ zs = [z] ∧ SqL K H p (ls.map tS) ∧ (ls = [] → Q z H) ∧ ∀ w, w ∈ ls → (∀ y ∈ ls, ¬ y < w) → Q (tS w) H
theorem alike_texts (ls : List Tx) : PySem.W.AlikeAll (ls.map fun l => PyData.str (T l)) := ⟨fun x hx y hy => by
  obtain ⟨a, _, rfl⟩ := List.mem_map.mp hx
  obtain ⟨b, _, rfl⟩ := List.mem_map.mp hy
  rfl, fun x hx => by
  obtain ⟨a, _, rfl⟩ := List.mem_map.mp hx
  exact fun z => by cases z⟩
theorem minD_texts : ∀ (ls : List Tx) (l : Tx), ∃ w, PySem.W.minD (.str (T l)) (ls.map fun l => PyData.str (T l)) = .str (T w) ∧ w ∈ l :: ls ∧ ∀ y ∈ l :: ls, ¬ y < w
  | [], l => ⟨l, rfl, List.mem_cons_self .., fun y hy => by rw [List.mem_singleton.mp hy]; exact List.lt_irrefl _⟩
  | k :: r, l => by
    by_cases c : k < l
    · obtain ⟨w, h1, h2, h3⟩ := minD_texts r k
      refine ⟨w, ?_, List.mem_cons_of_mem _ h2, fun y hy => ?_⟩
      · rw [← h1]
        unfold PySem.W.minD
        rw [List.map_cons, List.foldl_cons]
        rw [show PySem.W.dataLt (.str (T k)) (.str (T l)) = true by rw [PySem.W.dataLt_str, T_cps, T_cps]; exact decide_eq_true c, if_pos rfl]
      · rcases List.mem_cons.mp hy with rfl | hy
        · exact fun z => h3 k (List.mem_cons_self ..) (List.lt_trans c z)
        · exact h3 y hy
    · obtain ⟨w, h1, h2, h3⟩ := minD_texts r l
      refine ⟨w, ?_, ?_, fun y hy => ?_⟩
      · rw [← h1]
        unfold PySem.W.minD
        rw [List.map_cons, List.foldl_cons]
        rw [show PySem.W.dataLt (.str (T k)) (.str (T l)) = false by rw [PySem.W.dataLt_str, T_cps, T_cps]; exact decide_eq_false c, if_neg Bool.false_ne_true]
      · rcases List.mem_cons.mp h2 with h | h
        · rw [h]; exact List.mem_cons_self ..
        · exact List.mem_cons_of_mem _ (List.mem_cons_of_mem _ h)
      · rcases List.mem_cons.mp hy with rfl | hy
        · exact h3 y (List.mem_cons_self ..)
        · rcases List.mem_cons.mp hy with rfl | hy
          · have hw := h3 l (List.mem_cons_self ..)
            intro z
            have c' := List.not_lt.mp c
            have hw' := List.not_lt.mp hw
            exact absurd z (List.not_lt.mpr (List.le_trans hw' c'))
          · exact h3 y (List.mem_cons_of_mem _ hy)
theorem cr_minDS {X : Cx} (hc : X.calm = true) (hu : X.A.units + 64 < cLine) : CallRK X (.builtin "min") [Str.ofString "default"] (rMinDS X.K) := by
  intro pins s σ H xs zs us ws Q I rx rz h
  obtain ⟨p, ls, z, rfl, rfl, hs, h0, h1⟩ := h
  obtain ⟨u, rfl, ru⟩ := vals1 rz
  obtain ⟨its, rv, hl, _⟩ := I.list hs
  rw [Vals.ref1 rx]
  obtain ⟨as, hr⟩ := Dp.readsAll I _ _ _ (dpAll_texts ls) rv
  refine PySem.W.min_list_default (I.ok.hd hc) hl.isList (by simpa using hr) (alike_texts ls) (by rw [depth_texts]; omega) (fun hn h' tk hk => ?_) fun y ys i v h' tk bs hxs hv hrd hk => ?_
  · exact ⟨z, H, I.kept hk, ru, h0 (List.map_eq_nil_iff.mp hn)⟩
  · cases ls with
    | nil => cases hxs
    | cons l r =>
      rw [List.map_cons] at hxs
      obtain ⟨rfl, rfl⟩ := List.cons.inj hxs
      obtain ⟨w, e, m1, m2⟩ := minD_texts r l
      rw [e] at hrd
      cases hrd with
      | str j t => exact ⟨tS w, H, I.kept hk, ⟨t, rfl⟩, h1 _ m1 m2⟩
section
variable {K : PySem.W.Frag} {σ : L2.St} {H : Hp} {te tz : TE} {z : V}
theorem e_maxDI {p : Addr} {ns : List Int} {v : V} (h : Ev te σ H (.ref p)) (hs : SqL K H p (ns.map V.int)) (hz : Ev tz σ H z) (h0 : ns = [] → z = v) (h1 : ∀ m, m ∈ ns → (∀ y ∈ ns, y ≤ m) → V.int m = v) : Ev (tCKw (rMaxDI K) (tCons te tNil) (tCons tz tNil)) σ H v := fun H1 e Q q =>
  h H1 e _ fun H2 e2 => hz H2 (e.trans e2) _ fun H3 e3 => ⟨p, ns, z, rfl, rfl, ex_l ((e.trans e2).trans e3) hs, fun c => by rw [h0 c]; exact q H3 (e2.trans e3), fun m m1 m2 => by rw [h1 m m1 m2]; exact q H3 (e2.trans e3)⟩
theorem e_minDIN {ns : List Int} {v : V} (h : EvL te σ H (ns.map V.int)) (hz : Ev tz σ H z) (h0 : ns = [] → z = v) (h1 : ∀ m, m ∈ ns → (∀ y ∈ ns, m ≤ y) → V.int m = v) : Ev (tCKw (rMinDI K) (tCons te tNil) (tCons tz tNil)) σ H v := fun H1 e Q q =>
  h H1 e _ fun p H2 _ e2 h2 => hz H2 (e.trans e2) _ fun H3 e3 => ⟨p, ns, z, rfl, rfl, sq_of (e3 _ _ h2), fun c => by rw [h0 c]; exact q H3 (e2.trans e3), fun m m1 m2 => by rw [h1 m m1 m2]; exact q H3 (e2.trans e3)⟩
theorem e_minDS {p : Addr} {ls : List Tx} {v : V} (h : Ev te σ H (.ref p)) (hs : SqL K H p (ls.map tS)) (hz : Ev tz σ H z) (h0 : ls = [] → z = v) (h1 : ∀ w, w ∈ ls → (∀ y ∈ ls, ¬ y < w) → tS w = v) : Ev (tCKw (rMinDS K) (tCons te tNil) (tCons tz tNil)) σ H v := fun H1 e Q q =>
  h H1 e _ fun H2 e2 => hz H2 (e.trans e2) _ fun H3 e3 => ⟨p, ls, z, rfl, rfl, ex_l ((e.trans e2).trans e3) hs, fun c => by rw [h0 c]; exact q H3 (e2.trans e3), fun m m1 m2 => by rw [h1 m m1 m2]; exact q H3 (e2.trans e3)⟩
end
end Mw
/-! loops over new lists, calls within a try, keys of dicts, sorted pairs, lists that shrink -/
namespace Mw
open PySem PySem.Spec PyProof.Rows L2 Evl

section
variable {K : PySem.W.Frag} {S : List Addr} {H0 H H1 : Hp} {L : List (Addr × HO)} {σ : L2.St} {ta : TA} {te tl tb to ti tx : TE} {t : TT} {D : Ends} {tu tz : TS} {v x y z : V} {vs : List V}
/-- over a new list, which stays at the ledger's head -/
theorem a_forN2 {α : Type} {f : α → V} {ns : List α} {j : Nat} (Iv : Addr → List α → L2.St → Hp → Prop) (am : Am S H0 L H) (h : EvL te σ H (ns.map f)) (h0 : ∀ p H, Am S H0 ((p, .lst (ns.map f)) :: L) H → Iv p [] σ H)
    (hP : ∀ p pre σ' H', Iv p pre σ' H' → H' p = some (.lst (ns.map f)))
    (hs : ∀ p pre n post σ' H', ns = pre ++ n :: post → Iv p pre σ' H' → tu { D with nx := Iv p (pre ++ [n]), ct := Iv p (pre ++ [n]), bk := D.nx } (σ'.set j (some (f n))) H')
    (hd : ∀ p σ' H', Iv p ns σ' H' → D.nx σ' H') : tFor (iList K te) (gName j) tu D σ H :=
  h H (Ex.refl H) _ fun p H2 hp e2 h2 => by
    have z := a_for (σ := σ) (H := H2) (D := D) (j := j) (tu := tu) (wi := iList K (tC (.ref p))) (f := f) (ns := ns) (Iv p) (am.add hp e2 h2) (wk_list (K := K) ev_c (sq_of h2)) (h0 p) (fun pre σ' H' hi => sq_of (hP _ _ _ _ hi)) (hs p) (hd p)
    exact z
theorem aq_forN2 {α : Type} {f : α → V} {ns : List α} {j : Nat} (Iv : Addr → List α → L2.St → Hp → Prop) (am : Am S H0 L H) (h : EvL te σ H (ns.map f)) (h0 : ∀ p H, Am S H0 ((p, .lst (ns.map f)) :: L) H → Iv p [] σ H)
    (hP : ∀ p pre σ' H', Iv p pre σ' H' → H' p = some (.lst (ns.map f)))
    (hs : ∀ p pre n post σ' H', ns = pre ++ n :: post → Iv p pre σ' H' → tu { D with nx := Iv p (pre ++ [n]), ct := Iv p (pre ++ [n]), bk := tz D } (σ'.set j (some (f n))) H')
    (hd : ∀ p σ' H', Iv p ns σ' H' → tz D σ' H') : tSeq (tFor (iList K te) (gName j) tu) tz D σ H := a_forN2 (D := { D with nx := tz D }) Iv am h h0 hP hs hd
/-- a call within a try -/
theorem e_callSVX {R : List V → Hp → V → Prop} {B : List V → Hp → Addr → Prop} {E : L2.St → XK} (h : EvA ta σ H vs) (hR : ∀ H1, Ex H H1 → R vs H1 z) : Ev (tCallS (spVX R B) E ta) σ H z := fun H1 e Q q =>
  h H1 e _ fun H2 e2 => .inl ⟨z, hR H2 (e.trans e2), fun H3 e3 => q H3 (e2.trans e3)⟩
theorem aq_tryA {C ME : Addr} {sp : Sp} {i j l : Nat} (am : Am S H0 L H) (h : EvA ta σ H vs) (hs : SpX sp vs H C) (xm : PySem.W.exmOne K (.ref C) (.ref ME) = some true)
    (k : ∀ a H, Am S H0 ((a, ExK C a) :: L) H → tz D ((σ.set j (some (.ref a))).set i none) H) : tSeq (tTryK K ME i j fun W => tAsg (tCallS sp (WE W) ta) (gName l)) tz D σ H :=
  h H (Ex.refl H) _ fun H1 e1 => hs H1 e1 _ _ fun H2 e2 => ⟨C, rfl, rfl, xm, fun a ha => k a _ ((am.ex (e1.trans e2)).new1 ha)⟩

/-! ### the keys of a dict -/
theorem wk_frz {d : Addr} {o : Obj} {kvs : List (Key × V)} (h : H d = some (.frz o (.dK kvs))) {te : TE} (he : Ev te σ H (.ref d)) : Wk (iKeys te) σ H (fun H => H d = some (.frz o (.dK kvs))) (kvs.map fun e => kV e.1) := fun H1 e R q =>
  he H1 e _ fun H2 e2 => ⟨d, o, rfl, .inl ⟨kvs, (e.trans e2) _ _ h, q _ H2 e2 fun H' h' => ⟨fun i x hx => by
    rw [List.getElem?_map] at hx
    cases hi : kvs[i]? with
    | none => rw [hi] at hx; cases hx
    | some p =>
      rw [hi] at hx
      refine ⟨⟨h', (List.getElem?_eq_some_iff.mp hi).1⟩, fun y H'' hy => ⟨hy.1, ?_⟩⟩
      obtain ⟨k, w, e1, e2⟩ := hy.2
      rw [hi] at e1
      cases e1
      exact e2.trans (Option.some.inj hx), h', by rw [List.length_map]; exact Nat.le_refl _⟩⟩⟩
/-- the expression looks at a dict that is locked meanwhile -/
theorem el_lock {d : Addr} {kvs : List (Key × V)} {xs : List V} (h : H d = some (.dK kvs)) (he : ∀ H1, Ex H H1 → ∀ o, EvL te σ (upd H1 d (.frz o (.dK kvs))) xs) : EvL (tLockE te) σ H xs := fun H1 e Q q => by
  have hd := e _ _ h
  refine ⟨d, .dK kvs, hd, trivial, fun od => he H1 e od _ (Ex.refl _) _ fun p H2 hp e2 h2 => ⟨e2 _ _ upd_same, ?_⟩⟩
  have hne : p ≠ d := fun z => by rw [z, upd_same] at hp; cases hp
  rw [upd_ne hne] at hp
  refine q p _ hp (fun a o ha => ?_) (by rw [upd_ne hne]; exact h2)
  by_cases c : a = d
  · subst c; rw [hd] at ha; cases ha; exact upd_same
  · rw [upd_ne c]
    exact e2 a o (by rw [upd_ne c]; exact ha)
end

/-! ### for x in a new dict -/
def iKeysN (td : TE) : TI := fun σ H R => td σ H fun x H1 => ∃ d kvs, x = .ref d ∧ H1 d = some (.dK kvs) ∧ ∀ o, R (Itk d o kvs) (upd H1 d (.frz o (.dK kvs)))
theorem pi_keysN {X : Cx} {tg e : Expr} {td : TE} (he : PE X e td) : PI X tg e (iKeysN td) := by
  refine ⟨fun pins s σ H R I h => ?_⟩
  refine thn (he.run pins s σ H _ I h) fun u s1 ⟨x, H1, I1, rx, d, kvs, ex, hd0, q⟩ => ?_
  subst ex
  obtain rfl : u = Value.ref d := rx
  obtain ⟨o, I2⟩ := I1.lock hd0 trivial
  have hd : upd H1 d (.frz o (.dK kvs)) d = some (.frz o (.dK kvs)) := upd_same
  obtain ⟨hs, hgd, hx, es, ep, vs, hdt, hsz, kv, hm⟩ := I2.frzK hd
  refine iter_keys hs hgd hx hdt (pi_one (tk := s1.toks) I2 _ (turn_keys _ hdt) ⟨_, Heap.get?_push_size _ rfl, rfl, ?_⟩ (q o))
  rw [hsz] <;> rfl
section
variable {K : PySem.W.Frag} {S : List Addr} {H0 H H1 : Hp} {L : List (Addr × HO)} {σ : L2.St} {te tl td : TE} {t : TT} {D : Ends} {tu tz : TS}
/-- a comprehension over the keys of a new dict -/
theorem el_lcK {α : Type} {f : α → V} {ns : List α} {kvs : List (Key × V)} {j : Nat} {vs : List Nat} (b : α → Bool) (v : α → V) (h : EvN td σ H (.dK kvs)) (hk : (kvs.map fun e => kV e.1) = ns.map f) (hz : ns.length ≤ 100000)
    (hv : ∀ x, wipe ((wipe σ vs).set j (some x)) vs = wipe σ vs)
    (ht : ∀ n ∈ ns, EvT t ((wipe σ vs).set j (some (f n))) H (b n)) (he : ∀ n ∈ ns, b n = true → Ev te ((wipe σ vs).set j (some (f n))) H (v n)) :
    EvL (tLc (iKeysN td) (gName j) t te vs) σ H ((ns.filter b).map v) := fun H1 e Q q =>
  h H1 e _ fun d H2 hd e2 h2 => ⟨d, kvs, rfl, h2, fun o => by
    have e3 : Ex H1 (upd H2 d (.frz o (.dK kvs))) := e2.mut hd
    have z := el_lc (σ := σ) (H := upd H2 d (.frz o (.dK kvs))) (wi := iKeys (tC (.ref d))) (f := f) (ns := ns) (j := j) (vs := vs) (t := t) (te := te) b v
      (by rw [← hk]; exact wk_frz upd_same ev_c) (fun _ _ ex s => ex _ _ s) upd_same hz hv (fun n hn => (ht n hn).mono (e.trans e3)) (fun n hn hb => (he n hn hb).mono (e.trans e3))
    have z2 := z _ (Ex.refl _) Q fun p H3 hp e4 h3 => q p H3 (fresh_back e3 hp) (e3.trans e4) h3
    obtain ⟨d', o', e5, z3⟩ := z2
    cases e5
    rcases z3 with ⟨kvs', hk', z3⟩ | ⟨kvs', hk', _⟩
    · rw [upd_same] at hk'
      cases hk'
      exact z3
    · rw [upd_same] at hk'; cases hk'⟩
end
end Mw
/-! sorted words; dicts by texts; lists that shrink -/
namespace Mw
open PySem PySem.Spec PyProof.Rows L2 Evl

/-! ### sorted([(len(word), word) ..]) -/
def encW (e : Addr × Tx) : PyData := .tuple [.int (e.2.length : Nat), .str (T e.2)]
def rSortW (K : PySem.W.Frag) : List V → Hp → VK → Prop := fun xs H Q => ∃ (a : Addr) (es : List (Addr × Tx)), xs = [.ref a] ∧ SqL K H a (es.map fun e => V.ref e.1) ∧ (∀ e ∈ es, H e.1 = some (.tup [.int (e.2.length : Nat), tS e.2])) ∧
  ∀ (fs : List (Addr × Tx)) p, fs.Perm es → fs.Pairwise (fun a b => leW a.2 b.2 = true) → H p = none → Q (.ref p) (upd H p (.lst (fs.map fun e => V.ref e.1)))
theorem ltW_eq (a b : Tx) : PySem.W.dataLt (.tuple [.int (a.length : Nat), .str (T a)]) (.tuple [.int (b.length : Nat), .str (T b)]) = !leW b a := by
  rw [PySem.W.dataLt_pair (by simp [PySem.W.alike]) (by simp [PySem.W.alike]), PySem.W.dataLt_int, PySem.W.dataLt_str, T_cps, T_cps]
  simp only [PyData.eqv]
  unfold leW
  by_cases h1 : a.length = b.length
  · have e1 : ((a.length : Nat) : Int) = ((b.length : Nat) : Int) := by omega
    by_cases h2 : a = b
    · subst h2
      simp [List.le_refl]
    · have h3 : ¬ T a = T b := fun z => h2 (T_inj z)
      have e2 : decide (b ≤ a) = !decide (a < b) := by
        by_cases h : a < b
        · rw [decide_eq_true h, decide_eq_false (List.not_le.mpr h)]; rfl
        · rw [decide_eq_false h, decide_eq_true (List.not_lt.mp h)]; rfl
      simp [h1, h3, e2]
  · have e1 : ¬ ((a.length : Nat) : Int) = ((b.length : Nat) : Int) := by omega
    by_cases h2 : a.length < b.length
    · have h4 : ¬ b.length < a.length := by omega
      have h5 : ¬ b.length = a.length := by omega
      simp [e1, h2, h4, h5]
    · have h4 : b.length < a.length := by omega
      simp [e1, h2, h4]
theorem leW_data (e f : Addr × Tx) : PySem.W.dataLe false encW e f = leW e.2 f.2 := by
  rw [PySem.W.dataLe_eq]
  show (!PySem.W.dataLt (encW f) (encW e)) = _
  unfold encW
  rw [ltW_eq, Bool.not_not]
theorem each_refs : ∀ {es : List (Addr × Tx)} {us : List Value}, Vals (es.map fun e => V.ref e.1) us → PySem.W.EachIs (fun (v : Value) (e : Addr × Tx) => v = Value.ref e.1) us es
  | [], _, h => by
    have h' : Vals [] _ := h
    cases h'; exact .nil
  | e :: es, _, h => by
    have h' : Vals (V.ref e.1 :: es.map fun e => V.ref e.1) _ := h
    cases h' with
    | cons r t => exact .cons r (each_refs t)
theorem refs_each : ∀ {es : List (Addr × Tx)} {us : List Value}, PySem.W.EachIs (fun (v : Value) (e : Addr × Tx) => v = Value.ref e.1) us es → Vals (es.map fun e => V.ref e.1) us
  | [], _, .nil => .nil
  | _ :: _, _, .cons r t => .cons r (refs_each t)
theorem dpAll_W {K : PySem.W.Frag} {H : Hp} : ∀ {es : List (Addr × Tx)}, (∀ e ∈ es, H e.1 = some (.tup [.int (e.2.length : Nat), tS e.2])) → DpAll K H (es.map fun e => V.ref e.1) (es.map encW)
  | [], _ => .nil
  | e :: es, h => .cons (.tup (st_of (h e (List.mem_cons_self ..))) (.cons (.int _) (.cons (.str _) .nil))) (dpAll_W fun x hx => h x (List.mem_cons_of_mem _ hx))
theorem cr_sortW {X : Cx} (hu : X.A.units + 64 < cLine) : CallR X (.builtin "sorted") (rSortW X.K) := by
  intro pins s σ H vs us Q I r h
  obtain ⟨a, es, rfl, hs, hx, q⟩ := h
  obtain ⟨its, rv, hl, hz⟩ := I.list hs
  obtain ⟨u, rfl, ru⟩ := vals1 r
  obtain rfl : u = Value.ref a := ru
  have e := each_refs rv
  obtain ⟨as, hr⟩ := Dp.readsAll I _ _ _ (dpAll_W hx) rv
  have er := PySem.W.readsAll_each encW hr
  refine PySem.W.sorted_data (R := fun (v : Value) (e : Addr × Tx) => v = Value.ref e.1) (enc := encW) hl.isList e er (fun d hd d' hd' => ?_) (.inl fun d hd => ?_) ?_ (fun b hb => ?_) fun out ho eo => ?_
  · obtain ⟨x, _, rfl⟩ := List.mem_map.mp hd
    obtain ⟨y, _, rfl⟩ := List.mem_map.mp hd'
    unfold encW
    simp [PySem.W.alike, PySem.W.alikeAll]
  · obtain ⟨x, _, rfl⟩ := List.mem_map.mp hd
    exact ⟨_, _, rfl⟩
  · rw [List.length_map] at hz; exact hz
  · have : (encW b).depth ≤ 2 := by
      unfold encW
      simp [PyData.depth, PyData.depthAll]
    omega
  · obtain ⟨n, hn⟩ := sortedAll_at s.heap its out.toArray
    have hp : (es.mergeSort (PySem.W.dataLe false encW)).Perm es := List.mergeSort_perm ..
    have e1 : es.mergeSort (PySem.W.dataLe false encW) = es.mergeSort (fun a b => leW a.2 b.2) := by
      congr 1
      funext a b
      exact leW_data a b
    have hup : (es.mergeSort (PySem.W.dataLe false encW)).Pairwise (fun a b => leW a.2 b.2 = true) := by
      rw [e1]
      exact List.pairwise_mergeSort (le := fun (a b : Addr × Tx) => leW a.2 b.2) (fun a b c h1 h2 => leW_trans _ _ _ h1 h2) (fun a b => leW_total _ _) es
    refine ⟨.ref (s.heap.objs.size + 1), upd H (s.heap.objs.size + 1) (.lst ((es.mergeSort (PySem.W.dataLe false encW)).map fun e => V.ref e.1)), I.laid (t' := s.toks) (fun b u hb => sortedAll_old hb) (Nat.le_succ _) ⟨?_, out, n, refs_each eo, hn⟩, rfl, q _ _ hp hup (I.hok.fresh (Nat.le_succ _))⟩
    rw [List.length_map, hp.length_eq]
    rw [List.length_map] at hz
    exact hz
end Mw
/-! dicts by texts; rules of lists and texts; walks along a chain -/
namespace Mw
open PySem PySem.Spec PyProof.Rows L2 Evl

/-! ### dicts by texts -/
abbrev kW (w : Tx) : Key := .inr (T w)
theorem kW_eq {a b : Tx} : kW a = kW b ↔ a = b := ⟨fun h => T_inj (Sum.inr.inj h), fun h => by rw [h]⟩
def keyT : Key → Tx
  | .inr s => s.cps.toList
  | .inl _ => []
theorem keyT_W (w : Tx) : keyT (kW w) = w := T_cps w
structure DF (g : Tx → Bool) (f : Tx → V) (kvs : List (Key × V)) : Prop where
  nd : (kvs.map (·.1)).Nodup
  ks : ∀ p ∈ kvs, ∃ w, p.1 = kW w
  vl : ∀ w, valV kvs (kW w) = if g w = true then some (f w) else none
theorem val_drop (k j : Key) : ∀ kvs : List (Key × V), valV (dropK kvs k) j = if j = k then none else valV kvs j
  | [] => by
    show none = _
    split <;> rfl
  | p :: r => by
    have ih := val_drop k j r
    by_cases h : p.1 = k
    · rw [dropK_pos h, ih]
      by_cases e : j = k
      · rw [if_pos e, if_pos e]
      · rw [if_neg e, if_neg e, valV_neg (fun z => e (z.symm.trans h))]
    · rw [dropK_neg h]
      by_cases e : p.1 = j
      · rw [valV_pos e, valV_pos e, if_neg fun z => h (e.trans z)]
      · rw [valV_neg e, valV_neg e, ih]
theorem mem_putK {kvs : List (Key × V)} {k : Key} {v : V} {p : Key × V} (h : p ∈ putK kvs k v) : p.1 = k ∨ ∃ q ∈ kvs, q.1 = p.1 := by
  unfold putK at h
  split at h
  · obtain ⟨q, hq, e⟩ := List.mem_map.mp h
    refine .inr ⟨q, hq, ?_⟩
    rw [← e]
    split <;> rfl
  · rcases List.mem_append.mp h with h | h
    · exact .inr ⟨p, h, rfl⟩
    · rw [List.mem_singleton.mp h]; exact .inl rfl
theorem nd_put {kvs : List (Key × V)} (k : Key) (v : V) (h : (kvs.map (·.1)).Nodup) : ((putK kvs k v).map (·.1)).Nodup := by
  cases hv : valV kvs k with
  | none => exact nd_putK v h hv
  | some x =>
    have e : (putK kvs k v).map (·.1) = kvs.map (·.1) := by
      unfold putK
      rw [if_pos (by rw [valV_any, hv]; rfl), List.map_map]
      refine List.map_congr_left fun p _ => ?_
      show (if p.1 = k then (p.1, v) else p).1 = p.1
      split <;> rfl
    rw [e]; exact h
section
variable {g g' : Tx → Bool} {f f' : Tx → V} {kvs : List (Key × V)}
theorem DF.put (d : DF g f kvs) (w : Tx) (v : V) : DF (fun x => decide (x = w) || g x) (fun x => if x = w then v else f x) (putK kvs (kW w) v) := by
  refine ⟨nd_put _ _ d.nd, fun p hp => ?_, fun x => ?_⟩
  · rcases mem_putK hp with e | ⟨q, hq, e⟩
    · exact ⟨w, e⟩
    · obtain ⟨y, hy⟩ := d.ks q hq
      exact ⟨y, e.symm.trans hy⟩
  · rw [valV_put]
    by_cases h : x = w
    · subst h
      rw [if_pos rfl, decide_eq_true rfl, Bool.true_or, if_pos rfl, if_pos rfl]
    · rw [if_neg (fun z => h (kW_eq.mp z)), d.vl, decide_eq_false h, Bool.false_or, if_neg h]
theorem DF.drop (d : DF g f kvs) (w : Tx) : DF (fun x => !decide (x = w) && g x) f (dropK kvs (kW w)) := by
  refine ⟨nd_dropK d.nd, fun p hp => d.ks p (dropK_mem hp), fun x => ?_⟩
  rw [val_drop]
  by_cases h : x = w
  · subst h
    rw [if_pos rfl, decide_eq_true rfl]; rfl
  · rw [if_neg (fun z => h (kW_eq.mp z)), d.vl, decide_eq_false h]; rfl
theorem DF.congr (d : DF g f kvs) (hg : ∀ w, g w = g' w) (hf : ∀ w, g' w = true → f w = f' w) : DF g' f' kvs := by
  refine ⟨d.nd, d.ks, fun w => ?_⟩
  rw [d.vl, hg]
  by_cases h : g' w = true
  · rw [if_pos h, if_pos h, hf w h]
  · rw [if_neg h, if_neg h]
def keysT (kvs : List (Key × V)) : List Tx := kvs.map fun p => keyT p.1
theorem DF.mem (d : DF g f kvs) (w : Tx) : w ∈ keysT kvs ↔ g w = true := by
  have e := d.vl w
  constructor
  · intro h
    obtain ⟨p, hp, rfl⟩ := List.mem_map.mp h
    obtain ⟨x, hx⟩ := d.ks p hp
    have hv := val_nodup d.nd p hp
    rw [hx, d.vl] at hv
    rw [hx, keyT_W]
    by_cases c : g x = true
    · exact c
    · rw [if_neg c] at hv; cases hv
  · intro h
    rw [if_pos h] at e
    obtain ⟨p, hp, hk⟩ := List.mem_map.mp (valV_in e)
    refine List.mem_map.mpr ⟨p, hp, ?_⟩
    have hk : p.1 = kW w := hk
    rw [hk, keyT_W]
theorem DF.ndT (d : DF g f kvs) : (keysT kvs).Nodup := by
  have e : keysT kvs = (kvs.map (·.1)).map keyT := by unfold keysT; rw [List.map_map]; rfl
  rw [e]
  have nd := d.nd
  have hk : ∀ k ∈ kvs.map (·.1), ∃ w, k = kW w := fun k hk => by
    obtain ⟨p, hp, rfl⟩ := List.mem_map.mp hk
    exact d.ks p hp
  generalize kvs.map (·.1) = l at nd hk
  induction l with
  | nil => exact List.Pairwise.nil
  | cons k r ih =>
    obtain ⟨n1, n2⟩ := List.nodup_cons.mp nd
    rw [List.map_cons]
    refine List.nodup_cons.mpr ⟨fun h => ?_, ih n2 fun k hk' => hk k (List.mem_cons_of_mem _ hk')⟩
    obtain ⟨k2, h2, e2⟩ := List.mem_map.mp h
    obtain ⟨w, rfl⟩ := hk k (List.mem_cons_self ..)
    obtain ⟨w2, rfl⟩ := hk k2 (List.mem_cons_of_mem _ h2)
    rw [keyT_W, keyT_W] at e2
    subst e2
    exact n1 h2
theorem DF.vals (d : DF g f kvs) : (kvs.map fun e => kV e.1) = (keysT kvs).map tS := by
  unfold keysT
  rw [List.map_map]
  refine List.map_congr_left fun p hp => ?_
  obtain ⟨w, hw⟩ := d.ks p hp
  show kV p.1 = tS (keyT p.1)
  rw [hw, keyT_W]; rfl
theorem len_keysT (kvs : List (Key × V)) : (keysT kvs).length = kvs.length := by unfold keysT; rw [List.length_map]
theorem DF.nil : DF (fun _ => false) f [] := ⟨List.Pairwise.nil, fun _ h => (by cases h), fun _ => rfl⟩
end

/-! ### lists and texts -/
abbrev rInsert : V → List V → Hp → VK → Prop := fun x vs H Q => ∃ (l : Addr) (xs : List V) (i : Int) (y : V), x = .ref l ∧ vs = [.int i, y] ∧ H l = some (.lst xs) ∧ xs.length < sizeLine ∧ 0 ≤ i ∧ i < 2 ^ 63 ∧
    Q .non (upd H l (.lst (xs.take i.toNat ++ [y] ++ xs.drop i.toNat)))
abbrev rLenD : List V → Hp → VK → Prop := fun xs H Q => ∃ a kvs, xs = [V.ref a] ∧ H a = some (.dK kvs) ∧ Q (.int kvs.length) H
abbrev rIndexT : V → List V → Hp → VK → Prop := fun x xs H Q => ∃ a b i rest, x = .str a ∧ xs = [.str b] ∧ Builtin.Str.occurrences a b 0 a.length 1 = i :: rest ∧ Q (.int (i : Nat)) H
section
variable {K : PySem.W.Frag} {S : List Addr} {H0 H H1 : Hp} {L : List (Addr × HO)} {σ : L2.St} {ta te tl tb to ti tx td : TE} {t : TT} {D : Ends} {tu tz : TS} {v x y z : V} {vs : List V}
theorem a_ins0 (i : Nat) {l : Addr} {xs : List V} (am : Am S H0 L H) (hi : L[i]? = some (l, .lst xs)) (ha : Ev ta σ H (.ref l)) (h : Ev te σ H v) (hz : xs.length < 100000)
    (k : ∀ H, Am S H0 (L.set i (l, .lst (v :: xs))) H → D.nx σ H) : tDrop (tBM K "list" rInsert ta (tCons (tC (.int 0)) (tCons te tNil))) D σ H :=
  ha H (Ex.refl H) _ fun H1 e1 => ⟨Or.inl ⟨rfl, xs, sq_of (e1 l _ (am.at i hi))⟩, h H1 e1 _ fun H2 e2 => ⟨l, xs, 0, v, rfl, rfl, (e1.trans e2) l _ (am.at i hi), sz_lt hz, by decide, by decide, k _ ((am.ex (e1.trans e2)).set i hi)⟩⟩
theorem aq_ins0 (i : Nat) {l : Addr} {xs : List V} (am : Am S H0 L H) (hi : L[i]? = some (l, .lst xs)) (ha : Ev ta σ H (.ref l)) (h : Ev te σ H v) (hz : xs.length < 100000)
    (k : ∀ H, Am S H0 (L.set i (l, .lst (v :: xs))) H → tz D σ H) : tSeq (tDrop (tBM K "list" rInsert ta (tCons (tC (.int 0)) (tCons te tNil)))) tz D σ H := a_ins0 (D := { D with nx := tz D }) i am hi ha h hz k
theorem a_pop (i : Nat) {l : Addr} {xs : List V} (am : Am S H0 L H) (hi : L[i]? = some (l, .lst (xs ++ [v]))) (ha : Ev ta σ H (.ref l))
    (k : ∀ H, Am S H0 (L.set i (l, .lst xs)) H → D.nx σ H) : tDrop (tBM0 K "list" rPop ta) D σ H :=
  ha H (Ex.refl H) _ fun H1 e1 => ⟨Or.inl ⟨rfl, _, sq_of (e1 l _ (am.at i hi))⟩, l, xs ++ [v], v, rfl, rfl, e1 l _ (am.at i hi), by simp, by
    rw [List.dropLast_concat]
    exact k _ ((am.ex e1).set i hi)⟩
theorem a_pop0 (i : Nat) {l : Addr} {xs : List V} (am : Am S H0 L H) (hi : L[i]? = some (l, .lst (v :: xs))) (ha : Ev ta σ H (.ref l))
    (k : ∀ H, Am S H0 (L.set i (l, .lst xs)) H → D.nx σ H) : tDrop (tBM K "list" rPopAt ta (tCons (tC (.int 0)) tNil)) D σ H :=
  ha H (Ex.refl H) _ fun H1 e1 => ⟨Or.inl ⟨rfl, _, sq_of (e1 l _ (am.at i hi))⟩, l, v :: xs, 0, 0, v, rfl, rfl, e1 l _ (am.at i hi), by decide, by decide, by simp [seqIndex?], rfl, by
    exact k _ ((am.ex e1).set i hi)⟩
theorem e_lenD {a : Addr} {kvs : List (Key × V)} (h : Ev te σ H (.ref a)) (hd : H a = some (.dK kvs)) : Ev (tCB rLenD (tCons te tNil)) σ H (.int kvs.length) := fun H1 e Q q =>
  h H1 e _ fun H2 e2 => ⟨a, kvs, rfl, (e.trans e2) _ _ hd, q H2 e2⟩
/-- the place of the first item that is m -/
theorem e_indexI {a : Addr} {F : Nat → Int} {n j : Nat} {m : Int} (h : Ev te σ H (.ref a)) (hs : SqL K H a ((List.range n).map fun i => .int (F i))) (hm : Ev ti σ H (.int m)) (hj : j < n) (h1 : F j = m) (h2 : ∀ k, k < j → F k ≠ m) :
    Ev (tBM K "list" (rIndex K) te (tCons ti tNil)) σ H (.int (j : Nat)) := fun H1 e Q q =>
  h H1 e _ fun H2 e2 => ⟨Or.inl ⟨rfl, _, ex_l (e.trans e2) hs⟩, hm H2 (e.trans e2) _ fun H3 e3 => by
    have eqI : ∀ a b : Int, eqV (.int a) (.int b) = decide (a = b) := fun a b => by
      show (a == b) = decide (a = b)
      exact Bool.eq_iff_iff.mpr (by rw [beq_iff_eq, decide_eq_true_eq])
    refine ⟨a, _, .int m, j, .int (F j), rfl, rfl, ex_l ((e.trans e2).trans e3) hs, rfl, ?_, at_range _ hj, by rw [eqI]; exact decide_eq_true h1, fun k z' hk hz => ?_, q H3 (e2.trans e3)⟩
    · rw [List.all_eq_true]
      intro x hx
      obtain ⟨i, _, rfl⟩ := List.mem_map.mp hx
      rfl
    · rw [at_range _ (by omega : k < n)] at hz
      cases hz
      rw [eqI]
      exact decide_eq_false (h2 k hk)⟩
theorem sub_at {t w : Tx} {i : Nat} : Builtin.Str.subAt (T t) (T w) i = true ↔ (t.drop i).take w.length = w := by
  unfold Builtin.Str.subAt
  rw [beq_iff_eq, T_len]
  constructor
  · intro h
    have := congrArg Array.toList h
    simpa [T] using this
  · intro h
    apply Array.toList_inj.mp
    simpa [T] using h
theorem e_sindex {t w : Tx} {j : Nat} (h : Ev to σ H (tS t)) (hw : Ev te σ H (tS w)) (h1 : w <+: t.drop j) (hj : j < t.length) (h2 : ∀ k, k < j → ¬ w <+: t.drop k) : Ev (tM1 rIndexT to te) σ H (.int (j : Nat)) := fun H1 e Q q =>
  h H1 e _ fun H2 e2 => ⟨⟨_, rfl⟩, hw H2 (e.trans e2) _ fun H3 e3 => by
    have key : ∀ i, StrLaws.At (T t) (T w) (T t).length i ↔ w <+: t.drop i ∧ i + w.length ≤ t.length := fun i => by
      unfold StrLaws.At
      rw [sub_at, T_len, T_len, List.prefix_iff_eq_take]
      exact ⟨fun z => ⟨z.2.symm, z.1⟩, fun z => ⟨z.2, z.1.symm⟩⟩
    have hl : ∀ i, w <+: t.drop i → i < t.length → i + w.length ≤ t.length := fun i hp hi => by
      have := hp.length_le
      rw [List.length_drop] at this
      omega
    rcases StrLaws.occ_head (T t) (T w) 1 (Nat.le_refl _) with ⟨_, hn⟩ | ⟨i, r, ho, hi, hb⟩
    · exact absurd ((key j).mpr ⟨h1, hl j h1 hj⟩) (hn j)
    · have e4 : i = j := by
        rcases Nat.lt_trichotomy i j with c | c | c
        · exact absurd ((key i).mp hi).1 (h2 i c)
        · exact c
        · exact absurd ((key j).mpr ⟨h1, hl j h1 hj⟩) (hb j c)
      subst e4
      exact ⟨T t, T w, i, r, rfl, rfl, ho, q H3 (e2.trans e3)⟩⟩
/-- d.setdefault(w, 0), the dict in the ledger -/
theorem a_setd (i : Nat) {a : Addr} {kvs : List (Key × V)} {k : Key} (am : Am S H0 L H) (hi : L[i]? = some (a, .dK kvs)) (hd : Ev td σ H (.ref a)) (hk : Ev te σ H (kV k)) (hv : Ev tx σ H v) (hz : kvs.length < 100000)
    (k1 : ∀ x H, valV kvs k = some x → Am S H0 L H → D.nx σ H) (k2 : ∀ H, valV kvs k = none → Am S H0 (L.set i (a, .dK (putK kvs k v))) H → D.nx σ H) : tDrop (tDSetd td te tx) D σ H :=
  hd H (Ex.refl H) _ fun H1 e1 => ⟨a, rfl, .inl ⟨kvs, .inl (e1 _ _ (am.at i hi))⟩, hk H1 e1 _ fun H2 e2 => hv H2 (e1.trans e2) _ fun H3 e3 => by
    have am3 := am.ex ((e1.trans e2).trans e3)
    exact ⟨kvs, k, am3.at i hi, rfl, szL6 (by omega), fun x hx => k1 x _ hx am3, fun hn => k2 _ hn (am3.set i hi)⟩⟩

/-! ### while one != "": .. one = tails[one] -/
theorem aq_chain {j : Nat} {tb : TS} (E : List Tx) (Iv : List Tx → Hp → Prop) (hj : σ[j]? = some (some (tS (E.headD [])))) (hE : ∀ w ∈ E, w ≠ []) (h0 : Iv [] H) (hex : ∀ pre H H', Ex H H' → Iv pre H → Iv pre H')
    (hs : ∀ pre w post H', E = pre ++ w :: post → Iv pre H' → ∀ D' : Ends, (∀ H2, Iv (pre ++ [w]) H2 → D'.nx (σ.set j (some (tS w))) H2) → tb D' (σ.set j (some (tS w))) H')
    (ht : ∀ pre w post H', E = pre ++ w :: post → Iv (pre ++ [w]) H' → Ev (tDGet td (tVar j)) (σ.set j (some (tS w))) H' (tS (post.headD [])))
    (hd : ∀ H', Iv E H' → tz D (σ.set j (some (tS []))) H') : tSeq (tWhile (tTest (tOp rNe (tVar j) (tC (tS [])))) (tSeq tb (tAsg (tDGet td (tVar j)) (gName j)))) tz D σ H := by
  have hlt : j < σ.length := (List.getElem?_eq_some_iff.mp hj).1
  refine aq_while (fun m σ' H' => ∃ pre post, E = pre ++ post ∧ m = post.length ∧ σ' = σ.set j (some (tS (post.headD []))) ∧ Iv pre H') E.length ⟨[], E, rfl, rfl, ?_, h0⟩ ?_
  · refine List.ext_getElem? fun i => ?_
    by_cases c : j = i
    · subst c; rw [List.getElem?_set_self hlt, hj]
    · rw [List.getElem?_set_ne c]
  · rintro m σ' H' ⟨pre, post, hEq, rfl, rfl, hI⟩
    refine ⟨!decide (post.headD [] = []), et_test (ev_op (ev_var (List.getElem?_set_self hlt)) ev_c r_neS), fun c H1 ex N hN => ?_, fun c H1 ex => ?_⟩
    · cases post with
      | nil => exact absurd c (by decide)
      | cons w post =>
        refine hs pre w post H1 hEq (hex _ _ _ ex hI) _ fun H2 hI2 => ?_
        show (tAsg (tDGet td (tVar j)) (gName j)) _ _ _
        refine s_asg (ht pre w post H2 hEq hI2) fun H3 e3 => ?_
        rw [List.set_set]
        exact hN post.length _ _ (Nat.lt_succ_self _) ⟨pre ++ [w], post, by rw [hEq, List.append_assoc]; rfl, rfl, rfl, hex _ _ _ e3 hI2⟩
    · have e : post = [] := by
        cases post with
        | nil => rfl
        | cons w post =>
          have hw := hE w (by rw [hEq]; simp)
          rw [List.headD_cons, decide_eq_false hw] at c
          cases c
      subst e
      rw [List.append_nil] at hEq
      subst hEq
      exact hd H1 (hex _ _ _ ex hI)
end
theorem three_split {α : Type} {a b c n : α} {pre post : List α} (h : [a, b, c] = pre ++ n :: post) : (pre = [] ∧ n = a) ∨ (pre = [a] ∧ n = b) ∨ (pre = [a, b] ∧ n = c) := by
  match pre, h with
  | [], h => exact .inl ⟨rfl, (List.cons.inj h).1.symm⟩
  | [x], h =>
    obtain ⟨e1, h⟩ := List.cons.inj h
    exact .inr (.inl ⟨by rw [e1], (List.cons.inj h).1.symm⟩)
  | [x, y], h =>
    obtain ⟨e1, h⟩ := List.cons.inj h
    obtain ⟨e2, h⟩ := List.cons.inj h
    exact .inr (.inr ⟨by rw [e1, e2], (List.cons.inj h).1.symm⟩)
  | x :: y :: z :: r, h =>
    have := congrArg List.length h
    simp at this
end Mw
/-! the sorted words of a dict; new dicts that are told by what they hold -/
namespace Mw
open PySem PySem.Spec PyProof.Rows L2 Evl

section
variable {K : PySem.W.Frag} {S : List Addr} {H0 H H1 : Hp} {L : List (Addr × HO)} {σ : L2.St} {te tl td tx : TE} {ta : TA} {t : TT} {D : Ends} {tu tz : TS}
/-- a comprehension of new tuples -/
theorem lc_tups {α : Type} {wi : TI} {P : Hp → Prop} {f : α → V} {g : α → List V} {ns : List α} {j : Nat} {vs : List Nat} (hw : Wk wi σ H P (ns.map f)) (hm : ∀ H H', Ex H H' → P H → P H') (hp : P H) (hz : ns.length ≤ 100000)
    (hv : ∀ x, wipe ((wipe σ vs).set j (some x)) vs = wipe σ vs) (he : ∀ n ∈ ns, EvU te ((wipe σ vs).set j (some (f n))) H (g n)) {Q : VK} (e : Ex H H1)
    (k : ∀ p (es : List (Addr × α)) H2, es.map (·.2) = ns → H1 p = none → Ex H1 H2 → H2 p = some (.lst (es.map fun e => V.ref e.1)) → (∀ e ∈ es, H2 e.1 = some (.tup (g e.2))) → Q (.ref p) H2) : tLc wi (gName j) tYes te vs σ H1 Q := by
  refine hw H1 e _ fun J H2 e2 sq => fun Dl hD => ?_
  refine ⟨fun i m H' => i + m = ns.length ∧ Ex H2 H' ∧ ∃ es : List (Addr × α), es.map (·.2) = ns.take i ∧ H' Dl = some (.lst (es.map fun e => V.ref e.1)) ∧ ∀ e ∈ es, H' e.1 = some (.tup (g e.2)),
    ⟨ns.length, by omega, Ex.new hD, [], rfl, upd_same, fun _ h => (by cases h)⟩, ?_⟩
  rintro i m H' ⟨im, e3, es, hes, hl, ht⟩
  obtain ⟨q1, q2⟩ := sq H' (hm _ _ ((e.trans e2).trans e3) hp)
  by_cases hi : i < ns.length
  · have gg : (ns.map f)[i]? = some (f ns[i]) := by rw [List.getElem?_map, List.getElem?_eq_getElem hi]; rfl
    have hmem : ns[i] ∈ ns := List.getElem_mem hi
    have ht2 : ns.take (i + 1) = ns.take i ++ [ns[i]] := by rw [List.take_succ_eq_append_getElem hi]
    have hlen : es.length = (ns.take i).length := by rw [← hes, List.length_map]
    obtain ⟨g1, g2⟩ := q1 i _ gg
    refine .inr ⟨g1, fun H'' => Ex H2 H'' ∧ ∃ es : List (Addr × α), es.map (·.2) = ns.take (i + 1) ∧ H'' Dl = some (.lst (es.map fun e => V.ref e.1)) ∧ ∀ e ∈ es, H'' e.1 = some (.tup (g e.2)), fun H'' hN => ⟨m - 1, by omega, by omega, hN.1, hN.2⟩, fun y H'' hy => ?_⟩
    obtain ⟨e4, e5⟩ := g2 y H'' hy
    subst e4 e5
    refine ⟨hv _, ?_⟩
    show te ((wipe σ vs).set j (some (f ns[i]))) H'' _
    refine he _ hmem H'' ((e.trans e2).trans e3) _ fun r H6 hr e7 h6 => ?_
    have hD6 := e7 _ _ hl
    have hne : ∀ a u, H6 a = some (.tup u) → a ≠ Dl := fun a u h z => by rw [z, hD6] at h; cases h
    refine ⟨_, hD6, ?_, Ex.mut (e3.trans e7) hD, es ++ [(r, ns[i])], ?_, ?_, fun x hx => ?_⟩
    · refine szL6 ?_
      rw [List.length_map, hlen, List.length_take]
      omega
    · rw [ht2, List.map_append, hes]; rfl
    · rw [upd_same, List.map_append]; rfl
    · have hx6 : H6 x.1 = some (.tup (g x.2)) := by
        rcases List.mem_append.mp hx with hx | hx
        · exact e7 _ _ (ht x hx)
        · rw [List.mem_singleton.mp hx]; exact h6
      rw [upd_ne (hne _ _ hx6)]; exact hx6
  · have ei : i = ns.length := by omega
    subst ei
    rw [List.take_length] at hes
    rw [List.length_map] at q2
    exact .inl ⟨q2, k Dl es H' hes (fresh_back e2 hD) (e2.trans e3) hl ht⟩
/-- [pair[1] for pair in sorted([(len(word), word) for word in d])] -/
theorem el_words {d : Addr} {kvs : List (Key × V)} {g : Tx → Bool} {f : Tx → V} {ws : List Tx} {i j : Nat} (hd : H d = some (.dK kvs)) (df : DF g f kvs) (hn : kvs.length ≤ 100000) (hlen : ∀ w ∈ keysT kvs, w.length ≤ 1000000)
    (he : ∀ H1 o, Ex H H1 → Ev td (wipe σ [i]) (upd H1 d (.frz o (.dK kvs))) (.ref d)) (he' : ∀ H1 o, Ex H H1 → Ev td σ (upd H1 d (.frz o (.dK kvs))) (.ref d))
    (hw : ∀ us : List Tx, us.Perm (keysT kvs) → us.Pairwise (fun a b => leW a b = true) → us = ws)
    (hvj : ∀ x, wipe ((wipe σ [j]).set j (some x)) [j] = wipe σ [j]) (hj : ∀ x, ((wipe σ [j]).set j (some x))[j]? = some (some x))
    (hvi : ∀ x, wipe ((wipe σ [i]).set i (some x)) [i] = wipe σ [i]) (hi : ∀ x, ((wipe σ [i]).set i (some x))[i]? = some (some x)) :
    EvL (tLc (iList K (tCB (rSortW K) (tCons (tLockE (tLc (iKeys td) (gName j) tYes (tTup (tCons (tCB rLenT (tCons (tVar j) tNil)) (tCons (tVar j) tNil))) [j])) tNil))) (gName i) tYes (tOp (rIxT K) (tVar i) (tC (.int 1))) [i]) σ H (ws.map tS) := fun H1 e Q q => by
  have hd1 := e _ _ hd
  show (tLockE (tLc (iKeys td) (gName j) tYes (tTup (tCons (tCB rLenT (tCons (tVar j) tNil)) (tCons (tVar j) tNil))) [j])) σ H1 _
  refine ⟨d, .dK kvs, hd1, trivial, fun od => ?_⟩
  refine lc_tups (H := upd H1 d (.frz od (.dK kvs))) (f := tS) (g := fun w => [.int (w.length : Nat), tS w]) (ns := keysT kvs) (by
    have z := wk_frz (σ := σ) (H := upd H1 d (.frz od (.dK kvs))) (o := od) (kvs := kvs) upd_same (he' H1 od e)
    rw [df.vals] at z
    exact z) (fun _ _ ex s => ex _ _ s) upd_same (by rw [len_keysT]; exact hn) hvj
    (fun w hw => eu_tup (ea_cons (ev_cb (ea_cons (ev_var (hj _)) ea_nil) (rc_lenT (hlen w hw))) (ea_cons (ev_var (hj _)) ea_nil)) (by show 2 ≤ 100000; decide)) (Ex.refl _) fun p es H2 hes hp e2 h2 ht => ?_
  refine ⟨e2 _ _ upd_same, ?_⟩
  have hpd : p ≠ d := fun z => by rw [z, upd_same] at hp; cases hp
  have h2d : H2 d = some (.frz od (.dK kvs)) := e2 _ _ upd_same
  have hp1 : H1 p = none := by rw [upd_ne hpd] at hp; exact hp
  have e12 : Ex H1 (upd H2 d (.dK kvs)) := fun a o ha => by
    by_cases c : a = d
    · subst c; rw [hd1] at ha; cases ha; exact upd_same
    · rw [upd_ne c]; exact e2 a o (by rw [upd_ne c]; exact ha)
  have h2' : upd H2 d (.dK kvs) p = some (.lst (es.map fun e => V.ref e.1)) := by rw [upd_ne hpd]; exact h2
  have ht' : ∀ e ∈ es, upd H2 d (.dK kvs) e.1 = some (.tup [.int (e.2.length : Nat), tS e.2]) := fun x hx => by
    have := ht x hx
    have hne : x.1 ≠ d := fun z => by rw [z, h2d] at this; cases this
    rw [upd_ne hne]; exact this
  refine ⟨p, es, rfl, sq_of h2', ht', fun fs r hperm hup hr => ?_⟩
  have e13 : Ex H1 (upd (upd H2 d (.dK kvs)) r (.lst (fs.map fun e => V.ref e.1))) := e12.trans (Ex.new hr)
  have hfs : ∀ e ∈ fs, upd (upd H2 d (.dK kvs)) r (.lst (fs.map fun e => V.ref e.1)) e.1 = some (.tup [.int (e.2.length : Nat), tS e.2]) := fun x hx => Ex.new hr _ _ (ht' x (hperm.mem_iff.mp hx))
  have ews : fs.map (·.2) = ws := by
    refine hw _ ?_ (List.pairwise_map.mpr hup)
    rw [← hes]
    exact hperm.map _
  have hfl : fs.length ≤ 100000 := by
    have a := congrArg List.length hes
    rw [List.length_map, len_keysT] at a
    rw [hperm.length_eq]; omega
  have z := el_lcY (σ := σ) (H := upd (upd H2 d (.dK kvs)) r (.lst (fs.map fun e => V.ref e.1))) (wi := iList K (tC (.ref r))) (f := fun e : Addr × Tx => V.ref e.1) (ns := fs) (j := i) (vs := [i]) (te := tOp (rIxT K) (tVar i) (tC (.int 1))) (fun e => tS e.2)
    (wk_list (K := K) ev_c (sq_of upd_same)) (fun _ _ ex s => ex_l ex s) (sq_of upd_same) hfl hvi (fun x hx => ev_op (ev_var (hi _)) ev_c (rv_ixT (K := K) (st_of (hfs x hx)) rfl))
  have z2 := z _ (Ex.refl _) Q fun p' H3 hp' e3 h3 => q p' H3 (fresh_back e13 hp') (e13.trans e3) (by rw [← ews, List.map_map]; exact h3)
  obtain ⟨p'', e5, z3⟩ := z2
  cases e5
  exact ⟨_, rfl, z3⟩
/-- a new dict that meets P -/
def EvD (te : TE) (σ : L2.St) (H : Hp) (P : List (Key × V) → Prop) : Prop := ∀ H1, Ex H H1 → ∀ Q : VK, (∀ p kvs H2, P kvs → H1 p = none → Ex H1 H2 → H2 p = some (.dK kvs) → Q (.ref p) H2) → te σ H1 Q
theorem EvD.mono {P : List (Key × V) → Prop} (e : Ex H H1) (h : EvD te σ H P) : EvD te σ H1 P := fun H2 e2 Q q => h H2 (e.trans e2) Q q
theorem aq_asgD {i : Nat} {P : List (Key × V) → Prop} (am : Am S H0 L H) (h : EvD te σ H P) (k : ∀ p kvs H, P kvs → Am S H0 ((p, .dK kvs) :: L) H → tz D (σ.set i (some (.ref p))) H) : tSeq (tAsg te (gName i)) tz D σ H :=
  h H (Ex.refl H) _ fun p kvs H1 hP hp e h1 => k p kvs H1 hP (am.add hp e h1)
/-- a comprehension over its keys -/
theorem el_lcKP {g : Tx → Bool} {f : Tx → V} {P : List (Key × V) → Prop} {j : Nat} {vs : List Nat} (b : Tx → Bool) (v : Tx → V) {xs : List V} (h : EvD td σ H P) (hP : ∀ kvs, P kvs → DF g f kvs ∧ kvs.length ≤ 100000 ∧ ((keysT kvs).filter b).map v = xs)
    (hv : ∀ x, wipe ((wipe σ vs).set j (some x)) vs = wipe σ vs)
    (ht : ∀ w, g w = true → EvT t ((wipe σ vs).set j (some (tS w))) H (b w)) (he : ∀ w, g w = true → b w = true → Ev te ((wipe σ vs).set j (some (tS w))) H (v w)) :
    EvL (tLc (iKeysN td) (gName j) t te vs) σ H xs := fun H1 e Q q =>
  h H1 e _ fun d kvs H2 hk hd e2 h2 => by
    obtain ⟨df, hn, hx⟩ := hP kvs hk
    rw [← hx] at q
    have z := el_lcK (σ := σ) (H := H2) (td := tC (.ref d)) (f := tS) (ns := keysT kvs) (kvs := kvs) (j := j) (vs := vs) (t := t) (te := te) b v
    refine ⟨d, kvs, rfl, h2, fun o => ?_⟩
    have e3 : Ex H1 (upd H2 d (.frz o (.dK kvs))) := e2.mut hd
    have z := el_lc (σ := σ) (H := upd H2 d (.frz o (.dK kvs))) (wi := iKeys (tC (.ref d))) (f := tS) (ns := keysT kvs) (j := j) (vs := vs) (t := t) (te := te) b v
      (by rw [← df.vals]; exact wk_frz upd_same ev_c) (fun _ _ ex s => ex _ _ s) upd_same (by rw [len_keysT]; exact hn) hv (fun n hn => (ht n ((df.mem n).mp hn)).mono (e.trans e3)) (fun n hn hb => (he n ((df.mem n).mp hn) hb).mono (e.trans e3))
    have z2 := z _ (Ex.refl _) Q fun p H3 hp e4 h3 => q p H3 (fresh_back e3 hp) (e3.trans e4) h3
    obtain ⟨d', o', e5, z3⟩ := z2
    cases e5
    rcases z3 with ⟨kvs', hk', z3⟩ | ⟨kvs', hk', _⟩
    · rw [upd_same] at hk'
      cases hk'
      exact z3
    · rw [upd_same] at hk'; cases hk'
/-- w not in a new dict -/
theorem e_dninN {g : Tx → Bool} {f : Tx → V} {P : List (Key × V) → Prop} {w : Tx} (hk : Ev te σ H (tS w)) (h : EvD td σ H P) (hP : ∀ kvs, P kvs → DF g f kvs) : Ev (tDNotIn te td) σ H (.bl (!g w)) := fun H1 e Q q =>
  hk H1 e _ fun H2 e2 => h H2 (e.trans e2) _ fun a kvs H3 hp _ e3 h3 => ⟨a, _, rfl, DGet.k (k := kW w) h3, by
    rw [(hP kvs hp).vl w]
    have q' := q H3 (e2.trans e3)
    by_cases c : g w = true
    · rw [if_pos c]; rw [c] at q'; exact q'
    · rw [if_neg c]
      have c : g w = false := by simpa using c
      rw [c] at q'; exact q'⟩
/-- a new dict's get -/
theorem e_dget2N {g : Tx → Bool} {f : Tx → V} {P : List (Key × V) → Prop} {w : Tx} {z : V} (h : EvD td σ H P) (hP : ∀ kvs, P kvs → DF g f kvs) (hk : Ev te σ H (tS w)) (hz : Ev tx σ H z) : Ev (tDGet2 td te tx) σ H (if g w = true then f w else z) := fun H1 e Q q =>
  h H1 e _ fun a kvs H2 hp _ e2 h2 => ⟨a, rfl, .inl ⟨kvs, .inl h2⟩, hk H2 (e.trans e2) _ fun H3 e3 => hz H3 ((e.trans e2).trans e3) _ fun H4 e4 => ⟨_, DGet.k (k := kW w) ((e3.trans e4) _ _ h2), by
    rw [(hP kvs hp).vl w]
    have q' := q H4 ((e2.trans e3).trans e4)
    by_cases c : g w = true
    · rw [if_pos c] at q' ⊢; exact q'
    · rw [if_neg c] at q' ⊢; exact q'⟩⟩
theorem en_dispT : EvN (tDisp [((tC (tS [])), (tC (tS [])))]) σ H (.dK [(kW [], tS [])]) := fun H1 e Q q => fun p hp => ⟨upd_same, [(kW [], tS [])], rfl, (by show 1 ≤ 15; decide), q p _ hp (Ex.mut (Ex.new hp) hp) upd_same⟩
theorem en_lst {vs : List V} (h : EvA ta σ H vs) (hl : vs.length ≤ 100000) : EvN (tLst ta) σ H (.lst vs) := fun H1 e Q q => el_lst h hl H1 e Q q
end
end Mw
/-! making an object where a parameter has a default -/
namespace Mw
open PySem PySem.Spec PyProof.Rows L2 Evl
structure Mkc0 (P : Program) (w : World) (K : PySem.W.Frag) (mg : Str → Option Value) (base : Heap) (CX : CXT) (k : Nat) (x : Str) (ps : List Str) (C : Addr) (sp : Sp) (dvs : List V) : Prop where
  ex : ∃ f fd ds, FnOk P w K mg base CX k f fd ps sp ∧ mg x = some (.ref C) ∧ Mk K C f ∧ Vals dvs ds ∧ Binds K fd ps ds
structure MkcD (P : Program) (w : World) (K : PySem.W.Frag) (mg : Str → Option Value) (base : Heap) (CX : CXT) (k : Nat) (x : Str) (ps : List Str) (C : Addr) (sp : Sp) (dvs : List V) : Prop where
  to : Mkc P w K mg base CX k x ps C sp
  dflt : Mkc0 P w K mg base CX k x ps C sp dvs
theorem pe_mk0 {X : Cx} {CX : CXT} {k : Nat} {C : Addr} {x : Str} {ps : List Str} {sp : Sp} {E : XK} {dvs : List V} {p pos : Pos} (c : Mkc0 X.prog X.w X.K X.mg X.base CX k x ps C sp dvs) (hr : Room (k + 1) X.A) (hg : Gl X x) (hx : Passes CX X E)
    (hdb : (x == ("__debug__" : Str)) = false := by decide) : PE X (.Call (.Name x p) [] [] pos) (tMake C sp dvs E tNil) := by
  obtain ⟨f, fd, ds, F, hm, M, hd, hb⟩ := c.ex
  exact pe_make0 M F hr hg hm hb hd hx hdb
section
variable {K : PySem.W.Frag}
theorem fund_mk {x qual : Str} {st : Stmt} {f T1 : Addr} {oc : Value} {od an : Option Addr} {osl : Array (Option Value)} {kV doc pm cdv ct : Value} {tc : Value} {td : Option Addr} {tn : Nat} {ts : Array (Option Value)} {tt : Tok}
    (l : K.lookup f = some ⟨oc, od, .func (PySem.W.fnOf x qual (defArgs st) (defBody st) (defScope st) (.ref T1) kV doc pm an cdv ct), osl⟩)
    (c : PySem.W.codeIn K cdv qual = true) (k : PySem.W.keepIn K (.ref f) = true) (lt : K.lookup T1 = some ⟨tc, td, .seq #[.str (PySem.Str.ofString "") tt] tn, ts⟩) :
    FunD K x qual (defArgs st) (defBody st) (defScope st) [tS []] [] f (PySem.W.fnOf x qual (defArgs st) (defBody st) (defScope st) (.ref T1) kV doc pm an cdv ct) :=
  ⟨⟨oc, od, .ref T1, kV, doc, pm, an, cdv, ct, osl, rfl, l, c, .inr ⟨by simp, T1, _, [.str (PySem.Str.ofString "") tt], tn, rfl, lt, rfl, .cons ⟨tt, rfl⟩ .nil⟩, .inl rfl⟩, k⟩
theorem binds_nil {fd : FuncData} {ps : List Str} (h : ∃ ds, Vals [] ds ∧ Binds K fd ps ds) : Binds K fd ps [] := by
  obtain ⟨ds, h1, h2⟩ := h
  cases h1
  exact h2
end
end Mw
/-! int of a truth, text.count of a sign, rows of three with a thing told by what it meets -/
namespace Mw
open PySem PySem.Spec PyProof.Rows L2 Evl
abbrev rIntB : List V → Hp → VK → Prop := fun xs H Q => (∃ i, xs = [.int i] ∧ Q (.int i) H) ∨ ∃ k, xs = [.bl k] ∧ Q (.int (if k then 1 else 0)) H
abbrev rCountT : V → List V → Hp → VK → Prop := fun x xs H Q => ∃ a b, x = .str a ∧ xs = [.str b] ∧ Q (.int (Txt.count a b)) H
theorem occ_one (s : Str) (c hi limit : Nat) : ∀ (n lo : Nat) (st : Array Nat × Nat), st.2 ≤ lo → st.1.size + n ≤ limit → (forIn (List.range' lo n) st (StrLaws.occBody s ⟨#[c]⟩ hi limit)).run.fst.toList = st.1.toList ++ (List.range' lo n).filter fun i => decide (i + 1 ≤ hi) && Builtin.Str.subAt s ⟨#[c]⟩ i
  | 0, lo, st, _, _ => by
    show st.1.toList = _
    rw [show List.range' lo 0 = [] from rfl, List.filter_nil, List.append_nil]
  | n + 1, lo, st, h1, h2 => by
    rw [List.range'_succ, List.forIn_cons]
    unfold StrLaws.occBody
    by_cases hc : (decide (lo + 1 ≤ hi) && Builtin.Str.subAt s ⟨#[c]⟩ lo) = true
    · rw [Bool.and_eq_true, decide_eq_true_eq] at hc
      rw [if_pos ⟨⟨⟨by omega, h1⟩, hc.1⟩, hc.2⟩]
      have ih := occ_one s c hi limit n (lo + 1) (st.1.push lo, lo + 1) (Nat.le_refl _) (by rw [Array.size_push]; omega)
      rw [List.filter_cons_of_pos (p := fun i => decide (i + 1 ≤ hi) && Builtin.Str.subAt s ⟨#[c]⟩ i) (by rw [Bool.and_eq_true, decide_eq_true_eq]; exact hc)]
      refine Eq.trans ih ?_
      rw [Array.toList_push, List.append_assoc]; rfl
    · rw [if_neg fun z => hc (by rw [Bool.and_eq_true, decide_eq_true_eq]; exact ⟨z.1.2, z.2⟩)]
      have ih := occ_one s c hi limit n (lo + 1) (st.1, st.2) (by show st.2 ≤ lo + 1; omega) (by show st.1.size + n ≤ limit; omega)
      rw [List.filter_cons_of_neg (p := fun i => decide (i + 1 ≤ hi) && Builtin.Str.subAt s ⟨#[c]⟩ i) hc]
      exact ih
theorem cnt_filter (c : Nat) : ∀ u : Tx, ((List.range' 0 (u.length + 1)).filter fun i => decide (i + 1 ≤ u.length) && decide ((u.drop i).take 1 = [c])).length = cnt u [c]
  | [] => rfl
  | d :: r => by
    have ih := cnt_filter c r
    have e : List.range' 0 ((d :: r).length + 1) = 0 :: (List.range' 0 (r.length + 1)).map (· + 1) := by
      rw [List.length_cons, List.range'_succ]
      congr 1
      have z := List.map_add_range' (a := 1) 0 (r.length + 1) 1
      rw [Nat.add_comm 1 0] at z
      rw [← z]
      exact List.map_congr_left fun i _ => Nat.add_comm 1 i
    have e2 : ((List.range' 0 (r.length + 1)).map (· + 1)).filter (fun i => decide (i + 1 ≤ (d :: r).length) && decide (((d :: r).drop i).take 1 = [c])) = ((List.range' 0 (r.length + 1)).filter fun i => decide (i + 1 ≤ r.length) && decide ((r.drop i).take 1 = [c])).map (· + 1) := by
      rw [List.filter_map]
      congr 1
      refine List.filter_congr fun i _ => ?_
      show (decide (i + 1 + 1 ≤ r.length + 1) && _) = _
      congr 1
      exact decide_eq_decide.mpr (by omega)
    rw [e]
    show _ = (if [c] <+: d :: r then 1 else 0) + cnt r [c]
    have h1 : ([c] <+: d :: r) ↔ d = c := by
      rw [List.cons_prefix_cons]
      exact ⟨fun z => z.1.symm, fun z => ⟨z.symm, List.nil_prefix⟩⟩
    by_cases h : d = c
    · rw [if_pos (h1.mpr h), List.filter_cons_of_pos (by rw [h]; simp), List.length_cons, e2, List.length_map, ih, Nat.add_comm]
    · rw [if_neg fun z => h (h1.mp z), List.filter_cons_of_neg (by simp [h]), e2, List.length_map, ih, Nat.zero_add]
theorem count_T (u : Tx) (c : Nat) : Txt.count (T u) (T [c]) = ((cnt u [c] : Nat) : Int) := by
  unfold Txt.count
  rw [StrLaws.occ_eq]
  have e : T [c] = ⟨#[c]⟩ := rfl
  rw [e, T_len, occ_one (T u) c u.length (u.length + 1) (u.length + 1 - 0) 0 (#[], 0) (Nat.le_refl _) (by show 0 + (u.length + 1 - 0) ≤ _; omega), ← cnt_filter]
  congr 2
  show ([] : List Nat) ++ _ = _
  rw [List.nil_append]
  refine List.filter_congr fun i _ => ?_
  congr 1
  rw [Bool.eq_iff_iff, decide_eq_true_eq, ← e, sub_at]; rfl
section
variable {K : PySem.W.Frag} {S : List Addr} {H0 H H1 : Hp} {L : List (Addr × HO)} {σ : L2.St} {te tl tx to ti t1 t2 t3 : TE} {ta : TA} {D : Ends} {tz : TS} {x1 x3 : V} {P : V → Hp → Prop}
theorem e_countT {u : Tx} {c : Nat} (h : Ev to σ H (tS u)) (hc : Ev te σ H (tS [c])) : Ev (tM1 rCountT to te) σ H (.int (cnt u [c] : Nat)) := fun H1 e Q q =>
  h H1 e _ fun H2 e2 => ⟨⟨_, rfl⟩, hc H2 (e.trans e2) _ fun H3 e3 => ⟨T u, T [c], rfl, rfl, by rw [count_T]; exact q H3 (e2.trans e3)⟩⟩
theorem rc_intB {b : Bool} : RC rIntB [.bl b] H (.int (if b then 1 else 0)) := fun H1 _ _ q => .inr ⟨b, rfl, q H1 (Ex.refl H1)⟩
theorem ret_tupQ (h1 : ∀ H1, Ex H H1 → Ev t1 σ H1 x1) (h2 : EvQ t2 σ H P) (hm : ∀ v H H', Ex H H' → P v H → P v H') (h3 : ∀ H1, Ev t3 σ H1 x3) (k : ∀ p v H', Ex H H' → H' p = some (.tup [x1, v, x3]) → P v H' → D.rt (.ref p) H') :
    tRet (tTup (tCons t1 (tCons t2 (tCons t3 tNil)))) D σ H :=
  h1 H (Ex.refl H) H (Ex.refl H) _ fun H2 e2 => h2 H2 e2 _ fun v H3 e3 pv => h3 H3 H3 (Ex.refl H3) _ fun H4 e4 => ⟨sz6 (by show 3 ≤ 1000000; decide), fun p hp =>
    k p v _ (((e2.trans e3).trans e4).trans (Ex.new hp)) upd_same (hm _ _ _ (e4.trans (Ex.new hp)) pv)⟩
/-- one of two written texts -/
theorem e_two {a b : Tx} {i : Int} (hi : ∀ H1, Ex H H1 → Ev ti σ H1 (.int i)) (h : i = 0 ∨ i = 1) : Ev (tOp (rIxL K) (tLst (tCons (tC (tS a)) (tCons (tC (tS b)) tNil))) ti) σ H (tS (if i = 0 then a else b)) :=
  ev_opL1 (el_lst (vs := [tS a, tS b]) (ea_cons ev_c (ea_cons ev_c ea_nil)) (by show 2 ≤ 100000; decide)) hi fun p H1 h1 e => rv_ixL (K := K) (sq_of h1) (by
    rcases h with rfl | rfl
    · exact atI_nat (j := 0) rfl
    · exact atI_nat (j := 1) rfl)
end
end Mw
namespace Mw
open PySem PySem.Spec PyProof.Rows L2 Evl
local macro_rules | `(tactic| walk_at "sd") => `(tactic| (first
  | assumption
  | omega
  | decide
  | (simp only [List.length_append, List.length_cons, List.length_nil, List.length_reverse, List.length_take, List.length_drop, List.length_map, List.length_range] at *; omega)
  | skip))
local macro_rules | `(tactic| walk_at "ev") => `(tactic| (first
  | ((with_reducible apply ev_var); rfl)
  | (with_reducible exact ev_c)
  | ((with_reducible apply ev_op) <;> walk_at "ev")
  | ((with_reducible apply e_negI) <;> walk_at "ev")
  | ((with_reducible apply et_test) <;> walk_at "ev")
  | ((with_reducible apply et_B) <;> walk_at "ev")
  | ((with_reducible apply et_and); (focus walk_at "ev"); intro hq; (try simp only [Bool.and_eq_true, Bool.or_eq_true, decide_eq_true_eq, Bool.not_eq_true', decide_eq_false_iff_not, Bool.and_eq_false_iff, Bool.or_eq_false_iff, Bool.not_eq_false'] at hq); walk_at "ev")
  | ((with_reducible apply et_or); (focus walk_at "ev"); intro hq; (try simp only [Bool.and_eq_true, Bool.or_eq_true, decide_eq_true_eq, Bool.not_eq_true', decide_eq_false_iff_not, Bool.and_eq_false_iff, Bool.or_eq_false_iff, Bool.not_eq_false'] at hq); walk_at "ev")
  | ((with_reducible apply ev_andV); (focus walk_at "ev"); intro hq; (try simp only [Bool.and_eq_true, Bool.or_eq_true, decide_eq_true_eq, Bool.not_eq_true', decide_eq_false_iff_not, Bool.and_eq_false_iff, Bool.or_eq_false_iff, Bool.not_eq_false'] at hq); walk_at "ev")
  | ((with_reducible apply ev_orV); (focus walk_at "ev"); intro hq; (try simp only [Bool.and_eq_true, Bool.or_eq_true, decide_eq_true_eq, Bool.not_eq_true', decide_eq_false_iff_not, Bool.and_eq_false_iff, Bool.or_eq_false_iff, Bool.not_eq_false'] at hq); walk_at "ev")
  | ((with_reducible apply e_if); (focus walk_at "ev"); (focus (intro hq; (try simp only [Bool.and_eq_true, Bool.or_eq_true, decide_eq_true_eq, Bool.not_eq_true', decide_eq_false_iff_not, Bool.and_eq_false_iff, Bool.or_eq_false_iff, Bool.not_eq_false'] at hq); walk_at "ev")); (intro hq; (try simp only [Bool.and_eq_true, Bool.or_eq_true, decide_eq_true_eq, Bool.not_eq_true', decide_eq_false_iff_not, Bool.and_eq_false_iff, Bool.or_eq_false_iff, Bool.not_eq_false'] at hq); walk_at "ev"))
  | ((with_reducible apply et_not) <;> walk_at "ev")
  | ((with_reducible apply ev_notV) <;> walk_at "ev")
  | (with_reducible exact et_yes)
  | (with_reducible exact ea_nil)
  | ((with_reducible apply ea_cons) <;> walk_at "ev")
  | (with_reducible exact eo_none)
  | ((with_reducible apply eo_some) <;> walk_at "ev")
  | ((with_reducible apply e_slBut) <;> walk_at "ev")
  | ((with_reducible apply e_slIn) <;> walk_at "ev")
  | ((with_reducible apply e_slTo) <;> walk_at "ev")
  | ((with_reducible apply e_slFrom) <;> walk_at "ev")
  | ((with_reducible apply e_slMid) <;> walk_at "ev")
  | ((with_reducible apply e_rev) <;> walk_at "ev")
  | (with_reducible exact rv_I0)
  | (with_reducible exact r_eqI) | (with_reducible exact r_neI) | (with_reducible exact r_eqS) | (with_reducible exact r_neS)
  | (with_reducible exact r_inC) | (with_reducible exact r_ninC) | (with_reducible exact r_isN) | (with_reducible exact r_notN)
  | (with_reducible exact r_ltT) | (with_reducible exact r_gtT)
  | (with_reducible exact rc_max2) | (with_reducible exact rc_min2)
  | ((with_reducible apply r_divI) <;> walk_at "sd") | ((with_reducible apply r_modI) <;> walk_at "sd") | ((with_reducible apply r_mulI) <;> walk_at "sd")
  | ((with_reducible apply r_ixS) <;> walk_at "sd")
  | ((with_reducible apply r_addT) <;> walk_at "sd")
  | ((with_reducible apply r_mulT) <;> walk_at "sd")
  | ((with_reducible apply rc_lenT) <;> walk_at "sd")
  | ((with_reducible apply rc_lenL) <;> walk_at "sd")
  | ((with_reducible apply ev_cb) <;> walk_at "ev")
  | walk_at "evc"
  | walk_at "sd"))

/-! ## is_text, need_text -/
def isTx (l : Tx) : Bool := decide (l.length ≤ 200) && l.all fun c => decide (c ∈ letters)
/-- what a def that asks for a text is handed: a text, or no text at all -/
def Thing (K : PySem.W.Frag) (H : Hp) (v : V) (o : Option Tx) : Prop := (∃ l, v = tS l ∧ l.length ≤ 1000 ∧ o = some l) ∨ (Odd K H v ∧ o = none)
theorem Thing.ex {K : PySem.W.Frag} {H H1 : Hp} {v : V} {o : Option Tx} (e : Ex H H1) (h : Thing K H v o) : Thing K H1 v o := by
  rcases h with h | ⟨h, r⟩
  · exact .inl h
  · exact .inr ⟨h.ex e, r⟩
def oTx (o : Option Tx) : Bool := match o with
  | some l => isTx l
  | none => false
def sp_is_text (A : Ad) : Sp := spV fun vs H v => ∃ x o, vs = [x] ∧ Thing A.K H x o ∧ v = .bl (oTx o)
def t_is_text (A : Ad) : TS :=
  (tRet (tAndV (tCB (rIsi A.K) (tCons (tVar 0) (tCons (tC (.ty "str")) tNil))) (tAndV (tOp rLeI (tCB rLenT (tCons (tVar 0) tNil)) (tC (.int 200))) (tCB (rAll A.K) (tCons (tLc (iStr (tVar 0)) (gName 1) tYes (tOp rInC (tVar 1) (tC (tS letters))) [1]) tNil)))))

theorem len_is_text (A : Ad) : ∀ vs H Q E, sp_is_text A vs H Q E → vs.length = 1 := fun vs H Q E h => by
  obtain ⟨v, ⟨x, o, rfl, _⟩, _⟩ := h
  rfl
theorem pu_is_text (A : Ad) (vs : List V) (H : Hp) (Q : VK) (E : XK) (h : sp_is_text A vs H Q E) : t_is_text A { nx := fun _ H' => Q .non H', rt := Q } (start ["thing", "sign"] vs) H := by
  obtain ⟨v, ⟨x, o, rfl, ho, rfl⟩, k⟩ := h
  show t_is_text A _ [some x, none] H
  unfold t_is_text
  have am := Am.start H
  rcases ho with ⟨l, rfl, hl, rfl⟩ | ⟨ho, rfl⟩
  · refine a_ret (v := .bl (oTx (some l))) am ?_ fun H1 am => k H1 am.toEx
    refine ev_is (ev_andV (a := true) (b := decide ((l.length : Int) ≤ 200) && (l.map fun c => decide (c ∈ letters)).all id) (ev_cb (ea_cons (ev_var rfl) (ea_cons ev_c ea_nil)) (rc_isi (t := .type "str") (fun _ _ => .base (.str _)) (.ty "str") (kit_ty (by decide +kernel)))) fun _ =>
      ev_andV (by walk_at "ev") fun _ => e_cbN (xs := (l.map fun c => decide (c ∈ letters)).map V.bl) ?_ fun p H1 e h1 => rc_all (sq_of h1)) ?_
    · rw [List.map_map]
      exact el_lcY (v := V.bl ∘ fun c => decide (c ∈ letters)) (wk_text (ev_var rfl)) (fun _ _ => pm_true) trivial (by omega) (fun _ => rfl) fun n _ => ev_op (ev_var rfl) ev_c r_inC
    · show V.bl (true && (decide ((l.length : Int) ≤ 200) && (l.map fun c => decide (c ∈ letters)).all id)) = V.bl (isTx l)
      congr 1
      rw [Bool.true_and, List.all_map]
      unfold isTx
      congr 1
      exact decide_eq_decide.mpr (by omega)
  · obtain ⟨n, ty, hn⟩ := ho
    refine a_ret (v := .bl false) am ?_ fun H1 am => k H1 am.toEx
    exact ev_andV (a := false) (b := false) (ev_cb (ea_cons (ev_var rfl) (ea_cons ev_c ea_nil)) (rc_isi (t := .type n) (fun _ e => tyX_ex e ty) (.ty "str") (odd_str hn))) fun z => Bool.noConfusion z
theorem c_is_text_ {A : Ad} {σ : L2.St} {H : Hp} {te : TE} {x : V} {o : Option Tx} (h : Ev te σ H x) (hx : Thing A.K H x o) : Ev (tCall (sp_is_text A) [] E0 (tCons te tNil)) σ H (.bl (oTx o)) :=
  e_callV (ea_cons h ea_nil) fun _ e => ⟨x, o, rfl, hx.ex e, rfl⟩

def sp_need_text (A : Ad) : Sp := spVX (fun vs H v => ∃ x o, vs = [x] ∧ Thing A.K H x o ∧ oTx o = true ∧ v = .non) fun vs H C => ∃ x o, vs = [x] ∧ Thing A.K H x o ∧ oTx o = false ∧ C = A.cBT
def t_need_text (A : Ad) (E : XK) : TS :=
  (tIfS (tNot (tB (tCall (sp_is_text A) [] E0 (tCons (tVar 0) tNil)))) (tRz E A.cBT) tNext)

theorem len_need_text (A : Ad) : ∀ vs H Q E, sp_need_text A vs H Q E → vs.length = 1 := fun vs H Q E h => by
  rcases h with ⟨v, ⟨x, o, rfl, _⟩, _⟩ | ⟨C, ⟨x, o, rfl, _⟩, _⟩ <;> rfl
theorem pu_need_text (A : Ad) (vs : List V) (H : Hp) (Q : VK) (E : XK) (h : sp_need_text A vs H Q E) : t_need_text A E { nx := fun _ H' => Q .non H', rt := Q } (start ["thing"] vs) H := by
  rcases h with ⟨v, ⟨x, o, rfl, ho, hb, rfl⟩, k⟩ | ⟨C, ⟨x, o, rfl, ho, hb, rfl⟩, k⟩
  · show t_need_text A E _ [some x] H
    unfold t_need_text
    refine a_if (Am.start H) (et_not (et_B (c_is_text_ (ev_var rfl) ho))) (fun z => ?_) fun _ H1 am => k H1 am.toEx
    rw [hb] at z; cases z
  · show t_need_text A E _ [some x] H
    unfold t_need_text
    refine a_if (Am.start H) (et_not (et_B (c_is_text_ (ev_var rfl) ho))) (fun _ H1 am => k H1 am.toEx) fun z => ?_
    rw [hb] at z; cases z
/-! ### a statement that only asks -/
section
variable {A : Ad} {S : List Addr} {H0 H : Hp} {L : List (Addr × HO)} {σ : L2.St} {te : TE} {D : Ends} {tz : TS} {x : V} {o : Option Tx} {E : XK}
theorem aq_need_text (am : Am S H0 L H) (h : Ev te σ H x) (hx : Thing A.K H x o) (hb : oTx o = true) (k : ∀ H, Am S H0 L H → tz D σ H) : tSeq (tDrop (tCall (sp_need_text A) [] E (tCons te tNil))) tz D σ H :=
  aq_drop am (v := .non) (e_callVX (ea_cons h ea_nil) fun _ e => ⟨x, o, rfl, hx.ex e, hb, rfl⟩) k
theorem xq_need_text (am : Am S H0 L H) (h : Ev te σ H x) (hx : Thing A.K H x o) (hb : oTx o = false) (k : ∀ H, Am S H0 L H → E (.ref A.cBT) none H) : tSeq (tDrop (tCall (sp_need_text A) [] E (tCons te tNil))) tz D σ H :=
  h H (Ex.refl H) _ fun H1 e1 => .inr ⟨A.cBT, ⟨x, o, rfl, hx.ex e1, hb, rfl⟩, fun H2 e2 => k H2 (am.ex (e1.trans e2))⟩
end

/-! ## arm_at -/
def t_arm_at (A : Ad) : TS :=
  (tSeq (tAsg (tOp rDivI (tOp rSubI (tVar 1) (tC (.int 1))) (tC (.int 2))) (gName 2))
  (tSeq (tAsg (tOp rAddI (tOp rDivI (tVar 1) (tC (.int 2))) (tC (.int 1))) (gName 3))
  (tSeq (tAsg (tC (.int 0)) (gName 4))
  (tSeq (tWhile (tAnd (tTest (tOp rGeI (tVar 2) (tC (.int 0)))) (tAnd (tTest (tOp rLtI (tVar 3) (tCB rLenT (tCons (tVar 0) tNil)))) (tTest (tOp rEq (tOp rIxS (tVar 0) (tVar 2)) (tOp rIxS (tVar 0) (tVar 3))))))
  (tSeq (tAsg (tOp rAddI (tVar 4) (tC (.int 1))) (gName 4))
  (tSeq (tAsg (tOp rSubI (tVar 2) (tC (.int 1))) (gName 2))
  (tAsg (tOp rAddI (tVar 3) (tC (.int 1))) (gName 3)))))
  (tRet (tVar 4))))))

theorem rd_arm_at (A : Ad) {l : Tx} {m : Nat} {H : Hp} {D : Ends} (hl : l.length ≤ 1000) (k_ : ∀ H', Ex H H' → D.rt (.int (armN l m)) H') :
    t_arm_at A D [some (tS l), some (.int m), none, none, none] H := by
  unfold t_arm_at
  have am := Am.start H
  refine aq_asg am (by walk_at "ev") fun H1 am => ?_
  refine aq_asg am (by walk_at "ev") fun H2 am => ?_
  refine aq_asg am (by walk_at "ev") fun H3 am => ?_
  dsimp only [List.set]
  refine aq_while (fun k σ' H' => ∃ b c : Nat, σ' = [some (tS l), some (.int m), some (.int ((k : Int) - 1)), some (.int b), some (.int c)] ∧ Am [] H [] H' ∧ k ≤ b ∧ c + ext l k b = armN l m) ((m + 1) / 2)
    ⟨m / 2 + 1, 0, ?_, am, by omega, by unfold armN; omega⟩ fun k σ' H' hw => ?_
  · rw [show ((m : Int) - 1) / 2 = (((m + 1) / 2 : Nat) : Int) - 1 by omega]
    rfl
  · obtain ⟨b, c, rfl, am, hkb, hx⟩ := hw
    refine ⟨_, by walk_at "ev", fun h H1 e N hN => ?_, fun h H1 e => ?_⟩
    · have am := am.ex e
      simp only [Bool.and_eq_true, decide_eq_true_eq, List.cons.injEq, and_true] at h
      obtain ⟨h1, h2, h3⟩ := h
      obtain ⟨k, rfl⟩ : ∃ k', k = k' + 1 := ⟨k - 1, by omega⟩
      have hh : b < l.length ∧ l.getD k 0 = l.getD b 0 := ⟨by omega, by
        have e1 : ((k + 1 : Nat) : Int) - 1 = (k : Int) := by omega
        rw [e1] at h3
        simpa [at0] using h3⟩
      refine aq_asg am (by walk_at "ev") fun H1 am => ?_
      refine aq_asg am (by walk_at "ev") fun H1 am => ?_
      refine a_asg am (by walk_at "ev") fun H1 am => ?_
      dsimp only [List.set]
      refine hN k _ _ (Nat.lt_succ_self k) ⟨b + 1, c + 1, ?_, am, by omega, ?_⟩
      · rw [show ((k + 1 : Nat) : Int) - 1 - 1 = (k : Int) - 1 by omega]
        rfl
      · rw [ext, if_pos hh] at hx
        omega
    · have am := am.ex e
      refine a_ret am (by walk_at "ev") fun H1 am => ?_
      have e0 : ext l k b = 0 := by
        cases k with
        | zero => rfl
        | succ k =>
          rw [ext, if_neg]
          intro hh
          have e1 : ((k + 1 : Nat) : Int) - 1 = (k : Int) := by omega
          rw [e1] at h
          simp only [Bool.and_eq_false_iff, decide_eq_false_iff_not, List.cons.injEq, and_true] at h
          have h5 := hh.2
          rcases h with h | h | h
          · omega
          · omega
          · exact h (by simpa [at0] using h5)
      rw [e0, Nat.add_zero] at hx
      rw [hx]
      exact k_ _ am.toEx

def sp_arm_at (A : Ad) : Sp := spV fun vs H v => ∃ (l : Tx) (m : Nat), vs = [tS l, .int m] ∧ l.length ≤ 1000 ∧ v = .int (armN l m)
theorem len_arm_at (A : Ad) : ∀ vs H Q E, sp_arm_at A vs H Q E → vs.length = 2 := fun vs H Q E h => by
  obtain ⟨v, ⟨l, m, rfl, _⟩, _⟩ := h
  rfl
theorem pu_arm_at (A : Ad) (vs : List V) (H : Hp) (Q : VK) (E : XK) (h : sp_arm_at A vs H Q E) : t_arm_at A { nx := fun _ H' => Q .non H', rt := Q } (start ["text", "middle", "left", "right", "found"] vs) H := by
  obtain ⟨v, ⟨l, m, rfl, hl, rfl⟩, k⟩ := h
  exact rd_arm_at A hl k

theorem c_arm_at_ {A : Ad} {σ : L2.St} {H : Hp} {te tm : TE} {l : Tx} {m : Nat} (h : Ev te σ H (tS l)) (hm : Ev tm σ H (.int m)) (hl : l.length ≤ 1000) : Ev (tCall (sp_arm_at A) [] E0 (tCons te (tCons tm tNil))) σ H (.int (armN l m)) :=
  e_callV (ea_cons h (ea_cons hm ea_nil)) fun _ e => ⟨l, m, rfl, hl, rfl⟩

/-! ## arms_of, arms -/
def armsN (l : Tx) : List Nat := (List.range (2 * l.length - 1)).map (armN l)
def vN (n : Nat) : V := .int n
theorem range_split {N : Nat} {pre post : List Nat} {n : Nat} (h : List.range N = pre ++ n :: post) : pre = List.range n ∧ n < N := by
  have hl : (List.range N)[pre.length]? = some n := by rw [h]; simp
  have hp : pre.length < N := by
    have := (List.getElem?_eq_some_iff.mp hl).1
    simpa using this
  rw [List.getElem?_range hp] at hl
  have e : pre.length = n := Option.some.inj hl
  refine ⟨?_, by omega⟩
  have t : (List.range N).take pre.length = pre := by rw [h]; simp
  rw [List.take_range, Nat.min_eq_left (by omega), e] at t
  exact t.symm
theorem range_at {n i : Nat} (h : i < n) : (List.range n)[((i : Nat) : Int).toNat]? = some i := by
  rw [Int.toNat_natCast]
  exact List.getElem?_range h
def sp_arms_of (A : Ad) : Sp := spL fun vs H xs => ∃ l : Tx, vs = [tS l] ∧ l.length ≤ 1000 ∧ xs = (armsN l).map vN
def t_arms_of (A : Ad) : TS :=
  (tSeq (tAsg (tLst tNil) (gName 1))
  (tSeq (tAsg (tC (.int 0)) (gName 2))
  (tSeq (tAsg (tC (.int 0)) (gName 3))
  (tSeq (tFor (iRng1 (tCons (tOp rSubI (tOp rMulI (tC (.int 2)) (tCB rLenT (tCons (tVar 0) tNil))) (tC (.int 1))) tNil)) (gName 4)
  (tSeq (tAsg (tOp rSubI (tOp rMulI (tC (.int 2)) (tVar 2)) (tVar 4)) (gName 5))
  (tSeq (tIfS (tAnd (tTest (tOp rLtI (tVar 4) (tOp rMulI (tC (.int 2)) (tVar 3)))) (tAnd (tTest (tOp rGeI (tVar 5) (tC (.int 0)))) (tTest (tOp rLtI (tOp rAddI (tOp rDivI (tOp rAddI (tVar 4) (tC (.int 1))) (tC (.int 2))) (tOp (rIxL A.K) (tVar 1) (tVar 5))) (tVar 3))))) (tDrop (tBM A.K "list" rAppend (tVar 1) (tCons (tOp (rIxL A.K) (tVar 1) (tVar 5)) tNil))) (tDrop (tBM A.K "list" rAppend (tVar 1) (tCons (tCall (sp_arm_at A) [] E0 (tCons (tVar 0) (tCons (tVar 4) tNil))) tNil))))
  (tIfS (tTest (tOp rGtI (tOp rAddI (tOp rDivI (tVar 4) (tC (.int 2))) (tOp (rIxL A.K) (tVar 1) (tVar 4))) (tVar 3))) (tSeq (tAsg (tVar 4) (gName 2))
  (tAsg (tOp rAddI (tOp rDivI (tVar 4) (tC (.int 2))) (tOp (rIxL A.K) (tVar 1) (tVar 4))) (gName 3))) tNext))))
  (tRet (tVar 1))))))

theorem len_arms_of (A : Ad) : ∀ vs H Q E, sp_arms_of A vs H Q E → vs.length = 1 := fun vs H Q E h => by
  obtain ⟨v, ⟨l, rfl, _⟩, _⟩ := h
  rfl
theorem pu_arms_of (A : Ad) (vs : List V) (H : Hp) (Q : VK) (E : XK) (h : sp_arms_of A vs H Q E) : t_arms_of A { nx := fun _ H' => Q .non H', rt := Q } (start ["text", "found", "about", "end", "middle", "other"] vs) H := by
  obtain ⟨v, ⟨l, rfl, hl, rfl⟩, k⟩ := h
  show t_arms_of A _ [some (tS l), none, none, none, none, none] H
  unfold t_arms_of
  have am := Am.start H
  refine aq_asgL am (el_lst ea_nil (by decide)) fun p H1 am => ?_
  refine aq_asg am (by walk_at "ev") fun H1 am => ?_
  refine aq_asg am (by walk_at "ev") fun H1 am => ?_
  dsimp only [List.set]
  refine aq_for (ns := List.range (2 * (l.length : Int) - 1).toNat) (f := fun i => .int (i : Nat)) (fun pre σ' H' => ∃ (a : Nat) (v4 v5 : Option V), σ' = [some (tS l), some (.ref p), some (.int a), some (.int (a / 2 + armN l a : Nat)), v4, v5] ∧
    Am [] H [(p, .lst ((pre.map (armN l)).map vN))] H' ∧ (a < pre.length ∨ (a = 0 ∧ pre = []))) am (wk_range1 (by walk_at "ev") (by omega)) (fun H1 am => ⟨0, none, none, ?_, am, .inr ⟨rfl, rfl⟩⟩) (fun _ _ _ _ => trivial) ?_ ?_
  · rw [show (0 / 2 + armN l 0 : Nat) = 0 from rfl]
    rfl
  · rintro pre n post σ' H' hs ⟨a, v4, v5, rfl, am, ha⟩
    obtain ⟨rfl, hn⟩ := range_split hs
    rw [List.length_range] at ha
    have hn' : n < 2 * l.length - 1 := by omega
    have han : a ≤ n := by
      rcases ha with c | ⟨c, _⟩
      · omega
      · omega
    have hin : a / 2 + armN l a < l.length := arm_in (by omega)
    dsimp only [List.set]
    refine aq_asg am (by walk_at "ev") fun H1 am => ?_
    dsimp only [List.set]
    have at_ : ∀ {H1 : Hp}, Am [] H [(p, .lst (((List.range n).map (armN l)).map vN))] H1 → ∀ o : Nat, o < n → ∀ {te : TE} {σ : L2.St}, Ev te σ H1 (.int (o : Nat)) → σ[1]? = some (some (.ref p)) → Ev (tOp (rIxL A.K) (tVar 1) te) σ H1 (.int (armN l o)) := fun {H1} am o ho {te σ} h1 h2 =>
      ev_op (ev_var h2) h1 (rv_ixL (K := A.K) (sq_of (am.at 0 rfl)) (by
        rw [List.map_map]
        exact atI_map (f := vN ∘ armN l) (by omega) (range_at ho)))
    -- the tail of a turn: found[middle] is there
    have last : ∀ {H1 : Hp} {v5 : Option V}, Am [] H [(p, .lst (((List.range (n + 1)).map (armN l)).map vN))] H1 →
        (tIfS (tTest (tOp rGtI (tOp rAddI (tOp rDivI (tVar 4) (tC (.int 2))) (tOp (rIxL A.K) (tVar 1) (tVar 4))) (tVar 3))) (tSeq (tAsg (tVar 4) (gName 2)) (tAsg (tOp rAddI (tOp rDivI (tVar 4) (tC (.int 2))) (tOp (rIxL A.K) (tVar 1) (tVar 4))) (gName 3))) tNext)
        { nx := fun σ' H' => ∃ (a : Nat) (v4 v5 : Option V), σ' = [some (tS l), some (.ref p), some (.int a), some (.int (a / 2 + armN l a : Nat)), v4, v5] ∧ Am [] H [(p, .lst (((List.range n ++ [n]).map (armN l)).map vN))] H' ∧ (a < (List.range n ++ [n]).length ∨ (a = 0 ∧ List.range n ++ [n] = [])),
          rt := Q, bk := fun σ' H' => tRet (tVar 1) { nx := fun _ H' => Q .non H', rt := Q } σ' H', ct := fun σ' H' => ∃ (a : Nat) (v4 v5 : Option V), σ' = [some (tS l), some (.ref p), some (.int a), some (.int (a / 2 + armN l a : Nat)), v4, v5] ∧ Am [] H [(p, .lst (((List.range n ++ [n]).map (armN l)).map vN))] H' ∧ (a < (List.range n ++ [n]).length ∨ (a = 0 ∧ List.range n ++ [n] = [])) }
        [some (tS l), some (.ref p), some (.int a), some (.int (a / 2 + armN l a : Nat)), some (.int n), v5] H1 := fun {H1 v5} am => by
      have it : ∀ {H1 : Hp} {σ : L2.St}, Am [] H [(p, .lst (((List.range (n + 1)).map (armN l)).map vN))] H1 → σ[1]? = some (some (.ref p)) → σ[4]? = some (some (.int n)) → Ev (tOp rAddI (tOp rDivI (tVar 4) (tC (.int 2))) (tOp (rIxL A.K) (tVar 1) (tVar 4))) σ H1 (.int (((n : Nat) : Int) / 2 + (armN l n : Nat))) := fun {H1 σ} am h1 h4 =>
        ev_op (ev_op (ev_var h4) ev_c (r_divI ⟨by decide, by decide⟩)) (ev_op (ev_var h1) (ev_var h4) (rv_ixL (K := A.K) (sq_of (am.at 0 rfl)) (by
          rw [List.map_map]
          exact atI_map (f := vN ∘ armN l) (by omega) (range_at (Nat.lt_succ_self n))))) rv_I0
      rw [← List.range_succ]
      refine a_if am (et_test (ev_op (it am rfl rfl) (ev_var rfl) rv_I0)) (fun c H1 am => ?_) fun c H1 am => ?_
      · refine aq_asg am (by walk_at "ev") fun H1 am => ?_
        refine a_asg am (it am rfl rfl) fun H1 am => ?_
        dsimp only [List.set]
        refine ⟨n, some (.int n), v5, ?_, am, .inl (by simp)⟩
        rw [show (((n / 2 + armN l n : Nat)) : Int) = ((n : Nat) : Int) / 2 + (armN l n : Nat) by omega]
      · refine ⟨a, some (.int n), v5, rfl, am, .inl ?_⟩
        simp only [List.length_range]
        omega
    refine aq_if am (b := decide ((n : Int) < 2 * ((a / 2 + armN l a : Nat) : Int)) && (decide ((0 : Int) ≤ 2 * (a : Int) - n) && decide (((n : Int) + 1) / 2 + (armN l (2 * a - n) : Nat) < ((a / 2 + armN l a : Nat) : Int)))) ?_ (fun c H1 am => ?_) fun c H1 am => ?_
    · refine et_and (by walk_at "ev") fun c1 => et_and (by walk_at "ev") fun c2 => ?_
      have c1 := of_decide_eq_true c1
      have c2 := of_decide_eq_true c2
      have ho : 2 * a - n < n := by
        rcases ha with c | ⟨rfl, _⟩
        · omega
        · have : armN l 0 = 0 := rfl
          omega
      refine et_test (ev_op (ev_op (by walk_at "ev") (at_ am (2 * a - n) ho (ev_is (ev_var rfl) ?_) rfl) rv_I0) (by walk_at "ev") rv_I0)
      rw [show ((2 * a - n : Nat) : Int) = 2 * (a : Int) - n by omega]
    · simp only [Bool.and_eq_true, decide_eq_true_eq] at c
      obtain ⟨c1, c2, c3⟩ := c
      have ho : 2 * a - n < n := by
        rcases ha with c | ⟨rfl, _⟩
        · omega
        · have : armN l 0 = 0 := rfl
          omega
      have em : armN l n = armN l (2 * a - n) := arm_mirror han (by omega) hin (by omega)
      refine a_app 0 am rfl (ev_var rfl) (at_ am (2 * a - n) ho (ev_is (ev_var rfl) ?_) rfl) (by simp; omega) fun H1 am => last ?_
      · rw [show ((2 * a - n : Nat) : Int) = 2 * (a : Int) - n by omega]
      · rw [List.range_succ, List.map_append, List.map_append]
        rw [← em] at am
        exact am
    · refine a_app 0 am rfl (ev_var rfl) (c_arm_at_ (ev_var rfl) (ev_var rfl) hl) (by simp; omega) fun H1 am => last ?_
      rw [List.range_succ, List.map_append, List.map_append]
      exact am
  · rintro σ' H' ⟨a, v4, v5, rfl, am, ha⟩
    refine a_ret am (ev_var rfl) fun H1 am => k p H1 (am.free 0 rfl) am.toEx ?_
    have e : (2 * (l.length : Int) - 1).toNat = 2 * l.length - 1 := by omega
    rw [e] at am
    exact am.at 0 rfl
theorem c_arms_of_ {A : Ad} {σ : L2.St} {H : Hp} {te : TE} {l : Tx} (h : Ev te σ H (tS l)) (hl : l.length ≤ 1000) : EvL (tCall (sp_arms_of A) [] E0 (tCons te tNil)) σ H ((armsN l).map vN) :=
  e_callL (ea_cons h ea_nil) fun _ e => ⟨l, rfl, hl, rfl⟩

def sp_arms (A : Ad) : Sp := spLX (fun vs H xs => ∃ x l, vs = [x] ∧ Thing A.K H x (some l) ∧ isTx l = true ∧ xs = (armsN l).map vN) fun vs H C => ∃ x o, vs = [x] ∧ Thing A.K H x o ∧ oTx o = false ∧ C = A.cBT
def t_arms (A : Ad) (E : XK) : TS :=
  (tSeq (tDrop (tCall (sp_need_text A) [] E (tCons (tVar 0) tNil)))
  (tRet (tCall (sp_arms_of A) [] E0 (tCons (tVar 0) tNil))))

theorem len_arms (A : Ad) : ∀ vs H Q E, sp_arms A vs H Q E → vs.length = 1 := fun vs H Q E h => by
  rcases h with ⟨v, ⟨x, o, rfl, _⟩, _⟩ | ⟨C, ⟨x, o, rfl, _⟩, _⟩ <;> rfl
theorem thing_tx {K : PySem.W.Frag} {H : Hp} {x : V} {l : Tx} (h : Thing K H x (some l)) : x = tS l ∧ l.length ≤ 1000 := by
  rcases h with ⟨l', rfl, h, e⟩ | ⟨_, e⟩
  · cases e
    exact ⟨rfl, h⟩
  · cases e
theorem pu_arms (A : Ad) (vs : List V) (H : Hp) (Q : VK) (E : XK) (h : sp_arms A vs H Q E) : t_arms A E { nx := fun _ H' => Q .non H', rt := Q } (start ["text"] vs) H := by
  rcases h with ⟨xs, ⟨x, l, rfl, hx, hb, rfl⟩, k⟩ | ⟨C, ⟨x, o, rfl, hx, hb, rfl⟩, k⟩
  · show t_arms A E _ [some x] H
    unfold t_arms
    obtain ⟨rfl, hl⟩ := thing_tx hx
    refine aq_need_text (Am.start H) (ev_var rfl) hx hb fun H1 am => ?_
    exact a_retL am (c_arms_of_ (ev_var rfl) hl) fun p H2 am => k p H2 (am.free 0 rfl) am.toEx (am.at 0 rfl)
  · show t_arms A E _ [some x] H
    unfold t_arms
    exact xq_need_text (Am.start H) (ev_var rfl) hx hb fun H1 am => k H1 am.toEx
theorem c_arms_ {A : Ad} {σ : L2.St} {H : Hp} {te : TE} {l : Tx} {E : XK} (h : Ev te σ H (tS l)) (hb : isTx l = true) (hl : l.length ≤ 1000) : EvL (tCall (sp_arms A) [] E (tCons te tNil)) σ H ((armsN l).map vN) :=
  e_callLX (ea_cons h ea_nil) fun _ e => ⟨tS l, l, rfl, .inl ⟨l, rfl, hl, rfl⟩, hb, rfl⟩

end Mw
namespace Mw
open PySem PySem.Spec PyProof.Rows L2 Evl
local macro_rules | `(tactic| walk_at "sd") => `(tactic| (first
  | assumption
  | omega
  | decide
  | (simp only [List.length_append, List.length_cons, List.length_nil, List.length_reverse, List.length_take, List.length_drop, List.length_map, List.length_range] at *; omega)
  | skip))
local macro_rules | `(tactic| walk_at "ev") => `(tactic| (first
  | ((with_reducible apply ev_var); rfl)
  | (with_reducible exact ev_c)
  | ((with_reducible apply ev_op) <;> walk_at "ev")
  | ((with_reducible apply e_negI) <;> walk_at "ev")
  | ((with_reducible apply et_test) <;> walk_at "ev")
  | ((with_reducible apply et_B) <;> walk_at "ev")
  | ((with_reducible apply et_and); (focus walk_at "ev"); intro hq; (try simp only [Bool.and_eq_true, Bool.or_eq_true, decide_eq_true_eq, Bool.not_eq_true', decide_eq_false_iff_not, Bool.and_eq_false_iff, Bool.or_eq_false_iff, Bool.not_eq_false'] at hq); walk_at "ev")
  | ((with_reducible apply et_or); (focus walk_at "ev"); intro hq; (try simp only [Bool.and_eq_true, Bool.or_eq_true, decide_eq_true_eq, Bool.not_eq_true', decide_eq_false_iff_not, Bool.and_eq_false_iff, Bool.or_eq_false_iff, Bool.not_eq_false'] at hq); walk_at "ev")
  | ((with_reducible apply ev_andV); (focus walk_at "ev"); intro hq; (try simp only [Bool.and_eq_true, Bool.or_eq_true, decide_eq_true_eq, Bool.not_eq_true', decide_eq_false_iff_not, Bool.and_eq_false_iff, Bool.or_eq_false_iff, Bool.not_eq_false'] at hq); walk_at "ev")
  | ((with_reducible apply ev_orV); (focus walk_at "ev"); intro hq; (try simp only [Bool.and_eq_true, Bool.or_eq_true, decide_eq_true_eq, Bool.not_eq_true', decide_eq_false_iff_not, Bool.and_eq_false_iff, Bool.or_eq_false_iff, Bool.not_eq_false'] at hq); walk_at "ev")
  | ((with_reducible apply e_if); (focus walk_at "ev"); (focus (intro hq; (try simp only [Bool.and_eq_true, Bool.or_eq_true, decide_eq_true_eq, Bool.not_eq_true', decide_eq_false_iff_not, Bool.and_eq_false_iff, Bool.or_eq_false_iff, Bool.not_eq_false'] at hq); walk_at "ev")); (intro hq; (try simp only [Bool.and_eq_true, Bool.or_eq_true, decide_eq_true_eq, Bool.not_eq_true', decide_eq_false_iff_not, Bool.and_eq_false_iff, Bool.or_eq_false_iff, Bool.not_eq_false'] at hq); walk_at "ev"))
  | ((with_reducible apply et_not) <;> walk_at "ev")
  | ((with_reducible apply ev_notV) <;> walk_at "ev")
  | (with_reducible exact et_yes)
  | (with_reducible exact ea_nil)
  | ((with_reducible apply ea_cons) <;> walk_at "ev")
  | (with_reducible exact eo_none)
  | ((with_reducible apply eo_some) <;> walk_at "ev")
  | ((with_reducible apply e_slBut) <;> walk_at "ev")
  | ((with_reducible apply e_slIn) <;> walk_at "ev")
  | ((with_reducible apply e_slTo) <;> walk_at "ev")
  | ((with_reducible apply e_slFrom) <;> walk_at "ev")
  | ((with_reducible apply e_slMid) <;> walk_at "ev")
  | ((with_reducible apply e_rev) <;> walk_at "ev")
  | (with_reducible exact rv_I0)
  | (with_reducible exact r_eqI) | (with_reducible exact r_neI) | (with_reducible exact r_eqS) | (with_reducible exact r_neS)
  | (with_reducible exact r_inC) | (with_reducible exact r_ninC) | (with_reducible exact r_isN) | (with_reducible exact r_notN)
  | (with_reducible exact r_ltT) | (with_reducible exact r_gtT)
  | (with_reducible exact rc_max2) | (with_reducible exact rc_min2)
  | ((with_reducible apply r_divI) <;> walk_at "sd") | ((with_reducible apply r_modI) <;> walk_at "sd") | ((with_reducible apply r_mulI) <;> walk_at "sd")
  | ((with_reducible apply r_ixS) <;> walk_at "sd")
  | ((with_reducible apply r_addT) <;> walk_at "sd")
  | ((with_reducible apply r_mulT) <;> walk_at "sd")
  | ((with_reducible apply rc_lenT) <;> walk_at "sd")
  | ((with_reducible apply rc_lenL) <;> walk_at "sd")
  | ((with_reducible apply ev_cb) <;> walk_at "ev")
  | walk_at "evc"
  | walk_at "sd"))

/-! ## is_whole -/
def kinds : List String := ["NoneType", "int", "bool", "list", "tuple", "dict", "str"]
def sp_is_whole (A : Ad) : Sp := spV fun vs H v => ∃ (x : V) (t : String), vs = [x] ∧ TyX A.K H x (.type t) ∧ t ∈ kinds ∧ v = .bl (decide (t = "int"))
def t_is_whole (A : Ad) : TS :=
  (tRet (tAndV (tCB (rIsi A.K) (tCons (tVar 0) (tCons (tC (.ty "int")) tNil))) (tNotV (tCB (rIsi A.K) (tCons (tVar 0) (tCons (tC (.ty "bool")) tNil))))))

theorem len_is_whole (A : Ad) : ∀ vs H Q E, sp_is_whole A vs H Q E → vs.length = 1 := fun vs H Q E h => by
  obtain ⟨v, ⟨x, t, rfl, _⟩, _⟩ := h
  rfl
theorem kit_int {K : PySem.W.Frag} {t : String} (h : t ∈ kinds) : PySem.W.kitOne K (.type t) (.type "int") = some (decide (t = "int") || decide (t = "bool")) := by
  simp only [kinds, List.mem_cons, List.not_mem_nil, or_false] at h
  rcases h with rfl | rfl | rfl | rfl | rfl | rfl | rfl <;> exact kit_ty (by decide +kernel)
theorem kit_bool {K : PySem.W.Frag} {t : String} (h : t ∈ kinds) : PySem.W.kitOne K (.type t) (.type "bool") = some (decide (t = "bool")) := by
  simp only [kinds, List.mem_cons, List.not_mem_nil, or_false] at h
  rcases h with rfl | rfl | rfl | rfl | rfl | rfl | rfl <;> exact kit_ty (by decide +kernel)
theorem kit_list {K : PySem.W.Frag} {t : String} (h : t ∈ kinds) : PySem.W.kitOne K (.type t) (.type "list") = some (decide (t = "list")) := by
  simp only [kinds, List.mem_cons, List.not_mem_nil, or_false] at h
  rcases h with rfl | rfl | rfl | rfl | rfl | rfl | rfl <;> exact kit_ty (by decide +kernel)
theorem pu_is_whole (A : Ad) (vs : List V) (H : Hp) (Q : VK) (E : XK) (h : sp_is_whole A vs H Q E) : t_is_whole A { nx := fun _ H' => Q .non H', rt := Q } (start ["thing"] vs) H := by
  obtain ⟨v, ⟨x, t, rfl, ty, ht, rfl⟩, k⟩ := h
  show t_is_whole A _ [some x] H
  unfold t_is_whole
  refine a_ret (v := .bl (decide (t = "int"))) (Am.start H) (ev_is (ev_andV (a := decide (t = "int") || decide (t = "bool")) (b := !decide (t = "bool")) (ev_cb (ea_cons (ev_var rfl) (ea_cons ev_c ea_nil)) (rc_isi (t := .type t) (fun _ e => tyX_ex e ty) (.ty "int") (kit_int ht))) fun _ =>
    ev_notV (ev_cb (ea_cons (ev_var rfl) (ea_cons ev_c ea_nil)) (rc_isi (t := .type t) (fun _ e => tyX_ex e ty) (.ty "bool") (kit_bool ht)))) ?_) fun H1 am => k H1 am.toEx
  congr 1
  by_cases c : t = "int"
  · subst c; rfl
  · by_cases d : t = "bool"
    · subst d; rfl
    · rw [decide_eq_false c, decide_eq_false d]; rfl
theorem c_is_whole_ {A : Ad} {σ : L2.St} {H : Hp} {te : TE} {x : V} {t : String} (h : Ev te σ H x) (ty : TyX A.K H x (.type t)) (ht : t ∈ kinds) : Ev (tCall (sp_is_whole A) [] E0 (tCons te tNil)) σ H (.bl (decide (t = "int"))) :=
  e_callV (ea_cons h ea_nil) fun _ e => ⟨x, t, rfl, tyX_ex e ty, ht, rfl⟩
theorem range_atM {N : Nat} {pre post : List Nat} {n : Nat} (h : List.range N = pre ++ n :: post) : pre.length = n ∧ n < N := by
  obtain ⟨h1, h2⟩ := range_split h
  rw [h1, List.length_range]
  exact ⟨rfl, h2⟩

end Mw
namespace Mw
open PySem PySem.Spec PyProof.Rows L2 Evl
local macro_rules | `(tactic| walk_at "sd") => `(tactic| (first
  | assumption
  | omega
  | decide
  | (simp only [List.length_append, List.length_cons, List.length_nil, List.length_reverse, List.length_take, List.length_drop, List.length_map, List.length_range] at *; omega)
  | skip))
local macro_rules | `(tactic| walk_at "ev") => `(tactic| (first
  | ((with_reducible apply ev_var); rfl)
  | (with_reducible exact ev_c)
  | ((with_reducible apply ev_op) <;> walk_at "ev")
  | ((with_reducible apply e_negI) <;> walk_at "ev")
  | ((with_reducible apply et_test) <;> walk_at "ev")
  | ((with_reducible apply et_B) <;> walk_at "ev")
  | ((with_reducible apply et_and); (focus walk_at "ev"); intro hq; (try simp only [Bool.and_eq_true, Bool.or_eq_true, decide_eq_true_eq, Bool.not_eq_true', decide_eq_false_iff_not, Bool.and_eq_false_iff, Bool.or_eq_false_iff, Bool.not_eq_false'] at hq); walk_at "ev")
  | ((with_reducible apply et_or); (focus walk_at "ev"); intro hq; (try simp only [Bool.and_eq_true, Bool.or_eq_true, decide_eq_true_eq, Bool.not_eq_true', decide_eq_false_iff_not, Bool.and_eq_false_iff, Bool.or_eq_false_iff, Bool.not_eq_false'] at hq); walk_at "ev")
  | ((with_reducible apply ev_andV); (focus walk_at "ev"); intro hq; (try simp only [Bool.and_eq_true, Bool.or_eq_true, decide_eq_true_eq, Bool.not_eq_true', decide_eq_false_iff_not, Bool.and_eq_false_iff, Bool.or_eq_false_iff, Bool.not_eq_false'] at hq); walk_at "ev")
  | ((with_reducible apply ev_orV); (focus walk_at "ev"); intro hq; (try simp only [Bool.and_eq_true, Bool.or_eq_true, decide_eq_true_eq, Bool.not_eq_true', decide_eq_false_iff_not, Bool.and_eq_false_iff, Bool.or_eq_false_iff, Bool.not_eq_false'] at hq); walk_at "ev")
  | ((with_reducible apply e_if); (focus walk_at "ev"); (focus (intro hq; (try simp only [Bool.and_eq_true, Bool.or_eq_true, decide_eq_true_eq, Bool.not_eq_true', decide_eq_false_iff_not, Bool.and_eq_false_iff, Bool.or_eq_false_iff, Bool.not_eq_false'] at hq); walk_at "ev")); (intro hq; (try simp only [Bool.and_eq_true, Bool.or_eq_true, decide_eq_true_eq, Bool.not_eq_true', decide_eq_false_iff_not, Bool.and_eq_false_iff, Bool.or_eq_false_iff, Bool.not_eq_false'] at hq); walk_at "ev"))
  | ((with_reducible apply et_not) <;> walk_at "ev")
  | ((with_reducible apply ev_notV) <;> walk_at "ev")
  | (with_reducible exact et_yes)
  | (with_reducible exact ea_nil)
  | ((with_reducible apply ea_cons) <;> walk_at "ev")
  | (with_reducible exact eo_none)
  | ((with_reducible apply eo_some) <;> walk_at "ev")
  | ((with_reducible apply e_slBut) <;> walk_at "ev")
  | ((with_reducible apply e_slIn) <;> walk_at "ev")
  | ((with_reducible apply e_slTo) <;> walk_at "ev")
  | ((with_reducible apply e_slFrom) <;> walk_at "ev")
  | ((with_reducible apply e_slMid) <;> walk_at "ev")
  | ((with_reducible apply e_rev) <;> walk_at "ev")
  | (with_reducible exact rv_I0)
  | (with_reducible exact r_eqI) | (with_reducible exact r_neI) | (with_reducible exact r_eqS) | (with_reducible exact r_neS)
  | (with_reducible exact r_inC) | (with_reducible exact r_ninC) | (with_reducible exact r_isN) | (with_reducible exact r_notN)
  | (with_reducible exact r_ltT) | (with_reducible exact r_gtT)
  | (with_reducible exact rc_max2) | (with_reducible exact rc_min2)
  | ((with_reducible apply r_divI) <;> walk_at "sd") | ((with_reducible apply r_modI) <;> walk_at "sd") | ((with_reducible apply r_mulI) <;> walk_at "sd")
  | ((with_reducible apply r_ixS) <;> walk_at "sd")
  | ((with_reducible apply r_addT) <;> walk_at "sd")
  | ((with_reducible apply r_mulT) <;> walk_at "sd")
  | ((with_reducible apply rc_lenT) <;> walk_at "sd")
  | ((with_reducible apply rc_lenL) <;> walk_at "sd")
  | ((with_reducible apply ev_cb) <;> walk_at "ev")
  | walk_at "evc"
  | walk_at "sd"))

/-! ## is_mirror, inner, tail, chain -/
def oMir (o : Option Tx) : Bool := match o with
  | some l => isTx l && (!decide (l = []) && pal l)
  | none => false
def sp_is_mirror (A : Ad) : Sp := spV fun vs H v => ∃ x o, vs = [x] ∧ Thing A.K H x o ∧ v = .bl (oMir o)
def t_is_mirror (A : Ad) : TS :=
  (tRet (tAndV (tCall (sp_is_text A) [] E0 (tCons (tVar 0) tNil)) (tAndV (tOp rNe (tVar 0) (tC (tS []))) (tOp rEq (tVar 0) (tRevT (tVar 0))))))

theorem len_is_mirror (A : Ad) : ∀ vs H Q E, sp_is_mirror A vs H Q E → vs.length = 1 := fun vs H Q E h => by
  obtain ⟨v, ⟨x, o, rfl, _⟩, _⟩ := h
  rfl
theorem thing_text {K : PySem.W.Frag} {H : Hp} {x : V} {o : Option Tx} (h : Thing K H x o) (hb : oTx o = true) : ∃ l, x = tS l ∧ o = some l ∧ isTx l = true ∧ l.length ≤ 1000 := by
  rcases h with ⟨l, rfl, hl, rfl⟩ | ⟨_, rfl⟩
  · exact ⟨l, rfl, rfl, hb, hl⟩
  · cases hb
theorem pu_is_mirror (A : Ad) (vs : List V) (H : Hp) (Q : VK) (E : XK) (h : sp_is_mirror A vs H Q E) : t_is_mirror A { nx := fun _ H' => Q .non H', rt := Q } (start ["thing"] vs) H := by
  obtain ⟨v, ⟨x, o, rfl, ho, rfl⟩, k⟩ := h
  show t_is_mirror A _ [some x] H
  unfold t_is_mirror
  refine a_ret (v := .bl (oMir o)) (Am.start H) ?_ fun H1 am => k H1 am.toEx
  cases hb : oTx o with
  | false =>
    have e : oMir o = false := by
      cases o with
      | none => rfl
      | some l =>
        have hb' : isTx l = false := hb
        show (isTx l && _) = false
        rw [hb']; rfl
    rw [e]
    exact ev_andV (a := false) (b := false) (by rw [← hb]; exact c_is_text_ (ev_var rfl) ho) fun z => Bool.noConfusion z
  | true =>
    obtain ⟨l, rfl, rfl, htx, hl⟩ := thing_text ho hb
    refine ev_is (ev_andV (a := true) (b := !decide (l = []) && pal l) (by rw [← hb]; exact c_is_text_ (ev_var rfl) ho) fun _ => ev_andV (ev_op (ev_var rfl) ev_c r_neS) fun _ => ev_op (ev_var rfl) (e_rev (ev_var rfl) (by omega)) r_eqS) ?_
    show V.bl (true && (!decide (l = []) && pal l)) = V.bl (isTx l && (!decide (l = []) && pal l))
    rw [htx]
theorem c_is_mirror_ {A : Ad} {σ : L2.St} {H : Hp} {te : TE} {x : V} {o : Option Tx} (h : Ev te σ H x) (hx : Thing A.K H x o) : Ev (tCall (sp_is_mirror A) [] E0 (tCons te tNil)) σ H (.bl (oMir o)) :=
  e_callV (ea_cons h ea_nil) fun _ e => ⟨x, o, rfl, hx.ex e, rfl⟩
def sp_need_mirror (A : Ad) : Sp := spVX (fun vs H v => ∃ x o, vs = [x] ∧ Thing A.K H x o ∧ oMir o = true ∧ v = .non) fun vs H C => ∃ x o, vs = [x] ∧ Thing A.K H x o ∧ oMir o = false ∧ C = A.cBW
def t_need_mirror (A : Ad) (E : XK) : TS :=
  (tIfS (tNot (tB (tCall (sp_is_mirror A) [] E0 (tCons (tVar 0) tNil)))) (tRz E A.cBW) tNext)

theorem len_need_mirror (A : Ad) : ∀ vs H Q E, sp_need_mirror A vs H Q E → vs.length = 1 := fun vs H Q E h => by
  rcases h with ⟨v, ⟨x, o, rfl, _⟩, _⟩ | ⟨C, ⟨x, o, rfl, _⟩, _⟩ <;> rfl
theorem pu_need_mirror (A : Ad) (vs : List V) (H : Hp) (Q : VK) (E : XK) (h : sp_need_mirror A vs H Q E) : t_need_mirror A E { nx := fun _ H' => Q .non H', rt := Q } (start ["thing"] vs) H := by
  rcases h with ⟨v, ⟨x, o, rfl, ho, hb, rfl⟩, k⟩ | ⟨C, ⟨x, o, rfl, ho, hb, rfl⟩, k⟩
  · show t_need_mirror A E _ [some x] H
    unfold t_need_mirror
    refine a_if (Am.start H) (et_not (et_B (c_is_mirror_ (ev_var rfl) ho))) (fun z => ?_) fun _ H1 am => k H1 am.toEx
    rw [hb] at z; cases z
  · show t_need_mirror A E _ [some x] H
    unfold t_need_mirror
    refine a_if (Am.start H) (et_not (et_B (c_is_mirror_ (ev_var rfl) ho))) (fun _ H1 am => k H1 am.toEx) fun z => ?_
    rw [hb] at z; cases z
section
variable {A : Ad} {S : List Addr} {H0 H : Hp} {L : List (Addr × HO)} {σ : L2.St} {te : TE} {D : Ends} {tz : TS} {x : V} {o : Option Tx} {E : XK}
theorem aq_need_mirror (am : Am S H0 L H) (h : Ev te σ H x) (hx : Thing A.K H x o) (hb : oMir o = true) (k : ∀ H, Am S H0 L H → tz D σ H) : tSeq (tDrop (tCall (sp_need_mirror A) [] E (tCons te tNil))) tz D σ H :=
  aq_drop am (v := .non) (e_callVX (ea_cons h ea_nil) fun _ e => ⟨x, o, rfl, hx.ex e, hb, rfl⟩) k
theorem xq_need_mirror (am : Am S H0 L H) (h : Ev te σ H x) (hx : Thing A.K H x o) (hb : oMir o = false) (k : ∀ H, Am S H0 L H → E (.ref A.cBW) none H) : tSeq (tDrop (tCall (sp_need_mirror A) [] E (tCons te tNil))) tz D σ H :=
  h H (Ex.refl H) _ fun H1 e1 => .inr ⟨A.cBW, ⟨x, o, rfl, hx.ex e1, hb, rfl⟩, fun H2 e2 => k H2 (am.ex (e1.trans e2))⟩
end
/-- a mirror word -/
def isMi (l : Tx) : Prop := isTx l = true ∧ l ≠ [] ∧ pal l = true
theorem oMir_is {l : Tx} : oMir (some l) = true ↔ isMi l := by
  unfold oMir isMi
  simp
theorem thing_mir {K : PySem.W.Frag} {H : Hp} {x : V} {o : Option Tx} (h : Thing K H x o) (hb : oMir o = true) : ∃ l, x = tS l ∧ o = some l ∧ isMi l ∧ l.length ≤ 1000 := by
  rcases h with ⟨l, rfl, hl, rfl⟩ | ⟨_, rfl⟩
  · exact ⟨l, rfl, rfl, oMir_is.mp hb, hl⟩
  · cases hb
/-- a promise of a def that asks for a mirror word -/
def spMi (A : Ad) (F : Tx → V) : Sp := spVX (fun vs H v => ∃ x l, vs = [x] ∧ Thing A.K H x (some l) ∧ isMi l ∧ v = F l) fun vs H C => ∃ x o, vs = [x] ∧ Thing A.K H x o ∧ oMir o = false ∧ C = A.cBW
theorem len_spMi (A : Ad) (F : Tx → V) : ∀ vs H Q E, spMi A F vs H Q E → vs.length = 1 := fun vs H Q E h => by
  rcases h with ⟨v, ⟨x, o, rfl, _⟩, _⟩ | ⟨C, ⟨x, o, rfl, _⟩, _⟩ <;> rfl
theorem c_spMi {A : Ad} {F : Tx → V} {σ : L2.St} {H : Hp} {te : TE} {l : Tx} {E : XK} (h : Ev te σ H (tS l)) (hb : isMi l) (hl : l.length ≤ 1000) : Ev (tCall (spMi A F) [] E (tCons te tNil)) σ H (F l) :=
  e_callVX (ea_cons h ea_nil) fun _ e => ⟨tS l, l, rfl, .inl ⟨l, rfl, hl, rfl⟩, hb, rfl⟩

end Mw
namespace Mw
open PySem PySem.Spec PyProof.Rows L2 Evl
local macro_rules | `(tactic| walk_at "sd") => `(tactic| (first
  | assumption
  | omega
  | decide
  | (simp only [List.length_append, List.length_cons, List.length_nil, List.length_reverse, List.length_take, List.length_drop, List.length_map, List.length_range] at *; omega)
  | skip))
local macro_rules | `(tactic| walk_at "ev") => `(tactic| (first
  | ((with_reducible apply ev_var); rfl)
  | (with_reducible exact ev_c)
  | ((with_reducible apply ev_op) <;> walk_at "ev")
  | ((with_reducible apply e_negI) <;> walk_at "ev")
  | ((with_reducible apply et_test) <;> walk_at "ev")
  | ((with_reducible apply et_B) <;> walk_at "ev")
  | ((with_reducible apply et_and); (focus walk_at "ev"); intro hq; (try simp only [Bool.and_eq_true, Bool.or_eq_true, decide_eq_true_eq, Bool.not_eq_true', decide_eq_false_iff_not, Bool.and_eq_false_iff, Bool.or_eq_false_iff, Bool.not_eq_false'] at hq); walk_at "ev")
  | ((with_reducible apply et_or); (focus walk_at "ev"); intro hq; (try simp only [Bool.and_eq_true, Bool.or_eq_true, decide_eq_true_eq, Bool.not_eq_true', decide_eq_false_iff_not, Bool.and_eq_false_iff, Bool.or_eq_false_iff, Bool.not_eq_false'] at hq); walk_at "ev")
  | ((with_reducible apply ev_andV); (focus walk_at "ev"); intro hq; (try simp only [Bool.and_eq_true, Bool.or_eq_true, decide_eq_true_eq, Bool.not_eq_true', decide_eq_false_iff_not, Bool.and_eq_false_iff, Bool.or_eq_false_iff, Bool.not_eq_false'] at hq); walk_at "ev")
  | ((with_reducible apply ev_orV); (focus walk_at "ev"); intro hq; (try simp only [Bool.and_eq_true, Bool.or_eq_true, decide_eq_true_eq, Bool.not_eq_true', decide_eq_false_iff_not, Bool.and_eq_false_iff, Bool.or_eq_false_iff, Bool.not_eq_false'] at hq); walk_at "ev")
  | ((with_reducible apply e_if); (focus walk_at "ev"); (focus (intro hq; (try simp only [Bool.and_eq_true, Bool.or_eq_true, decide_eq_true_eq, Bool.not_eq_true', decide_eq_false_iff_not, Bool.and_eq_false_iff, Bool.or_eq_false_iff, Bool.not_eq_false'] at hq); walk_at "ev")); (intro hq; (try simp only [Bool.and_eq_true, Bool.or_eq_true, decide_eq_true_eq, Bool.not_eq_true', decide_eq_false_iff_not, Bool.and_eq_false_iff, Bool.or_eq_false_iff, Bool.not_eq_false'] at hq); walk_at "ev"))
  | ((with_reducible apply et_not) <;> walk_at "ev")
  | ((with_reducible apply ev_notV) <;> walk_at "ev")
  | (with_reducible exact et_yes)
  | (with_reducible exact ea_nil)
  | ((with_reducible apply ea_cons) <;> walk_at "ev")
  | (with_reducible exact eo_none)
  | ((with_reducible apply eo_some) <;> walk_at "ev")
  | ((with_reducible apply e_slBut) <;> walk_at "ev")
  | ((with_reducible apply e_slIn) <;> walk_at "ev")
  | ((with_reducible apply e_slTo) <;> walk_at "ev")
  | ((with_reducible apply e_slFrom) <;> walk_at "ev")
  | ((with_reducible apply e_slMid) <;> walk_at "ev")
  | ((with_reducible apply e_rev) <;> walk_at "ev")
  | (with_reducible exact rv_I0)
  | (with_reducible exact r_eqI) | (with_reducible exact r_neI) | (with_reducible exact r_eqS) | (with_reducible exact r_neS)
  | (with_reducible exact r_inC) | (with_reducible exact r_ninC) | (with_reducible exact r_isN) | (with_reducible exact r_notN)
  | (with_reducible exact r_ltT) | (with_reducible exact r_gtT)
  | (with_reducible exact rc_max2) | (with_reducible exact rc_min2)
  | ((with_reducible apply r_divI) <;> walk_at "sd") | ((with_reducible apply r_modI) <;> walk_at "sd") | ((with_reducible apply r_mulI) <;> walk_at "sd")
  | ((with_reducible apply r_ixS) <;> walk_at "sd")
  | ((with_reducible apply r_addT) <;> walk_at "sd")
  | ((with_reducible apply r_mulT) <;> walk_at "sd")
  | ((with_reducible apply rc_lenT) <;> walk_at "sd")
  | ((with_reducible apply rc_lenL) <;> walk_at "sd")
  | ((with_reducible apply ev_cb) <;> walk_at "ev")
  | walk_at "evc"
  | walk_at "sd"))

/-! ## books -/
structure BA where
  dx : Addr
  L : Addr
  H : Addr
  E : Addr
  T : Addr
  U : Addr
structure BC (A : Ad) : Prop where
  cls : Cls A.K A.cBook
  nL : NoAttr A.K A.cBook "letters"
  nH : NoAttr A.K A.cBook "heads"
  nE : NoAttr A.K A.cBook "ends"
  nT : NoAttr A.K A.cBook "told"
  nU : NoAttr A.K A.cBook "tails"
def bkFs (b : BA) : List (Str × V) := [(("letters" : Str), V.ref b.L), (("heads" : Str), V.ref b.H), (("ends" : Str), V.ref b.E), (("told" : Str), V.ref b.T), (("tails" : Str), V.ref b.U)]
def ltV (t : Tx) : List V := t.map fun c => tS [c]
def rowV (n : Nat) (F : Nat → Nat) : List V := (List.range n).map fun i => vN (F i)
abbrev hdV (t : Tx) : List V := rowV t.length (hdN t)
abbrev enV (t : Tx) : List V := rowV t.length (enN t)
def bkL (A : Ad) (g : Addr) (b : BA) (t : Tx) (hs es : List V) (kT kU : List (Key × V)) : List (Addr × HO) :=
  [(g, .ins A.cBook b.dx (bkFs b)), (b.L, .lst (ltV t)), (b.H, .lst hs), (b.E, .lst es), (b.T, .dK kT), (b.U, .dK kU)]
def bkS (g : Addr) (b : BA) : List Addr := [g, b.L, b.H, b.E, b.T, b.U]
structure BkOk (f : Tx → Nat) (kT kU : List (Key × V)) : Prop where
  told : DF (fun w => decide (0 < f w)) (fun w => V.int (f w : Nat)) kT
  tails : DF (fun w => decide (w = []) || decide (0 < f w)) (fun w => tS (tailF w)) kU
structure BkAt (A : Ad) (g : Addr) (b : BA) (t : Tx) (kT kU : List (Key × V)) (H : Hp) : Prop where
  has : Has H (bkL A g b t (hdV t) (enV t) kT kU)
  ok : BkOk (cntD t) kT kU
  lets : ∀ c ∈ t, c ∈ letters
  len : t.length ≤ 200
theorem BkAt.ex {A : Ad} {g : Addr} {b : BA} {t : Tx} {kT kU : List (Key × V)} {H H1 : Hp} (h : BkAt A g b t kT kU H) (e : Ex H H1) : BkAt A g b t kT kU H1 := ⟨h.has.ex e, h.ok, h.lets, h.len⟩
section
variable {A : Ad} {σ : L2.St} {H : Hp} {te ti : TE} {g : Addr} {b : BA} {t : Tx} {hs es : List V} {kT kU : List (Key × V)}
theorem e_lets (bc : BC A) (h : Ev te σ H (.ref g)) (hh : Has H (bkL A g b t hs es kT kU)) : Ev (tFld A.K te "letters") σ H (.ref b.L) := e_fld h (hh.at 0 rfl) bc.cls bc.nL rfl
theorem e_heads (bc : BC A) (h : Ev te σ H (.ref g)) (hh : Has H (bkL A g b t hs es kT kU)) : Ev (tFld A.K te "heads") σ H (.ref b.H) := e_fld h (hh.at 0 rfl) bc.cls bc.nH rfl
theorem e_ends (bc : BC A) (h : Ev te σ H (.ref g)) (hh : Has H (bkL A g b t hs es kT kU)) : Ev (tFld A.K te "ends") σ H (.ref b.E) := e_fld h (hh.at 0 rfl) bc.cls bc.nE rfl
theorem e_told (bc : BC A) (h : Ev te σ H (.ref g)) (hh : Has H (bkL A g b t hs es kT kU)) : Ev (tFld A.K te "told") σ H (.ref b.T) := e_fld h (hh.at 0 rfl) bc.cls bc.nT rfl
theorem e_tails (bc : BC A) (h : Ev te σ H (.ref g)) (hh : Has H (bkL A g b t hs es kT kU)) : Ev (tFld A.K te "tails") σ H (.ref b.U) := e_fld h (hh.at 0 rfl) bc.cls bc.nU rfl
theorem len_ltV (t : Tx) : (ltV t).length = t.length := by unfold ltV; rw [List.length_map]
theorem len_rowV (n : Nat) (F : Nat → Nat) : (rowV n F).length = n := by unfold rowV; rw [List.length_map, List.length_range]
theorem e_lenLets (bc : BC A) (h : Ev te σ H (.ref g)) (hh : Has H (bkL A g b t hs es kT kU)) : Ev (tCB (rLenS A.K) (tCons (tFld A.K te "letters") tNil)) σ H (.int (t.length : Nat)) := by
  have z := ev_len (K := A.K) (e_lets bc h hh) (sq_of (hh.at 1 rfl))
  rw [len_ltV] at z
  exact z
theorem e_headAt (bc : BC A) {F : Nat → Nat} {n i : Nat} (h : Ev te σ H (.ref g)) (hh : Has H (bkL A g b t (rowV n F) es kT kU)) (hi : Ev ti σ H (.int (i : Nat))) (hl : i < n) : Ev (tOp (rIxL A.K) (tFld A.K te "heads") ti) σ H (.int (F i : Nat)) :=
  ev_op (e_heads bc h hh) hi (rv_ixL (K := A.K) (sq_of (hh.at 2 rfl)) (atI_nat (at_range _ hl)))
theorem e_endAt (bc : BC A) {F : Nat → Nat} {n i : Nat} (h : Ev te σ H (.ref g)) (hh : Has H (bkL A g b t hs (rowV n F) kT kU)) (hi : Ev ti σ H (.int (i : Nat))) (hl : i < n) : Ev (tOp (rIxL A.K) (tFld A.K te "ends") ti) σ H (.int (F i : Nat)) :=
  ev_op (e_ends bc h hh) hi (rv_ixL (K := A.K) (sq_of (hh.at 3 rfl)) (atI_nat (at_range _ hl)))
end
theorem flat_lets (t : Tx) : ((t.map fun c => [c]) : List Tx).flatten = t := by
  induction t with
  | nil => rfl
  | cons c r ih => rw [List.map_cons, List.flatten_cons, ih]; rfl
/-! ## whole -/
def sp_Book_whole (A : Ad) : Sp := spV fun vs H v => ∃ g b t hs es kT kU, vs = [.ref g] ∧ Has H (bkL A g b t hs es kT kU) ∧ t.length ≤ 200 ∧ v = tS t
def t_Book_whole (A : Ad) : TS :=
  (tRet (tJoin A.K (tC (tS [])) (tFld A.K (tVar 0) "letters")))

theorem len_Book_whole (A : Ad) : ∀ vs H Q E, sp_Book_whole A vs H Q E → vs.length = 1 := fun vs H Q E h => by
  obtain ⟨v, ⟨g, b, t, hs, es, kT, kU, rfl, _⟩, _⟩ := h
  rfl
theorem pu_Book_whole (A : Ad) (bc : BC A) (vs : List V) (H : Hp) (Q : VK) (E : XK) (h : sp_Book_whole A vs H Q E) : t_Book_whole A { nx := fun _ H' => Q .non H', rt := Q } (start ["self"] vs) H := by
  obtain ⟨v, ⟨g, b, t, hs, es, kT, kU, rfl, hh, hl, rfl⟩, k⟩ := h
  show t_Book_whole A _ [some (.ref g)] H
  unfold t_Book_whole
  have z := e_joinL (K := A.K) (σ := [some (.ref g)]) (H := H) (to := tC (tS [])) (te := tFld A.K (tVar 0) "letters") (ls := t.map fun c => [c]) (p := b.L) ev_c (e_lets bc (ev_var rfl) hh) (by
    rw [List.map_map]; exact sq_of (hh.at 1 rfl)) (by rw [flat_lets]; omega)
  rw [flat_lets] at z
  exact a_ret (Am.start H) z fun H1 am => k H1 am.toEx
theorem c_whole {A : Ad} {σ : L2.St} {H : Hp} {te : TE} {g : Addr} {b : BA} {t : Tx} {hs es : List V} {kT kU : List (Key × V)} (h : Ev te σ H (.ref g)) (hh : Has H (bkL A g b t hs es kT kU)) (hl : t.length ≤ 200) : Ev (tMeth A.cBook "whole" (sp_Book_whole A) [] E0 te tNil) σ H (tS t) :=
  e_methV h (hh.at 0 rfl) rfl ea_nil fun H1 e => ⟨g, b, t, hs, es, kT, kU, rfl, hh.ex e, hl, rfl⟩
/-! ## words, many, count -/
theorem told_len {f : Tx → Nat} {t : Tx} {kT kU : List (Key × V)} (ok : BkOk (cntD t) kT kU) : kT.length ≤ t.length := by
  rw [← len_keysT]
  exact words_le _ t _ rfl ok.told.ndT fun w hw => of_decide_eq_true ((ok.told.mem w).mp hw)
theorem told_words {t : Tx} {kT kU : List (Key × V)} (ok : BkOk (cntD t) kT kU) {us : List Tx} (hp : us.Perm (keysT kT)) (hu : us.Pairwise fun a b => leW a b = true) : us = wordsL t :=
  words_eq ok.told.ndT (fun w => (ok.told.mem w).trans (by rw [decide_eq_true_eq])) hp hu
theorem told_perm {t : Tx} {kT kU : List (Key × V)} (ok : BkOk (cntD t) kT kU) : (keysT kT).Perm (wordsL t) :=
  (List.perm_ext_iff_of_nodup ok.told.ndT (words_rows t).nd).mpr fun w => ((ok.told.mem w).trans (by rw [decide_eq_true_eq])).trans ((words_rows t).mem w).symm
theorem word_len {t w : Tx} (h : 0 < cntD t w) : w.length ≤ t.length := (cntD_pos.mp h).2.length_le
def sp_Book_words (A : Ad) : Sp := spL fun vs H xs => ∃ g b t kT kU, vs = [.ref g] ∧ BkAt A g b t kT kU H ∧ xs = (wordsL t).map tS
def t_Book_words (A : Ad) : TS :=
  (tRet (tLc (iList A.K (tCB (rSortW A.K) (tCons (tLockE (tLc (iKeys (tFld A.K (tVar 0) "told")) (gName 2) tYes (tTup (tCons (tCB rLenT (tCons (tVar 2) tNil)) (tCons (tVar 2) tNil))) [2])) tNil))) (gName 1) tYes (tOp (rIxT A.K) (tVar 1) (tC (.int 1))) [1]))

theorem len_Book_words (A : Ad) : ∀ vs H Q E, sp_Book_words A vs H Q E → vs.length = 1 := fun vs H Q E h => by
  obtain ⟨v, ⟨g, b, t, kT, kU, rfl, _⟩, _⟩ := h
  rfl
theorem pu_Book_words (A : Ad) (bc : BC A) (vs : List V) (H : Hp) (Q : VK) (E : XK) (h : sp_Book_words A vs H Q E) : t_Book_words A { nx := fun _ H' => Q .non H', rt := Q } (start ["self", "pair", "word"] vs) H := by
  obtain ⟨v, ⟨g, b, t, kT, kU, rfl, hb, rfl⟩, k⟩ := h
  show t_Book_words A _ [some (.ref g), none, none] H
  unfold t_Book_words
  have hT := hb.has.at 4 rfl
  have hg := hb.has.at 0 rfl
  have hne : g ≠ b.T := fun z => by rw [z, hT] at hg; cases hg
  have hl := told_len (f := cntD t) hb.ok
  have hlen := hb.len
  have hf : ∀ (σ : L2.St), σ[0]? = some (some (.ref g)) → ∀ H1 o, Ex H H1 → Ev (tFld A.K (tVar 0) "told") σ (upd H1 b.T (.frz o (.dK kT))) (.ref b.T) := fun σ s0 H1 o e =>
    e_fld (ev_var s0) (by rw [upd_ne hne]; exact e _ _ hg) bc.cls bc.nT rfl
  exact a_retL (Am.start H) (el_words (K := A.K) hT hb.ok.told (by omega) (fun w hw => by
    have := word_len (of_decide_eq_true ((hb.ok.told.mem w).mp hw))
    omega) (hf _ rfl) (hf _ rfl) (fun us h1 h2 => told_words hb.ok h1 h2) (fun _ => rfl) (fun _ => rfl) (fun _ => rfl) (fun _ => rfl)) fun p H1 am => k p H1 (am.free 0 rfl) am.toEx (am.at 0 rfl)
theorem c_words {A : Ad} {σ : L2.St} {H : Hp} {te : TE} {g : Addr} {b : BA} {t : Tx} {kT kU : List (Key × V)} (h : Ev te σ H (.ref g)) (hb : BkAt A g b t kT kU H) : EvL (tMeth A.cBook "words" (sp_Book_words A) [] E0 te tNil) σ H ((wordsL t).map tS) :=
  e_methL h (hb.has.at 0 rfl) rfl ea_nil fun H1 e => ⟨g, b, t, kT, kU, rfl, hb.ex e, rfl⟩
def sp_Book_many (A : Ad) : Sp := spV fun vs H v => ∃ g b t kT kU, vs = [.ref g] ∧ BkAt A g b t kT kU H ∧ v = .int ((wordsL t).length : Nat)
def t_Book_many (A : Ad) : TS :=
  (tRet (tCB rLenD (tCons (tFld A.K (tVar 0) "told") tNil)))

theorem len_Book_many (A : Ad) : ∀ vs H Q E, sp_Book_many A vs H Q E → vs.length = 1 := fun vs H Q E h => by
  obtain ⟨v, ⟨g, b, t, kT, kU, rfl, _⟩, _⟩ := h
  rfl
theorem pu_Book_many (A : Ad) (bc : BC A) (vs : List V) (H : Hp) (Q : VK) (E : XK) (h : sp_Book_many A vs H Q E) : t_Book_many A { nx := fun _ H' => Q .non H', rt := Q } (start ["self"] vs) H := by
  obtain ⟨v, ⟨g, b, t, kT, kU, rfl, hb, rfl⟩, k⟩ := h
  show t_Book_many A _ [some (.ref g)] H
  unfold t_Book_many
  have z := e_lenD (σ := [some (.ref g)]) (H := H) (te := tFld A.K (tVar 0) "told") (e_told bc (ev_var rfl) hb.has) (hb.has.at 4 rfl)
  rw [← len_keysT, (told_perm hb.ok).length_eq] at z
  exact a_ret (Am.start H) z fun H1 am => k H1 am.toEx
theorem c_many {A : Ad} {σ : L2.St} {H : Hp} {te : TE} {g : Addr} {b : BA} {t : Tx} {kT kU : List (Key × V)} (h : Ev te σ H (.ref g)) (hb : BkAt A g b t kT kU H) : Ev (tMeth A.cBook "many" (sp_Book_many A) [] E0 te tNil) σ H (.int ((wordsL t).length : Nat)) :=
  e_methV h (hb.has.at 0 rfl) rfl ea_nil fun H1 e => ⟨g, b, t, kT, kU, rfl, hb.ex e, rfl⟩
def sp_Book_count (A : Ad) : Sp := spVX (fun vs H v => ∃ g b t kT kU w, vs = [.ref g, tS w] ∧ BkAt A g b t kT kU H ∧ oMir (some w) = true ∧ w.length ≤ 1000 ∧ v = .int (cntD t w : Nat))
  fun vs H C => ∃ g x o, vs = [.ref g, x] ∧ Thing A.K H x o ∧ oMir o = false ∧ C = A.cBW
def t_Book_count (A : Ad) (E : XK) : TS :=
  (tSeq (tDrop (tCall (sp_need_mirror A) [] E (tCons (tVar 1) tNil)))
  (tRet (tDGet2 (tFld A.K (tVar 0) "told") (tVar 1) (tC (.int 0)))))

theorem len_Book_count (A : Ad) : ∀ vs H Q E, sp_Book_count A vs H Q E → vs.length = 2 := fun vs H Q E h => by
  rcases h with ⟨v, ⟨g, b, t, kT, kU, w, rfl, _⟩, _⟩ | ⟨C, ⟨g, x, o, rfl, _⟩, _⟩ <;> rfl
theorem pu_Book_count (A : Ad) (bc : BC A) (vs : List V) (H : Hp) (Q : VK) (E : XK) (h : sp_Book_count A vs H Q E) : t_Book_count A E { nx := fun _ H' => Q .non H', rt := Q } (start ["self", "word"] vs) H := by
  rcases h with ⟨v, ⟨g, b, t, kT, kU, w, rfl, hb, hm, hl, rfl⟩, k⟩ | ⟨C, ⟨g, x, o, rfl, hx, hm, rfl⟩, k⟩
  · show t_Book_count A E _ [some (.ref g), some (tS w)] H
    unfold t_Book_count
    refine aq_need_mirror (Am.start H) (ev_var rfl) (.inl ⟨w, rfl, hl, rfl⟩) hm fun H1 am => ?_
    have hb1 := hb.ex am.toEx
    refine a_ret am (ev_is (e_dget2 (k := kW w) (z := .int 0) (e_told bc (ev_var rfl) hb1.has) (ev_var rfl) ev_c (hb1.has.at 4 rfl)) ?_) fun H2 am => k H2 am.toEx
    rw [hb.ok.told.vl w]
    by_cases c : 0 < cntD t w
    · rw [decide_eq_true c, if_pos rfl]; rfl
    · rw [decide_eq_false c, if_neg Bool.false_ne_true]
      have e : cntD t w = 0 := by omega
      rw [e]; rfl
  · show t_Book_count A E _ [some (.ref g), some x] H
    unfold t_Book_count
    exact xq_need_mirror (Am.start H) (ev_var rfl) hx hm fun H1 am => k H1 am.toEx
theorem c_count {A : Ad} {σ : L2.St} {H : Hp} {te tw : TE} {g : Addr} {b : BA} {t w : Tx} {kT kU : List (Key × V)} {E : XK} (h : Ev te σ H (.ref g)) (hw : Ev tw σ H (tS w)) (hb : BkAt A g b t kT kU H) (hm : oMir (some w) = true) (hl : w.length ≤ 1000) : Ev (tMeth A.cBook "count" (sp_Book_count A) [] E te (tCons tw tNil)) σ H (.int (cntD t w : Nat)) :=
  e_methVX h (hb.has.at 0 rfl) rfl (ea_cons hw ea_nil) fun H1 e => ⟨g, b, t, kT, kU, w, rfl, hb.ex e, hm, hl, rfl⟩
/-! ## need_place -/
/-- what is no place of n letters -/
def NoPl (K : PySem.W.Frag) (H : Hp) (x : V) (n : Nat) : Prop := (∃ s, TyX K H x (.type s) ∧ s ∈ kinds ∧ s ≠ "int") ∨ ∃ i : Int, x = .int i ∧ (i < 0 ∨ (n : Int) ≤ i)
theorem NoPl.ex {K : PySem.W.Frag} {H H1 : Hp} {x : V} {n : Nat} (e : Ex H H1) (h : NoPl K H x n) : NoPl K H1 x n := by
  rcases h with ⟨s, h, h2, h3⟩ | h
  · exact .inl ⟨s, tyX_ex e h, h2, h3⟩
  · exact .inr h
def sp_Book_need_place (A : Ad) : Sp := spVX (fun vs H v => ∃ g b t hs es kT kU, ∃ p : Nat, vs = [.ref g, .int (p : Nat)] ∧ Has H (bkL A g b t hs es kT kU) ∧ p < t.length ∧ v = .non)
  fun vs H C => ∃ g b t hs es kT kU x, vs = [.ref g, x] ∧ Has H (bkL A g b t hs es kT kU) ∧ NoPl A.K H x t.length ∧ C = A.cNP
def t_Book_need_place (A : Ad) (E : XK) : TS :=
  (tIfS (tOr (tNot (tB (tCall (sp_is_whole A) [] E0 (tCons (tVar 1) tNil)))) (tNot (tTest (tChain rLeI rLtI (tC (.int 0)) (tVar 1) (tCB (rLenS A.K) (tCons (tFld A.K (tVar 0) "letters") tNil)))))) (tRz E A.cNP) tNext)

theorem len_Book_need_place (A : Ad) : ∀ vs H Q E, sp_Book_need_place A vs H Q E → vs.length = 2 := fun vs H Q E h => by
  rcases h with ⟨v, ⟨g, b, t, hs, es, kT, kU, p, rfl, _⟩, _⟩ | ⟨C, ⟨g, b, t, hs, es, kT, kU, x, rfl, _⟩, _⟩ <;> rfl
theorem pu_Book_need_place (A : Ad) (bc : BC A) (vs : List V) (H : Hp) (Q : VK) (E : XK) (h : sp_Book_need_place A vs H Q E) : t_Book_need_place A E { nx := fun _ H' => Q .non H', rt := Q } (start ["self", "place"] vs) H := by
  have ch : ∀ {g : Addr} {b : BA} {t : Tx} {hs es : List V} {kT kU : List (Key × V)} {i : Int}, Has H (bkL A g b t hs es kT kU) → EvT (tTest (tChain rLeI rLtI (tC (.int 0)) (tVar 1) (tCB (rLenS A.K) (tCons (tFld A.K (tVar 0) "letters") tNil)))) [some (.ref g), some (.int i)] H (decide (0 ≤ i) && decide (i < t.length)) := fun hh =>
    et_test (e_chain ev_c (ev_var rfl) rv_I0 (fun _ => e_lenLets bc (ev_var rfl) hh) fun _ => rv_I0)
  rcases h with ⟨v, ⟨g, b, t, hs, es, kT, kU, p, rfl, hh, hp, rfl⟩, k⟩ | ⟨C, ⟨g, b, t, hs, es, kT, kU, x, rfl, hh, hx, rfl⟩, k⟩
  · show t_Book_need_place A E _ [some (.ref g), some (.int (p : Nat))] H
    unfold t_Book_need_place
    refine a_when (b := false) (Am.start H) (et_is (et_or (et_not (et_B (c_is_whole_ (t := "int") (ev_var rfl) (.base (.int _)) (by decide)))) fun _ => et_not (ch hh)) ?_) (fun c => Bool.noConfusion c) fun _ H1 am => k H1 am.toEx
    rw [decide_eq_true (by omega : (0 : Int) ≤ p), decide_eq_true (by omega : (p : Int) < t.length)]; rfl
  · show t_Book_need_place A E _ [some (.ref g), some x] H
    unfold t_Book_need_place
    refine a_when (b := true) (Am.start H) ?_ (fun _ H1 am => k H1 am.toEx) fun c => Bool.noConfusion c
    rcases hx with ⟨s, ty, hs, hne⟩ | ⟨i, rfl, hi⟩
    · exact et_is (et_or (b := true) (et_not (et_B (c_is_whole_ (ev_var rfl) ty hs))) fun z => by rw [decide_eq_false hne] at z; cases z) (by rw [decide_eq_false hne]; rfl)
    · refine et_is (et_or (et_not (et_B (c_is_whole_ (t := "int") (ev_var rfl) (.base (.int _)) (by decide)))) fun _ => et_not (ch hh)) ?_
      rcases hi with hi | hi
      · rw [decide_eq_false (by omega : ¬ (0 : Int) ≤ i)]; rfl
      · rw [decide_eq_false (by omega : ¬ i < (t.length : Int)), Bool.and_false]; rfl
section
variable {A : Ad} {S : List Addr} {H0 H : Hp} {L : List (Addr × HO)} {σ : L2.St} {te tp : TE} {D : Ends} {tz : TS} {g : Addr} {b : BA} {t : Tx} {hs es : List V} {kT kU : List (Key × V)} {E : XK}
theorem aq_need_place (am : Am S H0 L H) (h : Ev te σ H (.ref g)) {p : Nat} (hp : Ev tp σ H (.int (p : Nat))) (hh : Has H (bkL A g b t hs es kT kU)) (hl : p < t.length) (k : ∀ H, Am S H0 L H → tz D σ H) : tSeq (tDrop (tMeth A.cBook "need_place" (sp_Book_need_place A) [] E te (tCons tp tNil))) tz D σ H :=
  aq_drop am (v := .non) (e_methVX h (hh.at 0 rfl) rfl (ea_cons hp ea_nil) fun H1 e => ⟨g, b, t, hs, es, kT, kU, p, rfl, hh.ex e, hl, rfl⟩) k
theorem xq_need_place (am : Am S H0 L H) (h : Ev te σ H (.ref g)) {x : V} (hp : Ev tp σ H x) (hh : Has H (bkL A g b t hs es kT kU)) (hx : NoPl A.K H x t.length) (k : ∀ H, Am S H0 L H → E (.ref A.cNP) none H) : tSeq (tDrop (tMeth A.cBook "need_place" (sp_Book_need_place A) [] E te (tCons tp tNil))) tz D σ H :=
  t_meth (Q := fun _ H2 => tz D σ H2) h (hh.at 0 rfl) rfl (ea_cons hp ea_nil) fun H1 e1 => .inr ⟨A.cNP, ⟨g, b, t, hs, es, kT, kU, x, rfl, hh.ex e1, hx.ex e1, rfl⟩, fun H2 e2 => k H2 (am.ex (e1.trans e2))⟩
end
/-! ## begins_at, ends_at -/
def sp_Book_begins_at (A : Ad) : Sp := spVX (fun vs H v => ∃ g b t kT kU, ∃ p : Nat, vs = [.ref g, .int (p : Nat)] ∧ BkAt A g b t kT kU H ∧ p < t.length ∧ v = tS (lps (t.drop p).reverse))
  fun vs H C => ∃ g b t hs es kT kU x, vs = [.ref g, x] ∧ Has H (bkL A g b t hs es kT kU) ∧ NoPl A.K H x t.length ∧ C = A.cNP
def t_Book_begins_at (A : Ad) (E : XK) : TS :=
  (tSeq (tDrop (tMeth A.cBook "need_place" (sp_Book_need_place A) [] E (tVar 0) (tCons (tVar 1) tNil)))
  (tRet (tSl rSlS (tMeth A.cBook "whole" (sp_Book_whole A) [] E0 (tVar 0) tNil) (tPart (tVar 1)) (tPart (tOp rAddI (tVar 1) (tOp (rIxL A.K) (tFld A.K (tVar 0) "heads") (tVar 1)))))))

theorem len_Book_begins_at (A : Ad) : ∀ vs H Q E, sp_Book_begins_at A vs H Q E → vs.length = 2 := fun vs H Q E h => by
  rcases h with ⟨v, ⟨g, b, t, kT, kU, p, rfl, _⟩, _⟩ | ⟨C, ⟨g, b, t, hs, es, kT, kU, x, rfl, _⟩, _⟩ <;> rfl
theorem pu_Book_begins_at (A : Ad) (bc : BC A) (vs : List V) (H : Hp) (Q : VK) (E : XK) (h : sp_Book_begins_at A vs H Q E) : t_Book_begins_at A E { nx := fun _ H' => Q .non H', rt := Q } (start ["self", "place"] vs) H := by
  rcases h with ⟨v, ⟨g, b, t, kT, kU, p, rfl, hb, hp, rfl⟩, k⟩ | ⟨C, ⟨g, b, t, hs, es, kT, kU, x, rfl, hh, hx, rfl⟩, k⟩
  · show t_Book_begins_at A E _ [some (.ref g), some (.int (p : Nat))] H
    unfold t_Book_begins_at
    refine aq_need_place (Am.start H) (ev_var rfl) (ev_var rfl) hb.has hp fun H1 am => ?_
    have hb1 := hb.ex am.toEx
    have hlen := hb.len
    have z := e_slMid (σ := [some (.ref g), some (.int (p : Nat))]) (H := H1) (te := tMeth A.cBook "whole" (sp_Book_whole A) [] E0 (tVar 0) tNil) (ti := tVar 1) (tj := tOp rAddI (tVar 1) (tOp (rIxL A.K) (tFld A.K (tVar 0) "heads") (tVar 1))) (l := t) (i := (p : Nat)) (j := (p : Nat) + (hdN t p : Nat)) (c_whole (ev_var rfl) hb1.has hlen) (ev_var rfl) (ev_op (ev_var rfl) (e_headAt bc (ev_var rfl) hb1.has (ev_var rfl) hp) rv_I0) (by omega) (by omega) (by omega)
    rw [Int.toNat_natCast, show (((p : Nat) : Int) + (hdN t p : Nat)).toNat - p = hdN t p by omega, begin_cut] at z
    exact a_ret am z fun H2 am => k H2 am.toEx
  · show t_Book_begins_at A E _ [some (.ref g), some x] H
    unfold t_Book_begins_at
    exact xq_need_place (Am.start H) (ev_var rfl) (ev_var rfl) hh hx fun H1 am => k H1 am.toEx
theorem c_begins {A : Ad} {σ : L2.St} {H : Hp} {te tp : TE} {g : Addr} {b : BA} {t : Tx} {kT kU : List (Key × V)} {E : XK} {p : Nat} (h : Ev te σ H (.ref g)) (hp : Ev tp σ H (.int (p : Nat))) (hb : BkAt A g b t kT kU H) (hl : p < t.length) : Ev (tMeth A.cBook "begins_at" (sp_Book_begins_at A) [] E te (tCons tp tNil)) σ H (tS (lps (t.drop p).reverse)) :=
  e_methVX h (hb.has.at 0 rfl) rfl (ea_cons hp ea_nil) fun H1 e => ⟨g, b, t, kT, kU, p, rfl, hb.ex e, hl, rfl⟩
def sp_Book_ends_at (A : Ad) : Sp := spVX (fun vs H v => ∃ g b t kT kU, ∃ p : Nat, vs = [.ref g, .int (p : Nat)] ∧ BkAt A g b t kT kU H ∧ p < t.length ∧ v = tS (lps (t.take (p + 1))))
  fun vs H C => ∃ g b t hs es kT kU x, vs = [.ref g, x] ∧ Has H (bkL A g b t hs es kT kU) ∧ NoPl A.K H x t.length ∧ C = A.cNP
def t_Book_ends_at (A : Ad) (E : XK) : TS :=
  (tSeq (tDrop (tMeth A.cBook "need_place" (sp_Book_need_place A) [] E (tVar 0) (tCons (tVar 1) tNil)))
  (tRet (tSl rSlS (tMeth A.cBook "whole" (sp_Book_whole A) [] E0 (tVar 0) tNil) (tPart (tOp rSubI (tOp rAddI (tVar 1) (tC (.int 1))) (tOp (rIxL A.K) (tFld A.K (tVar 0) "ends") (tVar 1)))) (tPart (tOp rAddI (tVar 1) (tC (.int 1)))))))

theorem len_Book_ends_at (A : Ad) : ∀ vs H Q E, sp_Book_ends_at A vs H Q E → vs.length = 2 := fun vs H Q E h => by
  rcases h with ⟨v, ⟨g, b, t, kT, kU, p, rfl, _⟩, _⟩ | ⟨C, ⟨g, b, t, hs, es, kT, kU, x, rfl, _⟩, _⟩ <;> rfl
theorem pu_Book_ends_at (A : Ad) (bc : BC A) (vs : List V) (H : Hp) (Q : VK) (E : XK) (h : sp_Book_ends_at A vs H Q E) : t_Book_ends_at A E { nx := fun _ H' => Q .non H', rt := Q } (start ["self", "place"] vs) H := by
  rcases h with ⟨v, ⟨g, b, t, kT, kU, p, rfl, hb, hp, rfl⟩, k⟩ | ⟨C, ⟨g, b, t, hs, es, kT, kU, x, rfl, hh, hx, rfl⟩, k⟩
  · show t_Book_ends_at A E _ [some (.ref g), some (.int (p : Nat))] H
    unfold t_Book_ends_at
    refine aq_need_place (Am.start H) (ev_var rfl) (ev_var rfl) hb.has hp fun H1 am => ?_
    have hb1 := hb.ex am.toEx
    have hlen := hb.len
    have hle := enN_le t p
    have z := e_slMid (σ := [some (.ref g), some (.int (p : Nat))]) (H := H1) (te := tMeth A.cBook "whole" (sp_Book_whole A) [] E0 (tVar 0) tNil) (ti := tOp rSubI (tOp rAddI (tVar 1) (tC (.int 1))) (tOp (rIxL A.K) (tFld A.K (tVar 0) "ends") (tVar 1))) (tj := tOp rAddI (tVar 1) (tC (.int 1))) (l := t) (i := (p : Nat) + 1 - (enN t p : Nat)) (j := (p : Nat) + 1) (c_whole (ev_var rfl) hb1.has hlen) (ev_op (ev_op (ev_var rfl) ev_c rv_I0) (e_endAt bc (ev_var rfl) hb1.has (ev_var rfl) hp) rv_I0) (ev_op (ev_var rfl) ev_c rv_I0) (by omega) (by omega) (by omega)
    rw [show (((p : Nat) : Int) + 1 - (enN t p : Nat)).toNat = p + 1 - enN t p by omega, show (((p : Nat) : Int) + 1).toNat = p + 1 by omega, end_cut hp] at z
    exact a_ret am z fun H2 am => k H2 am.toEx
  · show t_Book_ends_at A E _ [some (.ref g), some x] H
    unfold t_Book_ends_at
    exact xq_need_place (Am.start H) (ev_var rfl) (ev_var rfl) hh hx fun H1 am => k H1 am.toEx
theorem c_ends {A : Ad} {σ : L2.St} {H : Hp} {te tp : TE} {g : Addr} {b : BA} {t : Tx} {kT kU : List (Key × V)} {E : XK} {p : Nat} (h : Ev te σ H (.ref g)) (hp : Ev tp σ H (.int (p : Nat))) (hb : BkAt A g b t kT kU H) (hl : p < t.length) : Ev (tMeth A.cBook "ends_at" (sp_Book_ends_at A) [] E te (tCons tp tNil)) σ H (tS (lps (t.take (p + 1)))) :=
  e_methVX h (hb.has.at 0 rfl) rfl (ea_cons hp ea_nil) fun H1 e => ⟨g, b, t, kT, kU, p, rfl, hb.ex e, hl, rfl⟩
/-! ## longest -/
def sp_Book_longest (A : Ad) : Sp := fun vs H Q _ => ∃ g b t kT kU, vs = [.ref g] ∧ BkAt A g b t kT kU H ∧ ∀ H', Ex H H' → Q (tS (longF t)) H'
def t_Book_longest (A : Ad) (E : XK) : TS :=
  (tSeq (tAsg (tCKw (rMaxDI A.K) (tCons (tFld A.K (tVar 0) "heads") tNil) (tCons (tC (.int 0)) tNil)) (gName 1))
  (tSeq (tIfS (tTest (tOp rEq (tVar 1) (tC (.int 0)))) (tRet (tC (tS []))) tNext)
  (tRet (tMeth A.cBook "begins_at" (sp_Book_begins_at A) [] E (tVar 0) (tCons (tBM A.K "list" (rIndex A.K) (tFld A.K (tVar 0) "heads") (tCons (tVar 1) tNil)) tNil)))))

theorem len_Book_longest (A : Ad) : ∀ vs H Q E, sp_Book_longest A vs H Q E → vs.length = 1 := fun vs H Q E h => by
  obtain ⟨g, b, t, kT, kU, rfl, _⟩ := h
  rfl
theorem pu_Book_longest (A : Ad) (bc : BC A) (vs : List V) (H : Hp) (Q : VK) (E : XK) (h : sp_Book_longest A vs H Q E) : t_Book_longest A E { nx := fun _ H' => Q .non H', rt := Q } (start ["self", "most"] vs) H := by
  obtain ⟨g, b, t, kT, kU, rfl, hb, k⟩ := h
  show t_Book_longest A E _ [some (.ref g), none] H
  unfold t_Book_longest
  have hrow : hdV t = ((List.range t.length).map fun i => ((hdN t i : Nat) : Int)).map V.int := by
    rw [List.map_map]; rfl
  refine aq_asg (v := .int (mostF t : Nat)) (Am.start H) (e_maxDI (K := A.K) (ns := (List.range t.length).map fun i => ((hdN t i : Nat) : Int)) (z := .int 0) (e_heads bc (ev_var rfl) hb.has) (by rw [← hrow]; exact sq_of (hb.has.at 2 rfl)) ev_c (fun c => ?_) fun m hm hmax => ?_) fun H1 am => ?_
  · have e : t = [] := by
      rw [List.map_eq_nil_iff, List.range_eq_nil] at c
      exact List.eq_nil_of_length_eq_zero c
    subst e; rfl
  · have ht : t ≠ [] := fun z => by subst z; cases hm
    obtain ⟨i, hi, e⟩ := most_at ht
    obtain ⟨j, hj, rfl⟩ := List.mem_map.mp hm
    have h1 := hmax _ (List.mem_map.mpr ⟨i, List.mem_range.mpr hi, rfl⟩)
    have h2 := most_ge (List.mem_range.mp hj)
    congr 1
    omega
  have hb1 := hb.ex am.toEx
  dsimp only [List.set]
  refine aq_when am (et_test (ev_op (ev_var rfl) ev_c r_eqI)) (fun c H2 am => ?_) fun c H2 am => ?_
  · have c := of_decide_eq_true c
    have e : t = [] := by
      by_cases h : t = []
      · exact h
      · have := most_pos h; omega
    subst e
    exact a_ret am ev_c fun H3 am => k H3 am.toEx
  · have c := of_decide_eq_false c
    have ht : t ≠ [] := fun z => by subst z; exact c rfl
    obtain ⟨f1, f2, f3⟩ := first_spec ht
    have hb2 := hb.ex am.toEx
    have e : longF t = lps (t.drop (firstF t)).reverse := if_neg ht
    rw [e] at k
    refine a_ret am (c_begins (ev_var rfl) (e_indexI (K := A.K) (F := fun i => ((hdN t i : Nat) : Int)) (n := t.length) (m := (mostF t : Nat)) (e_heads bc (ev_var rfl) hb2.has) (sq_of (hb2.has.at 2 rfl)) (ev_var rfl) f1 (by rw [f2]) fun j hj z => f3 j hj (by omega)) hb2 f1) fun H3 am => k H3 am.toEx
theorem c_longest {A : Ad} {σ : L2.St} {H : Hp} {te : TE} {g : Addr} {b : BA} {t : Tx} {kT kU : List (Key × V)} {E : XK} (h : Ev te σ H (.ref g)) (hb : BkAt A g b t kT kU H) : Ev (tMeth A.cBook "longest" (sp_Book_longest A) [] E te tNil) σ H (tS (longF t)) := fun H1 e Q q =>
  t_meth (h.mono e) (e _ _ (hb.has.at 0 rfl)) rfl ea_nil fun H2 e2 => ⟨g, b, t, kT, kU, rfl, hb.ex (e.trans e2), fun H3 e3 => q H3 (e2.trans e3)⟩
/-! ## is_letter, need_room -/
def oLet (o : Option Tx) : Bool := match o with
  | some l => decide (l.length = 1) && l.all fun c => decide (c ∈ letters)
  | none => false
def sp_is_letter (A : Ad) : Sp := spV fun vs H v => ∃ x o, vs = [x] ∧ Thing A.K H x o ∧ v = .bl (oLet o)
def t_is_letter (A : Ad) : TS :=
  (tRet (tAndV (tCB (rIsi A.K) (tCons (tVar 0) (tCons (tC (.ty "str")) tNil))) (tAndV (tOp rEq (tCB rLenT (tCons (tVar 0) tNil)) (tC (.int 1))) (tOp rInC (tVar 0) (tC (tS letters))))))

theorem len_is_letter (A : Ad) : ∀ vs H Q E, sp_is_letter A vs H Q E → vs.length = 1 := fun vs H Q E h => by
  obtain ⟨v, ⟨x, o, rfl, _⟩, _⟩ := h
  rfl
theorem pu_is_letter (A : Ad) (vs : List V) (H : Hp) (Q : VK) (E : XK) (h : sp_is_letter A vs H Q E) : t_is_letter A { nx := fun _ H' => Q .non H', rt := Q } (start ["thing"] vs) H := by
  obtain ⟨v, ⟨x, o, rfl, ho, rfl⟩, k⟩ := h
  show t_is_letter A _ [some x] H
  unfold t_is_letter
  rcases ho with ⟨l, rfl, hl, rfl⟩ | ⟨⟨n, ty, hn⟩, rfl⟩
  · refine a_ret (v := .bl (oLet (some l))) (Am.start H) (ev_is (ev_andV (a := true) (b := oLet (some l)) (ev_cb (ea_cons (ev_var rfl) (ea_cons ev_c ea_nil)) (rc_isi (t := .type "str") (fun _ _ => .base (.str _)) (.ty "str") (kit_ty (by decide +kernel)))) fun _ => ?_) rfl) fun H1 am => k H1 am.toEx
    refine ev_is (ev_andV (a := decide ((l.length : Int) = 1)) (b := l.all fun c => decide (c ∈ letters)) (ev_op (ev_cb (ea_cons (ev_var rfl) ea_nil) (rc_lenT (by omega))) ev_c r_eqI) fun c => ?_) ?_
    · have c := of_decide_eq_true c
      obtain ⟨d, rfl⟩ : ∃ d, l = [d] := List.length_eq_one_iff.mp (by omega)
      exact ev_is (ev_op (ev_var rfl) ev_c r_inC) (by simp)
    · unfold oLet
      congr 2
      exact decide_eq_decide.mpr (by omega)
  · exact a_ret (v := .bl false) (Am.start H) (ev_andV (a := false) (b := false) (ev_cb (ea_cons (ev_var rfl) (ea_cons ev_c ea_nil)) (rc_isi (t := .type n) (fun _ e => tyX_ex e ty) (.ty "str") (odd_str hn))) fun z => Bool.noConfusion z) fun H1 am => k H1 am.toEx
theorem c_is_letter_ {A : Ad} {σ : L2.St} {H : Hp} {te : TE} {x : V} {o : Option Tx} (h : Ev te σ H x) (hx : Thing A.K H x o) : Ev (tCall (sp_is_letter A) [] E0 (tCons te tNil)) σ H (.bl (oLet o)) :=
  e_callV (ea_cons h ea_nil) fun _ e => ⟨x, o, rfl, hx.ex e, rfl⟩
def sp_Book_need_room (A : Ad) : Sp := spVX (fun vs H v => ∃ g b t hs es kT kU c, vs = [.ref g, tS [c]] ∧ Has H (bkL A g b t hs es kT kU) ∧ c ∈ letters ∧ t.length < 200 ∧ v = .non)
  fun vs H C => ∃ g b t hs es kT kU x o, vs = [.ref g, x] ∧ Has H (bkL A g b t hs es kT kU) ∧ Thing A.K H x o ∧ ((oLet o = false ∧ C = A.cBL) ∨ (oLet o = true ∧ t.length = 200 ∧ C = A.cFu))
def t_Book_need_room (A : Ad) (E : XK) : TS :=
  (tSeq (tIfS (tNot (tB (tCall (sp_is_letter A) [] E0 (tCons (tVar 1) tNil)))) (tRz E A.cBL) tNext)
  (tIfS (tTest (tOp rEq (tCB (rLenS A.K) (tCons (tFld A.K (tVar 0) "letters") tNil)) (tC (.int 200)))) (tRz E A.cFu) tNext))

theorem len_Book_need_room (A : Ad) : ∀ vs H Q E, sp_Book_need_room A vs H Q E → vs.length = 2 := fun vs H Q E h => by
  rcases h with ⟨v, ⟨g, b, t, hs, es, kT, kU, p, rfl, _⟩, _⟩ | ⟨C, ⟨g, b, t, hs, es, kT, kU, x, o, rfl, _⟩, _⟩ <;> rfl
theorem pu_Book_need_room (A : Ad) (bc : BC A) (vs : List V) (H : Hp) (Q : VK) (E : XK) (h : sp_Book_need_room A vs H Q E) : t_Book_need_room A E { nx := fun _ H' => Q .non H', rt := Q } (start ["self", "letter"] vs) H := by
  rcases h with ⟨v, ⟨g, b, t, hs, es, kT, kU, c, rfl, hh, hc, hl, rfl⟩, k⟩ | ⟨C, ⟨g, b, t, hs, es, kT, kU, x, o, rfl, hh, hx, hC⟩, k⟩
  · show t_Book_need_room A E _ [some (.ref g), some (tS [c])] H
    unfold t_Book_need_room
    have ho : oLet (some [c]) = true := by
      unfold oLet
      simp [hc]
    refine aq_when (b := false) (Am.start H) (et_is (et_not (et_B (c_is_letter_ (o := some [c]) (ev_var rfl) (.inl ⟨[c], rfl, by show 1 ≤ 1000; decide, rfl⟩)))) (by rw [ho]; rfl)) (fun c => Bool.noConfusion c) fun _ H1 am => ?_
    refine a_when (b := false) am (et_is (et_test (ev_op (e_lenLets bc (ev_var rfl) (hh.ex am.toEx)) ev_c r_eqI)) (decide_eq_false (by omega))) (fun c => Bool.noConfusion c) fun _ H2 am => k H2 am.toEx
  · show t_Book_need_room A E _ [some (.ref g), some x] H
    unfold t_Book_need_room
    rcases hC with ⟨ho, rfl⟩ | ⟨ho, hl, rfl⟩
    · refine aq_when (b := true) (Am.start H) (et_is (et_not (et_B (c_is_letter_ (ev_var rfl) hx))) (by rw [ho]; rfl)) (fun _ H1 am => k H1 am.toEx) fun c => Bool.noConfusion c
    · refine aq_when (b := false) (Am.start H) (et_is (et_not (et_B (c_is_letter_ (ev_var rfl) hx))) (by rw [ho]; rfl)) (fun c => Bool.noConfusion c) fun _ H1 am => ?_
      refine a_when (b := true) am (et_is (et_test (ev_op (e_lenLets bc (ev_var rfl) (hh.ex am.toEx)) ev_c r_eqI)) (decide_eq_true (by omega))) (fun _ H2 am => k H2 am.toEx) fun c => Bool.noConfusion c

end Mw
namespace Mw
open PySem PySem.Spec PyProof.Rows L2 Evl
local macro_rules | `(tactic| walk_at "sd") => `(tactic| (first
  | assumption
  | omega
  | decide
  | (simp only [List.length_append, List.length_cons, List.length_nil, List.length_reverse, List.length_take, List.length_drop, List.length_map, List.length_range] at *; omega)
  | skip))
local macro_rules | `(tactic| walk_at "ev") => `(tactic| (first
  | ((with_reducible apply ev_var); rfl)
  | (with_reducible exact ev_c)
  | ((with_reducible apply ev_op) <;> walk_at "ev")
  | ((with_reducible apply e_negI) <;> walk_at "ev")
  | ((with_reducible apply et_test) <;> walk_at "ev")
  | ((with_reducible apply et_B) <;> walk_at "ev")
  | ((with_reducible apply et_and); (focus walk_at "ev"); intro hq; (try simp only [Bool.and_eq_true, Bool.or_eq_true, decide_eq_true_eq, Bool.not_eq_true', decide_eq_false_iff_not, Bool.and_eq_false_iff, Bool.or_eq_false_iff, Bool.not_eq_false'] at hq); walk_at "ev")
  | ((with_reducible apply et_or); (focus walk_at "ev"); intro hq; (try simp only [Bool.and_eq_true, Bool.or_eq_true, decide_eq_true_eq, Bool.not_eq_true', decide_eq_false_iff_not, Bool.and_eq_false_iff, Bool.or_eq_false_iff, Bool.not_eq_false'] at hq); walk_at "ev")
  | ((with_reducible apply ev_andV); (focus walk_at "ev"); intro hq; (try simp only [Bool.and_eq_true, Bool.or_eq_true, decide_eq_true_eq, Bool.not_eq_true', decide_eq_false_iff_not, Bool.and_eq_false_iff, Bool.or_eq_false_iff, Bool.not_eq_false'] at hq); walk_at "ev")
  | ((with_reducible apply ev_orV); (focus walk_at "ev"); intro hq; (try simp only [Bool.and_eq_true, Bool.or_eq_true, decide_eq_true_eq, Bool.not_eq_true', decide_eq_false_iff_not, Bool.and_eq_false_iff, Bool.or_eq_false_iff, Bool.not_eq_false'] at hq); walk_at "ev")
  | ((with_reducible apply e_if); (focus walk_at "ev"); (focus (intro hq; (try simp only [Bool.and_eq_true, Bool.or_eq_true, decide_eq_true_eq, Bool.not_eq_true', decide_eq_false_iff_not, Bool.and_eq_false_iff, Bool.or_eq_false_iff, Bool.not_eq_false'] at hq); walk_at "ev")); (intro hq; (try simp only [Bool.and_eq_true, Bool.or_eq_true, decide_eq_true_eq, Bool.not_eq_true', decide_eq_false_iff_not, Bool.and_eq_false_iff, Bool.or_eq_false_iff, Bool.not_eq_false'] at hq); walk_at "ev"))
  | ((with_reducible apply et_not) <;> walk_at "ev")
  | ((with_reducible apply ev_notV) <;> walk_at "ev")
  | (with_reducible exact et_yes)
  | (with_reducible exact ea_nil)
  | ((with_reducible apply ea_cons) <;> walk_at "ev")
  | (with_reducible exact eo_none)
  | ((with_reducible apply eo_some) <;> walk_at "ev")
  | ((with_reducible apply e_slBut) <;> walk_at "ev")
  | ((with_reducible apply e_slIn) <;> walk_at "ev")
  | ((with_reducible apply e_slTo) <;> walk_at "ev")
  | ((with_reducible apply e_slFrom) <;> walk_at "ev")
  | ((with_reducible apply e_slMid) <;> walk_at "ev")
  | ((with_reducible apply e_rev) <;> walk_at "ev")
  | (with_reducible exact rv_I0)
  | (with_reducible exact r_eqI) | (with_reducible exact r_neI) | (with_reducible exact r_eqS) | (with_reducible exact r_neS)
  | (with_reducible exact r_inC) | (with_reducible exact r_ninC) | (with_reducible exact r_isN) | (with_reducible exact r_notN)
  | (with_reducible exact r_ltT) | (with_reducible exact r_gtT)
  | (with_reducible exact rc_max2) | (with_reducible exact rc_min2)
  | ((with_reducible apply r_divI) <;> walk_at "sd") | ((with_reducible apply r_modI) <;> walk_at "sd") | ((with_reducible apply r_mulI) <;> walk_at "sd")
  | ((with_reducible apply r_ixS) <;> walk_at "sd")
  | ((with_reducible apply r_addT) <;> walk_at "sd")
  | ((with_reducible apply r_mulT) <;> walk_at "sd")
  | ((with_reducible apply rc_lenT) <;> walk_at "sd")
  | ((with_reducible apply rc_lenL) <;> walk_at "sd")
  | ((with_reducible apply ev_cb) <;> walk_at "ev")
  | walk_at "evc"
  | walk_at "sd"))

/-! ## grown -/
def vw (bh : Bool) (t : Tx) : Tx := if bh = true then t else t.reverse
theorem cntD_vw (bh : Bool) (t : Tx) (w : Tx) : cntD (vw bh t) w = cntD t w := by
  unfold vw
  cases bh
  · exact cntD_rev t w
  · rfl
theorem len_vw (bh : Bool) (t : Tx) : (vw bh t).length = t.length := by
  unfold vw
  cases bh
  · exact List.length_reverse
  · rfl
theorem let_at {t : Tx} {s : Nat} (hs : s < t.length) (bh : Bool) : atI (ltV t) (if bh = true then -1 - (s : Int) else (s : Int)) = some (tS [(vw bh t).getD (t.length - 1 - s) 0]) := by
  have hat : ∀ i, i < t.length → (ltV t)[i]? = some (tS [t.getD i 0]) := fun i hi => by
    unfold ltV
    rw [List.getElem?_map, List.getD_eq_getElem?_getD, List.getElem?_eq_getElem hi]; rfl
  unfold vw
  cases bh with
  | true =>
    rw [if_pos rfl, if_pos rfl]
    unfold atI ixN
    rw [len_ltV, if_neg (by omega), if_pos (by omega)]
    show (ltV t)[(-1 - (s : Int) + t.length).toNat]? = _
    rw [show (-1 - (s : Int) + t.length).toNat = t.length - 1 - s by omega]
    exact hat _ (by omega)
  | false =>
    rw [if_neg Bool.false_ne_true, if_neg Bool.false_ne_true, atI_nat (hat s hs)]
    congr 3
    rw [List.getD_eq_getElem?_getD, List.getD_eq_getElem?_getD, List.getElem?_reverse (by omega), show t.length - 1 - (t.length - 1 - s) = s by omega]
def sp_Book_grown (A : Ad) : Sp := spV fun vs H v => ∃ g b t hs es kT kU w0 c bh, vs = [.ref g, tS w0, tS [c], .bl bh] ∧ Has H (bkL A g b t hs es kT kU) ∧ t.length ≤ 200 ∧ lps w0 = w0 ∧ w0.length ≤ 200 ∧ (∀ w ∈ endsT w0, valV kU (kW w) = some (tS (tailF w))) ∧ v = tS (grow (vw bh t) c (endsT w0))
def t_Book_grown (A : Ad) : TS :=
  (tWhile (tB (tC (.bl true)))
  (tSeq (tAsg (tCB rLenT (tCons (tVar 1) tNil)) (gName 4))
  (tSeq (tIfS (tAnd (tTest (tOp rLtI (tVar 4) (tCB (rLenS A.K) (tCons (tFld A.K (tVar 0) "letters") tNil)))) (tTest (tOp rEq (tOp (rIxL A.K) (tFld A.K (tVar 0) "letters") (tIf (tB (tVar 3)) (tOp rSubI (tNegI (tC (.int 1))) (tVar 4)) (tVar 4))) (tVar 2)))) (tRet (tOp rAddT (tOp rAddT (tVar 2) (tVar 1)) (tVar 2))) tNext)
  (tSeq (tIfS (tTest (tOp rEq (tVar 1) (tC (tS [])))) (tRet (tVar 2)) tNext)
  (tAsg (tDGet (tFld A.K (tVar 0) "tails") (tVar 1)) (gName 1))))))

theorem len_Book_grown (A : Ad) : ∀ vs H Q E, sp_Book_grown A vs H Q E → vs.length = 4 := fun vs H Q E h => by
  obtain ⟨v, ⟨g, b, t, hs, es, kT, kU, w0, c, bh, rfl, _⟩, _⟩ := h
  rfl
theorem pu_Book_grown (A : Ad) (bc : BC A) (vs : List V) (H : Hp) (Q : VK) (E : XK) (h : sp_Book_grown A vs H Q E) : t_Book_grown A { nx := fun _ H' => Q .non H', rt := Q } (start ["self", "word", "letter", "behind", "size"] vs) H := by
  obtain ⟨v, ⟨g, b, t, hs, es, kT, kU, w0, c, bh, rfl, hh, hl, hw0, hwl, htl, rfl⟩, k⟩ := h
  show t_Book_grown A _ [some (.ref g), some (tS w0), some (tS [c]), some (.bl bh), none] H
  unfold t_Book_grown
  have hhd : (endsT w0).headD [] = w0 := hw0
  have hne : ∀ w ∈ endsT w0, w ≠ [] := fun w hw => (mir_iff.mp (mem_ends.mp hw).1).2
  refine a_while (fun m σ' H' => ∃ pre post v4, endsT w0 = pre ++ post ∧ m = post.length ∧ σ' = [some (.ref g), some (tS (post.headD [])), some (tS [c]), some (.bl bh), v4] ∧ Am [] H [] H' ∧ grow (vw bh t) c post = grow (vw bh t) c (endsT w0)) (endsT w0).length
    ⟨[], endsT w0, none, rfl, rfl, by rw [hhd], Am.start H, rfl⟩ ?_
  rintro m σ' H' ⟨pre, post, v4, hEq, rfl, rfl, am, hgr⟩
  have hpl : (post.headD []).length ≤ 200 := by
    cases post with
    | nil => exact Nat.zero_le _
    | cons w r =>
      have := (ends_len (u := w0) (w := w) (by rw [hEq]; simp)).2
      rw [List.headD_cons]; omega
  have hp0 : post.headD [] = [] → post = [] := fun z => by
    cases post with
    | nil => rfl
    | cons w r => exact absurd z (hne w (by rw [hEq]; simp))
  generalize hw : post.headD [] = w at hpl hp0
  refine ⟨true, et_B ev_c, fun _ H1 ex N hN => ?_, fun z => Bool.noConfusion z⟩
  have am := am.ex ex
  have hh1 := hh.ex am.toEx
  refine aq_asg am (v := .int (w.length : Nat)) (ev_cb (ea_cons (ev_var rfl) ea_nil) (rc_lenT (by omega))) fun H2 am => ?_
  dsimp only [List.set]
  have hh2 := hh.ex am.toEx
  have hc : EvT (tAnd (tTest (tOp rLtI (tVar 4) (tCB (rLenS A.K) (tCons (tFld A.K (tVar 0) "letters") tNil)))) (tTest (tOp rEq (tOp (rIxL A.K) (tFld A.K (tVar 0) "letters") (tIf (tB (tVar 3)) (tOp rSubI (tNegI (tC (.int 1))) (tVar 4)) (tVar 4))) (tVar 2)))) [some (.ref g), some (tS w), some (tS [c]), some (.bl bh), some (.int (w.length : Nat))] H2 (condG (vw bh t) c w) := by
    refine et_is (et_and (et_test (ev_op (ev_var rfl) (e_lenLets bc (ev_var rfl) hh2) rv_I0)) (b := decide ([(vw bh t).getD (t.length - 1 - w.length) 0] = [c])) fun c1 => ?_) ?_
    · have c1 := of_decide_eq_true c1
      have z := let_at (t := t) (s := w.length) (by omega) bh
      have hidx : Ev (tIf (tB (tVar 3)) (tOp rSubI (tNegI (tC (.int 1))) (tVar 4)) (tVar 4)) [some (.ref g), some (tS w), some (tS [c]), some (.bl bh), some (.int (w.length : Nat))] H2 (.int (if bh = true then -1 - ((w.length : Nat) : Int) else ((w.length : Nat) : Int))) :=
        ev_is (e_if (et_B (ev_var rfl)) (fun _ => ev_op (e_negI ev_c) (ev_var rfl) rv_I0) fun _ => ev_var rfl) (by split <;> rfl)
      exact et_test (ev_op (ev_op (e_lets bc (ev_var rfl) hh2) hidx (rv_ixL (K := A.K) (sq_of (hh2.at 1 rfl)) z)) (ev_var rfl) r_eqS)
    · unfold condG
      rw [len_vw]
      congr 1
      · exact decide_eq_decide.mpr (by omega)
      · exact decide_eq_decide.mpr (by rw [List.cons.injEq]; exact ⟨fun z => z.1, fun z => ⟨z, rfl⟩⟩)
  refine aq_when am hc (fun c1 H3 am => ?_) fun c1 H3 am => ?_
  · refine a_ret (v := tS (([c] ++ w) ++ [c])) am (ev_op (ev_op (ev_var rfl) (ev_var rfl) (r_addT (by rw [List.length_singleton]; omega))) (ev_var rfl) (r_addT (by rw [List.length_append, List.length_singleton]; omega))) fun H4 am => ?_
    have e : ([c] ++ w) ++ [c] = grow (vw bh t) c (endsT w0) := by
      rw [← hgr]
      cases post with
      | nil =>
        have hw : ([] : Tx) = w := hw
        subst hw
        rw [grow, if_pos c1]; rfl
      | cons x r =>
        rw [List.headD_cons] at hw
        subst hw
        rw [grow, if_pos c1]; rfl
    rw [e]
    exact k H4 am.toEx
  · refine aq_when am (et_test (ev_op (ev_var rfl) ev_c r_eqS)) (fun c2 H4 am => ?_) fun c2 H4 am => ?_
    · have c2 := of_decide_eq_true c2
      have e := hp0 c2
      refine a_ret am (ev_var rfl) fun H5 am => ?_
      have e2 : [c] = grow (vw bh t) c (endsT w0) := by
        rw [← hgr, e, grow, if_neg]
        rw [← c2, c1]; exact Bool.false_ne_true
      rw [e2]
      exact k H5 am.toEx
    · have c2 := of_decide_eq_false c2
      cases post with
      | nil => exact absurd hw.symm c2
      | cons x r =>
        rw [List.headD_cons] at hw
        subst hw
        have hh4 := hh.ex am.toEx
        refine a_asg am (e_dget (k := kW x) (v := tS (r.headD [])) (e_tails bc (ev_var rfl) hh4) (ev_var rfl) (hh4.at 5 rfl) ?_) fun H5 am => ?_
        · rw [htl x (by rw [hEq]; simp), chain_next hEq]
        · exact hN r.length _ _ (Nat.lt_succ_self _) ⟨pre ++ [x], r, _, by rw [hEq, List.append_assoc]; rfl, rfl, rfl, am, by rw [← hgr, grow, if_neg (by rw [c1]; exact Bool.false_ne_true)]⟩
theorem c_grown {A : Ad} {σ : L2.St} {H : Hp} {te tw tc tb : TE} {g : Addr} {b : BA} {t : Tx} {hs es : List V} {kT kU : List (Key × V)} {w0 : Tx} {c : Nat} {bh : Bool} (h : Ev te σ H (.ref g)) (hw : Ev tw σ H (tS w0)) (hc : Ev tc σ H (tS [c])) (hb : Ev tb σ H (.bl bh))
    (hh : Has H (bkL A g b t hs es kT kU)) (hl : t.length ≤ 200) (hw0 : lps w0 = w0) (hwl : w0.length ≤ 200) (htl : ∀ w ∈ endsT w0, valV kU (kW w) = some (tS (tailF w))) : Ev (tMeth A.cBook "grown" (sp_Book_grown A) [] E0 te (tCons tw (tCons tc (tCons tb tNil)))) σ H (tS (grow (vw bh t) c (endsT w0))) :=
  e_methV h (hh.at 0 rfl) rfl (ea_cons hw (ea_cons hc (ea_cons hb ea_nil))) fun H1 e => ⟨g, b, t, hs, es, kT, kU, w0, c, bh, rfl, hh.ex e, hl, hw0, hwl, htl, rfl⟩
theorem lps_lps (u : Tx) : lps (lps u) = lps u := by
  show (endsT (lps u)).headD [] = _
  rw [endsT_lps]; rfl
theorem tails_at {t w : Tx} {kT kU : List (Key × V)} (ok : BkOk (cntD t) kT kU) (h : w = [] ∨ 0 < cntD t w) : valV kU (kW w) = some (tS (tailF w)) := by
  rw [ok.tails.vl, if_pos]
  rw [Bool.or_eq_true, decide_eq_true_eq, decide_eq_true_eq]; exact h
/-! ## met -/
def pc (pre : List Tx) (w : Tx) : Nat := if w ∈ pre then 1 else 0
theorem pc_snoc {pre : List Tx} {w : Tx} (h : w ∉ pre) (x : Tx) : pc (pre ++ [w]) x = if x = w then 1 else pc pre x := by
  unfold pc
  by_cases e : x = w
  · subst e
    rw [if_pos (by simp), if_pos rfl]
  · rw [if_neg e]
    have : x ∈ pre ++ [w] ↔ x ∈ pre := by rw [List.mem_append, List.mem_singleton]; exact ⟨fun z => z.resolve_right e, .inl⟩
    simp only [this]
theorem ne_count {x : Tx} : ∀ l : List Tx, l.Nodup → l.length ≤ (l.filter fun w => decide (w ≠ x)).length + 1
  | [], _ => Nat.zero_le _
  | y :: l, nd => by
    obtain ⟨n1, n2⟩ := List.nodup_cons.mp nd
    by_cases e : y = x
    · subst e
      have e2 : l.filter (fun w => decide (w ≠ y)) = l := List.filter_eq_self.mpr fun z hz => decide_eq_true fun q => n1 (q ▸ hz)
      rw [List.filter_cons_of_neg (by simp), e2]; exact Nat.le_refl _
    · have := ne_count (x := x) l n2
      rw [List.filter_cons_of_pos (by exact decide_eq_true e), List.length_cons, List.length_cons]; omega
def sp_Book_met (A : Ad) : Sp := fun vs H Q _ => ∃ g b t hs es kT kU c bh, vs = [.ref g, tS (lps (vw bh t ++ [c])), tS [c], .bl bh] ∧ Has H (bkL A g b t hs es kT kU) ∧ BkOk (cntD t) kT kU ∧ t.length < 200 ∧
  ∀ kT' kU' H', BkOk (cntD (vw bh t ++ [c])) kT' kU' → Am (bkS g b) H (bkL A g b t hs es kT' kU') H' → Q (.bl (decide (cntD t (lps (vw bh t ++ [c])) = 0))) H'
def t_Book_met (A : Ad) : TS :=
  (tSeq (tAsg (tDNotIn (tVar 1) (tFld A.K (tVar 0) "told")) (gName 4))
  (tSeq (tIfS (tB (tVar 4)) (tSeq (tAsg (tC (tS [])) (gName 5))
  (tSeq (tIfS (tTest (tOp rGtI (tCB rLenT (tCons (tVar 1) tNil)) (tC (.int 1)))) (tAsg (tIf (tTest (tOp rGtI (tCB rLenT (tCons (tVar 1) tNil)) (tC (.int 2)))) (tMeth A.cBook "grown" (sp_Book_grown A) [] E0 (tVar 0) (tCons (tDGet (tFld A.K (tVar 0) "tails") (tSl rSlS (tVar 1) (tPart (tC (.int 1))) (tPart (tNegI (tC (.int 1)))))) (tCons (tVar 2) (tCons (tVar 3) tNil)))) (tVar 2)) (gName 5)) tNext)
  (sDPut (tFld A.K (tVar 0) "tails") (tVar 1) (tVar 5)))) tNext)
  (tSeq (tAsg (tVar 1) (gName 6))
  (tSeq (tWhile (tTest (tOp rNe (tVar 6) (tC (tS []))))
  (tSeq (sDPut (tFld A.K (tVar 0) "told") (tVar 6) (tOp rAddI (tDGet2 (tFld A.K (tVar 0) "told") (tVar 6) (tC (.int 0))) (tC (.int 1))))
  (tAsg (tDGet (tFld A.K (tVar 0) "tails") (tVar 6)) (gName 6))))
  (tRet (tVar 4))))))

theorem len_Book_met (A : Ad) : ∀ vs H Q E, sp_Book_met A vs H Q E → vs.length = 4 := fun vs H Q E h => by
  obtain ⟨g, b, t, hs, es, kT, kU, c, bh, rfl, _⟩ := h
  rfl
theorem met_tails {t : Tx} {bh : Bool} {c : Nat} {kU : List (Key × V)} (d : DF (fun w => decide (w = []) || decide (0 < cntD t w) || decide (w = lps (vw bh t ++ [c]))) (fun w => tS (tailF w)) kU) : DF (fun w => decide (w = []) || decide (0 < cntD (vw bh t ++ [c]) w)) (fun w => tS (tailF w)) kU := by
  refine d.congr (fun w => ?_) fun _ _ => rfl
  rw [Bool.or_assoc]
  congr 1
  rw [Bool.eq_iff_iff, Bool.or_eq_true, decide_eq_true_eq, decide_eq_true_eq, decide_eq_true_eq, pos_put, cntD_vw]
theorem pu_Book_met (A : Ad) (bc : BC A) (vs : List V) (H : Hp) (Q : VK) (E : XK) (h : sp_Book_met A vs H Q E) : t_Book_met A { nx := fun _ H' => Q .non H', rt := Q } (start ["self", "word", "letter", "behind", "is_new", "shorter", "one"] vs) H := by
  obtain ⟨g, b, t, hs, es, kT, kU, c, bh, rfl, hh, ok, hl, k⟩ := h
  have htw := tail_word (vw bh t) c
  have hml := lps_mir (vw bh t) c
  have hWl : (lps (vw bh t ++ [c])).length ≤ 200 := by
    have := (lps_suf (vw bh t ++ [c])).length_le
    rw [List.length_append, List.length_singleton, len_vw] at this
    omega
  have hEW : endsT (vw bh t ++ [c]) = endsT (lps (vw bh t ++ [c])) := (endsT_lps _).symm
  have hhd : (endsT (vw bh t ++ [c])).headD [] = lps (vw bh t ++ [c]) := rfl
  have hEl : (endsT (vw bh t ++ [c])).length ≤ 201 := by
    have := len_endsT (vw bh t ++ [c])
    rw [List.length_append, List.length_singleton, len_vw] at this
    omega
  have hcnt : ∀ w, cntD (vw bh t ++ [c]) w = cntD t w + pc (endsT (vw bh t ++ [c])) w := fun w => by
    rw [cntD_snoc, cntD_vw]; rfl
  have hok : ∀ kU', DF (fun w => decide (w = []) || decide (0 < cntD t w) || decide (w = lps (vw bh t ++ [c]))) (fun w => tS (tailF w)) kU' → DF (fun w => decide (w = []) || decide (0 < cntD (vw bh t ++ [c]) w)) (fun w => tS (tailF w)) kU' := fun kU' d => met_tails d
  generalize hW : lps (vw bh t ++ [c]) = W at *
  show t_Book_met A _ [some (.ref g), some (tS W), some (tS [c]), some (.bl bh), none, none, none] H
  unfold t_Book_met
  have fin : ∀ {kU' : List (Key × V)} {H' : Hp} {v5 : Option V}, Am (bkS g b) H (bkL A g b t hs es kT kU') H' → DF (fun w => decide (w = []) || decide (0 < cntD t w) || decide (w = W)) (fun w => tS (tailF w)) kU' →
      (tSeq (tAsg (tVar 1) (gName 6))
        (tSeq (tWhile (tTest (tOp rNe (tVar 6) (tC (tS []))))
        (tSeq (sDPut (tFld A.K (tVar 0) "told") (tVar 6) (tOp rAddI (tDGet2 (tFld A.K (tVar 0) "told") (tVar 6) (tC (.int 0))) (tC (.int 1))))
        (tAsg (tDGet (tFld A.K (tVar 0) "tails") (tVar 6)) (gName 6))))
        (tRet (tVar 4)))) { nx := fun _ H' => Q .non H', rt := Q } [some (.ref g), some (tS W), some (tS [c]), some (.bl bh), some (.bl (decide (cntD t W = 0))), v5, none] H' := fun {kU' H' v5} am hU => by
    have hU := hok _ hU
    refine aq_asg am (ev_var rfl) fun H1 am => ?_
    dsimp only [List.set]
    have hkl : kT.length ≤ 200 := Nat.le_trans (told_len (f := cntD t) ok) (by omega)
    refine aq_chain (j := 6) (endsT (vw bh t ++ [c])) (fun pre H' => ∃ kT', Am (bkS g b) H (bkL A g b t hs es kT' kU') H' ∧ DF (fun w => decide (0 < cntD t w + pc pre w)) (fun w => .int (cntD t w + pc pre w : Nat)) kT' ∧ kT'.length ≤ 1000 + pre.length) (by rw [hhd]; rfl)
      (fun w hw => (mir_iff.mp (mem_ends.mp hw).1).2) ⟨kT, am, ok.told, by show kT.length ≤ 1000; omega⟩ (fun pre H1 H2 e ⟨kT', am, h1, h2⟩ => ⟨kT', am.ex e, h1, h2⟩) ?_ ?_ ?_
    · rintro pre w post H2 hE ⟨kT', am, hd, hlen⟩ D' hD
      have hnot := ends_notin hE
      have hp0 : pc pre w = 0 := if_neg hnot
      have hpl : pre.length ≤ 201 := by
        have := congrArg List.length hE
        rw [List.length_append] at this
        omega
      have hh2 := am.hasAll
      have hget : (valV kT' (kW w)).getD (.int 0) = .int (cntD t w : Nat) := by
        rw [hd.vl, hp0, Nat.add_zero]
        by_cases c0 : 0 < cntD t w
        · rw [decide_eq_true c0, if_pos rfl]; rfl
        · rw [decide_eq_false c0, if_neg Bool.false_ne_true, show cntD t w = 0 by omega]; rfl
      refine a_dput 4 (k := kW w) (v := .int (cntD t w + 1 : Nat)) am rfl (e_told bc (ev_var rfl) hh2) (ev_var rfl) (ev_is (ev_op (ev_is (e_dget2 (k := kW w) (z := .int 0) (e_told bc (ev_var rfl) hh2) (ev_var rfl) ev_c (hh2.at 4 rfl)) hget) ev_c rv_I0) (by congr 1)) (by omega) fun H3 am => ?_
      refine hD H3 ⟨_, am, (hd.put w (.int (cntD t w + 1 : Nat))).congr (fun x => ?_) fun x _ => ?_, ?_⟩
      · rw [pc_snoc hnot]
        by_cases e : x = w
        · subst e
          rw [if_pos rfl, decide_eq_true rfl, Bool.true_or, decide_eq_true (show 0 < cntD t x + 1 by omega)]
        · rw [if_neg e, decide_eq_false e]; rfl
      · rw [pc_snoc hnot]
        by_cases e : x = w
        · subst e; rw [if_pos rfl, if_pos rfl]
        · rw [if_neg e, if_neg e]
      · have := length_putK kT' (kW w) (.int (cntD t w + 1 : Nat))
        rw [List.length_append, List.length_singleton]; omega
    · rintro pre w post H2 hE ⟨kT', am, hd, hlen⟩
      have hh2 := am.hasAll
      refine e_dget (k := kW w) (e_tails bc (ev_var rfl) hh2) (ev_var rfl) (hh2.at 5 rfl) ?_
      rw [hU.vl, if_pos, chain_next hE]
      rw [Bool.or_eq_true, decide_eq_true_eq, decide_eq_true_eq]
      exact .inr (ends_pos (by rw [hE]; simp))
    · rintro H2 ⟨kT', am, hd, hlen⟩
      refine a_ret am (ev_var rfl) fun H3 am => k kT' kU' H3 ⟨hd.congr (fun w => by rw [hcnt]) fun w _ => by rw [hcnt], hU⟩ am
  have hin : (valV kT (kW W)).isSome = decide (0 < cntD t W) := by
    rw [ok.told.vl]
    by_cases c0 : 0 < cntD t W
    · rw [decide_eq_true c0, if_pos rfl]; rfl
    · rw [decide_eq_false c0, if_neg Bool.false_ne_true]; rfl
  have hnb : (!(valV kT (kW W)).isSome) = decide (cntD t W = 0) := by
    rw [hin]
    by_cases c0 : cntD t W = 0
    · rw [decide_eq_true c0, decide_eq_false (by omega)]; rfl
    · rw [decide_eq_false c0, decide_eq_true (by omega)]; rfl
  have am : Am (bkS g b) H (bkL A g b t hs es kT kU) H := hh.am
  refine aq_asg am (ev_is (e_dnin (k := kW W) (ev_var rfl) (e_told bc (ev_var rfl) hh) (hh.at 4 rfl)) (by rw [hnb])) fun H1 am => ?_
  dsimp only [List.set]
  refine aq_when am (et_B (ev_var rfl)) (fun c0 H2 am => ?_) fun c0 H2 am => ?_
  · have c0 := of_decide_eq_true c0
    have hul : kU.length ≤ 300 := by
      rw [← len_keysT]
      have nd := ok.tails.ndT
      refine Nat.le_trans (ne_count (x := ([] : Tx)) (keysT kU) nd) ?_
      refine Nat.le_trans (Nat.succ_le_succ (words_le t.length t _ rfl (nd.sublist List.filter_sublist) fun w hw => ?_)) (by omega)
      obtain ⟨h1, h2⟩ := List.mem_filter.mp hw
      have := (ok.tails.mem w).mp h1
      rw [Bool.or_eq_true, decide_eq_true_eq, decide_eq_true_eq] at this
      exact this.resolve_left (of_decide_eq_true h2)
    refine aq_asg am ev_c fun H3 am => ?_
    dsimp only [List.set]
    have put : ∀ {D' : Ends} {H' : Hp} {v5 : V}, Am (bkS g b) H (bkL A g b t hs es kT kU) H' → v5 = tS (tailF W) →
        (∀ kU' H4, Am (bkS g b) H (bkL A g b t hs es kT kU') H4 → DF (fun w => decide (w = []) || decide (0 < cntD t w) || decide (w = W)) (fun w => tS (tailF w)) kU' → D'.nx [some (.ref g), some (tS W), some (tS [c]), some (.bl bh), some (.bl (decide (cntD t W = 0))), some v5, none] H4) →
        (sDPut (tFld A.K (tVar 0) "tails") (tVar 1) (tVar 5)) D' [some (.ref g), some (tS W), some (tS [c]), some (.bl bh), some (.bl (decide (cntD t W = 0))), some v5, none] H' := fun {D' H' v5} am e hD => by
      subst e
      have hh2 := am.hasAll
      refine a_dput 5 (k := kW W) am rfl (e_tails bc (ev_var rfl) hh2) (ev_var rfl) (ev_var rfl) (by omega) fun H4 am => ?_
      refine hD _ H4 am ((ok.tails.put W (tS (tailF W))).congr (fun x => ?_) fun x _ => ?_)
      · rw [Bool.or_comm]
      · by_cases e : x = W
        · subst e; rw [if_pos rfl]
        · rw [if_neg e]
    refine aq_when am (b := decide (1 < W.length)) (et_is (et_test (ev_op (ev_cb (ea_cons (ev_var rfl) ea_nil) (rc_lenT (by omega))) ev_c rv_I0)) (decide_eq_decide.mpr (by omega))) (fun c1 H4 am => ?_) fun c1 H4 am => ?_
    · have c1 := of_decide_eq_true c1
      have hh4 := am.hasAll
      refine a_asg am (v := tS (tailF W)) (ev_if (b := decide (2 < W.length)) (et_is (et_test (ev_op (ev_cb (ea_cons (ev_var rfl) ea_nil) (rc_lenT (by omega))) ev_c rv_I0)) (decide_eq_decide.mpr (by omega))) (fun c2 => ?_) fun c2 => ?_) fun H5 am => put am rfl fun kU' H6 am h => fin am h
      · have c2 := of_decide_eq_true c2
        rcases htw with ⟨h1, _⟩ | ⟨h1, _⟩ | ⟨_, s, h1, h2, h3, h4⟩
        · omega
        · omega
        · have hs2 : s <:+: t ∨ True := .inr trivial
          have hsp : 0 < cntD t s := by rw [← cntD_vw bh]; exact cntD_pos.mpr ⟨h2, h1.isInfix⟩
          have hsl : (tailF s).length ≤ 200 := by
            rw [tailF_eq]
            have a1 := (lps_suf s.tail).length_le
            have a2 := h1.length_le
            rw [List.length_tail] at a1
            rw [len_vw] at a2
            omega
          rw [← h4]
          refine c_grown (ev_var rfl) (e_dget (k := kW s) (e_tails bc (ev_var rfl) hh4) (by rw [← h3]; exact e_slIn (ev_var rfl) (by omega)) (hh4.at 5 rfl) (tails_at ok (.inr hsp))) (ev_var rfl) (ev_var rfl) hh4 (by omega) (by rw [tailF_eq]; exact lps_lps _) hsl fun w hw => tails_at ok (.inr ?_)
          rw [← cntD_vw bh]
          exact tail_mem h1 hw
      · have c2 := of_decide_eq_false c2
        rcases htw with ⟨h1, _⟩ | ⟨h1, h2⟩ | ⟨h1, _⟩
        · omega
        · rw [h2]; exact ev_var rfl
        · omega
    · have c1 := of_decide_eq_false c1
      refine put am ?_ fun kU' H6 am h => fin am h
      have := List.length_pos_iff.mpr (mir_iff.mp hml).2
      rcases htw with ⟨_, h2⟩ | ⟨h1, _⟩ | ⟨h1, _⟩
      · rw [h2]
      · omega
      · omega
  · have c0 := of_decide_eq_false c0
    refine fin am (ok.tails.congr (fun x => ?_) fun _ _ => rfl)
    by_cases e : x = W
    · subst e
      rw [decide_eq_true rfl, Bool.or_true, decide_eq_true (by omega : 0 < cntD t x), Bool.or_true]
    · rw [decide_eq_false e, Bool.or_false]

end Mw
namespace Mw
open PySem PySem.Spec PyProof.Rows L2 Evl
local macro_rules | `(tactic| walk_at "sd") => `(tactic| (first
  | assumption
  | omega
  | decide
  | (simp only [List.length_append, List.length_cons, List.length_nil, List.length_reverse, List.length_take, List.length_drop, List.length_map, List.length_range] at *; omega)
  | skip))
local macro_rules | `(tactic| walk_at "ev") => `(tactic| (first
  | ((with_reducible apply ev_var); rfl)
  | (with_reducible exact ev_c)
  | ((with_reducible apply ev_op) <;> walk_at "ev")
  | ((with_reducible apply e_negI) <;> walk_at "ev")
  | ((with_reducible apply et_test) <;> walk_at "ev")
  | ((with_reducible apply et_B) <;> walk_at "ev")
  | ((with_reducible apply et_and); (focus walk_at "ev"); intro hq; (try simp only [Bool.and_eq_true, Bool.or_eq_true, decide_eq_true_eq, Bool.not_eq_true', decide_eq_false_iff_not, Bool.and_eq_false_iff, Bool.or_eq_false_iff, Bool.not_eq_false'] at hq); walk_at "ev")
  | ((with_reducible apply et_or); (focus walk_at "ev"); intro hq; (try simp only [Bool.and_eq_true, Bool.or_eq_true, decide_eq_true_eq, Bool.not_eq_true', decide_eq_false_iff_not, Bool.and_eq_false_iff, Bool.or_eq_false_iff, Bool.not_eq_false'] at hq); walk_at "ev")
  | ((with_reducible apply ev_andV); (focus walk_at "ev"); intro hq; (try simp only [Bool.and_eq_true, Bool.or_eq_true, decide_eq_true_eq, Bool.not_eq_true', decide_eq_false_iff_not, Bool.and_eq_false_iff, Bool.or_eq_false_iff, Bool.not_eq_false'] at hq); walk_at "ev")
  | ((with_reducible apply ev_orV); (focus walk_at "ev"); intro hq; (try simp only [Bool.and_eq_true, Bool.or_eq_true, decide_eq_true_eq, Bool.not_eq_true', decide_eq_false_iff_not, Bool.and_eq_false_iff, Bool.or_eq_false_iff, Bool.not_eq_false'] at hq); walk_at "ev")
  | ((with_reducible apply e_if); (focus walk_at "ev"); (focus (intro hq; (try simp only [Bool.and_eq_true, Bool.or_eq_true, decide_eq_true_eq, Bool.not_eq_true', decide_eq_false_iff_not, Bool.and_eq_false_iff, Bool.or_eq_false_iff, Bool.not_eq_false'] at hq); walk_at "ev")); (intro hq; (try simp only [Bool.and_eq_true, Bool.or_eq_true, decide_eq_true_eq, Bool.not_eq_true', decide_eq_false_iff_not, Bool.and_eq_false_iff, Bool.or_eq_false_iff, Bool.not_eq_false'] at hq); walk_at "ev"))
  | ((with_reducible apply et_not) <;> walk_at "ev")
  | ((with_reducible apply ev_notV) <;> walk_at "ev")
  | (with_reducible exact et_yes)
  | (with_reducible exact ea_nil)
  | ((with_reducible apply ea_cons) <;> walk_at "ev")
  | (with_reducible exact eo_none)
  | ((with_reducible apply eo_some) <;> walk_at "ev")
  | ((with_reducible apply e_slBut) <;> walk_at "ev")
  | ((with_reducible apply e_slIn) <;> walk_at "ev")
  | ((with_reducible apply e_slTo) <;> walk_at "ev")
  | ((with_reducible apply e_slFrom) <;> walk_at "ev")
  | ((with_reducible apply e_slMid) <;> walk_at "ev")
  | ((with_reducible apply e_rev) <;> walk_at "ev")
  | (with_reducible exact rv_I0)
  | (with_reducible exact r_eqI) | (with_reducible exact r_neI) | (with_reducible exact r_eqS) | (with_reducible exact r_neS)
  | (with_reducible exact r_inC) | (with_reducible exact r_ninC) | (with_reducible exact r_isN) | (with_reducible exact r_notN)
  | (with_reducible exact r_ltT) | (with_reducible exact r_gtT)
  | (with_reducible exact rc_max2) | (with_reducible exact rc_min2)
  | ((with_reducible apply r_divI) <;> walk_at "sd") | ((with_reducible apply r_modI) <;> walk_at "sd") | ((with_reducible apply r_mulI) <;> walk_at "sd")
  | ((with_reducible apply r_ixS) <;> walk_at "sd")
  | ((with_reducible apply r_addT) <;> walk_at "sd")
  | ((with_reducible apply r_mulT) <;> walk_at "sd")
  | ((with_reducible apply rc_lenT) <;> walk_at "sd")
  | ((with_reducible apply rc_lenL) <;> walk_at "sd")
  | ((with_reducible apply ev_cb) <;> walk_at "ev")
  | walk_at "evc"
  | walk_at "sd"))

/-! ## lost -/
theorem cnt_split (v : Tx) (c : Nat) (w : Tx) : cntD (v ++ [c]) w = cntD v w + pc (endsT (v ++ [c])) w := cntD_snoc v w c
theorem pos_cut {v w : Tx} {c : Nat} (h : w ≠ lps (v ++ [c])) : (decide (0 < cntD (v ++ [c]) w)) = decide (0 < cntD v w) := by
  refine decide_eq_decide.mpr ⟨fun z => some_new z h, fun z => pos_put.mpr (.inl z)⟩
def sp_Book_lost (A : Ad) : Sp := fun vs H Q _ => ∃ g b t hs es kT kU v c, vs = [.ref g, tS (lps (v ++ [c]))] ∧ Has H (bkL A g b t hs es kT kU) ∧ BkOk (cntD (v ++ [c])) kT kU ∧ v.length ≤ 200 ∧
  ∀ kT' kU' H', BkOk (cntD v) kT' kU' → Am (bkS g b) H (bkL A g b t hs es kT' kU') H' → Q (.bl (decide (cntD v (lps (v ++ [c])) = 0))) H'
def t_Book_lost (A : Ad) : TS :=
  (tSeq (tAsg (tVar 1) (gName 2))
  (tSeq (tWhile (tTest (tOp rNe (tVar 2) (tC (tS []))))
  (tSeq (sDPut (tFld A.K (tVar 0) "told") (tVar 2) (tOp rSubI (tDGet (tFld A.K (tVar 0) "told") (tVar 2)) (tC (.int 1))))
  (tAsg (tDGet (tFld A.K (tVar 0) "tails") (tVar 2)) (gName 2))))
  (tSeq (tIfS (tTest (tOp rGtI (tDGet (tFld A.K (tVar 0) "told") (tVar 1)) (tC (.int 0)))) (tRet (tC (.bl false))) tNext)
  (tSeq (tDrop (tDPop1 (tFld A.K (tVar 0) "told") (tVar 1)))
  (tSeq (tDrop (tDPop1 (tFld A.K (tVar 0) "tails") (tVar 1)))
  (tRet (tC (.bl true))))))))

theorem len_Book_lost (A : Ad) : ∀ vs H Q E, sp_Book_lost A vs H Q E → vs.length = 2 := fun vs H Q E h => by
  obtain ⟨g, b, t, hs, es, kT, kU, v, c, rfl, _⟩ := h
  rfl
theorem pu_Book_lost (A : Ad) (bc : BC A) (vs : List V) (H : Hp) (Q : VK) (E : XK) (h : sp_Book_lost A vs H Q E) : t_Book_lost A { nx := fun _ H' => Q .non H', rt := Q } (start ["self", "word", "one"] vs) H := by
  obtain ⟨g, b, t, hs, es, kT, kU, v, c, rfl, hh, ok, hl, k⟩ := h
  show t_Book_lost A _ [some (.ref g), some (tS (lps (v ++ [c]))), none] H
  unfold t_Book_lost
  have hhd : (endsT (v ++ [c])).headD [] = lps (v ++ [c]) := rfl
  have hEl : (endsT (v ++ [c])).length ≤ 201 := by
    have := len_endsT (v ++ [c])
    rw [List.length_append, List.length_singleton] at this
    omega
  have hW0 := (mir_iff.mp (lps_mir v c)).2
  have hWp : 0 < cntD (v ++ [c]) (lps (v ++ [c])) := ends_pos (lps_snoc v c)
  have hkl : kT.length ≤ 201 := by
    have := told_len (f := cntD v) ok
    rw [List.length_append, List.length_singleton] at this
    omega
  have am : Am (bkS g b) H (bkL A g b t hs es kT kU) H := hh.am
  refine aq_asg am (ev_var rfl) fun H1 am => ?_
  dsimp only [List.set]
  refine aq_chain (j := 2) (endsT (v ++ [c])) (fun pre H' => ∃ kT', Am (bkS g b) H (bkL A g b t hs es kT' kU) H' ∧ DF (fun w => decide (0 < cntD (v ++ [c]) w)) (fun w => .int (cntD (v ++ [c]) w - pc pre w : Nat)) kT' ∧ kT'.length ≤ 1000 + pre.length) (by rw [hhd]; rfl)
    (fun w hw => (mir_iff.mp (mem_ends.mp hw).1).2) ⟨kT, am, ok.told, by show kT.length ≤ 1000; omega⟩ (fun pre H1 H2 e ⟨kT', am, h1, h2⟩ => ⟨kT', am.ex e, h1, h2⟩) ?_ ?_ ?_
  · rintro pre w post H2 hE ⟨kT', am, hd, hlen⟩ D' hD
    have hnot := ends_notin hE
    have hp0 : pc pre w = 0 := if_neg hnot
    have hpl : pre.length ≤ 201 := by
      have := congrArg List.length hE
      rw [List.length_append] at this
      omega
    have hwp : 0 < cntD (v ++ [c]) w := ends_pos (by rw [hE]; simp)
    have hh2 := am.hasAll
    have hget : valV kT' (kW w) = some (.int (cntD (v ++ [c]) w : Nat)) := by
      rw [hd.vl, decide_eq_true hwp, if_pos rfl, hp0, Nat.sub_zero]
    refine a_dput 4 (k := kW w) (v := .int (cntD (v ++ [c]) w - 1 : Nat)) am rfl (e_told bc (ev_var rfl) hh2) (ev_var rfl) (ev_is (ev_op (e_dget (k := kW w) (e_told bc (ev_var rfl) hh2) (ev_var rfl) (hh2.at 4 rfl) hget) ev_c rv_I0) (by congr 1; omega)) (by omega) fun H3 am => ?_
    refine hD H3 ⟨_, am, (hd.put w (.int (cntD (v ++ [c]) w - 1 : Nat))).congr (fun x => ?_) fun x _ => ?_, ?_⟩
    · by_cases e : x = w
      · subst e
        rw [decide_eq_true rfl, Bool.true_or, decide_eq_true hwp]
      · rw [decide_eq_false e]; rfl
    · rw [pc_snoc hnot]
      by_cases e : x = w
      · subst e; rw [if_pos rfl, if_pos rfl]
      · rw [if_neg e, if_neg e]
    · have := length_putK kT' (kW w) (.int (cntD (v ++ [c]) w - 1 : Nat))
      rw [List.length_append, List.length_singleton]; omega
  · rintro pre w post H2 hE ⟨kT', am, hd, hlen⟩
    have hh2 := am.hasAll
    exact e_dget (k := kW w) (e_tails bc (ev_var rfl) hh2) (ev_var rfl) (hh2.at 5 rfl) (by rw [tails_at ok (.inr (ends_pos (by rw [hE]; simp))), chain_next hE])
  · rintro H2 ⟨kT', am, hd, hlen⟩
    have hd : DF (fun w => decide (0 < cntD (v ++ [c]) w)) (fun w => .int (cntD v w : Nat)) kT' := hd.congr (fun _ => rfl) fun w _ => by
      rw [show cntD (v ++ [c]) w - pc (endsT (v ++ [c])) w = cntD v w by rw [cnt_split]; omega]
    have hh2 := am.hasAll
    have hget : valV kT' (kW (lps (v ++ [c]))) = some (.int (cntD v (lps (v ++ [c])) : Nat)) := by
      rw [hd.vl, decide_eq_true hWp, if_pos rfl]
    refine aq_when am (b := decide (0 < cntD v (lps (v ++ [c])))) (et_is (et_test (ev_op (e_dget (k := kW (lps (v ++ [c]))) (e_told bc (ev_var rfl) hh2) (ev_var rfl) (hh2.at 4 rfl) hget) ev_c rv_I0)) (decide_eq_decide.mpr (by omega))) (fun c0 H3 am => ?_) fun c0 H3 am => ?_
    · have c0 := of_decide_eq_true c0
      have hg : ∀ w, decide (0 < cntD (v ++ [c]) w) = decide (0 < cntD v w) := fun w => by
        by_cases e : w = lps (v ++ [c])
        · rw [e, decide_eq_true hWp, decide_eq_true c0]
        · exact pos_cut e
      refine a_ret am ev_c fun H4 am => ?_
      have z := k kT' kU H4 ⟨hd.congr hg fun _ _ => rfl, ok.tails.congr (fun w => by rw [hg]) fun _ _ => rfl⟩ am
      rw [decide_eq_false (by omega)] at z
      exact z
    · have c0 := of_decide_eq_false c0
      have c0 : cntD v (lps (v ++ [c])) = 0 := by omega
      refine aq_dpop 4 (k := kW (lps (v ++ [c]))) am rfl (e_told bc (ev_var rfl) am.hasAll) (ev_var rfl) hget fun H4 am => ?_
      have am : Am (bkS g b) H (bkL A g b t hs es (dropK kT' (kW (lps (v ++ [c])))) kU) H4 := am
      refine aq_dpop 5 (k := kW (lps (v ++ [c]))) am rfl (e_tails bc (ev_var rfl) am.hasAll) (ev_var rfl) (tails_at ok (.inr hWp)) fun H5 am => ?_
      have am : Am (bkS g b) H (bkL A g b t hs es (dropK kT' (kW (lps (v ++ [c])))) (dropK kU (kW (lps (v ++ [c]))))) H5 := am
      refine a_ret am ev_c fun H6 am => ?_
      have z := k _ _ H6 ⟨(hd.drop _).congr (fun w => ?_) fun _ _ => rfl, (ok.tails.drop (lps (v ++ [c]))).congr (fun w => ?_) fun _ _ => rfl⟩ am
      · rw [decide_eq_true c0] at z
        exact z
      · by_cases e : w = lps (v ++ [c])
        · rw [decide_eq_true e, e, c0]; rfl
        · rw [decide_eq_false e, pos_cut e]; rfl
      · by_cases e : w = lps (v ++ [c])
        · rw [decide_eq_true e, e, c0, decide_eq_false hW0]; rfl
        · rw [decide_eq_false e, pos_cut e]; rfl
/-! ## put_last -/
/-- the word, where it is a new one -/
def newV (n : Nat) (w : Tx) : V := if n = 0 then tS w else .non
theorem xq_need_room {A : Ad} {S : List Addr} {H0 H : Hp} {L : List (Addr × HO)} {σ : L2.St} {te tp : TE} {D : Ends} {tz : TS} {g : Addr} {b : BA} {t : Tx} {hs es : List V} {kT kU : List (Key × V)} {E : XK} {x : V} {o : Option Tx} {C : Addr} (am : Am S H0 L H) (h : Ev te σ H (.ref g)) (hp : Ev tp σ H x)
    (hh : Has H (bkL A g b t hs es kT kU)) (hx : Thing A.K H x o) (hC : (oLet o = false ∧ C = A.cBL) ∨ (oLet o = true ∧ t.length = 200 ∧ C = A.cFu)) (k : ∀ H, Am S H0 L H → E (.ref C) none H) : tSeq (tDrop (tMeth A.cBook "need_room" (sp_Book_need_room A) [] E te (tCons tp tNil))) tz D σ H :=
  t_meth (Q := fun _ H2 => tz D σ H2) h (hh.at 0 rfl) rfl (ea_cons hp ea_nil) fun H1 e1 => .inr ⟨C, ⟨g, b, t, hs, es, kT, kU, x, o, rfl, hh.ex e1, hx.ex e1, hC⟩, fun H2 e2 => k H2 (am.ex (e1.trans e2))⟩
theorem aq_need_room {A : Ad} {S : List Addr} {H0 H : Hp} {L : List (Addr × HO)} {σ : L2.St} {te tp : TE} {D : Ends} {tz : TS} {g : Addr} {b : BA} {t : Tx} {hs es : List V} {kT kU : List (Key × V)} {E : XK} {c : Nat} (am : Am S H0 L H) (h : Ev te σ H (.ref g)) (hp : Ev tp σ H (tS [c]))
    (hh : Has H (bkL A g b t hs es kT kU)) (hc : c ∈ letters) (hl : t.length < 200) (k : ∀ H, Am S H0 L H → tz D σ H) : tSeq (tDrop (tMeth A.cBook "need_room" (sp_Book_need_room A) [] E te (tCons tp tNil))) tz D σ H :=
  aq_drop am (v := .non) (e_methVX h (hh.at 0 rfl) rfl (ea_cons hp ea_nil) fun H1 e => ⟨g, b, t, hs, es, kT, kU, c, rfl, hh.ex e, hc, hl, rfl⟩) k
/-- what a put asks for, and what it may refuse -/
def spPut (A : Ad) (N : Tx → Nat → Tx) (W : Tx → Nat → Tx) : Sp := fun vs H Q E =>
  (∃ g b t kT kU c, vs = [.ref g, tS [c]] ∧ BkAt A g b t kT kU H ∧ c ∈ letters ∧ t.length < 200 ∧ ∀ kT' kU' H', BkOk (cntD (N t c)) kT' kU' → Am (bkS g b) H (bkL A g b (N t c) (hdV (N t c)) (enV (N t c)) kT' kU') H' → Q (newV (cntD t (W t c)) (W t c)) H') ∨
  (∃ g b t hs es kT kU x o C, vs = [.ref g, x] ∧ Has H (bkL A g b t hs es kT kU) ∧ Thing A.K H x o ∧ ((oLet o = false ∧ C = A.cBL) ∨ (oLet o = true ∧ t.length = 200 ∧ C = A.cFu)) ∧ ∀ H', Ex H H' → E (.ref C) none H')
theorem len_spPut (A : Ad) (N : Tx → Nat → Tx) (W : Tx → Nat → Tx) : ∀ vs H Q E, spPut A N W vs H Q E → vs.length = 2 := fun vs H Q E h => by
  rcases h with ⟨g, b, t, kT, kU, c, rfl, _⟩ | ⟨g, b, t, hs, es, kT, kU, x, o, C, rfl, _⟩ <;> rfl
theorem rowV_snoc {n : Nat} {F G : Nat → Nat} {y : Nat} (h : ∀ i, i < n → G i = F i) (h2 : G n = y) : rowV n F ++ [V.int (y : Nat)] = rowV (n + 1) G := by
  unfold rowV
  rw [List.range_succ, List.map_append]
  congr 1
  · exact List.map_congr_left fun i hi => by rw [h i (List.mem_range.mp hi)]
  · rw [List.map_singleton, h2]; rfl
theorem rowV_congr {n : Nat} {F G : Nat → Nat} (h : ∀ i, i < n → F i = G i) : rowV n F = rowV n G := by
  unfold rowV
  exact List.map_congr_left fun i hi => by rw [h i (List.mem_range.mp hi)]
theorem rowV_set {n : Nat} {F : Nat → Nat} {j y : Nat} : (rowV n F).set j (V.int (y : Nat)) = rowV n fun i => if i = j then y else F i := by
  unfold rowV
  rw [set_range]
  refine List.map_congr_left fun i _ => ?_
  by_cases h : i = j
  · subst h; simp only [if_true]; rfl
  · simp only [if_neg h]
theorem rowV_cons {n : Nat} {F G : Nat → Nat} {y : Nat} (h : ∀ i, i < n → G (i + 1) = F i) (h2 : G 0 = y) : V.int (y : Nat) :: rowV n F = rowV (n + 1) G := by
  unfold rowV
  rw [List.range_succ_eq_map, List.map_cons, List.map_map, h2]
  congr 1
  exact List.map_congr_left fun i hi => by
    show _ = vN (G (i + 1))
    rw [h i (List.mem_range.mp hi)]
theorem okT_iff2 {l : Tx} : okT l = true ↔ ∀ c ∈ l, c < 0x110000 := by
  unfold okT
  show PyData.strOk (T l) = true ↔ _
  unfold PyData.strOk
  rw [← Array.all_toList, T_cps, List.all_eq_true]
  exact ⟨fun h c hc => of_decide_eq_true (h c hc), fun h c hc => decide_eq_true (h c hc)⟩
theorem let_lt2 : ∀ c ∈ letters, c < 0x110000 := by decide
theorem okT_lets2 {l : Tx} (h : ∀ c ∈ l, c ∈ letters) : okT l = true := okT_iff2.mpr fun c hc => let_lt2 c (h c hc)
theorem okT_let {c : Nat} (h : c ∈ letters) : okT [c] = true := okT_lets2 fun d hd => by rw [List.mem_singleton.mp hd]; exact h
theorem ltV_snoc (t : Tx) (c : Nat) : ltV t ++ [tS [c]] = ltV (t ++ [c]) := by unfold ltV; rw [List.map_append]; rfl
/-- letters != [] -/
theorem et_lets {A : Ad} {σ : L2.St} {H : Hp} {te : TE} {g : Addr} {b : BA} {t : Tx} {hs es : List V} {kT kU : List (Key × V)} (bc : BC A) (h : Ev te σ H (.ref g)) (hh : Has H (bkL A g b t hs es kT kU)) (hl : ∀ c ∈ t, c ∈ letters) : EvT (tTest (tOp (rNeD A.K) (tFld A.K te "letters") (tLst tNil))) σ H (!decide (t = [])) := by
  have e : ltV t = (t.map fun c => [c]).map tS := by unfold ltV; rw [List.map_map]; rfl
  have h1 := hh.at 1 rfl
  refine et_is (et_test (ev_opL (e_lets bc h hh) (el_lst (vs := []) ea_nil (by decide)) fun q H1 h2 e1 => rv_neTs (K := A.K) (a := t.map fun c => [c]) (b := []) (by rw [← e]; exact sq_of (e1 _ _ h1)) (sq_of h2) (fun l hl' => ?_) fun l hl' => by cases hl')) ?_
  · obtain ⟨c, hc, rfl⟩ := List.mem_map.mp hl'
    exact okT_let (hl c hc)
  · congr 1
    exact decide_eq_decide.mpr List.map_eq_nil_iff

end Mw
namespace Mw
open PySem PySem.Spec PyProof.Rows L2 Evl
local macro_rules | `(tactic| walk_at "sd") => `(tactic| (first
  | assumption
  | omega
  | decide
  | (simp only [List.length_append, List.length_cons, List.length_nil, List.length_reverse, List.length_take, List.length_drop, List.length_map, List.length_range] at *; omega)
  | skip))
local macro_rules | `(tactic| walk_at "ev") => `(tactic| (first
  | ((with_reducible apply ev_var); rfl)
  | (with_reducible exact ev_c)
  | ((with_reducible apply ev_op) <;> walk_at "ev")
  | ((with_reducible apply e_negI) <;> walk_at "ev")
  | ((with_reducible apply et_test) <;> walk_at "ev")
  | ((with_reducible apply et_B) <;> walk_at "ev")
  | ((with_reducible apply et_and); (focus walk_at "ev"); intro hq; (try simp only [Bool.and_eq_true, Bool.or_eq_true, decide_eq_true_eq, Bool.not_eq_true', decide_eq_false_iff_not, Bool.and_eq_false_iff, Bool.or_eq_false_iff, Bool.not_eq_false'] at hq); walk_at "ev")
  | ((with_reducible apply et_or); (focus walk_at "ev"); intro hq; (try simp only [Bool.and_eq_true, Bool.or_eq_true, decide_eq_true_eq, Bool.not_eq_true', decide_eq_false_iff_not, Bool.and_eq_false_iff, Bool.or_eq_false_iff, Bool.not_eq_false'] at hq); walk_at "ev")
  | ((with_reducible apply ev_andV); (focus walk_at "ev"); intro hq; (try simp only [Bool.and_eq_true, Bool.or_eq_true, decide_eq_true_eq, Bool.not_eq_true', decide_eq_false_iff_not, Bool.and_eq_false_iff, Bool.or_eq_false_iff, Bool.not_eq_false'] at hq); walk_at "ev")
  | ((with_reducible apply ev_orV); (focus walk_at "ev"); intro hq; (try simp only [Bool.and_eq_true, Bool.or_eq_true, decide_eq_true_eq, Bool.not_eq_true', decide_eq_false_iff_not, Bool.and_eq_false_iff, Bool.or_eq_false_iff, Bool.not_eq_false'] at hq); walk_at "ev")
  | ((with_reducible apply e_if); (focus walk_at "ev"); (focus (intro hq; (try simp only [Bool.and_eq_true, Bool.or_eq_true, decide_eq_true_eq, Bool.not_eq_true', decide_eq_false_iff_not, Bool.and_eq_false_iff, Bool.or_eq_false_iff, Bool.not_eq_false'] at hq); walk_at "ev")); (intro hq; (try simp only [Bool.and_eq_true, Bool.or_eq_true, decide_eq_true_eq, Bool.not_eq_true', decide_eq_false_iff_not, Bool.and_eq_false_iff, Bool.or_eq_false_iff, Bool.not_eq_false'] at hq); walk_at "ev"))
  | ((with_reducible apply et_not) <;> walk_at "ev")
  | ((with_reducible apply ev_notV) <;> walk_at "ev")
  | (with_reducible exact et_yes)
  | (with_reducible exact ea_nil)
  | ((with_reducible apply ea_cons) <;> walk_at "ev")
  | (with_reducible exact eo_none)
  | ((with_reducible apply eo_some) <;> walk_at "ev")
  | ((with_reducible apply e_slBut) <;> walk_at "ev")
  | ((with_reducible apply e_slIn) <;> walk_at "ev")
  | ((with_reducible apply e_slTo) <;> walk_at "ev")
  | ((with_reducible apply e_slFrom) <;> walk_at "ev")
  | ((with_reducible apply e_slMid) <;> walk_at "ev")
  | ((with_reducible apply e_rev) <;> walk_at "ev")
  | (with_reducible exact rv_I0)
  | (with_reducible exact r_eqI) | (with_reducible exact r_neI) | (with_reducible exact r_eqS) | (with_reducible exact r_neS)
  | (with_reducible exact r_inC) | (with_reducible exact r_ninC) | (with_reducible exact r_isN) | (with_reducible exact r_notN)
  | (with_reducible exact r_ltT) | (with_reducible exact r_gtT)
  | (with_reducible exact rc_max2) | (with_reducible exact rc_min2)
  | ((with_reducible apply r_divI) <;> walk_at "sd") | ((with_reducible apply r_modI) <;> walk_at "sd") | ((with_reducible apply r_mulI) <;> walk_at "sd")
  | ((with_reducible apply r_ixS) <;> walk_at "sd")
  | ((with_reducible apply r_addT) <;> walk_at "sd")
  | ((with_reducible apply r_mulT) <;> walk_at "sd")
  | ((with_reducible apply rc_lenT) <;> walk_at "sd")
  | ((with_reducible apply rc_lenL) <;> walk_at "sd")
  | ((with_reducible apply ev_cb) <;> walk_at "ev")
  | walk_at "evc"
  | walk_at "sd"))

/-! ## put_last -/
def sp_Book_put_last (A : Ad) : Sp := spPut A (fun t c => t ++ [c]) fun t c => lps (t ++ [c])
def t_Book_put_last (A : Ad) (E : XK) : TS :=
  (tSeq (tDrop (tMeth A.cBook "need_room" (sp_Book_need_room A) [] E (tVar 0) (tCons (tVar 1) tNil)))
  (tSeq (tAsg (tMeth A.cBook "grown" (sp_Book_grown A) [] E0 (tVar 0) (tCons (tIf (tTest (tOp (rNeD A.K) (tFld A.K (tVar 0) "letters") (tLst tNil))) (tMeth A.cBook "ends_at" (sp_Book_ends_at A) [] E (tVar 0) (tCons (tOp rSubI (tCB (rLenS A.K) (tCons (tFld A.K (tVar 0) "letters") tNil)) (tC (.int 1))) tNil)) (tC (tS []))) (tCons (tVar 1) (tCons (tC (.bl true)) tNil)))) (gName 2))
  (tSeq (tAsg (tMeth A.cBook "met" (sp_Book_met A) [] E0 (tVar 0) (tCons (tVar 2) (tCons (tVar 1) (tCons (tC (.bl true)) tNil)))) (gName 3))
  (tSeq (tDrop (tBM A.K "list" rAppend (tFld A.K (tVar 0) "letters") (tCons (tVar 1) tNil)))
  (tSeq (tDrop (tBM A.K "list" rAppend (tFld A.K (tVar 0) "heads") (tCons (tC (.int 1)) tNil)))
  (tSeq (tDrop (tBM A.K "list" rAppend (tFld A.K (tVar 0) "ends") (tCons (tCB rLenT (tCons (tVar 2) tNil)) tNil)))
  (tSeq (tAsg (tVar 2) (gName 4))
  (tSeq (tWhile (tTest (tOp rNe (tVar 4) (tC (tS []))))
  (tSeq (tAsg (tCB rLenT (tCons (tVar 4) tNil)) (gSub (tFld A.K (tVar 0) "heads") (tOp rSubI (tCB (rLenS A.K) (tCons (tFld A.K (tVar 0) "letters") tNil)) (tCB rLenT (tCons (tVar 4) tNil))) rSetL))
  (tAsg (tDGet (tFld A.K (tVar 0) "tails") (tVar 4)) (gName 4))))
  (tRet (tIf (tB (tVar 3)) (tVar 2) (tC .non)))))))))))

theorem len_Book_put_last (A : Ad) : ∀ vs H Q E, sp_Book_put_last A vs H Q E → vs.length = 2 := len_spPut A _ _
theorem ret_new {σ : L2.St} {H : Hp} {D : Ends} {i j n : Nat} {w : Tx} (h1 : σ[i]? = some (some (.bl (decide (n = 0))))) (h2 : σ[j]? = some (some (tS w))) (k : ∀ H1, Ex H H1 → D.rt (newV n w) H1) : tRet (tIf (tB (tVar i)) (tVar j) (tC .non)) D σ H :=
  s_ret (ev_if (b := decide (n = 0)) (et_B (ev_var h1)) (fun c => by
    have e : newV n w = tS w := if_pos (of_decide_eq_true c)
    rw [e]; exact ev_var h2) fun c => by
    have e : newV n w = .non := if_neg (of_decide_eq_false c)
    rw [e]; exact ev_c) k
theorem pu_Book_put_last (A : Ad) (bc : BC A) (vs : List V) (H : Hp) (Q : VK) (E : XK) (h : sp_Book_put_last A vs H Q E) : t_Book_put_last A E { nx := fun _ H' => Q .non H', rt := Q } (start ["self", "letter", "word", "is_new", "one"] vs) H := by
  rcases h with ⟨g, b, t, kT, kU, c, rfl, hb, hc, hl, k⟩ | ⟨g, b, t, hs, es, kT, kU, x, o, C, rfl, hh, hx, hC, k⟩
  · show t_Book_put_last A E _ [some (.ref g), some (tS [c]), none, none, none] H
    unfold t_Book_put_last
    have am : Am (bkS g b) H (bkL A g b t (hdV t) (enV t) kT kU) H := hb.has.am
    refine aq_need_room am (ev_var rfl) (ev_var rfl) hb.has hc hl fun H1 am => ?_
    have hb1 : BkAt A g b t kT kU H1 := ⟨am.hasAll, hb.ok, hb.lets, hb.len⟩
    have hW1 := (lps_suf t).length_le
    refine aq_asg am (v := tS (lps (t ++ [c]))) (ev_is (c_grown (w0 := lps t) (c := c) (bh := true) (ev_var rfl) (ev_if (b := !decide (t = [])) (et_lets bc (ev_var rfl) hb1.has hb1.lets) (fun c0 => ?_) fun c0 => ?_) (ev_var rfl) ev_c hb1.has (by omega) (lps_lps t) (by omega) fun w hw => tails_at hb.ok (.inr (ends_pos (by rw [← endsT_lps]; exact hw)))) ?_) fun H2 am => ?_
    · have ht : t ≠ [] := fun z => by rw [decide_eq_true z] at c0; cases c0
      have hp := List.length_pos_iff.mpr ht
      have z := c_ends (A := A) (σ := [some (.ref g), some (tS [c]), none, none, none]) (H := H1) (te := tVar 0) (tp := tOp rSubI (tCB (rLenS A.K) (tCons (tFld A.K (tVar 0) "letters") tNil)) (tC (.int 1))) (E := E) (p := t.length - 1) (ev_var rfl) (ev_is (ev_op (e_lenLets bc (ev_var rfl) hb1.has) ev_c rv_I0) (by congr 1; omega)) hb1 (by omega)
      rw [show t.length - 1 + 1 = t.length by omega, List.take_length] at z
      exact z
    · have ht : t = [] := by
        by_cases z : t = []
        · exact z
        · rw [decide_eq_false z] at c0; cases c0
      subst ht; exact ev_c
    · rw [endsT_lps]
      show tS (grow t c (endsT t)) = _
      rw [grow_lps]
    dsimp only [List.set]
    have hWl : (lps (t ++ [c])).length ≤ t.length + 1 := by
      have := (lps_suf (t ++ [c])).length_le
      rwa [List.length_append] at this
    refine aq_methA am (ev_var rfl) (am.at 0 rfl) rfl (ea_cons (ev_var rfl) (ea_cons (ev_var rfl) (ea_cons ev_c ea_nil))) fun H3 am => ?_
    refine ⟨g, b, t, hdV t, enV t, kT, kU, c, true, rfl, am.hasAll, hb.ok, hl, fun kT' kU' H4 ok am2 => ?_⟩
    have am : Am (bkS g b) H (bkL A g b t (hdV t) (enV t) kT' kU') H4 := Am.call (La := bkL A g b t (hdV t) (enV t) kT kU) (L := []) am am2
    have ok : BkOk (cntD (t ++ [c])) kT' kU' := ok
    dsimp only [List.set]
    show (tSeq _ _) _ [some (.ref g), some (tS [c]), some (tS (lps (t ++ [c]))), some (.bl (decide (cntD t (lps (t ++ [c])) = 0))), none] H4
    refine aq_app 1 am rfl (e_lets bc (ev_var rfl) am.hasAll) (ev_var rfl) (by rw [len_ltV]; omega) fun H5 am => ?_
    rw [ltV_snoc] at am
    have am : Am (bkS g b) H (bkL A g b (t ++ [c]) (hdV t) (enV t) kT' kU') H5 := am
    refine aq_app 2 am rfl (e_heads bc (ev_var rfl) am.hasAll) ev_c (by rw [len_rowV]; omega) fun H6 am => ?_
    have am : Am (bkS g b) H (bkL A g b (t ++ [c]) (hdV t ++ [.int 1]) (enV t) kT' kU') H6 := am
    rw [show hdV t ++ [V.int 1] = rowV (t.length + 1) (fun i => if i = t.length then 1 else hdN t i) from rowV_snoc (y := 1) (fun i hi => if_neg (by omega)) (if_pos rfl)] at am
    refine aq_app 3 am rfl (e_ends bc (ev_var rfl) am.hasAll) (ev_cb (ea_cons (ev_var rfl) ea_nil) (rc_lenT (by omega))) (by rw [len_rowV]; omega) fun H7 am => ?_
    have am : Am (bkS g b) H (bkL A g b (t ++ [c]) (rowV (t.length + 1) (fun i => if i = t.length then 1 else hdN t i)) (enV t ++ [.int ((lps (t ++ [c])).length : Nat)]) kT' kU') H7 := am
    have hen : enV t ++ [V.int ((lps (t ++ [c])).length : Nat)] = enV (t ++ [c]) := by
      show _ = rowV (t ++ [c]).length _
      rw [List.length_append, List.length_singleton]
      exact rowV_snoc (fun i hi => enN_snoc hi) (enN_last t c)
    rw [hen] at am
    refine aq_asg am (ev_var rfl) fun H8 am => ?_
    dsimp only [List.set]
    have hlen : (t ++ [c]).length = t.length + 1 := by rw [List.length_append]; rfl
    refine aq_chain (j := 4) (endsT (t ++ [c])) (fun pre H' => Am (bkS g b) H (bkL A g b (t ++ [c]) (rowV (t.length + 1) (chF (fun w => (t ++ [c]).length - w.length) (fun i => t.length + 1 - i) (fun i => if i = t.length then 1 else hdN t i) pre)) (enV (t ++ [c])) kT' kU') H') rfl
      (fun w hw => (mir_iff.mp (mem_ends.mp hw).1).2) am (fun pre H1 H2 e am => am.ex e) ?_ ?_ ?_
    · intro pre w post H9 hE am D' hD
      obtain ⟨hw1, hw2⟩ := ends_len (u := t ++ [c]) (w := w) (by rw [hE]; simp)
      rw [hlen] at hw2
      refine a_setL 2 (v := .int (w.length : Nat)) (j := (t ++ [c]).length - w.length) am rfl (ev_cb (ea_cons (ev_var rfl) ea_nil) (rc_lenT (by omega))) (e_heads bc (ev_var rfl) am.hasAll) (ev_is (ev_op (e_lenLets bc (ev_var rfl) am.hasAll) (ev_cb (ea_cons (ev_var rfl) ea_nil) (rc_lenT (by omega))) rv_I0) (by congr 1; omega)) (by rw [len_rowV, hlen]; omega) fun H10 am => hD H10 ?_
      have am : Am (bkS g b) H (bkL A g b (t ++ [c]) ((rowV (t.length + 1) (chF (fun w => (t ++ [c]).length - w.length) (fun i => t.length + 1 - i) (fun i => if i = t.length then 1 else hdN t i) pre)).set ((t ++ [c]).length - w.length) (.int (w.length : Nat))) (enV (t ++ [c])) kT' kU') H10 := am
      rw [rowV_set] at am
      rw [chF_snoc]
      rw [show t.length + 1 - ((t ++ [c]).length - w.length) = w.length by omega]
      exact am
    · intro pre w post H9 hE am
      exact e_dget (k := kW w) (e_tails bc (ev_var rfl) am.hasAll) (ev_var rfl) (am.at 5 rfl) (by rw [tails_at ok (.inr (ends_pos (by rw [hE]; simp))), chain_next hE])
    · intro H9 am
      have hhd : rowV (t.length + 1) (chF (fun w => (t ++ [c]).length - w.length) (fun i => t.length + 1 - i) (fun i => if i = t.length then 1 else hdN t i) (endsT (t ++ [c]))) = hdV (t ++ [c]) := by
        have e := rowV_congr (n := t.length + 1) (G := hdN (t ++ [c])) fun i hi => hd_put (c := c) hi
        rw [e]
        show _ = rowV (t ++ [c]).length _
        rw [hlen]
      rw [hhd] at am
      exact ret_new (i := 3) (j := 2) rfl rfl fun H10 e => k kT' kU' H10 ok (am.ex e)
  · show t_Book_put_last A E _ [some (.ref g), some x, none, none, none] H
    unfold t_Book_put_last
    exact xq_need_room (Am.start H) (ev_var rfl) (ev_var rfl) hh hx hC fun H1 am => k H1 am.toEx
/-! ## put_first -/
def sp_Book_put_first (A : Ad) : Sp := spPut A (fun t c => c :: t) fun t c => lps (t.reverse ++ [c])
def t_Book_put_first (A : Ad) (E : XK) : TS :=
  (tSeq (tDrop (tMeth A.cBook "need_room" (sp_Book_need_room A) [] E (tVar 0) (tCons (tVar 1) tNil)))
  (tSeq (tAsg (tMeth A.cBook "grown" (sp_Book_grown A) [] E0 (tVar 0) (tCons (tIf (tTest (tOp (rNeD A.K) (tFld A.K (tVar 0) "letters") (tLst tNil))) (tMeth A.cBook "begins_at" (sp_Book_begins_at A) [] E (tVar 0) (tCons (tC (.int 0)) tNil)) (tC (tS []))) (tCons (tVar 1) (tCons (tC (.bl false)) tNil)))) (gName 2))
  (tSeq (tAsg (tMeth A.cBook "met" (sp_Book_met A) [] E0 (tVar 0) (tCons (tVar 2) (tCons (tVar 1) (tCons (tC (.bl false)) tNil)))) (gName 3))
  (tSeq (tDrop (tBM A.K "list" rInsert (tFld A.K (tVar 0) "letters") (tCons (tC (.int 0)) (tCons (tVar 1) tNil))))
  (tSeq (tDrop (tBM A.K "list" rInsert (tFld A.K (tVar 0) "heads") (tCons (tC (.int 0)) (tCons (tCB rLenT (tCons (tVar 2) tNil)) tNil))))
  (tSeq (tDrop (tBM A.K "list" rInsert (tFld A.K (tVar 0) "ends") (tCons (tC (.int 0)) (tCons (tC (.int 1)) tNil))))
  (tSeq (tAsg (tVar 2) (gName 4))
  (tSeq (tWhile (tTest (tOp rNe (tVar 4) (tC (tS []))))
  (tSeq (tAsg (tCB rLenT (tCons (tVar 4) tNil)) (gSub (tFld A.K (tVar 0) "ends") (tOp rSubI (tCB rLenT (tCons (tVar 4) tNil)) (tC (.int 1))) rSetL))
  (tAsg (tDGet (tFld A.K (tVar 0) "tails") (tVar 4)) (gName 4))))
  (tRet (tIf (tB (tVar 3)) (tVar 2) (tC .non)))))))))))

theorem len_Book_put_first (A : Ad) : ∀ vs H Q E, sp_Book_put_first A vs H Q E → vs.length = 2 := len_spPut A _ _
theorem cntD_cons (t : Tx) (c : Nat) : cntD (t.reverse ++ [c]) = cntD (c :: t) := by
  funext w
  rw [← List.reverse_cons, cntD_rev]
theorem pu_Book_put_first (A : Ad) (bc : BC A) (vs : List V) (H : Hp) (Q : VK) (E : XK) (h : sp_Book_put_first A vs H Q E) : t_Book_put_first A E { nx := fun _ H' => Q .non H', rt := Q } (start ["self", "letter", "word", "is_new", "one"] vs) H := by
  rcases h with ⟨g, b, t, kT, kU, c, rfl, hb, hc, hl, k⟩ | ⟨g, b, t, hs, es, kT, kU, x, o, C, rfl, hh, hx, hC, k⟩
  · show t_Book_put_first A E _ [some (.ref g), some (tS [c]), none, none, none] H
    unfold t_Book_put_first
    have am : Am (bkS g b) H (bkL A g b t (hdV t) (enV t) kT kU) H := hb.has.am
    refine aq_need_room am (ev_var rfl) (ev_var rfl) hb.has hc hl fun H1 am => ?_
    have hb1 : BkAt A g b t kT kU H1 := ⟨am.hasAll, hb.ok, hb.lets, hb.len⟩
    have hW1 := (lps_suf t.reverse).length_le
    rw [List.length_reverse] at hW1
    refine aq_asg am (v := tS (lps (t.reverse ++ [c]))) (ev_is (c_grown (w0 := lps t.reverse) (c := c) (bh := false) (ev_var rfl) (ev_if (b := !decide (t = [])) (et_lets bc (ev_var rfl) hb1.has hb1.lets) (fun c0 => ?_) fun c0 => ?_) (ev_var rfl) ev_c hb1.has (by omega) (lps_lps t.reverse) (by omega) fun w hw => tails_at hb.ok (.inr (by rw [← cntD_rev]; exact ends_pos (by rw [← endsT_lps]; exact hw)))) ?_) fun H2 am => ?_
    · have ht : t ≠ [] := fun z => by rw [decide_eq_true z] at c0; cases c0
      have hp := List.length_pos_iff.mpr ht
      exact c_begins (p := 0) (ev_var rfl) ev_c hb1 hp
    · have ht : t = [] := by
        by_cases z : t = []
        · exact z
        · rw [decide_eq_false z] at c0; cases c0
      subst ht; exact ev_c
    · rw [endsT_lps]
      show tS (grow t.reverse c (endsT t.reverse)) = _
      rw [grow_lps]
    dsimp only [List.set]
    have hWl : (lps (t.reverse ++ [c])).length ≤ t.length + 1 := by
      have := (lps_suf (t.reverse ++ [c])).length_le
      rwa [List.length_append, List.length_reverse] at this
    refine aq_methA am (ev_var rfl) (am.at 0 rfl) rfl (ea_cons (ev_var rfl) (ea_cons (ev_var rfl) (ea_cons ev_c ea_nil))) fun H3 am => ?_
    refine ⟨g, b, t, hdV t, enV t, kT, kU, c, false, rfl, am.hasAll, hb.ok, hl, fun kT' kU' H4 ok am2 => ?_⟩
    have am : Am (bkS g b) H (bkL A g b t (hdV t) (enV t) kT' kU') H4 := Am.call (La := bkL A g b t (hdV t) (enV t) kT kU) (L := []) am am2
    have ok : BkOk (cntD (t.reverse ++ [c])) kT' kU' := ok
    have ok2 : BkOk (cntD (c :: t)) kT' kU' := by rw [← cntD_cons]; exact ok
    dsimp only [List.set]
    show (tSeq _ _) _ [some (.ref g), some (tS [c]), some (tS (lps (t.reverse ++ [c]))), some (.bl (decide (cntD t (lps (t.reverse ++ [c])) = 0))), none] H4
    refine aq_ins0 1 am rfl (e_lets bc (ev_var rfl) am.hasAll) (ev_var rfl) (by rw [len_ltV]; omega) fun H5 am => ?_
    have am : Am (bkS g b) H (bkL A g b (c :: t) (hdV t) (enV t) kT' kU') H5 := am
    refine aq_ins0 2 am rfl (e_heads bc (ev_var rfl) am.hasAll) (ev_cb (ea_cons (ev_var rfl) ea_nil) (rc_lenT (by omega))) (by rw [len_rowV]; omega) fun H6 am => ?_
    have am : Am (bkS g b) H (bkL A g b (c :: t) (.int ((lps (t.reverse ++ [c])).length : Nat) :: hdV t) (enV t) kT' kU') H6 := am
    have hhd : V.int ((lps (t.reverse ++ [c])).length : Nat) :: hdV t = hdV (c :: t) := by
      show _ = rowV (t.length + 1) _
      exact rowV_cons (fun i hi => hdN_cons t c i) (hdN_first t c)
    rw [hhd] at am
    refine aq_ins0 3 am rfl (e_ends bc (ev_var rfl) am.hasAll) ev_c (by rw [len_rowV]; omega) fun H7 am => ?_
    have am : Am (bkS g b) H (bkL A g b (c :: t) (hdV (c :: t)) (.int 1 :: enV t) kT' kU') H7 := am
    have hen : V.int 1 :: enV t = rowV (t.length + 1) (fun i => if i = 0 then 1 else enN t (i - 1)) := rowV_cons (y := 1) (fun i hi => by rw [if_neg (by omega)]; rfl) (if_pos rfl)
    rw [hen] at am
    refine aq_asg am (ev_var rfl) fun H8 am => ?_
    dsimp only [List.set]
    have hlen : (t.reverse ++ [c]).length = t.length + 1 := by rw [List.length_append, List.length_reverse]; rfl
    refine aq_chain (j := 4) (endsT (t.reverse ++ [c])) (fun pre H' => Am (bkS g b) H (bkL A g b (c :: t) (hdV (c :: t)) (rowV (t.length + 1) (chF (fun w => w.length - 1) (fun i => i + 1) (fun i => if i = 0 then 1 else enN t (i - 1)) pre)) kT' kU') H') rfl
      (fun w hw => (mir_iff.mp (mem_ends.mp hw).1).2) am (fun pre H1 H2 e am => am.ex e) ?_ ?_ ?_
    · intro pre w post H9 hE am D' hD
      obtain ⟨hw1, hw2⟩ := ends_len (u := t.reverse ++ [c]) (w := w) (by rw [hE]; simp)
      rw [hlen] at hw2
      refine a_setL 3 (v := .int (w.length : Nat)) (j := w.length - 1) am rfl (ev_cb (ea_cons (ev_var rfl) ea_nil) (rc_lenT (by omega))) (e_ends bc (ev_var rfl) am.hasAll) (ev_is (ev_op (ev_cb (ea_cons (ev_var rfl) ea_nil) (rc_lenT (by omega))) ev_c rv_I0) (by congr 1; omega)) (by rw [len_rowV]; omega) fun H10 am => hD H10 ?_
      have am : Am (bkS g b) H (bkL A g b (c :: t) (hdV (c :: t)) ((rowV (t.length + 1) (chF (fun w => w.length - 1) (fun i => i + 1) (fun i => if i = 0 then 1 else enN t (i - 1)) pre)).set (w.length - 1) (.int (w.length : Nat))) kT' kU') H10 := am
      rw [rowV_set] at am
      rw [chF_snoc]
      rw [show w.length - 1 + 1 = w.length by omega]
      exact am
    · intro pre w post H9 hE am
      exact e_dget (k := kW w) (e_tails bc (ev_var rfl) am.hasAll) (ev_var rfl) (am.at 5 rfl) (by rw [tails_at ok (.inr (ends_pos (by rw [hE]; simp))), chain_next hE])
    · intro H9 am
      have hen2 : rowV (t.length + 1) (chF (fun w => w.length - 1) (fun i => i + 1) (fun i => if i = 0 then 1 else enN t (i - 1)) (endsT (t.reverse ++ [c]))) = enV (c :: t) := by
        show _ = rowV (t.length + 1) _
        exact rowV_congr fun i hi => en_put hi
      rw [hen2] at am
      exact ret_new (i := 3) (j := 2) rfl rfl fun H10 e => k kT' kU' H10 ok2 (am.ex e)
  · show t_Book_put_first A E _ [some (.ref g), some x, none, none, none] H
    unfold t_Book_put_first
    exact xq_need_room (Am.start H) (ev_var rfl) (ev_var rfl) hh hx hC fun H1 am => k H1 am.toEx

end Mw
namespace Mw
open PySem PySem.Spec PyProof.Rows L2 Evl
local macro_rules | `(tactic| walk_at "sd") => `(tactic| (first
  | assumption
  | omega
  | decide
  | (simp only [List.length_append, List.length_cons, List.length_nil, List.length_reverse, List.length_take, List.length_drop, List.length_map, List.length_range] at *; omega)
  | skip))
local macro_rules | `(tactic| walk_at "ev") => `(tactic| (first
  | ((with_reducible apply ev_var); rfl)
  | (with_reducible exact ev_c)
  | ((with_reducible apply ev_op) <;> walk_at "ev")
  | ((with_reducible apply e_negI) <;> walk_at "ev")
  | ((with_reducible apply et_test) <;> walk_at "ev")
  | ((with_reducible apply et_B) <;> walk_at "ev")
  | ((with_reducible apply et_and); (focus walk_at "ev"); intro hq; (try simp only [Bool.and_eq_true, Bool.or_eq_true, decide_eq_true_eq, Bool.not_eq_true', decide_eq_false_iff_not, Bool.and_eq_false_iff, Bool.or_eq_false_iff, Bool.not_eq_false'] at hq); walk_at "ev")
  | ((with_reducible apply et_or); (focus walk_at "ev"); intro hq; (try simp only [Bool.and_eq_true, Bool.or_eq_true, decide_eq_true_eq, Bool.not_eq_true', decide_eq_false_iff_not, Bool.and_eq_false_iff, Bool.or_eq_false_iff, Bool.not_eq_false'] at hq); walk_at "ev")
  | ((with_reducible apply ev_andV); (focus walk_at "ev"); intro hq; (try simp only [Bool.and_eq_true, Bool.or_eq_true, decide_eq_true_eq, Bool.not_eq_true', decide_eq_false_iff_not, Bool.and_eq_false_iff, Bool.or_eq_false_iff, Bool.not_eq_false'] at hq); walk_at "ev")
  | ((with_reducible apply ev_orV); (focus walk_at "ev"); intro hq; (try simp only [Bool.and_eq_true, Bool.or_eq_true, decide_eq_true_eq, Bool.not_eq_true', decide_eq_false_iff_not, Bool.and_eq_false_iff, Bool.or_eq_false_iff, Bool.not_eq_false'] at hq); walk_at "ev")
  | ((with_reducible apply e_if); (focus walk_at "ev"); (focus (intro hq; (try simp only [Bool.and_eq_true, Bool.or_eq_true, decide_eq_true_eq, Bool.not_eq_true', decide_eq_false_iff_not, Bool.and_eq_false_iff, Bool.or_eq_false_iff, Bool.not_eq_false'] at hq); walk_at "ev")); (intro hq; (try simp only [Bool.and_eq_true, Bool.or_eq_true, decide_eq_true_eq, Bool.not_eq_true', decide_eq_false_iff_not, Bool.and_eq_false_iff, Bool.or_eq_false_iff, Bool.not_eq_false'] at hq); walk_at "ev"))
  | ((with_reducible apply et_not) <;> walk_at "ev")
  | ((with_reducible apply ev_notV) <;> walk_at "ev")
  | (with_reducible exact et_yes)
  | (with_reducible exact ea_nil)
  | ((with_reducible apply ea_cons) <;> walk_at "ev")
  | (with_reducible exact eo_none)
  | ((with_reducible apply eo_some) <;> walk_at "ev")
  | ((with_reducible apply e_slBut) <;> walk_at "ev")
  | ((with_reducible apply e_slIn) <;> walk_at "ev")
  | ((with_reducible apply e_slTo) <;> walk_at "ev")
  | ((with_reducible apply e_slFrom) <;> walk_at "ev")
  | ((with_reducible apply e_slMid) <;> walk_at "ev")
  | ((with_reducible apply e_rev) <;> walk_at "ev")
  | (with_reducible exact rv_I0)
  | (with_reducible exact r_eqI) | (with_reducible exact r_neI) | (with_reducible exact r_eqS) | (with_reducible exact r_neS)
  | (with_reducible exact r_inC) | (with_reducible exact r_ninC) | (with_reducible exact r_isN) | (with_reducible exact r_notN)
  | (with_reducible exact r_ltT) | (with_reducible exact r_gtT)
  | (with_reducible exact rc_max2) | (with_reducible exact rc_min2)
  | ((with_reducible apply r_divI) <;> walk_at "sd") | ((with_reducible apply r_modI) <;> walk_at "sd") | ((with_reducible apply r_mulI) <;> walk_at "sd")
  | ((with_reducible apply r_ixS) <;> walk_at "sd")
  | ((with_reducible apply r_addT) <;> walk_at "sd")
  | ((with_reducible apply r_mulT) <;> walk_at "sd")
  | ((with_reducible apply rc_lenT) <;> walk_at "sd")
  | ((with_reducible apply rc_lenL) <;> walk_at "sd")
  | ((with_reducible apply ev_cb) <;> walk_at "ev")
  | walk_at "evc"
  | walk_at "sd"))

/-! ## cut_last, cut_first -/
section
variable {K : PySem.W.Frag} {S : List Addr} {H0 H H1 : Hp} {L : List (Addr × HO)} {σ : L2.St} {te : TE} {D : Ends} {tu tz : TS}
/-- over a new tuple, which stays at the ledger's head -/
theorem aq_forT2 {α : Type} {f : α → V} {ns : List α} {j : Nat} (Iv : Addr → List α → L2.St → Hp → Prop) (am : Am S H0 L H) (h : EvU te σ H (ns.map f)) (h0 : ∀ p H, Am S H0 ((p, .tup (ns.map f)) :: L) H → Iv p [] σ H)
    (hP : ∀ p pre σ' H', Iv p pre σ' H' → H' p = some (.tup (ns.map f)))
    (hs : ∀ p pre n post σ' H', ns = pre ++ n :: post → Iv p pre σ' H' → tu { D with nx := Iv p (pre ++ [n]), ct := Iv p (pre ++ [n]), bk := tz D } (σ'.set j (some (f n))) H')
    (hd : ∀ p σ' H', Iv p ns σ' H' → tz D σ' H') : tSeq (tFor (iTup K te) (gName j) tu) tz D σ H :=
  h H (Ex.refl H) _ fun p H2 hp e2 h2 => by
    have z := aq_for (σ := σ) (H := H2) (D := D) (j := j) (tu := tu) (tz := tz) (wi := iTup K (tC (.ref p))) (f := f) (ns := ns) (Iv p) (am.add hp e2 h2) (wk_tup (K := K) ev_c (st_of h2)) (h0 p) (fun pre σ' H' hi => st_of (hP _ _ _ _ hi)) (hs p) (hd p)
    exact z
end
def spCut (A : Ad) (F : Tx → Nat → Tx) (W : Tx → Nat → Tx) : Sp := fun vs H Q E =>
  (∃ g b v c kT kU, vs = [.ref g] ∧ BkAt A g b (F v c) kT kU H ∧ ∀ kT' kU' H', BkOk (cntD v) kT' kU' → Am (bkS g b) H (bkL A g b v (hdV v) (enV v) kT' kU') H' → Q (newV (cntD v (W v c)) (W v c)) H') ∨
  (∃ g b kT kU, vs = [.ref g] ∧ BkAt A g b [] kT kU H ∧ ∀ H', Ex H H' → E (.ref A.cNP) none H')
theorem len_spCut (A : Ad) (N : Tx → Nat → Tx) (W : Tx → Nat → Tx) : ∀ vs H Q E, spCut A N W vs H Q E → vs.length = 1 := fun vs H Q E h => by
  rcases h with ⟨g, b, v, c, kT, kU, rfl, _⟩ | ⟨g, b, kT, kU, rfl, _⟩ <;> rfl
theorem rows_popped {v : Tx} {c : Nat} {F : Nat → Nat} : rowV (v.length + 1) F = rowV v.length F ++ [V.int (F v.length : Nat)] := (rowV_snoc (fun _ _ => rfl) rfl).symm
theorem suf_drop {u w : Tx} (h : w ∈ endsT u) : u.drop (u.length - w.length) = w := (List.suffix_iff_eq_drop.mp (mem_ends.mp h).2).symm
/-- return word if self.lost(word) else None -/
theorem ret_lost {A : Ad} {S : List Addr} {H0 H : Hp} {σ : L2.St} {D : Ends} {g : Addr} {b : BA} {t v : Tx} {c : Nat} {hs es : List V} {kT kU : List (Key × V)} (am : Am (bkS g b) H0 (bkL A g b t hs es kT kU) H) (h0 : σ[0]? = some (some (.ref g))) (h1 : σ[1]? = some (some (tS (lps (v ++ [c])))))
    (ok : BkOk (cntD (v ++ [c])) kT kU) (hv : v.length ≤ 200) (k : ∀ kT' kU' H', BkOk (cntD v) kT' kU' → Am (bkS g b) H0 (bkL A g b t hs es kT' kU') H' → D.rt (newV (cntD v (lps (v ++ [c]))) (lps (v ++ [c]))) H') :
    tRet (tIf (tB (tMeth A.cBook "lost" (sp_Book_lost A) [] E0 (tVar 0) (tCons (tVar 1) tNil))) (tVar 1) (tC .non)) D σ H := by
  show (tMeth A.cBook "lost" (sp_Book_lost A) [] E0 (tVar 0) (tCons (tVar 1) tNil)) σ H (fun x H1 => ∃ c, x = .bl c ∧ if c = true then (tVar 1) σ H1 D.rt else (tC .non) σ H1 D.rt)
  refine t_meth (ev_var h0) (am.at 0 rfl) rfl (ea_cons (ev_var h1) ea_nil) fun H1 e1 => ?_
  have am := am.ex e1
  refine ⟨g, b, t, hs, es, kT, kU, v, c, rfl, am.hasAll, ok, hv, fun kT' kU' H2 ok2 am2 => ⟨_, rfl, ?_⟩⟩
  have am : Am (bkS g b) H0 (bkL A g b t hs es kT' kU') H2 := Am.call (La := bkL A g b t hs es kT kU) (L := []) am am2
  have z := k kT' kU' H2 ok2 am
  by_cases e : cntD v (lps (v ++ [c])) = 0
  · rw [decide_eq_true e, if_pos rfl]
    unfold newV at z
    rw [if_pos e] at z
    exact ⟨_, h1, z⟩
  · rw [decide_eq_false e, if_neg Bool.false_ne_true]
    unfold newV at z
    rw [if_neg e] at z
    exact z
def sp_Book_cut_last (A : Ad) : Sp := spCut A (fun v c => v ++ [c]) fun v c => lps (v ++ [c])
def t_Book_cut_last (A : Ad) (E : XK) : TS :=
  (tSeq (tDrop (tMeth A.cBook "need_place" (sp_Book_need_place A) [] E (tVar 0) (tCons (tOp rSubI (tCB (rLenS A.K) (tCons (tFld A.K (tVar 0) "letters") tNil)) (tC (.int 1))) tNil)))
  (tSeq (tAsg (tMeth A.cBook "ends_at" (sp_Book_ends_at A) [] E (tVar 0) (tCons (tOp rSubI (tCB (rLenS A.K) (tCons (tFld A.K (tVar 0) "letters") tNil)) (tC (.int 1))) tNil)) (gName 1))
  (tSeq (tAsg (tVar 1) (gName 2))
  (tSeq (tWhile (tTest (tOp rNe (tVar 2) (tC (tS []))))
  (tSeq (tAsg (tCB rLenT (tCons (tDGet (tFld A.K (tVar 0) "tails") (tVar 2)) tNil)) (gSub (tFld A.K (tVar 0) "heads") (tOp rSubI (tCB (rLenS A.K) (tCons (tFld A.K (tVar 0) "letters") tNil)) (tCB rLenT (tCons (tVar 2) tNil))) rSetL))
  (tAsg (tDGet (tFld A.K (tVar 0) "tails") (tVar 2)) (gName 2))))
  (tSeq (tFor (iTup A.K (tTup (tCons (tFld A.K (tVar 0) "letters") (tCons (tFld A.K (tVar 0) "heads") (tCons (tFld A.K (tVar 0) "ends") tNil))))) (gName 3)
  (tDrop (tBM0 A.K "list" rPop (tVar 3))))
  (tRet (tIf (tB (tMeth A.cBook "lost" (sp_Book_lost A) [] E0 (tVar 0) (tCons (tVar 1) tNil))) (tVar 1) (tC .non))))))))

theorem len_Book_cut_last (A : Ad) : ∀ vs H Q E, sp_Book_cut_last A vs H Q E → vs.length = 1 := len_spCut A _ _
theorem pu_Book_cut_last (A : Ad) (bc : BC A) (vs : List V) (H : Hp) (Q : VK) (E : XK) (h : sp_Book_cut_last A vs H Q E) : t_Book_cut_last A E { nx := fun _ H' => Q .non H', rt := Q } (start ["self", "word", "one", "row"] vs) H := by
  rcases h with ⟨g, b, v, c, kT, kU, rfl, hb, k⟩ | ⟨g, b, kT, kU, rfl, hb, k⟩
  · show t_Book_cut_last A E _ [some (.ref g), none, none, none] H
    unfold t_Book_cut_last
    have hb : BkAt A g b (v ++ [c]) kT kU H := hb
    have hlen : (v ++ [c]).length = v.length + 1 := by rw [List.length_append]; rfl
    have hl : v.length + 1 ≤ 200 := by have := hb.len; rw [hlen] at this; exact this
    have am : Am (bkS g b) H (bkL A g b (v ++ [c]) (hdV (v ++ [c])) (enV (v ++ [c])) kT kU) H := hb.has.am
    have hlm : ∀ {H' : Hp} {σ : L2.St} {hs es : List V}, Has H' (bkL A g b (v ++ [c]) hs es kT kU) → σ[0]? = some (some (.ref g)) → Ev (tOp rSubI (tCB (rLenS A.K) (tCons (tFld A.K (tVar 0) "letters") tNil)) (tC (.int 1))) σ H' (.int (v.length : Nat)) := fun {H' σ hs es} hh s0 =>
      ev_is (ev_op (e_lenLets bc (ev_var s0) hh) ev_c rv_I0) (by rw [hlen]; congr 1; omega)
    refine aq_need_place am (ev_var rfl) (p := v.length) (hlm hb.has rfl) hb.has (by omega) fun H1 am => ?_
    have hb1 : BkAt A g b (v ++ [c]) kT kU H1 := ⟨am.hasAll, hb.ok, hb.lets, hb.len⟩
    refine aq_asg (v := tS (lps (v ++ [c]))) am (ev_is (c_ends (p := v.length) (ev_var rfl) (hlm hb1.has rfl) hb1 (by omega)) (by rw [List.take_of_length_le (by omega)])) fun H2 am => ?_
    dsimp only [List.set]
    refine aq_asg am (ev_var rfl) fun H3 am => ?_
    dsimp only [List.set]
    have hE : ∀ w ∈ endsT (v ++ [c]), (v ++ [c]).drop ((v ++ [c]).length - w.length) = w := fun w hw => suf_drop hw
    refine aq_chain (j := 2) (endsT (v ++ [c])) (fun pre H' => Am (bkS g b) H (bkL A g b (v ++ [c]) (rowV (v.length + 1) (chF (fun w => (v ++ [c]).length - w.length) (fun i => (tailF ((v ++ [c]).drop i)).length) (hdN (v ++ [c])) pre)) (enV (v ++ [c])) kT kU) H') rfl
      (fun w hw => (mir_iff.mp (mem_ends.mp hw).1).2) (by
        have e : hdV (v ++ [c]) = rowV (v.length + 1) (hdN (v ++ [c])) := by show rowV (v ++ [c]).length _ = _; rw [hlen]
        rw [e] at am
        exact am) (fun pre H1 H2 e am => am.ex e) ?_ ?_ ?_
    · intro pre w post H9 hE1 am D' hD
      have hw := ends_len (u := v ++ [c]) (w := w) (by rw [hE1]; simp)
      rw [hlen] at hw
      have hwm : w ∈ endsT (v ++ [c]) := by rw [hE1]; simp
      have htl : (tailF w).length ≤ 200 := by
        have := tailF_lt (l := w) (fun z => by rw [z] at hw; exact absurd hw.1 (Nat.lt_irrefl 0))
        omega
      refine a_setL 2 (v := .int ((tailF w).length : Nat)) (j := (v ++ [c]).length - w.length) am rfl (ev_cb (ea_cons (e_dget (k := kW w) (e_tails bc (ev_var rfl) am.hasAll) (ev_var rfl) (am.at 5 rfl) (tails_at hb.ok (.inr (ends_pos hwm)))) ea_nil) (rc_lenT (by omega))) (e_heads bc (ev_var rfl) am.hasAll) (ev_is (ev_op (e_lenLets bc (ev_var rfl) am.hasAll) (ev_cb (ea_cons (ev_var rfl) ea_nil) (rc_lenT (by omega))) rv_I0) (by congr 1; omega)) (by rw [len_rowV, hlen]; omega) fun H10 am => hD H10 ?_
      have am : Am (bkS g b) H (bkL A g b (v ++ [c]) ((rowV (v.length + 1) (chF (fun w => (v ++ [c]).length - w.length) (fun i => (tailF ((v ++ [c]).drop i)).length) (hdN (v ++ [c])) pre)).set ((v ++ [c]).length - w.length) (.int ((tailF w).length : Nat))) (enV (v ++ [c])) kT kU) H10 := am
      rw [rowV_set] at am
      rw [chF_snoc]
      rw [hE w hwm]
      exact am
    · intro pre w post H9 hE1 am
      exact e_dget (k := kW w) (e_tails bc (ev_var rfl) am.hasAll) (ev_var rfl) (am.at 5 rfl) (by rw [tails_at hb.ok (.inr (ends_pos (by rw [hE1]; simp))), chain_next hE1])
    · intro H9 am
      dsimp only [List.set]
      refine aq_forT2 (f := fun a => V.ref a) (ns := [b.L, b.H, b.E]) (fun p pre σ' H' => ∃ v3 : Option V, σ' = [some (.ref g), some (tS (lps (v ++ [c]))), some (tS []), v3] ∧ Am (bkS g b) H ((p, .tup [.ref b.L, .ref b.H, .ref b.E]) :: bkL A g b (if 0 < pre.length then v else v ++ [c])
        (rowV (if 1 < pre.length then v.length else v.length + 1) (chF (fun w => (v ++ [c]).length - w.length) (fun i => (tailF ((v ++ [c]).drop i)).length) (hdN (v ++ [c])) (endsT (v ++ [c])))) (if 2 < pre.length then enV v else enV (v ++ [c])) kT kU) H') am
        (eu_tup (vs := [.ref b.L, .ref b.H, .ref b.E]) (ea_cons (e_lets bc (ev_var rfl) am.hasAll) (ea_cons (e_heads bc (ev_var rfl) am.hasAll) (ea_cons (e_ends bc (ev_var rfl) am.hasAll) ea_nil))) (by show 3 ≤ 100000; decide)) (fun p H10 am => ⟨none, rfl, am⟩) (fun p pre σ' H' h => by obtain ⟨_, _, am⟩ := h; exact am.at 0 rfl) ?_ ?_
      · rintro p pre n post σ' H10 hsp ⟨v3, rfl, am⟩
        rcases three_split hsp with ⟨rfl, rfl⟩ | ⟨rfl, rfl⟩ | ⟨rfl, rfl⟩
        · exact a_pop 2 (xs := ltV v) (v := tS [c]) am (by show some (b.L, HO.lst (ltV (v ++ [c]))) = _; rw [← ltV_snoc]) (ev_var rfl) fun H11 am => ⟨_, rfl, am⟩
        · refine a_pop 3 (xs := rowV v.length (chF (fun w => (v ++ [c]).length - w.length) (fun i => (tailF ((v ++ [c]).drop i)).length) (hdN (v ++ [c])) (endsT (v ++ [c])))) am (by show some (b.H, HO.lst (rowV (v.length + 1) _)) = _; rw [rows_popped (c := c)]) (ev_var rfl) fun H11 am => ⟨_, rfl, am⟩
        · refine a_pop 4 (xs := enV v) am (by
            show some (b.E, HO.lst (rowV (v ++ [c]).length (enN (v ++ [c])))) = _
            rw [hlen, rows_popped (c := c)]
            show some (b.E, HO.lst (_ ++ _)) = some (b.E, HO.lst (rowV v.length (enN v) ++ _))
            rw [rowV_congr (F := enN (v ++ [c])) (G := enN v) fun i hi => enN_snoc hi]) (ev_var rfl) fun H11 am => ⟨_, rfl, am⟩
      · rintro p σ' H10 ⟨v3, rfl, am⟩
        have am : Am (bkS g b) H (bkL A g b v (rowV v.length (chF (fun w => (v ++ [c]).length - w.length) (fun i => (tailF ((v ++ [c]).drop i)).length) (hdN (v ++ [c])) (endsT (v ++ [c])))) (enV v) kT kU) H10 := am.drop1
        rw [rowV_congr (G := hdN v) fun i hi => hd_cut hi] at am
        exact ret_lost (S := []) am rfl rfl hb.ok (by omega) fun kT' kU' H11 ok am => k kT' kU' H11 ok am
  · show t_Book_cut_last A E _ [some (.ref g), none, none, none] H
    unfold t_Book_cut_last
    exact xq_need_place (x := .int (-1)) (Am.start H) (ev_var rfl) (ev_is (ev_op (e_lenLets bc (ev_var rfl) hb.has) ev_c rv_I0) rfl) hb.has (.inr ⟨-1, rfl, .inl (by decide)⟩) fun H1 am => k H1 am.toEx
def sp_Book_cut_first (A : Ad) : Sp := spCut A (fun v c => c :: v) fun v c => lps (v.reverse ++ [c])
def t_Book_cut_first (A : Ad) (E : XK) : TS :=
  (tSeq (tDrop (tMeth A.cBook "need_place" (sp_Book_need_place A) [] E (tVar 0) (tCons (tC (.int 0)) tNil)))
  (tSeq (tAsg (tMeth A.cBook "begins_at" (sp_Book_begins_at A) [] E (tVar 0) (tCons (tC (.int 0)) tNil)) (gName 1))
  (tSeq (tAsg (tVar 1) (gName 2))
  (tSeq (tWhile (tTest (tOp rNe (tVar 2) (tC (tS []))))
  (tSeq (tAsg (tCB rLenT (tCons (tDGet (tFld A.K (tVar 0) "tails") (tVar 2)) tNil)) (gSub (tFld A.K (tVar 0) "ends") (tOp rSubI (tCB rLenT (tCons (tVar 2) tNil)) (tC (.int 1))) rSetL))
  (tAsg (tDGet (tFld A.K (tVar 0) "tails") (tVar 2)) (gName 2))))
  (tSeq (tFor (iTup A.K (tTup (tCons (tFld A.K (tVar 0) "letters") (tCons (tFld A.K (tVar 0) "heads") (tCons (tFld A.K (tVar 0) "ends") tNil))))) (gName 3)
  (tDrop (tBM A.K "list" rPopAt (tVar 3) (tCons (tC (.int 0)) tNil))))
  (tRet (tIf (tB (tMeth A.cBook "lost" (sp_Book_lost A) [] E0 (tVar 0) (tCons (tVar 1) tNil))) (tVar 1) (tC .non))))))))

theorem len_Book_cut_first (A : Ad) : ∀ vs H Q E, sp_Book_cut_first A vs H Q E → vs.length = 1 := len_spCut A _ _
theorem pu_Book_cut_first (A : Ad) (bc : BC A) (vs : List V) (H : Hp) (Q : VK) (E : XK) (h : sp_Book_cut_first A vs H Q E) : t_Book_cut_first A E { nx := fun _ H' => Q .non H', rt := Q } (start ["self", "word", "one", "row"] vs) H := by
  rcases h with ⟨g, b, v, c, kT, kU, rfl, hb, k⟩ | ⟨g, b, kT, kU, rfl, hb, k⟩
  · show t_Book_cut_first A E _ [some (.ref g), none, none, none] H
    unfold t_Book_cut_first
    have hb : BkAt A g b (c :: v) kT kU H := hb
    have hl : v.length + 1 ≤ 200 := hb.len
    have ok : BkOk (cntD (v.reverse ++ [c])) kT kU := by rw [cntD_cons]; exact hb.ok
    have hlen : (v.reverse ++ [c]).length = v.length + 1 := by rw [List.length_append, List.length_reverse]; rfl
    have am : Am (bkS g b) H (bkL A g b (c :: v) (hdV (c :: v)) (enV (c :: v)) kT kU) H := hb.has.am
    refine aq_need_place am (ev_var rfl) (p := 0) ev_c hb.has (Nat.succ_pos _) fun H1 am => ?_
    have hb1 : BkAt A g b (c :: v) kT kU H1 := ⟨am.hasAll, hb.ok, hb.lets, hb.len⟩
    refine aq_asg (v := tS (lps (v.reverse ++ [c]))) am (ev_is (c_begins (p := 0) (ev_var rfl) ev_c hb1 (Nat.succ_pos _)) (by rw [List.drop_zero, List.reverse_cons])) fun H2 am => ?_
    dsimp only [List.set]
    refine aq_asg am (ev_var rfl) fun H3 am => ?_
    dsimp only [List.set]
    have hE : ∀ w ∈ endsT (v.reverse ++ [c]), (c :: v).take (w.length - 1 + 1) = w := fun w hw => by
      have hl2 := (ends_len hw).1
      rw [show w.length - 1 + 1 = w.length by omega]
      obtain ⟨h1, h2⟩ := mem_ends.mp hw
      rw [← List.reverse_cons, ← List.reverse_prefix, List.reverse_reverse, mir_rev h1] at h2
      exact (List.prefix_iff_eq_take.mp h2).symm
    refine aq_chain (j := 2) (endsT (v.reverse ++ [c])) (fun pre H' => Am (bkS g b) H (bkL A g b (c :: v) (hdV (c :: v)) (rowV (v.length + 1) (chF (fun w => w.length - 1) (fun i => (tailF ((c :: v).take (i + 1))).length) (enN (c :: v)) pre)) kT kU) H') rfl
      (fun w hw => (mir_iff.mp (mem_ends.mp hw).1).2) am (fun pre H1 H2 e am => am.ex e) ?_ ?_ ?_
    · intro pre w post H9 hE1 am D' hD
      have hw := ends_len (u := v.reverse ++ [c]) (w := w) (by rw [hE1]; simp)
      rw [hlen] at hw
      have hwm : w ∈ endsT (v.reverse ++ [c]) := by rw [hE1]; simp
      have htl : (tailF w).length ≤ 200 := by
        have := tailF_lt (l := w) (fun z => by rw [z] at hw; exact absurd hw.1 (Nat.lt_irrefl 0))
        omega
      refine a_setL 3 (v := .int ((tailF w).length : Nat)) (j := w.length - 1) am rfl (ev_cb (ea_cons (e_dget (k := kW w) (e_tails bc (ev_var rfl) am.hasAll) (ev_var rfl) (am.at 5 rfl) (tails_at ok (.inr (ends_pos hwm)))) ea_nil) (rc_lenT (by omega))) (e_ends bc (ev_var rfl) am.hasAll) (ev_is (ev_op (ev_cb (ea_cons (ev_var rfl) ea_nil) (rc_lenT (by omega))) ev_c rv_I0) (by congr 1; omega)) (by rw [len_rowV]; omega) fun H10 am => hD H10 ?_
      have am : Am (bkS g b) H (bkL A g b (c :: v) (hdV (c :: v)) ((rowV (v.length + 1) (chF (fun w => w.length - 1) (fun i => (tailF ((c :: v).take (i + 1))).length) (enN (c :: v)) pre)).set (w.length - 1) (.int ((tailF w).length : Nat))) kT kU) H10 := am
      rw [rowV_set] at am
      rw [chF_snoc]
      rw [hE w hwm]
      exact am
    · intro pre w post H9 hE1 am
      exact e_dget (k := kW w) (e_tails bc (ev_var rfl) am.hasAll) (ev_var rfl) (am.at 5 rfl) (by rw [tails_at ok (.inr (ends_pos (by rw [hE1]; simp))), chain_next hE1])
    · intro H9 am
      dsimp only [List.set]
      have hhd : hdV (c :: v) = V.int (hdN (c :: v) 0 : Nat) :: hdV v := (rowV_cons (fun i hi => hdN_cons v c i) rfl).symm
      have hen : rowV (v.length + 1) (chF (fun w => w.length - 1) (fun i => (tailF ((c :: v).take (i + 1))).length) (enN (c :: v)) (endsT (v.reverse ++ [c]))) = V.int (chF (fun w => w.length - 1) (fun i => (tailF ((c :: v).take (i + 1))).length) (enN (c :: v)) (endsT (v.reverse ++ [c])) 0 : Nat) :: enV v :=
        (rowV_cons (fun i hi => by rw [← List.reverse_cons]; exact en_cut hi) rfl).symm
      rw [hhd, hen] at am
      generalize hx : V.int (hdN (c :: v) 0 : Nat) = x1 at am
      generalize hy : V.int (chF (fun w => w.length - 1) (fun i => (tailF ((c :: v).take (i + 1))).length) (enN (c :: v)) (endsT (v.reverse ++ [c])) 0 : Nat) = x2 at am
      refine aq_forT2 (f := fun a => V.ref a) (ns := [b.L, b.H, b.E]) (fun p pre σ' H' => ∃ v3 : Option V, σ' = [some (.ref g), some (tS (lps (v.reverse ++ [c]))), some (tS []), v3] ∧ Am (bkS g b) H ((p, .tup [.ref b.L, .ref b.H, .ref b.E]) :: bkL A g b (if 0 < pre.length then v else c :: v)
        (if 1 < pre.length then hdV v else x1 :: hdV v) (if 2 < pre.length then enV v else x2 :: enV v) kT kU) H') am
        (eu_tup (vs := [.ref b.L, .ref b.H, .ref b.E]) (ea_cons (e_lets bc (ev_var rfl) am.hasAll) (ea_cons (e_heads bc (ev_var rfl) am.hasAll) (ea_cons (e_ends bc (ev_var rfl) am.hasAll) ea_nil))) (by show 3 ≤ 100000; decide)) (fun p H10 am => ⟨none, rfl, am⟩) (fun p pre σ' H' h => by obtain ⟨_, _, am⟩ := h; exact am.at 0 rfl) ?_ ?_
      · rintro p pre n post σ' H10 hsp ⟨v3, rfl, am⟩
        rcases three_split hsp with ⟨rfl, rfl⟩ | ⟨rfl, rfl⟩ | ⟨rfl, rfl⟩
        · exact a_pop0 2 (xs := ltV v) (v := tS [c]) am rfl (ev_var rfl) fun H11 am => ⟨_, rfl, am⟩
        · exact a_pop0 3 (xs := hdV v) (v := x1) am rfl (ev_var rfl) fun H11 am => ⟨_, rfl, am⟩
        · exact a_pop0 4 (xs := enV v) (v := x2) am rfl (ev_var rfl) fun H11 am => ⟨_, rfl, am⟩
      · rintro p σ' H10 ⟨v3, rfl, am⟩
        have am : Am (bkS g b) H (bkL A g b v (hdV v) (enV v) kT kU) H10 := am.drop1
        refine ret_lost (S := []) am rfl rfl ok (by rw [List.length_reverse]; omega) fun kT' kU' H11 ok am => ?_
        rw [cntD_rev]
        have ef : cntD v.reverse = cntD v := funext fun w => cntD_rev v w
        rw [ef] at ok
        exact k kT' kU' H11 ok am
  · show t_Book_cut_first A E _ [some (.ref g), none, none, none] H
    unfold t_Book_cut_first
    exact xq_need_place (x := .int 0) (Am.start H) (ev_var rfl) ev_c hb.has (.inr ⟨0, rfl, .inr (by decide)⟩) fun H1 am => k H1 am.toEx
/-! ## __init__ -/
def sp_Book_init (A : Ad) : Sp := fun vs H Q E =>
  (∃ g dx t, vs = [.ref g, tS t] ∧ Has H [(g, .ins A.cBook dx [])] ∧ (∀ c ∈ t, c ∈ letters) ∧ t.length ≤ 200 ∧ ∀ b kT kU H', BkOk (cntD t) kT kU → Am [g] H (bkL A g b t (hdV t) (enV t) kT kU) H' → Q .non H') ∨
  (∃ g dx x o, vs = [.ref g, x] ∧ Has H [(g, .ins A.cBook dx [])] ∧ Thing A.K H x o ∧ oTx o = false ∧ ∀ H', Ex H H' → E (.ref A.cBT) none H')
def t_Book_init (A : Ad) (E : XK) : TS :=
  (tSeq (tDrop (tCall (sp_need_text A) [] E (tCons (tVar 1) tNil)))
  (tSeq (sFld A.K (tVar 0) (tLst tNil) "letters")
  (tSeq (sFld A.K (tVar 0) (tLst tNil) "heads")
  (tSeq (sFld A.K (tVar 0) (tLst tNil) "ends")
  (tSeq (sFld A.K (tVar 0) tDNewK "told")
  (tSeq (sFld A.K (tVar 0) (tDisp (((tC (tS [])), (tC (tS []))) :: [])) "tails")
  (tFor (iStr (tVar 1)) (gName 2)
  (tDrop (tMeth A.cBook "put_last" (sp_Book_put_last A) [] E (tVar 0) (tCons (tVar 2) tNil))))))))))

theorem len_Book_init (A : Ad) : ∀ vs H Q E, sp_Book_init A vs H Q E → vs.length = 2 := fun vs H Q E h => by
  rcases h with ⟨g, dx, t, rfl, _⟩ | ⟨g, dx, x, o, rfl, _⟩ <;> rfl
theorem lets_isTx {t : Tx} (h : ∀ c ∈ t, c ∈ letters) (hl : t.length ≤ 200) : isTx t = true := by
  unfold isTx
  rw [Bool.and_eq_true, decide_eq_true_eq, List.all_eq_true]
  exact ⟨hl, fun c hc => decide_eq_true (h c hc)⟩
theorem ok_empty : BkOk (cntD []) [] [(kW [], tS [])] := by
  refine ⟨(DF.nil (f := fun w => V.int (cntD [] w : Nat))).congr (fun w => (by rw [cntD_nil]; rfl)) (fun _ _ => rfl), ?_⟩
  have z := (DF.nil (f := fun w => tS (tailF w))).put [] (tS [])
  have e : putK ([] : List (Key × V)) (kW []) (tS []) = [(kW [], tS [])] := rfl
  rw [e] at z
  refine z.congr (fun w => by rw [cntD_nil]; rfl) fun w h => ?_
  rw [cntD_nil] at h
  have hw : w = [] := by simpa using h
  subst hw; rfl
theorem pu_Book_init (A : Ad) (bc : BC A) (vs : List V) (H : Hp) (Q : VK) (E : XK) (h : sp_Book_init A vs H Q E) : t_Book_init A E { nx := fun _ H' => Q .non H', rt := Q } (start ["self", "text", "letter"] vs) H := by
  rcases h with ⟨g, dx, t, rfl, hh, hle, hl, k⟩ | ⟨g, dx, x, o, rfl, hh, hx, ho, k⟩
  · show t_Book_init A E _ [some (.ref g), some (tS t), none] H
    unfold t_Book_init
    have am : Am [g] H [(g, .ins A.cBook dx [])] H := hh.am
    refine aq_need_text am (ev_var rfl) (.inl ⟨t, rfl, by omega, rfl⟩) (lets_isTx hle hl) fun H1 am => ?_
    refine aq_fldN 0 am rfl (en_lst ea_nil (by decide)) (fun _ _ => ev_var rfl) bc.cls bc.nL (by decide) fun aL H2 am => ?_
    refine aq_fldN 1 am rfl (en_lst ea_nil (by decide)) (fun _ _ => ev_var rfl) bc.cls bc.nH (by show 1 < 1000; decide) fun aH H3 am => ?_
    refine aq_fldN 2 am rfl (en_lst ea_nil (by decide)) (fun _ _ => ev_var rfl) bc.cls bc.nE (by show 2 < 1000; decide) fun aE H4 am => ?_
    refine aq_fldN 3 am rfl en_dnew (fun _ _ => ev_var rfl) bc.cls bc.nT (by show 3 < 1000; decide) fun aT H5 am => ?_
    refine aq_fldN 4 am rfl en_dispT (fun _ _ => ev_var rfl) bc.cls bc.nU (by show 4 < 1000; decide) fun aU H6 am => ?_
    have am : Am [g] H (bkL A g ⟨dx, aL, aH, aE, aT, aU⟩ [] (hdV []) (enV []) [] [(kW [], tS [])]).reverse H6 := am
    have am := am.perm (List.reverse_perm (bkL A g ⟨dx, aL, aH, aE, aT, aU⟩ [] (hdV []) (enV []) [] [(kW [], tS [])])).symm
    refine a_for (f := fun c => tS [c]) (ns := t) (fun pre σ' H' => ∃ kT kU v2, σ' = [some (.ref g), some (tS t), v2] ∧ BkOk (cntD pre) kT kU ∧ Am [g] H (bkL A g ⟨dx, aL, aH, aE, aT, aU⟩ pre (hdV pre) (enV pre) kT kU) H') am (wk_text (l := t) (ev_var rfl)) (fun H7 am => ⟨_, _, _, rfl, ok_empty, am⟩) (fun _ _ _ _ => trivial) ?_ ?_
    · rintro pre c post σ' H7 hsp ⟨kT, kU, v2, rfl, ok, am⟩
      have hc : c ∈ letters := hle c (by rw [hsp]; simp)
      have hpl : pre.length + 1 ≤ t.length := by rw [hsp, List.length_append, List.length_cons]; omega
      refine a_methD am (ev_var rfl) (am.at 0 rfl) rfl (ea_cons (ev_var rfl) ea_nil) fun H8 am => ?_
      refine .inl ⟨g, _, pre, kT, kU, c, rfl, ⟨am.hasAll, ok, fun d hd => hle d (by rw [hsp]; exact List.mem_append_left _ hd), by omega⟩, hc, by omega, fun kT' kU' H9 ok2 am2 => ?_⟩
      exact ⟨kT', kU', _, rfl, ok2, Am.call (La := bkL A g ⟨dx, aL, aH, aE, aT, aU⟩ pre (hdV pre) (enV pre) kT kU) (L := []) am am2⟩
    · rintro σ' H7 ⟨kT, kU, v2, rfl, ok, am⟩
      exact k _ kT kU H7 ok am
  · show t_Book_init A E _ [some (.ref g), some x, none] H
    unfold t_Book_init
    exact xq_need_text (Am.start H) (ev_var rfl) hx ho fun H1 am => k H1 am.toEx

end Mw
namespace Mw
open PySem PySem.Spec PyProof.Rows L2 Evl
local macro_rules | `(tactic| walk_at "sd") => `(tactic| (first
  | assumption
  | omega
  | decide
  | (simp only [List.length_append, List.length_cons, List.length_nil, List.length_reverse, List.length_take, List.length_drop, List.length_map, List.length_range] at *; omega)
  | skip))
local macro_rules | `(tactic| walk_at "ev") => `(tactic| (first
  | ((with_reducible apply ev_var); rfl)
  | (with_reducible exact ev_c)
  | ((with_reducible apply ev_op) <;> walk_at "ev")
  | ((with_reducible apply e_negI) <;> walk_at "ev")
  | ((with_reducible apply et_test) <;> walk_at "ev")
  | ((with_reducible apply et_B) <;> walk_at "ev")
  | ((with_reducible apply et_and); (focus walk_at "ev"); intro hq; (try simp only [Bool.and_eq_true, Bool.or_eq_true, decide_eq_true_eq, Bool.not_eq_true', decide_eq_false_iff_not, Bool.and_eq_false_iff, Bool.or_eq_false_iff, Bool.not_eq_false'] at hq); walk_at "ev")
  | ((with_reducible apply et_or); (focus walk_at "ev"); intro hq; (try simp only [Bool.and_eq_true, Bool.or_eq_true, decide_eq_true_eq, Bool.not_eq_true', decide_eq_false_iff_not, Bool.and_eq_false_iff, Bool.or_eq_false_iff, Bool.not_eq_false'] at hq); walk_at "ev")
  | ((with_reducible apply ev_andV); (focus walk_at "ev"); intro hq; (try simp only [Bool.and_eq_true, Bool.or_eq_true, decide_eq_true_eq, Bool.not_eq_true', decide_eq_false_iff_not, Bool.and_eq_false_iff, Bool.or_eq_false_iff, Bool.not_eq_false'] at hq); walk_at "ev")
  | ((with_reducible apply ev_orV); (focus walk_at "ev"); intro hq; (try simp only [Bool.and_eq_true, Bool.or_eq_true, decide_eq_true_eq, Bool.not_eq_true', decide_eq_false_iff_not, Bool.and_eq_false_iff, Bool.or_eq_false_iff, Bool.not_eq_false'] at hq); walk_at "ev")
  | ((with_reducible apply e_if); (focus walk_at "ev"); (focus (intro hq; (try simp only [Bool.and_eq_true, Bool.or_eq_true, decide_eq_true_eq, Bool.not_eq_true', decide_eq_false_iff_not, Bool.and_eq_false_iff, Bool.or_eq_false_iff, Bool.not_eq_false'] at hq); walk_at "ev")); (intro hq; (try simp only [Bool.and_eq_true, Bool.or_eq_true, decide_eq_true_eq, Bool.not_eq_true', decide_eq_false_iff_not, Bool.and_eq_false_iff, Bool.or_eq_false_iff, Bool.not_eq_false'] at hq); walk_at "ev"))
  | ((with_reducible apply et_not) <;> walk_at "ev")
  | ((with_reducible apply ev_notV) <;> walk_at "ev")
  | (with_reducible exact et_yes)
  | (with_reducible exact ea_nil)
  | ((with_reducible apply ea_cons) <;> walk_at "ev")
  | (with_reducible exact eo_none)
  | ((with_reducible apply eo_some) <;> walk_at "ev")
  | ((with_reducible apply e_slBut) <;> walk_at "ev")
  | ((with_reducible apply e_slIn) <;> walk_at "ev")
  | ((with_reducible apply e_slTo) <;> walk_at "ev")
  | ((with_reducible apply e_slFrom) <;> walk_at "ev")
  | ((with_reducible apply e_slMid) <;> walk_at "ev")
  | ((with_reducible apply e_rev) <;> walk_at "ev")
  | (with_reducible exact rv_I0)
  | (with_reducible exact r_eqI) | (with_reducible exact r_neI) | (with_reducible exact r_eqS) | (with_reducible exact r_neS)
  | (with_reducible exact r_inC) | (with_reducible exact r_ninC) | (with_reducible exact r_isN) | (with_reducible exact r_notN)
  | (with_reducible exact r_ltT) | (with_reducible exact r_gtT)
  | (with_reducible exact rc_max2) | (with_reducible exact rc_min2)
  | ((with_reducible apply r_divI) <;> walk_at "sd") | ((with_reducible apply r_modI) <;> walk_at "sd") | ((with_reducible apply r_mulI) <;> walk_at "sd")
  | ((with_reducible apply r_ixS) <;> walk_at "sd")
  | ((with_reducible apply r_addT) <;> walk_at "sd")
  | ((with_reducible apply r_mulT) <;> walk_at "sd")
  | ((with_reducible apply rc_lenT) <;> walk_at "sd")
  | ((with_reducible apply rc_lenL) <;> walk_at "sd")
  | ((with_reducible apply ev_cb) <;> walk_at "ev")
  | walk_at "evc"
  | walk_at "sd"))

/-! ## _law_draw, _law_text -/
/-- the script: a list that is read -/
def drawI (ns : List Int) (k : Nat) : Int := ns.getD k 0
def sp__law_draw (A : Ad) : Sp := spV fun vs H v => ∃ (a : Addr) (ns : List Int) (k : Nat), vs = [.ref a, .int k] ∧ SqL A.K H a (ns.map V.int) ∧ v = .int (drawI ns k)
def t__law_draw (A : Ad) : TS :=
  (tRet (tIf (tTest (tOp rGtI (tCB (rLenS A.K) (tCons (tVar 0) tNil)) (tVar 1))) (tOp (rIxL A.K) (tVar 0) (tVar 1)) (tC (.int 0))))

theorem len__law_draw (A : Ad) : ∀ vs H Q E, sp__law_draw A vs H Q E → vs.length = 2 := fun vs H Q E h => by
  obtain ⟨v, ⟨a, ns, k, rfl, _⟩, _⟩ := h
  rfl
theorem pu__law_draw (A : Ad) (vs : List V) (H : Hp) (Q : VK) (E : XK) (h : sp__law_draw A vs H Q E) : t__law_draw A { nx := fun _ H' => Q .non H', rt := Q } (start ["_law_script", "_law_k"] vs) H := by
  obtain ⟨v, ⟨a, ns, j, rfl, hS, rfl⟩, k⟩ := h
  show t__law_draw A _ [some (.ref a), some (.int j)] H
  unfold t__law_draw
  refine a_ret (v := .int (drawI ns j)) (Am.start H) ?_ fun H1 am => k H1 am.toEx
  refine ev_is (e_if (v := .int (drawI ns j)) (b := decide ((j : Int) < ((ns.map V.int).length : Nat))) (et_test (ev_op (ev_cb (ea_cons (ev_var rfl) ea_nil) (rc_lenL hS)) (ev_var rfl) rv_I0)) (fun c => ?_) fun c => ev_c) ?_
  · have c := of_decide_eq_true c
    rw [List.length_map] at c
    have hj : j < ns.length := by omega
    refine ev_op (ev_var rfl) (ev_var rfl) (rv_ixL hS (atI_map (n := drawI ns j) (by omega) ?_))
    unfold drawI
    simp [List.getD, List.getElem?_eq_getElem hj]
  · rw [List.length_map]
    by_cases c : (j : Int) < (ns.length : Nat)
    · rw [if_pos (decide_eq_true c)]
    · rw [if_neg (by simpa using c)]
      have hj : ns.length ≤ j := by omega
      unfold drawI
      simp [List.getD, List.getElem?_eq_none hj]
theorem c__law_draw_ {A : Ad} {σ : L2.St} {H : Hp} {te tk : TE} {a : Addr} {ns : List Int} {k : Nat} (h : Ev te σ H (.ref a)) (hk : Ev tk σ H (.int k)) (hS : SqL A.K H a (ns.map V.int)) : Ev (tCall (sp__law_draw A) [] E0 (tCons te (tCons tk tNil))) σ H (.int (drawI ns k)) :=
  e_callV (ea_cons h (ea_cons hk ea_nil)) fun _ e => ⟨a, ns, k, rfl, ex_l e hS, rfl⟩

/-- the law's text: letters alone, no more than so many -/
def Lets (l : Tx) : Prop := ∀ c ∈ l, c ∈ letters
theorem lets_tx {l : Tx} (h : Lets l) (hl : l.length ≤ 200) : isTx l = true := by
  unfold isTx
  rw [decide_eq_true hl, Bool.true_and, List.all_eq_true]
  exact fun c hc => decide_eq_true (h c hc)
theorem Lets.app {a b : Tx} (h : Lets a) (h2 : Lets b) : Lets (a ++ b) := fun c hc => (List.mem_append.mp hc).elim (h c) (h2 c)
theorem Lets.rev {a : Tx} (h : Lets a) : Lets a.reverse := fun c hc => h c (List.mem_reverse.mp hc)
theorem Lets.take {a : Tx} (h : Lets a) (n : Nat) : Lets (a.take n) := fun c hc => h c (List.mem_of_mem_take hc)
theorem Lets.drop {a : Tx} (h : Lets a) (n : Nat) : Lets (a.drop n) := fun c hc => h c (List.mem_of_mem_drop hc)
theorem Lets.rep {a : Tx} (h : Lets a) (n : Nat) : Lets (repT a n) := fun c hc => by
  unfold repT at hc
  obtain ⟨l, hl, hc⟩ := List.mem_flatten.mp hc
  rw [List.eq_of_mem_replicate hl] at hc
  exact h c hc
theorem len_rep (a : Tx) (n : Nat) : (repT a n).length = n * a.length := by
  unfold repT
  simp [List.length_flatten]
theorem at0_let (i : Int) (h0 : 0 ≤ i) (h1 : i < 26) : at0 letters i ∈ letters := by
  obtain ⟨n, rfl⟩ : ∃ n : Nat, i = n := ⟨i.toNat, by omega⟩
  unfold at0
  rw [Int.toNat_natCast]
  have hn : n < letters.length := by show n < 26; omega
  have e : letters.getD n 0 = letters[n] := by simp [List.getD, List.getElem?_eq_getElem hn]
  rw [e]
  exact List.getElem_mem hn
def sp__law_text (A : Ad) : Sp := fun vs H Q _ => ∃ (a : Addr) (ns : List Int) (fi mo : Nat), vs = [.ref a, .int fi, .int mo] ∧ SqL A.K H a (ns.map V.int) ∧ ns.length ≤ 63 ∧ fi ≤ 10 ∧ mo ≤ 63 ∧
  ∀ l H', Ex H H' → Lets l → l.length ≤ mo + 1 → Q (tS l) H'
def t__law_text (A : Ad) : TS :=
  (tSeq (tAsg (tOp rModI (tCall (sp__law_draw A) [] E0 (tCons (tVar 0) (tCons (tC (.int 0)) tNil))) (tC (.int 6))) (gName 3))
  (tSeq (tAsg (tOp (rIxL A.K) (tLst (tCons (tC (.int 1)) (tCons (tC (.int 2)) (tCons (tC (.int 2)) (tCons (tC (.int 3)) (tCons (tC (.int 26)) (tCons (tC (.int 2)) tNil))))))) (tOp rModI (tOp rDivI (tCall (sp__law_draw A) [] E0 (tCons (tVar 0) (tCons (tC (.int 0)) tNil))) (tC (.int 6))) (tC (.int 6)))) (gName 4))
  (tSeq (tAsg (tC (tS letters)) (gName 5))
  (tSeq (tAsg (tOp rModI (tOp rDivI (tCall (sp__law_draw A) [] E0 (tCons (tVar 0) (tCons (tC (.int 0)) tNil))) (tC (.int 36))) (tC (.int 26))) (gName 6))
  (tSeq (tAsg (tJoin A.K (tC (tS [])) (tLc (iList A.K (tSl (rSlL A.K) (tVar 0) (tPart (tVar 1)) (tPart (tOp rAddI (tVar 1) (tVar 2))))) (gName 8) tYes (tOp rIxS (tVar 5) (tOp rModI (tOp rAddI (tVar 6) (tOp rModI (tOp rDivI (tVar 8) (tC (.int 5))) (tVar 4))) (tC (.int 26)))) [8])) (gName 7))
  (tSeq (tAsg (tSl rSlS (tVar 7) tNoPart (tPart (tOp rDivI (tCB rLenT (tCons (tVar 7) tNil)) (tC (.int 2))))) (gName 9))
  (tSeq (tIfS (tTest (tOp rEq (tVar 3) (tC (.int 1)))) (tRet (tOp rAddT (tVar 9) (tVar 9))) tNext)
  (tSeq (tIfS (tTest (tOp rEq (tVar 3) (tC (.int 2)))) (tRet (tOp rAddT (tVar 9) (tRevT (tVar 9)))) tNext)
  (tSeq (tIfS (tTest (tOp rEq (tVar 3) (tC (.int 3)))) (tRet (tOp rAddT (tOp rAddT (tVar 9) (tSl rSlS (tVar 7) (tPart (tCB rLenT (tCons (tVar 9) tNil))) (tPart (tOp rAddI (tCB rLenT (tCons (tVar 9) tNil)) (tC (.int 1)))))) (tRevT (tVar 9)))) tNext)
  (tSeq (tIfS (tTest (tOp rEq (tVar 3) (tC (.int 4)))) (tRet (tSl rSlS (tOp rMulT (tSl rSlS (tVar 7) tNoPart (tPart (tOp rAddI (tC (.int 1)) (tOp rDivI (tCB rLenT (tCons (tVar 7) tNil)) (tC (.int 5)))))) (tC (.int 5))) tNoPart (tPart (tCB rLenT (tCons (tVar 7) tNil))))) tNext)
  (tRet (tVar 7))))))))))))

theorem len__law_text (A : Ad) : ∀ vs H Q E, sp__law_text A vs H Q E → vs.length = 3 := fun vs H Q E h => by
  obtain ⟨a, ns, fi, mo, rfl, _⟩ := h
  rfl
def manyF (d : Int) : Int := [1, 2, 2, 3, 26, 2].getD (d / 6 % 6).toNat 0
theorem manyF_pos (d : Int) : 1 ≤ manyF d ∧ manyF d ≤ 26 := by
  unfold manyF
  have h1 : (d / 6 % 6).toNat < 6 := by omega
  match (d / 6 % 6).toNat, h1 with
  | 0, _ => decide
  | 1, _ => decide
  | 2, _ => decide
  | 3, _ => decide
  | 4, _ => decide
  | 5, _ => decide
theorem pu__law_text (A : Ad) (vs : List V) (H : Hp) (Q : VK) (E : XK) (h : sp__law_text A vs H Q E) :
    t__law_text A { nx := fun _ H' => Q .non H', rt := Q } (start ["_law_script", "_law_first", "_law_most", "_law_way", "_law_many", "_law_letters", "_law_start", "_law_word", "_law_cell", "_law_half"] vs) H := by
  obtain ⟨a, ns, fi, mo, rfl, hS, hn, hfi, hmo, k⟩ := h
  show t__law_text A _ [some (.ref a), some (.int fi), some (.int mo), none, none, none, none, none, none, none] H
  unfold t__law_text
  have am := Am.start H
  refine aq_asg am (ev_op (c__law_draw_ (k := 0) (ev_var rfl) ev_c hS) ev_c (r_modI (by decide))) fun H1 am => ?_
  dsimp only [List.set]
  refine aq_asg (v := .int (manyF (drawI ns 0))) am (ev_opL1 (el_lst (vs := [.int 1, .int 2, .int 2, .int 3, .int 26, .int 2]) (by walk_at "ev") (by decide))
    (fun H2 e => ev_op (ev_op (c__law_draw_ (k := 0) (ev_var rfl) ev_c (ex_l (am.toEx.trans e) hS)) ev_c (r_divI (by decide))) ev_c (r_modI (by decide)))
    (fun p H2 h2 e => rv_ixL (K := A.K) (sq_of h2) (atI_map (f := V.int) (ns := [1, 2, 2, 3, 26, 2]) (by omega) ?_))) fun H2 am => ?_
  · unfold manyF
    have h1 : (drawI ns 0 / 6 % 6).toNat < 6 := by omega
    have h2 : (drawI ns 0 / 6 % 6).toNat < ([1, 2, 2, 3, 26, 2] : List Int).length := h1
    simp only [List.getD, List.getElem?_eq_getElem h2, Option.getD_some]
  dsimp only [List.set]
  refine aq_asg am (by walk_at "ev") fun H3 am => ?_
  dsimp only [List.set]
  refine aq_asg am (ev_op (ev_op (c__law_draw_ (k := 0) (ev_var rfl) ev_c (ex_l am.toEx hS)) ev_c (r_divI (by decide))) ev_c (r_modI (by decide))) fun H4 am => ?_
  dsimp only [List.set]
  have hm := manyF_pos (drawI ns 0)
  generalize hmv : manyF (drawI ns 0) = many at hm ⊢
  have hst0 : 0 ≤ drawI ns 0 / 36 % 26 := by omega
  generalize hsv : drawI ns 0 / 36 % 26 = st at hst0 ⊢
  let cells := ((ns.drop (HT.sIx ns.length 0 (some (fi : Int)))).take (HT.sIx ns.length ns.length (some ((fi : Int) + mo)) - HT.sIx ns.length 0 (some (fi : Int))))
  let fc : Int → Tx := fun c => [at0 letters ((st + c / 5 % many) % 26)]
  have hcl : cells.length ≤ mo := by
    show (List.take _ (List.drop _ ns)).length ≤ mo
    rw [sIx_pos _ _ _ (by omega), sIx_pos _ _ _ (by omega), List.length_take, List.length_drop]
    omega
  have hfl : ∀ cs : List Int, ((cs.map fc).flatten).length = cs.length := fun cs => by
    induction cs with
    | nil => rfl
    | cons c r ih => rw [List.map_cons, List.flatten_cons, List.length_append, ih, List.length_cons]; simp [fc]; omega
  have hfx : ∀ c : Int, 0 ≤ (st + c / 5 % many) % 26 ∧ (st + c / 5 % many) % 26 < 26 := fun c => ⟨by omega, by omega⟩
  refine aq_asg (v := tS (cells.map fc).flatten) am (e_join (K := A.K) (ls := cells.map fc) ev_c ?_ (by rw [hfl]; omega)) fun H5 am => ?_
  · have z := el_lcN (H := H4) (σ := [some (.ref a), some (.int fi), some (.int mo), some (.int (drawI ns 0 % 6)), some (.int many), some (tS letters), some (.int st), none, none, none]) (K := A.K) (f := V.int) (ns := cells) (j := 8) (vs := [8]) (t := tYes) (te := (tOp rIxS (tVar 5) (tOp rModI (tOp rAddI (tVar 6) (tOp rModI (tOp rDivI (tVar 8) (tC (.int 5))) (tVar 4))) (tC (.int 26)))))
      (fun _ => true) (fun c => tS (fc c)) (tl := (tSl (rSlL A.K) (tVar 0) (tPart (tVar 1)) (tPart (tOp rAddI (tVar 1) (tVar 2)))))
      (e_slL (ev_var rfl) (eo_some (ev_var rfl)) (eo_some (by walk_at "ev")) (ex_l am.toEx hS)) (by omega) (fun _ => rfl) (fun _ _ => et_yes) (fun c _ _ => by
        dsimp only [List.set, wipe]
        have hx := hfx c
        refine ev_op (ev_var rfl) (ev_op (ev_op (ev_var rfl) (ev_op (ev_op (ev_var rfl) ev_c (r_divI (by decide))) (ev_var rfl) (r_modI (by omega))) rv_I0) ev_c (r_modI (by decide))) (r_ixS hx.1 hx.2 (by decide)))
    rw [List.filter_eq_self.mpr (fun _ _ => rfl)] at z
    rw [List.map_map]
    exact z
  have hlw : ((cells.map fc).flatten).length ≤ mo := by rw [hfl]; exact hcl
  have hle : Lets (cells.map fc).flatten := fun c hc => by
    obtain ⟨x, hx, hc⟩ := List.mem_flatten.mp hc
    obtain ⟨y, hy, rfl⟩ := List.mem_map.mp hx
    have e : c = at0 letters ((st + y / 5 % many) % 26) := by simpa [fc] using hc
    rw [e]
    exact at0_let _ (hfx y).1 (hfx y).2
  generalize (cells.map fc).flatten = wd at hlw hle ⊢
  generalize drawI ns 0 % 6 = way
  dsimp only [List.set]
  refine aq_asg am (by walk_at "ev") fun H6 am => ?_
  dsimp only [List.set]
  have hh : (wd.take ((wd.length : Int) / 2).toNat).length * 2 ≤ wd.length := by rw [List.length_take]; omega
  have hhl := hle.take ((wd.length : Int) / 2).toNat
  generalize wd.take ((wd.length : Int) / 2).toNat = hf at hh hhl ⊢
  refine aq_when am (by walk_at "ev") (fun _ H7 am => a_ret am (by walk_at "ev") fun H8 am => k _ _ am.toEx (hhl.app hhl) (by rw [List.length_append]; omega)) fun _ H7 am => ?_
  refine aq_when am (by walk_at "ev") (fun _ H7 am => a_ret am (by walk_at "ev") fun H8 am => k _ _ am.toEx (hhl.app hhl.rev) (by rw [List.length_append, List.length_reverse]; omega)) fun _ H7 am => ?_
  refine aq_when am (by walk_at "ev") (fun _ H7 am => a_ret am (by walk_at "ev") fun H8 am => k _ _ am.toEx ((hhl.app ((hle.drop _).take _)).app hhl.rev) ?_) fun _ H7 am => ?_
  · rw [List.length_append, List.length_append, List.length_reverse, List.length_take, List.length_drop]
    omega
  have hwt : ∀ n : Nat, (wd.take n).length * (5 : Int).toNat ≤ 1000000 := fun n => by
    show (wd.take n).length * 5 ≤ 1000000
    rw [List.length_take]; omega
  refine aq_when am (by walk_at "ev") (fun _ H7 am => a_ret am (e_slTo (ev_op (e_slTo (i := 1 + (wd.length : Int) / 5) (ev_var rfl) (by walk_at "ev") (by omega) (by omega)) ev_c (r_mulT (n := 5) (by decide) (by decide) (hwt _)))
    (i := wd.length) (by walk_at "ev") (by omega) ?_) fun H8 am => k _ _ am.toEx (((hle.take _).rep _).take _) ?_) fun _ H7 am => ?_
  · rw [len_rep, Nat.mul_comm]
    exact hwt _
  · rw [List.length_take]
    omega
  exact a_ret am (by walk_at "ev") fun H8 am => k _ _ am.toEx hle (by omega)
theorem c__law_text_ {A : Ad} {σ : L2.St} {H : Hp} {te : TE} {a : Addr} {ns : List Int} {fi mo : Nat} (h : Ev te σ H (.ref a)) (hS : SqL A.K H a (ns.map V.int)) (hn : ns.length ≤ 63) (hf : fi ≤ 10) (hm : mo ≤ 63) :
    EvP (tCall (sp__law_text A) [] E0 (tCons te (tCons (tC (.int fi)) (tCons (tC (.int mo)) tNil)))) σ H (fun v => ∃ l, v = tS l ∧ Lets l ∧ l.length ≤ mo + 1) := fun H1 e Q q =>
  h H1 e _ fun H2 e2 => ⟨a, ns, fi, mo, rfl, ex_l (e.trans e2) hS, hn, hf, hm, fun l H3 e3 hl hz => q _ _ ⟨l, rfl, hl, hz⟩ (e2.trans e3)⟩

end Mw
namespace Mw
open PySem PySem.Spec PyProof.Rows L2 Evl
local macro_rules | `(tactic| walk_at "sd") => `(tactic| (first
  | assumption
  | omega
  | decide
  | (simp only [List.length_append, List.length_cons, List.length_nil, List.length_reverse, List.length_take, List.length_drop, List.length_map, List.length_range] at *; omega)
  | skip))
local macro_rules | `(tactic| walk_at "ev") => `(tactic| (first
  | ((with_reducible apply ev_var); rfl)
  | (with_reducible exact ev_c)
  | ((with_reducible apply ev_op) <;> walk_at "ev")
  | ((with_reducible apply e_negI) <;> walk_at "ev")
  | ((with_reducible apply et_test) <;> walk_at "ev")
  | ((with_reducible apply et_B) <;> walk_at "ev")
  | ((with_reducible apply et_and); (focus walk_at "ev"); intro hq; (try simp only [Bool.and_eq_true, Bool.or_eq_true, decide_eq_true_eq, Bool.not_eq_true', decide_eq_false_iff_not, Bool.and_eq_false_iff, Bool.or_eq_false_iff, Bool.not_eq_false'] at hq); walk_at "ev")
  | ((with_reducible apply et_or); (focus walk_at "ev"); intro hq; (try simp only [Bool.and_eq_true, Bool.or_eq_true, decide_eq_true_eq, Bool.not_eq_true', decide_eq_false_iff_not, Bool.and_eq_false_iff, Bool.or_eq_false_iff, Bool.not_eq_false'] at hq); walk_at "ev")
  | ((with_reducible apply ev_andV); (focus walk_at "ev"); intro hq; (try simp only [Bool.and_eq_true, Bool.or_eq_true, decide_eq_true_eq, Bool.not_eq_true', decide_eq_false_iff_not, Bool.and_eq_false_iff, Bool.or_eq_false_iff, Bool.not_eq_false'] at hq); walk_at "ev")
  | ((with_reducible apply ev_orV); (focus walk_at "ev"); intro hq; (try simp only [Bool.and_eq_true, Bool.or_eq_true, decide_eq_true_eq, Bool.not_eq_true', decide_eq_false_iff_not, Bool.and_eq_false_iff, Bool.or_eq_false_iff, Bool.not_eq_false'] at hq); walk_at "ev")
  | ((with_reducible apply e_if); (focus walk_at "ev"); (focus (intro hq; (try simp only [Bool.and_eq_true, Bool.or_eq_true, decide_eq_true_eq, Bool.not_eq_true', decide_eq_false_iff_not, Bool.and_eq_false_iff, Bool.or_eq_false_iff, Bool.not_eq_false'] at hq); walk_at "ev")); (intro hq; (try simp only [Bool.and_eq_true, Bool.or_eq_true, decide_eq_true_eq, Bool.not_eq_true', decide_eq_false_iff_not, Bool.and_eq_false_iff, Bool.or_eq_false_iff, Bool.not_eq_false'] at hq); walk_at "ev"))
  | ((with_reducible apply et_not) <;> walk_at "ev")
  | ((with_reducible apply ev_notV) <;> walk_at "ev")
  | (with_reducible exact et_yes)
  | (with_reducible exact ea_nil)
  | ((with_reducible apply ea_cons) <;> walk_at "ev")
  | (with_reducible exact eo_none)
  | ((with_reducible apply eo_some) <;> walk_at "ev")
  | ((with_reducible apply e_slBut) <;> walk_at "ev")
  | ((with_reducible apply e_slIn) <;> walk_at "ev")
  | ((with_reducible apply e_slTo) <;> walk_at "ev")
  | ((with_reducible apply e_slFrom) <;> walk_at "ev")
  | ((with_reducible apply e_slMid) <;> walk_at "ev")
  | ((with_reducible apply e_rev) <;> walk_at "ev")
  | (with_reducible exact rv_I0)
  | (with_reducible exact r_eqI) | (with_reducible exact r_neI) | (with_reducible exact r_eqS) | (with_reducible exact r_neS)
  | (with_reducible exact r_inC) | (with_reducible exact r_ninC) | (with_reducible exact r_isN) | (with_reducible exact r_notN)
  | (with_reducible exact r_ltT) | (with_reducible exact r_gtT)
  | (with_reducible exact rc_max2) | (with_reducible exact rc_min2)
  | ((with_reducible apply r_divI) <;> walk_at "sd") | ((with_reducible apply r_modI) <;> walk_at "sd") | ((with_reducible apply r_mulI) <;> walk_at "sd")
  | ((with_reducible apply r_ixS) <;> walk_at "sd")
  | ((with_reducible apply r_addT) <;> walk_at "sd")
  | ((with_reducible apply r_mulT) <;> walk_at "sd")
  | ((with_reducible apply rc_lenT) <;> walk_at "sd")
  | ((with_reducible apply rc_lenL) <;> walk_at "sd")
  | ((with_reducible apply ev_cb) <;> walk_at "ev")
  | walk_at "evc"
  | walk_at "sd"))

/-! ## of words of a text -/
theorem mir_is {t w : Tx} (h : mir w = true) (hl : ∀ c ∈ w, c ∈ letters) (hn : w.length ≤ 200) : oMir (some w) = true := by
  obtain ⟨h1, h2⟩ := mir_iff.mp h
  unfold oMir
  dsimp only
  rw [lets_isTx hl hn, h1, decide_eq_false h2]; rfl
theorem word_lets {t w : Tx} (hl : ∀ c ∈ t, c ∈ letters) (h : w ∈ wordsL t) : ∀ c ∈ w, c ∈ letters := fun c hc => hl c ((mem_words.mp h).2.subset hc)
theorem wordsL_len {t w : Tx} (h : w ∈ wordsL t) : w.length ≤ t.length := (mem_words.mp h).2.length_le
/-! ## what the laws of books share -/
section
variable {K : PySem.W.Frag} {S : List Addr} {H0 H H1 : Hp} {L : List (Addr × HO)} {σ : L2.St} {te ta tb : TE} {tt : TA} {tc : TT} {D : Ends} {tu tz : TS} {C dx g : Addr} {fs : List (Str × V)} {m : Str} {sp : Sp} {E : XK} {vs xs : List V} {v w : V}
theorem aq_makeB {i : Nat} {b : Bool} (am : Am S H0 L H) (hc : EvT tc σ H b) (h1 : b = true → EvA tt σ H [v]) (h2 : b = false → v = w) (k : ∀ g dx H1, Am S H0 ((g, .ins C dx []) :: (dx, .own g) :: L) H1 → sp [.ref g, v] H1 (fun u H2 => u = .non ∧ tz D (σ.set i (some (.ref g))) H2) E) :
    tSeq (tAsg (tIf tc (tMake C sp [] E tt) (tMake C sp [w] E tNil)) (gName i)) tz D σ H := hc H (Ex.refl H) _ fun H1 e1 => by
  have am1 := am.ex e1
  have mk : ∀ {H2 : Hp}, Am S H0 L H2 → ∀ x dx, H2 x = none → H2 dx = none → dx ≠ x → sp [.ref x, v] (upd (upd H2 dx (.own x)) x (.ins C dx [])) (fun u H2 => u = .non ∧ tz D (σ.set i (some (.ref x))) H2) E := fun {H2} am x dx hx hdx ne => by
    refine k x dx _ ((am.new1 hdx).new1 ?_)
    rw [upd_ne (Ne.symm ne)]
    exact hx
  cases b with
  | true =>
    rw [if_pos rfl]
    exact h1 rfl H1 e1 _ fun H2 e2 => fun x dx hx hdx ne => mk (am1.ex e2) x dx hx hdx ne
  | false =>
    rw [if_neg Bool.false_ne_true]
    have e := h2 rfl
    subst e
    exact fun x dx hx hdx ne => mk am1 x dx hx hdx ne
theorem a_methA {i : Nat} (am : Am S H0 L H) (h : Ev ta σ H (.ref g)) (hg : H g = some (.ins C dx fs)) (hl : fs.lookup m = none) (ht : EvA tt σ H vs) (k : ∀ H1, Am S H0 L H1 → sp (.ref g :: vs) H1 (fun v H2 => D.nx (σ.set i (some v)) H2) E) :
    tAsg (tMeth C m sp [] E ta tt) (gName i) D σ H := t_meth (Q := fun v H2 => D.nx (σ.set i (some v)) H2) h hg hl ht fun H1 e => k H1 (am.ex e)
/-- a new list that is changed and left -/
theorem a_appN (am : Am S H0 L H) (h : EvL ta σ H xs) (hv : Ev te σ H v) (hz : xs.length < 100000) (k : ∀ H1, Am S H0 L H1 → D.nx σ H1) : tDrop (tBM K "list" rAppend ta (tCons te tNil)) D σ H :=
  h H (Ex.refl H) _ fun p H1 hp e1 h1 => ⟨Or.inl ⟨rfl, xs, sq_of h1⟩, hv H1 e1 _ fun H2 e2 => ⟨p, xs, v, rfl, rfl, e2 p _ h1, sz_lt hz, by
    have am2 := (am.add hp e1 h1).ex e2
    exact k _ (am2.set 0 rfl).drop1⟩⟩
end
theorem ne_new {n : Nat} {w : Tx} {H : Hp} : RV rNe (newV n w) (newV n w) H (.bl false) := fun H1 _ _ q => by
  unfold newV
  split
  · exact ⟨rfl, by rw [decide_eq_true rfl]; exact q H1 (Ex.refl H1)⟩
  · exact ⟨rfl, by rw [decide_eq_true rfl]; exact q H1 (Ex.refl H1)⟩
def many5 (d : Int) : Int := [1, 2, 2, 3, 26].getD (d % 5).toNat 0
theorem many5_pos (d : Int) : 1 ≤ many5 d ∧ many5 d ≤ 26 := by
  unfold many5
  have h1 : (d % 5).toNat < 5 := by omega
  match (d % 5).toNat, h1 with
  | 0, _ => decide
  | 1, _ => decide
  | 2, _ => decide
  | 3, _ => decide
  | 4, _ => decide
theorem e_many5 {K : PySem.W.Frag} {σ : L2.St} {H : Hp} {ti : TE} {d : Int} (h : ∀ H1, Ex H H1 → Ev ti σ H1 (.int (d % 5))) : Ev (tOp (rIxL K) (tLst (tCons (tC (.int 1)) (tCons (tC (.int 2)) (tCons (tC (.int 2)) (tCons (tC (.int 3)) (tCons (tC (.int 26)) tNil)))))) ti) σ H (.int (many5 d)) :=
  ev_opL1 (el_lst (vs := [.int 1, .int 2, .int 2, .int 3, .int 26]) (by walk_at "ev") (by decide)) h (fun p H2 h2 e => rv_ixL (K := K) (sq_of h2) (atI_map (f := V.int) (ns := [1, 2, 2, 3, 26]) (by omega) (by
    unfold many5
    have h1 : (d % 5).toNat < 5 := by omega
    have h2 : (d % 5).toNat < ([1, 2, 2, 3, 26] : List Int).length := h1
    simp only [List.getD, List.getElem?_eq_getElem h2, Option.getD_some])))
/-- the ledger's book and what goes with it -/
theorem bk_at {A : Ad} {S : List Addr} {H0 H : Hp} {L : List (Addr × HO)} {g : Addr} {b : BA} {t : Tx} {kT kU : List (Key × V)} (am : Am S H0 (bkL A g b t (hdV t) (enV t) kT kU ++ L) H) (ok : BkOk (cntD t) kT kU) (hl : ∀ c ∈ t, c ∈ letters) (hn : t.length ≤ 200) : BkAt A g b t kT kU H := ⟨am.has, ok, hl, hn⟩

end Mw
namespace Mw
open PySem PySem.Spec PyProof.Rows L2 Evl
local macro_rules | `(tactic| walk_at "sd") => `(tactic| (first
  | assumption
  | omega
  | decide
  | (simp only [List.length_append, List.length_cons, List.length_nil, List.length_reverse, List.length_take, List.length_drop, List.length_map, List.length_range] at *; omega)
  | skip))
local macro_rules | `(tactic| walk_at "ev") => `(tactic| (first
  | ((with_reducible apply ev_var); rfl)
  | (with_reducible exact ev_c)
  | ((with_reducible apply ev_op) <;> walk_at "ev")
  | ((with_reducible apply e_negI) <;> walk_at "ev")
  | ((with_reducible apply et_test) <;> walk_at "ev")
  | ((with_reducible apply et_B) <;> walk_at "ev")
  | ((with_reducible apply et_and); (focus walk_at "ev"); intro hq; (try simp only [Bool.and_eq_true, Bool.or_eq_true, decide_eq_true_eq, Bool.not_eq_true', decide_eq_false_iff_not, Bool.and_eq_false_iff, Bool.or_eq_false_iff, Bool.not_eq_false'] at hq); walk_at "ev")
  | ((with_reducible apply et_or); (focus walk_at "ev"); intro hq; (try simp only [Bool.and_eq_true, Bool.or_eq_true, decide_eq_true_eq, Bool.not_eq_true', decide_eq_false_iff_not, Bool.and_eq_false_iff, Bool.or_eq_false_iff, Bool.not_eq_false'] at hq); walk_at "ev")
  | ((with_reducible apply ev_andV); (focus walk_at "ev"); intro hq; (try simp only [Bool.and_eq_true, Bool.or_eq_true, decide_eq_true_eq, Bool.not_eq_true', decide_eq_false_iff_not, Bool.and_eq_false_iff, Bool.or_eq_false_iff, Bool.not_eq_false'] at hq); walk_at "ev")
  | ((with_reducible apply ev_orV); (focus walk_at "ev"); intro hq; (try simp only [Bool.and_eq_true, Bool.or_eq_true, decide_eq_true_eq, Bool.not_eq_true', decide_eq_false_iff_not, Bool.and_eq_false_iff, Bool.or_eq_false_iff, Bool.not_eq_false'] at hq); walk_at "ev")
  | ((with_reducible apply e_if); (focus walk_at "ev"); (focus (intro hq; (try simp only [Bool.and_eq_true, Bool.or_eq_true, decide_eq_true_eq, Bool.not_eq_true', decide_eq_false_iff_not, Bool.and_eq_false_iff, Bool.or_eq_false_iff, Bool.not_eq_false'] at hq); walk_at "ev")); (intro hq; (try simp only [Bool.and_eq_true, Bool.or_eq_true, decide_eq_true_eq, Bool.not_eq_true', decide_eq_false_iff_not, Bool.and_eq_false_iff, Bool.or_eq_false_iff, Bool.not_eq_false'] at hq); walk_at "ev"))
  | ((with_reducible apply et_not) <;> walk_at "ev")
  | ((with_reducible apply ev_notV) <;> walk_at "ev")
  | (with_reducible exact et_yes)
  | (with_reducible exact ea_nil)
  | ((with_reducible apply ea_cons) <;> walk_at "ev")
  | (with_reducible exact eo_none)
  | ((with_reducible apply eo_some) <;> walk_at "ev")
  | ((with_reducible apply e_slBut) <;> walk_at "ev")
  | ((with_reducible apply e_slIn) <;> walk_at "ev")
  | ((with_reducible apply e_slTo) <;> walk_at "ev")
  | ((with_reducible apply e_slFrom) <;> walk_at "ev")
  | ((with_reducible apply e_slMid) <;> walk_at "ev")
  | ((with_reducible apply e_rev) <;> walk_at "ev")
  | (with_reducible exact rv_I0)
  | (with_reducible exact r_eqI) | (with_reducible exact r_neI) | (with_reducible exact r_eqS) | (with_reducible exact r_neS)
  | (with_reducible exact r_inC) | (with_reducible exact r_ninC) | (with_reducible exact r_isN) | (with_reducible exact r_notN)
  | (with_reducible exact r_ltT) | (with_reducible exact r_gtT)
  | (with_reducible exact rc_max2) | (with_reducible exact rc_min2)
  | ((with_reducible apply r_divI) <;> walk_at "sd") | ((with_reducible apply r_modI) <;> walk_at "sd") | ((with_reducible apply r_mulI) <;> walk_at "sd")
  | ((with_reducible apply r_ixS) <;> walk_at "sd")
  | ((with_reducible apply r_addT) <;> walk_at "sd")
  | ((with_reducible apply r_mulT) <;> walk_at "sd")
  | ((with_reducible apply rc_lenT) <;> walk_at "sd")
  | ((with_reducible apply rc_lenL) <;> walk_at "sd")
  | ((with_reducible apply ev_cb) <;> walk_at "ev")
  | walk_at "evc"
  | walk_at "sd"))

/-! ## the words of the refusals -/
def wText : Tx := [116, 101, 120, 116, 32]
def wLett : Tx := [108, 101, 116, 116, 101, 114, 32]
def wWord : Tx := [119, 111, 114, 100, 32]
def wFull : Tx := [102, 117, 108, 108, 32]
def wPlac : Tx := [112, 108, 97, 99, 101, 32]
def b01 (b : Bool) : Nat := if b then 1 else 0
def wordX (b0 b1 b2 b5 b6 : Bool) : Tx := (((repT wText (b01 b0) ++ repT wLett (b01 b1)) ++ repT wWord (b01 b2)) ++ repT wFull (b01 b6)) ++ repT wPlac (b01 b5)
def sp__law_word (A : Ad) : Sp := spV fun vs H v => ∃ a D b0 b1 b2 b5 b6, vs = [.ref a] ∧ H a = some (ExK D a) ∧ XC A D b0 b1 b2 false false b5 b6 ∧ v = tS (wordX b0 b1 b2 b5 b6)
def t__law_word (A : Ad) : TS :=
  (tSeq (tIfS (tOr (tTest (tOp rIsNn (tVar 0) (tC .non))) (tOr (tNot (tB (tCB (rIsX A.K) (tCons (tVar 0) (tCons (tC (.ty "ValueError")) tNil))))) (tB (tCB (rIsXT A.K) (tCons (tVar 0) (tCons (tTup (tCons (tC (.ref A.cBA)) (tCons (tC (.ref A.cNT)) tNil))) tNil)))))) (tRet (tC (tS [111, 116, 104, 101, 114]))) tNext)
  (tSeq (tAsg (tOp rAddT (tOp rMulT (tC (tS [116, 101, 120, 116, 32])) (tCB rIntB (tCons (tCB (rIsX A.K) (tCons (tVar 0) (tCons (tC (.ref A.cBT)) tNil))) tNil))) (tOp rMulT (tC (tS [108, 101, 116, 116, 101, 114, 32])) (tCB rIntB (tCons (tCB (rIsX A.K) (tCons (tVar 0) (tCons (tC (.ref A.cBL)) tNil))) tNil)))) (gName 1))
  (tSeq (tAsg (tOp rAddT (tOp rAddT (tVar 1) (tOp rMulT (tC (tS [119, 111, 114, 100, 32])) (tCB rIntB (tCons (tCB (rIsX A.K) (tCons (tVar 0) (tCons (tC (.ref A.cBW)) tNil))) tNil)))) (tOp rMulT (tC (tS [102, 117, 108, 108, 32])) (tCB rIntB (tCons (tCB (rIsX A.K) (tCons (tVar 0) (tCons (tC (.ref A.cFu)) tNil))) tNil)))) (gName 1))
  (tRet (tOp rAddT (tVar 1) (tOp rMulT (tC (tS [112, 108, 97, 99, 101, 32])) (tCB rIntB (tCons (tCB (rIsX A.K) (tCons (tVar 0) (tCons (tC (.ref A.cNP)) tNil))) tNil))))))))

theorem len__law_word (A : Ad) : ∀ vs H Q E, sp__law_word A vs H Q E → vs.length = 1 := fun vs H Q E h => by
  obtain ⟨v, ⟨a, D, b0, b1, b2, b5, b6, rfl, _⟩, _⟩ := h
  rfl
theorem e_times {σ : L2.St} {H : Hp} {te : TE} {l : Tx} {b : Bool} (h : Ev te σ H (.bl b)) (hl : l.length ≤ 100) : Ev (tOp rMulT (tC (tS l)) (tCB rIntB (tCons te tNil))) σ H (tS (repT l (b01 b))) := by
  have z := ev_op (r := rMulT) (ev_c (v := tS l) (σ := σ) (H := H)) (ev_cb (ea_cons h ea_nil) rc_intB) (r_mulT (n := if b then 1 else 0) (by split <;> decide) (by split <;> decide) (by cases b <;> simp <;> omega))
  have e : (if b = true then (1 : Int) else 0).toNat = b01 b := by cases b <;> rfl
  rw [e] at z
  exact z
theorem len_times {l : Tx} {b : Bool} (hl : l.length ≤ 100) : (repT l (b01 b)).length ≤ 100 := by
  cases b
  · exact Nat.zero_le _
  · show (repT l 1).length ≤ 100
    have : repT l 1 = l := by unfold repT; simp
    rw [this]; exact hl
theorem pu__law_word (A : Ad) (vs : List V) (H : Hp) (Q : VK) (E : XK) (h : sp__law_word A vs H Q E) : t__law_word A { nx := fun _ H' => Q .non H', rt := Q } (start ["_law_caught", "_law_found"] vs) H := by
  obtain ⟨v, ⟨a, D, b0, b1, b2, b5, b6, rfl, ha, xc, rfl⟩, k⟩ := h
  show t__law_word A _ [some (.ref a), none] H
  unfold t__law_word
  have am := Am.start H
  have hh : ∀ {H' : Hp}, Am [] H [] H' → H' a = some (ExK D a) := fun am => am.toEx _ _ ha
  have is : ∀ {H' : Hp} {σ : L2.St} {C : Addr} {b : Bool}, Am [] H [] H' → σ[0]? = some (some (.ref a)) → PySem.W.kitOne A.K (.ref D) (.ref C) = some b → Ev (tCB (rIsX A.K) (tCons (tVar 0) (tCons (tC (.ref C)) tNil))) σ H' (.bl b) := fun am s0 hk => ev_cb (ea_cons (ev_var s0) (ea_cons ev_c ea_nil)) (rc_isX (hh am) xc.ex (.own _) hk)
  refine aq_when (b := false) am (et_is (et_or (a := decide (V.ref a = .non)) (b := false) (et_test (ev_op (ev_var rfl) ev_c r_isN)) fun _ => et_is (et_or (et_not (et_B (ev_cb (ea_cons (ev_var rfl) (ea_cons ev_c ea_nil)) (rc_isX ha xc.ex (.ty _) xc.ve)))) fun _ => et_B (e_isXT (us := [.ref A.cBA, .ref A.cNT]) ha xc.ex (ev_var rfl) (by walk_at "ev") (by show 2 ≤ 1000; decide) (.cons (.own _) (.cons (.own _) .nil)) (kitAny_cons xc.kBA (fun _ => kitAny_cons xc.kNT (fun _ => kitAny_nil) id) id))) rfl) ?_) (fun c => Bool.noConfusion c) fun _ H1 am => ?_
  · rw [decide_eq_false (fun z => by cases z)]; rfl
  have l0 := len_times (l := wText) (b := b0) (by decide)
  have l1 := len_times (l := wLett) (b := b1) (by decide)
  have l2 := len_times (l := wWord) (b := b2) (by decide)
  have l6 := len_times (l := wFull) (b := b6) (by decide)
  have l5 := len_times (l := wPlac) (b := b5) (by decide)
  refine aq_asg am (v := tS (repT wText (b01 b0) ++ repT wLett (b01 b1))) (ev_op (e_times (is am rfl xc.kBT) (by decide)) (e_times (is am rfl xc.kBL) (by decide)) (r_addT ?_)) fun H2 am => ?_
  · show (repT wText (b01 b0)).length + (repT wLett (b01 b1)).length ≤ _
    omega
  dsimp only [List.set]
  refine aq_asg am (v := tS (((repT wText (b01 b0) ++ repT wLett (b01 b1)) ++ repT wWord (b01 b2)) ++ repT wFull (b01 b6))) (ev_op (ev_op (ev_var rfl) (e_times (is am rfl xc.kBW) (by decide)) (r_addT ?_)) (e_times (is am rfl xc.kFu) (by decide)) (r_addT ?_)) fun H3 am => ?_
  · show (repT wText (b01 b0) ++ repT wLett (b01 b1)).length + (repT wWord (b01 b2)).length ≤ _
    rw [List.length_append]; omega
  · show ((repT wText (b01 b0) ++ repT wLett (b01 b1)) ++ repT wWord (b01 b2)).length + (repT wFull (b01 b6)).length ≤ _
    rw [List.length_append, List.length_append]; omega
  dsimp only [List.set]
  refine a_ret am (v := tS (wordX b0 b1 b2 b5 b6)) (ev_op (ev_var rfl) (e_times (is am rfl xc.kNP) (by decide)) (r_addT ?_)) fun H4 am => k H4 am.toEx
  show (((repT wText (b01 b0) ++ repT wLett (b01 b1)) ++ repT wWord (b01 b2)) ++ repT wFull (b01 b6)).length + (repT wPlac (b01 b5)).length ≤ _
  rw [List.length_append, List.length_append, List.length_append]; omega
/-! ## the deeds that are refused -/
def dPF : Tx := [112, 117, 116, 32, 102, 105, 114, 115, 116]
def dPL : Tx := [112, 117, 116, 32, 108, 97, 115, 116]
def dCF : Tx := [99, 117, 116, 32, 102, 105, 114, 115, 116]
def dCL : Tx := [99, 117, 116, 32, 108, 97, 115, 116]
def dCo : Tx := [99, 111, 117, 110, 116]
def dBe : Tx := [98, 101, 103, 105, 110, 115]
def dEn : Tx := [101, 110, 100, 115]
def dBo : Tx := [98, 111, 111, 107]
inductive Rf (A : Ad) (t : Tx) : Tx → V → Addr → Tx → Hp → Prop where
  | letF {x : V} {o : Option Tx} {H : Hp} (h : Thing A.K H x o) (ho : oLet o = false) : Rf A t dPF x A.cBL wLett H
  | letL {x : V} {o : Option Tx} {H : Hp} (h : Thing A.K H x o) (ho : oLet o = false) : Rf A t dPL x A.cBL wLett H
  | fulF {x : V} {o : Option Tx} {H : Hp} (h : Thing A.K H x o) (ho : oLet o = true) (hl : t.length = 200) : Rf A t dPF x A.cFu wFull H
  | fulL {x : V} {o : Option Tx} {H : Hp} (h : Thing A.K H x o) (ho : oLet o = true) (hl : t.length = 200) : Rf A t dPL x A.cFu wFull H
  | cutF {x : V} {H : Hp} (ht : t = []) : Rf A t dCF x A.cNP wPlac H
  | cutL {x : V} {H : Hp} (ht : t = []) : Rf A t dCL x A.cNP wPlac H
  | cnt {x : V} {o : Option Tx} {H : Hp} (h : Thing A.K H x o) (ho : oMir o = false) : Rf A t dCo x A.cBW wWord H
  | beg {x : V} {H : Hp} (h : NoPl A.K H x t.length) : Rf A t dBe x A.cNP wPlac H
  | fin {x : V} {H : Hp} (h : NoPl A.K H x t.length) : Rf A t dEn x A.cNP wPlac H
  | book {x : V} {o : Option Tx} {H : Hp} (h : Thing A.K H x o) (ho : oTx o = false) : Rf A t dBo x A.cBT wText H
theorem Rf.ex {A : Ad} {t d w : Tx} {x : V} {C : Addr} {H H1 : Hp} (e : Ex H H1) (h : Rf A t d x C w H) : Rf A t d x C w H1 := by
  cases h with
  | letF h ho => exact .letF (h.ex e) ho
  | letL h ho => exact .letL (h.ex e) ho
  | fulF h ho hl => exact .fulF (h.ex e) ho hl
  | fulL h ho hl => exact .fulL (h.ex e) ho hl
  | cutF ht => exact .cutF ht
  | cutL ht => exact .cutL ht
  | cnt h ho => exact .cnt (h.ex e) ho
  | beg h => exact .beg (h.ex e)
  | fin h => exact .fin (h.ex e)
  | book h ho => exact .book (h.ex e) ho
def sp__law_done (A : Ad) : Sp := fun vs H Q E => ∃ g b t kT kU d x C w, vs = [.ref g, tS d, x] ∧ BkAt A g b t kT kU H ∧ Rf A t d x C w H ∧ ∀ H', Ex H H' → E (.ref C) none H'
def t__law_done (A : Ad) (E : XK) : TS :=
  (tIfS (tTest (tOp rEq (tVar 1) (tC (tS [112, 117, 116, 32, 102, 105, 114, 115, 116])))) (tDrop (tMeth A.cBook "put_first" (sp_Book_put_first A) [] E (tVar 0) (tCons (tVar 2) tNil))) (tIfS (tTest (tOp rEq (tVar 1) (tC (tS [112, 117, 116, 32, 108, 97, 115, 116])))) (tDrop (tMeth A.cBook "put_last" (sp_Book_put_last A) [] E (tVar 0) (tCons (tVar 2) tNil))) (tIfS (tTest (tOp rEq (tVar 1) (tC (tS [99, 117, 116, 32, 102, 105, 114, 115, 116])))) (tDrop (tMeth A.cBook "cut_first" (sp_Book_cut_first A) [] E (tVar 0) tNil)) (tIfS (tTest (tOp rEq (tVar 1) (tC (tS [99, 117, 116, 32, 108, 97, 115, 116])))) (tDrop (tMeth A.cBook "cut_last" (sp_Book_cut_last A) [] E (tVar 0) tNil)) (tIfS (tTest (tOp rEq (tVar 1) (tC (tS [99, 111, 117, 110, 116])))) (tDrop (tMeth A.cBook "count" (sp_Book_count A) [] E (tVar 0) (tCons (tVar 2) tNil))) (tIfS (tTest (tOp rEq (tVar 1) (tC (tS [98, 101, 103, 105, 110, 115])))) (tDrop (tMeth A.cBook "begins_at" (sp_Book_begins_at A) [] E (tVar 0) (tCons (tVar 2) tNil))) (tIfS (tTest (tOp rEq (tVar 1) (tC (tS [101, 110, 100, 115])))) (tDrop (tMeth A.cBook "ends_at" (sp_Book_ends_at A) [] E (tVar 0) (tCons (tVar 2) tNil))) (tDrop (tMake A.cBook (sp_Book_init A) [] E (tCons (tVar 2) tNil))))))))))

theorem len__law_done (A : Ad) : ∀ vs H Q E, sp__law_done A vs H Q E → vs.length = 3 := fun vs H Q E h => by
  obtain ⟨g, b, t, kT, kU, d, x, C, w, rfl, _⟩ := h
  rfl
theorem pu__law_done (A : Ad) (vs : List V) (H : Hp) (Q : VK) (E : XK) (h : sp__law_done A vs H Q E) : t__law_done A E { nx := fun _ H' => Q .non H', rt := Q } (start ["_law_book", "_law_deed", "_law_thing"] vs) H := by
  obtain ⟨g, b, t, kT, kU, d, x, C, w, rfl, hb, hR, k⟩ := h
  show t__law_done A E _ [some (.ref g), some (tS d), some x] H
  unfold t__law_done
  have no : ∀ {H1 : Hp} {l : Tx} {tu tw : TS} {D : Ends}, Am [] H [] H1 → d ≠ l → (∀ H2, Am [] H [] H2 → tw D [some (.ref g), some (tS d), some x] H2) → tIfS (tTest (tOp rEq (tVar 1) (tC (tS l)))) tu tw D [some (.ref g), some (tS d), some x] H1 := fun am hne k => a_if (b := false) am (et_is (et_test (ev_op (ev_var rfl) ev_c r_eqS)) (decide_eq_false hne)) (fun c => Bool.noConfusion c) fun _ H2 am => k H2 am
  have yes : ∀ {H1 : Hp} {l : Tx} {tu tw : TS} {D : Ends}, Am [] H [] H1 → d = l → (∀ H2, Am [] H [] H2 → tu D [some (.ref g), some (tS d), some x] H2) → tIfS (tTest (tOp rEq (tVar 1) (tC (tS l)))) tu tw D [some (.ref g), some (tS d), some x] H1 := fun am he k => a_if (b := true) am (et_is (et_test (ev_op (ev_var rfl) ev_c r_eqS)) (decide_eq_true he)) (fun _ H2 am => k H2 am) fun c => Bool.noConfusion c
  have meth : ∀ {H1 : Hp} {m : Str} {sp : Sp} {D : Ends}, Am [] H [] H1 → (bkFs b).lookup m = none → (∀ H2, Ex H H2 → ∀ Q' : VK, sp [.ref g, x] H2 Q' E) → tDrop (tMeth A.cBook m sp [] E (tVar 0) (tCons (tVar 2) tNil)) D [some (.ref g), some (tS d), some x] H1 := fun am hm hs =>
    t_meth (Q := fun _ H2 => _) (ev_var rfl) ((hb.ex am.toEx).has.at 0 rfl) hm (ea_cons (ev_var rfl) ea_nil) fun H2 e2 => hs H2 (am.toEx.trans e2) _
  have meth0 : ∀ {H1 : Hp} {m : Str} {sp : Sp} {D : Ends}, Am [] H [] H1 → (bkFs b).lookup m = none → (∀ H2, Ex H H2 → ∀ Q' : VK, sp [.ref g] H2 Q' E) → tDrop (tMeth A.cBook m sp [] E (tVar 0) tNil) D [some (.ref g), some (tS d), some x] H1 := fun am hm hs =>
    t_meth (Q := fun _ H2 => _) (ev_var rfl) ((hb.ex am.toEx).has.at 0 rfl) hm ea_nil fun H2 e2 => hs H2 (am.toEx.trans e2) _
  have am := Am.start H
  cases hR with
  | letF hx ho => exact yes am rfl fun H1 am => meth am rfl fun H2 e Q' => .inr ⟨g, b, t, _, _, kT, kU, x, _, _, rfl, (hb.ex e).has, hx.ex e, .inl ⟨ho, rfl⟩, fun H3 e3 => k H3 (e.trans e3)⟩
  | fulF hx ho hl => exact yes am rfl fun H1 am => meth am rfl fun H2 e Q' => .inr ⟨g, b, t, _, _, kT, kU, x, _, _, rfl, (hb.ex e).has, hx.ex e, .inr ⟨ho, hl, rfl⟩, fun H3 e3 => k H3 (e.trans e3)⟩
  | letL hx ho => exact no am (by decide) fun H1 am => yes am rfl fun H1 am => meth am rfl fun H2 e Q' => .inr ⟨g, b, t, _, _, kT, kU, x, _, _, rfl, (hb.ex e).has, hx.ex e, .inl ⟨ho, rfl⟩, fun H3 e3 => k H3 (e.trans e3)⟩
  | fulL hx ho hl => exact no am (by decide) fun H1 am => yes am rfl fun H1 am => meth am rfl fun H2 e Q' => .inr ⟨g, b, t, _, _, kT, kU, x, _, _, rfl, (hb.ex e).has, hx.ex e, .inr ⟨ho, hl, rfl⟩, fun H3 e3 => k H3 (e.trans e3)⟩
  | cutF ht =>
    subst ht
    exact no am (by decide) fun H1 am => no am (by decide) fun H1 am => yes am rfl fun H1 am => meth0 am rfl fun H2 e Q' => .inr ⟨g, b, kT, kU, rfl, hb.ex e, fun H3 e3 => k H3 (e.trans e3)⟩
  | cutL ht =>
    subst ht
    exact no am (by decide) fun H1 am => no am (by decide) fun H1 am => no am (by decide) fun H1 am => yes am rfl fun H1 am => meth0 am rfl fun H2 e Q' => .inr ⟨g, b, kT, kU, rfl, hb.ex e, fun H3 e3 => k H3 (e.trans e3)⟩
  | cnt hx ho => exact no am (by decide) fun H1 am => no am (by decide) fun H1 am => no am (by decide) fun H1 am => no am (by decide) fun H1 am => yes am rfl fun H1 am => meth am rfl fun H2 e Q' => .inr ⟨A.cBW, ⟨g, x, _, rfl, hx.ex e, ho, rfl⟩, fun H3 e3 => k H3 (e.trans e3)⟩
  | beg hx => exact no am (by decide) fun H1 am => no am (by decide) fun H1 am => no am (by decide) fun H1 am => no am (by decide) fun H1 am => no am (by decide) fun H1 am => yes am rfl fun H1 am => meth am rfl fun H2 e Q' => .inr ⟨A.cNP, ⟨g, b, t, _, _, kT, kU, x, rfl, (hb.ex e).has, hx.ex e, rfl⟩, fun H3 e3 => k H3 (e.trans e3)⟩
  | fin hx => exact no am (by decide) fun H1 am => no am (by decide) fun H1 am => no am (by decide) fun H1 am => no am (by decide) fun H1 am => no am (by decide) fun H1 am => no am (by decide) fun H1 am => yes am rfl fun H1 am => meth am rfl fun H2 e Q' => .inr ⟨A.cNP, ⟨g, b, t, _, _, kT, kU, x, rfl, (hb.ex e).has, hx.ex e, rfl⟩, fun H3 e3 => k H3 (e.trans e3)⟩
  | book hx ho =>
    refine no am (by decide) fun H1 am => no am (by decide) fun H1 am => no am (by decide) fun H1 am => no am (by decide) fun H1 am => no am (by decide) fun H1 am => no am (by decide) fun H1 am => no am (by decide) fun H1 am => ?_
    have hA : EvA (tCons (tVar 2) tNil) [some (.ref g), some (tS dBo), some x] H1 [x] := ea_cons (ev_var rfl) ea_nil
    show (tMake A.cBook (sp_Book_init A) [] E (tCons (tVar 2) tNil)) _ H1 _
    refine hA H1 (Ex.refl _) _ fun H2 e2 => ?_
    intro g2 dx2 h1 h2 hne
    rw [List.append_nil]
    have e3 : Ex H2 (upd (upd H2 dx2 (.own g2)) g2 (.ins A.cBook dx2 [])) := (Ex.new h2).trans (Ex.new (by rw [upd_ne (Ne.symm hne)]; exact h1))
    have e4 := (am.toEx.trans e2).trans e3
    exact .inr ⟨g2, dx2, x, _, rfl, ⟨fun p hp => by rw [List.mem_singleton.mp hp]; exact upd_same, by simp⟩, hx.ex e4, ho, fun H3 e5 => k H3 (e4.trans e5)⟩
/-! ## _law_said -/
structure KX (A : Ad) : Prop where
  bt : XC A A.cBT true false false false false false false
  bl : XC A A.cBL false true false false false false false
  bw : XC A A.cBW false false true false false false false
  np : XC A A.cNP false false false false false true false
  fu : XC A A.cFu false false false false false false true
theorem Rf.xc {A : Ad} {t d w : Tx} {x : V} {C : Addr} {H : Hp} (kx : KX A) (h : Rf A t d x C w H) : ∃ b0 b1 b2 b5 b6, XC A C b0 b1 b2 false false b5 b6 ∧ wordX b0 b1 b2 b5 b6 = w := by
  cases h with
  | letF _ _ => exact ⟨_, _, _, _, _, kx.bl, by decide⟩
  | letL _ _ => exact ⟨_, _, _, _, _, kx.bl, by decide⟩
  | fulF _ _ _ => exact ⟨_, _, _, _, _, kx.fu, by decide⟩
  | fulL _ _ _ => exact ⟨_, _, _, _, _, kx.fu, by decide⟩
  | cutF _ => exact ⟨_, _, _, _, _, kx.np, by decide⟩
  | cutL _ => exact ⟨_, _, _, _, _, kx.np, by decide⟩
  | cnt _ _ => exact ⟨_, _, _, _, _, kx.bw, by decide⟩
  | beg _ => exact ⟨_, _, _, _, _, kx.np, by decide⟩
  | fin _ => exact ⟨_, _, _, _, _, kx.np, by decide⟩
  | book _ _ => exact ⟨_, _, _, _, _, kx.bt, by decide⟩
def sp__law_said (A : Ad) : Sp := spV fun vs H v => ∃ g b t kT kU d x C w, vs = [.ref g, tS d, x] ∧ BkAt A g b t kT kU H ∧ Rf A t d x C w H ∧ v = tS w
def t__law_said (A : Ad) : TS :=
  (tSeq (tAsg (tC .non) (gName 3))
  (tSeq (tTryK A.K A.cME 4 3 (fun W => (tDrop (tCallS (sp__law_done A) (WE W) (tCons (tVar 0) (tCons (tVar 1) (tCons (tVar 2) tNil)))))))
  (tRet (tCall (sp__law_word A) [] E0 (tCons (tVar 3) tNil)))))

theorem len__law_said (A : Ad) : ∀ vs H Q E, sp__law_said A vs H Q E → vs.length = 3 := fun vs H Q E h => by
  obtain ⟨v, ⟨g, b, t, kT, kU, d, x, C, w, rfl, _⟩, _⟩ := h
  rfl
theorem pu__law_said (A : Ad) (kx : KX A) (vs : List V) (H : Hp) (Q : VK) (E : XK) (h : sp__law_said A vs H Q E) : t__law_said A { nx := fun _ H' => Q .non H', rt := Q } (start ["_law_book", "_law_deed", "_law_thing", "_law_caught", "e"] vs) H := by
  obtain ⟨v, ⟨g, b, t, kT, kU, d, x, C, w, rfl, hb, hR, rfl⟩, k⟩ := h
  show t__law_said A _ [some (.ref g), some (tS d), some x, none, none] H
  unfold t__law_said
  obtain ⟨b0, b1, b2, b5, b6, xc, hw⟩ := hR.xc kx
  refine aq_asg (Am.start H) ev_c fun H1 am => ?_
  dsimp only [List.set]
  refine aq_tryK am (ea_cons (ev_var rfl) (ea_cons (ev_var rfl) (ea_cons (ev_var rfl) ea_nil))) (fun H2 e Q' E' k' => ⟨g, b, t, kT, kU, d, x, C, w, rfl, hb.ex (am.toEx.trans e), hR.ex (am.toEx.trans e), k'⟩) xc.exm fun a H2 am => ?_
  dsimp only [List.set]
  exact a_ret am (e_callV (ea_cons (ev_var rfl) ea_nil) fun H3 e => ⟨a, C, b0, b1, b2, b5, b6, rfl, e _ _ (am.at 0 rfl), xc, by rw [hw]⟩) fun H3 am => k H3 am.toEx
theorem c__law_said_ {A : Ad} {σ : L2.St} {H : Hp} {tb td tx : TE} {g : Addr} {b : BA} {t : Tx} {kT kU : List (Key × V)} {d w : Tx} {x : V} {C : Addr} (h1 : Ev tb σ H (.ref g)) (h2 : Ev td σ H (tS d)) (h3 : Ev tx σ H x) (hb : BkAt A g b t kT kU H) (hR : Rf A t d x C w H) : Ev (tCall (sp__law_said A) [] E0 (tCons tb (tCons td (tCons tx tNil)))) σ H (tS w) :=
  e_callV (ea_cons h1 (ea_cons h2 (ea_cons h3 ea_nil))) fun _ e => ⟨g, b, t, kT, kU, d, x, C, w, rfl, hb.ex e, hR.ex e, rfl⟩

end Mw
namespace Mw
open PySem PySem.Spec PyProof.Rows L2 Evl
local macro_rules | `(tactic| walk_at "sd") => `(tactic| (first
  | assumption
  | omega
  | decide
  | (simp only [List.length_append, List.length_cons, List.length_nil, List.length_reverse, List.length_take, List.length_drop, List.length_map, List.length_range] at *; omega)
  | skip))
local macro_rules | `(tactic| walk_at "ev") => `(tactic| (first
  | ((with_reducible apply ev_var); rfl)
  | (with_reducible exact ev_c)
  | ((with_reducible apply ev_op) <;> walk_at "ev")
  | ((with_reducible apply e_negI) <;> walk_at "ev")
  | ((with_reducible apply et_test) <;> walk_at "ev")
  | ((with_reducible apply et_B) <;> walk_at "ev")
  | ((with_reducible apply et_and); (focus walk_at "ev"); intro hq; (try simp only [Bool.and_eq_true, Bool.or_eq_true, decide_eq_true_eq, Bool.not_eq_true', decide_eq_false_iff_not, Bool.and_eq_false_iff, Bool.or_eq_false_iff, Bool.not_eq_false'] at hq); walk_at "ev")
  | ((with_reducible apply et_or); (focus walk_at "ev"); intro hq; (try simp only [Bool.and_eq_true, Bool.or_eq_true, decide_eq_true_eq, Bool.not_eq_true', decide_eq_false_iff_not, Bool.and_eq_false_iff, Bool.or_eq_false_iff, Bool.not_eq_false'] at hq); walk_at "ev")
  | ((with_reducible apply ev_andV); (focus walk_at "ev"); intro hq; (try simp only [Bool.and_eq_true, Bool.or_eq_true, decide_eq_true_eq, Bool.not_eq_true', decide_eq_false_iff_not, Bool.and_eq_false_iff, Bool.or_eq_false_iff, Bool.not_eq_false'] at hq); walk_at "ev")
  | ((with_reducible apply ev_orV); (focus walk_at "ev"); intro hq; (try simp only [Bool.and_eq_true, Bool.or_eq_true, decide_eq_true_eq, Bool.not_eq_true', decide_eq_false_iff_not, Bool.and_eq_false_iff, Bool.or_eq_false_iff, Bool.not_eq_false'] at hq); walk_at "ev")
  | ((with_reducible apply e_if); (focus walk_at "ev"); (focus (intro hq; (try simp only [Bool.and_eq_true, Bool.or_eq_true, decide_eq_true_eq, Bool.not_eq_true', decide_eq_false_iff_not, Bool.and_eq_false_iff, Bool.or_eq_false_iff, Bool.not_eq_false'] at hq); walk_at "ev")); (intro hq; (try simp only [Bool.and_eq_true, Bool.or_eq_true, decide_eq_true_eq, Bool.not_eq_true', decide_eq_false_iff_not, Bool.and_eq_false_iff, Bool.or_eq_false_iff, Bool.not_eq_false'] at hq); walk_at "ev"))
  | ((with_reducible apply et_not) <;> walk_at "ev")
  | ((with_reducible apply ev_notV) <;> walk_at "ev")
  | (with_reducible exact et_yes)
  | (with_reducible exact ea_nil)
  | ((with_reducible apply ea_cons) <;> walk_at "ev")
  | (with_reducible exact eo_none)
  | ((with_reducible apply eo_some) <;> walk_at "ev")
  | ((with_reducible apply e_slBut) <;> walk_at "ev")
  | ((with_reducible apply e_slIn) <;> walk_at "ev")
  | ((with_reducible apply e_slTo) <;> walk_at "ev")
  | ((with_reducible apply e_slFrom) <;> walk_at "ev")
  | ((with_reducible apply e_slMid) <;> walk_at "ev")
  | ((with_reducible apply e_rev) <;> walk_at "ev")
  | (with_reducible exact rv_I0)
  | (with_reducible exact r_eqI) | (with_reducible exact r_neI) | (with_reducible exact r_eqS) | (with_reducible exact r_neS)
  | (with_reducible exact r_inC) | (with_reducible exact r_ninC) | (with_reducible exact r_isN) | (with_reducible exact r_notN)
  | (with_reducible exact r_ltT) | (with_reducible exact r_gtT)
  | (with_reducible exact rc_max2) | (with_reducible exact rc_min2)
  | ((with_reducible apply r_divI) <;> walk_at "sd") | ((with_reducible apply r_modI) <;> walk_at "sd") | ((with_reducible apply r_mulI) <;> walk_at "sd")
  | ((with_reducible apply r_ixS) <;> walk_at "sd")
  | ((with_reducible apply r_addT) <;> walk_at "sd")
  | ((with_reducible apply r_mulT) <;> walk_at "sd")
  | ((with_reducible apply rc_lenT) <;> walk_at "sd")
  | ((with_reducible apply rc_lenL) <;> walk_at "sd")
  | ((with_reducible apply ev_cb) <;> walk_at "ev")
  | walk_at "evc"
  | walk_at "sd"))

/-! ## _law_refusal -/
/-- what is no text for sure -/
def BadT (K : PySem.W.Frag) (v : V) (H : Hp) : Prop := ∃ o, Thing K H v o ∧ oTx o = false
theorem BadT.ex (K : PySem.W.Frag) (v : V) (H H' : Hp) (e : Ex H H') (h : BadT K v H) : BadT K v H' := by
  obtain ⟨o, h, b⟩ := h
  exact ⟨o, h.ex e, b⟩
theorem bad_text {K : PySem.W.Frag} {H : Hp} {l : Tx} (h : isTx l = false) (hl : l.length ≤ 1000) : BadT K (tS l) H := ⟨some l, .inl ⟨l, rfl, hl, rfl⟩, h⟩
theorem bad_odd {K : PySem.W.Frag} {H : Hp} {v : V} (h : Odd K H v) : BadT K v H := ⟨none, .inr ⟨h, rfl⟩, rfl⟩
theorem odd_non {K : PySem.W.Frag} {H : Hp} : Odd K H .non := ⟨"NoneType", .base .non, by decide⟩
theorem odd_int {K : PySem.W.Frag} {H : Hp} {i : Int} : Odd K H (.int i) := ⟨"int", .base (.int i), by decide⟩
theorem odd_bl {K : PySem.W.Frag} {H : Hp} {b : Bool} : Odd K H (.bl b) := ⟨"bool", .base (.bl b), by decide⟩
theorem odd_lst {K : PySem.W.Frag} {H : Hp} {p : Addr} {xs : List V} (h : H p = some (.lst xs)) : Odd K H (.ref p) := ⟨"list", .base (.lst h), by decide⟩
theorem odd_tup {K : PySem.W.Frag} {H : Hp} {p : Addr} {xs : List V} (h : H p = some (.tup xs)) : Odd K H (.ref p) := ⟨"tuple", .base (.tup h), by decide⟩
theorem odd_dK {K : PySem.W.Frag} {H : Hp} {p : Addr} {kvs : List (Key × V)} (h : H p = some (.dK kvs)) : Odd K H (.ref p) := ⟨"dict", .base (.dK h), by decide⟩
def NoLe (K : PySem.W.Frag) (v : V) (H : Hp) : Prop := ∃ o, Thing K H v o ∧ oLet o = false
theorem NoLe.ex (K : PySem.W.Frag) (v : V) (H H' : Hp) (e : Ex H H') (h : NoLe K v H) : NoLe K v H' := by
  obtain ⟨o, h, b⟩ := h
  exact ⟨o, h.ex e, b⟩
theorem noLe_text {K : PySem.W.Frag} {H : Hp} {l : Tx} (h : oLet (some l) = false) (hl : l.length ≤ 1000) : NoLe K (tS l) H := ⟨some l, .inl ⟨l, rfl, hl, rfl⟩, h⟩
theorem noLe_odd {K : PySem.W.Frag} {H : Hp} {v : V} (h : Odd K H v) : NoLe K v H := ⟨none, .inr ⟨h, rfl⟩, rfl⟩
def NoMi (K : PySem.W.Frag) (v : V) (H : Hp) : Prop := ∃ o, Thing K H v o ∧ oMir o = false
theorem NoMi.ex (K : PySem.W.Frag) (v : V) (H H' : Hp) (e : Ex H H') (h : NoMi K v H) : NoMi K v H' := by
  obtain ⟨o, h, b⟩ := h
  exact ⟨o, h.ex e, b⟩
theorem noMi_text {K : PySem.W.Frag} {H : Hp} {l : Tx} (h : oMir (some l) = false) (hl : l.length ≤ 1000) : NoMi K (tS l) H := ⟨some l, .inl ⟨l, rfl, hl, rfl⟩, h⟩
theorem noMi_odd {K : PySem.W.Frag} {H : Hp} {v : V} (h : Odd K H v) : NoMi K v H := ⟨none, .inr ⟨h, rfl⟩, rfl⟩
theorem long_text : isTx (repT [97] 201) = false := by decide +kernel
def sp__law_refusal (A : Ad) : Sp := fun vs H Q _ => ∃ t m, vs = [tS t, .int m] ∧ t.length ≤ 200 ∧ ∀ p d x C w H', Ex H H' → H' p = some (.tup [tS d, x, tS w]) → Rf A t d x C w H' → Q (.ref p) H'
def t__law_refusal (A : Ad) : TS :=
  (tSeq (tAsg (tOp rModI (tVar 1) (tC (.int 8))) (gName 2))
  (tSeq (tAsg (tOp rDivI (tVar 1) (tC (.int 8))) (gName 3))
  (tSeq (tAsg (tLst (tCons (tC (tS [112, 117, 116, 32, 102, 105, 114, 115, 116])) (tCons (tC (tS [112, 117, 116, 32, 108, 97, 115, 116])) tNil))) (gName 4))
  (tSeq (tIfS (tTest (tOp rLtI (tVar 2) (tC (.int 2)))) (tRet (tTup (tCons (tOp (rIxL A.K) (tVar 4) (tVar 2)) (tCons (tOp (rIxL A.K) (tLst (tCons (tC (tS [])) (tCons (tC (tS [97, 98])) (tCons (tC (tS [65])) (tCons (tC (tS [32])) (tCons (tC .non) (tCons (tC (.int 5)) (tCons (tC (.bl true)) (tCons (tLst (tCons (tC (tS [97])) tNil)) (tCons (tTup (tCons (tC (tS [97])) tNil)) (tCons (tC (tS [49])) (tCons tDNewK tNil)))))))))))) (tOp rModI (tVar 3) (tC (.int 11)))) (tCons (tC (tS [108, 101, 116, 116, 101, 114, 32])) tNil))))) tNext)
  (tSeq (tIfS (tAnd (tTest (tOp rEq (tVar 2) (tC (.int 2)))) (tTest (tOp rEq (tCB rLenT (tCons (tVar 0) tNil)) (tC (.int 200))))) (tRet (tTup (tCons (tOp (rIxL A.K) (tVar 4) (tOp rModI (tVar 3) (tC (.int 2)))) (tCons (tOp rIxS (tC (tS [97, 98, 122])) (tOp rModI (tOp rDivI (tVar 3) (tC (.int 2))) (tC (.int 3)))) (tCons (tC (tS [102, 117, 108, 108, 32])) tNil))))) tNext)
  (tSeq (tIfS (tAnd (tTest (tOp rEq (tVar 2) (tC (.int 3)))) (tTest (tOp rEq (tVar 0) (tC (tS []))))) (tRet (tTup (tCons (tOp (rIxL A.K) (tLst (tCons (tC (tS [99, 117, 116, 32, 102, 105, 114, 115, 116])) (tCons (tC (tS [99, 117, 116, 32, 108, 97, 115, 116])) tNil))) (tOp rModI (tVar 3) (tC (.int 2)))) (tCons (tC .non) (tCons (tC (tS [112, 108, 97, 99, 101, 32])) tNil))))) tNext)
  (tSeq (tIfS (tTest (tOp rLtI (tVar 2) (tC (.int 5)))) (tRet (tTup (tCons (tC (tS [99, 111, 117, 110, 116])) (tCons (tOp (rIxL A.K) (tLst (tCons (tC (tS [])) (tCons (tC (tS [97, 98])) (tCons (tC (tS [97, 66, 97])) (tCons (tC .non) (tCons (tC (.int 5)) (tCons (tLst (tCons (tC (tS [97])) tNil)) (tCons (tOp rMulT (tC (tS [97])) (tC (.int 201))) (tCons (tC (tS [97, 32, 97])) (tCons (tTup (tCons (tC (tS [97])) tNil)) tNil)))))))))) (tOp rModI (tVar 3) (tC (.int 9)))) (tCons (tC (tS [119, 111, 114, 100, 32])) tNil))))) tNext)
  (tSeq (tIfS (tTest (tOp rLtI (tVar 2) (tC (.int 7)))) (tSeq (tAsg (tLst (tCons (tNegI (tC (.int 1))) (tCons (tCB rLenT (tCons (tVar 0) tNil)) (tCons (tOp rAddI (tCB rLenT (tCons (tVar 0) tNil)) (tC (.int 9))) (tCons (tC (.bl true)) (tCons (tC .non) (tCons (tC (tS [48])) (tCons (tLst (tCons (tC (.int 0)) tNil)) (tCons (tOp rPowI (tC (.int 10)) (tC (.int 20))) (tCons (tC (.bl false)) tNil)))))))))) (gName 5))
  (tRet (tTup (tCons (tOp (rIxL A.K) (tLst (tCons (tC (tS [98, 101, 103, 105, 110, 115])) (tCons (tC (tS [101, 110, 100, 115])) tNil))) (tOp rSubI (tVar 2) (tC (.int 5)))) (tCons (tOp (rIxL A.K) (tVar 5) (tOp rModI (tVar 3) (tC (.int 9)))) (tCons (tC (tS [112, 108, 97, 99, 101, 32])) tNil)))))) tNext)
  (tRet (tTup (tCons (tC (tS [98, 111, 111, 107])) (tCons (tOp (rIxL A.K) (tLst (tCons (tC .non) (tCons (tC (.int 5)) (tCons (tC (tS [65])) (tCons (tC (tS [97, 32, 98])) (tCons (tOp rMulT (tC (tS [97])) (tC (.int 201))) (tCons (tLst (tCons (tC (tS [97])) tNil)) (tCons (tC (.bl true)) (tCons (tC (tS [97, 10])) (tCons (tTup (tCons (tC (tS [97])) tNil)) tNil)))))))))) (tOp rModI (tVar 3) (tC (.int 9)))) (tCons (tC (tS [116, 101, 120, 116, 32])) tNil)))))))))))))

theorem len__law_refusal (A : Ad) : ∀ vs H Q E, sp__law_refusal A vs H Q E → vs.length = 2 := fun vs H Q E h => by
  obtain ⟨t, m, rfl, _⟩ := h
  rfl
theorem nat_of {i : Int} {n : Nat} (h0 : 0 ≤ i) (h1 : i < n) : ∃ j : Nat, i = (j : Nat) ∧ j < n := ⟨i.toNat, by omega, by omega⟩
theorem pu__law_refusal (A : Ad) (vs : List V) (H : Hp) (Q : VK) (E : XK) (h : sp__law_refusal A vs H Q E) : t__law_refusal A { nx := fun _ H' => Q .non H', rt := Q } (start ["_law_text", "_law_cell", "_law_way", "_law_more", "_law_ends", "_law_odd"] vs) H := by
  obtain ⟨t, m, rfl, hl, k⟩ := h
  show t__law_refusal A _ [some (tS t), some (.int m), none, none, none, none] H
  unfold t__law_refusal
  refine aq_asg (Am.start H) (ev_op (ev_var rfl) ev_c (r_modI (by decide))) fun H1 am => ?_
  dsimp only [List.set]
  have hwy : 0 ≤ m % 8 ∧ m % 8 < 8 := by omega
  generalize m % 8 = way at hwy
  refine aq_asg am (ev_op (ev_var rfl) ev_c (r_divI (by decide))) fun H2 am => ?_
  dsimp only [List.set]
  generalize m / 8 = more
  refine aq_asgL (xs := [tS dPF, tS dPL]) am (el_lst (ea_cons ev_c (ea_cons ev_c ea_nil)) (by show 2 ≤ 100000; decide)) fun pe H3 am => ?_
  dsimp only [List.set]
  have hends : ∀ {H' : Hp} {σ : L2.St} {ti : TE} {i : Int}, Am [] H [(pe, .lst [tS dPF, tS dPL])] H' → σ[4]? = some (some (.ref pe)) → Ev ti σ H' (.int i) → (i = 0 ∨ i = 1) → Ev (tOp (rIxL A.K) (tVar 4) ti) σ H' (tS (if i = 0 then dPF else dPL)) := fun {H' σ ti i} am s4 hi h =>
    ev_op (ev_var s4) hi (rv_ixL (K := A.K) (sq_of (am.at 0 rfl)) (by
      rcases h with rfl | rfl
      · exact atI_nat (j := 0) rfl
      · exact atI_nat (j := 1) rfl))
  have T1 : ∀ {l : Tx} {σ : L2.St} {H : Hp}, oLet (some l) = false → l.length ≤ 1000 → EvQ (tC (tS l)) σ H (NoLe A.K) := fun h1 h2 => eq_ev ev_c fun _ _ => noLe_text h1 h2
  have T2 : ∀ {l : Tx} {σ : L2.St} {H : Hp}, oMir (some l) = false → l.length ≤ 1000 → EvQ (tC (tS l)) σ H (NoMi A.K) := fun h1 h2 => eq_ev ev_c fun _ _ => noMi_text h1 h2
  have T3 : ∀ {l : Tx} {σ : L2.St} {H : Hp}, isTx l = false → l.length ≤ 1000 → EvQ (tC (tS l)) σ H (BadT A.K) := fun h1 h2 => eq_ev ev_c fun _ _ => bad_text h1 h2
  have la : ∀ {σ : L2.St} {H : Hp}, EvL (tLst (tCons (tC (tS [97])) tNil)) σ H [tS [97]] := el_lst (ea_cons ev_c ea_nil) (by show 1 ≤ 100000; decide)
  have ua : ∀ {σ : L2.St} {H : Hp}, EvU (tTup (tCons (tC (tS [97])) tNil)) σ H [tS [97]] := eu_tup (ea_cons ev_c ea_nil) (by show 1 ≤ 100000; decide)
  have rep201 : ∀ {σ : L2.St} {H : Hp}, Ev (tOp rMulT (tC (tS [97])) (tC (.int 201))) σ H (tS (repT [97] 201)) := ev_op ev_c ev_c (r_mulT (n := 201) (by decide) (by decide) (by decide))
  -- letters that are none
  refine aq_when (b := decide (way < 2)) am (et_test (ev_op (ev_var rfl) ev_c rv_I0)) (fun c H4 am => ?_) fun c H4 am => ?_
  · have c := of_decide_eq_true c
    obtain ⟨j, hj, hj2⟩ := nat_of (i := more % 11) (n := 11) (by omega) (by omega)
    have hw : way = 0 ∨ way = 1 := by omega
    refine ret_tupQ (P := NoLe A.K) (x1 := tS (if way = 0 then dPF else dPL)) (x3 := tS wLett) (fun H5 e => hends (am.ex e) rfl (ev_var rfl) hw) (eq_ixL (j := j) (n := 11) (NoLe.ex A.K) ?_ (ev_is (ev_op (ev_var rfl) ev_c (r_modI (by decide))) (by rw [hj])) hj2 (by decide)) (NoLe.ex A.K) (fun _ => ev_c) fun p v H5 e hp hv => ?_
    · refine eqa_cons (NoLe.ex A.K) (T1 (by decide) (by decide)) <| eqa_cons (NoLe.ex A.K) (T1 (by decide) (by decide)) <| eqa_cons (NoLe.ex A.K) (T1 (by decide) (by decide)) <| eqa_cons (NoLe.ex A.K) (T1 (by decide) (by decide)) <|
        eqa_cons (NoLe.ex A.K) (eq_ev ev_c fun _ _ => noLe_odd odd_non) <| eqa_cons (NoLe.ex A.K) (eq_ev ev_c fun _ _ => noLe_odd odd_int) <| eqa_cons (NoLe.ex A.K) (eq_ev ev_c fun _ _ => noLe_odd odd_bl) <|
        eqa_cons (NoLe.ex A.K) (eq_evL la fun p H1 _ h => noLe_odd (odd_lst h)) <| eqa_cons (NoLe.ex A.K) (eq_evU ua fun p H1 _ h => noLe_odd (odd_tup h)) <| eqa_cons (NoLe.ex A.K) (T1 (by decide) (by decide)) <| eqa_cons (NoLe.ex A.K) (eq_dnew fun p H1 h => noLe_odd (odd_dK h)) eqa_nil
    · obtain ⟨o, h1, h2⟩ := hv
      have e2 := am.toEx.trans e
      rcases hw with rfl | rfl
      · exact k p _ v _ _ H5 e2 hp (.letF h1 h2)
      · exact k p _ v _ _ H5 e2 hp (.letL h1 h2)
  -- one too many
  have ht1 : ∀ {H' : Hp} {σ : L2.St}, σ[0]? = some (some (tS t)) → Ev (tCB rLenT (tCons (tVar 0) tNil)) σ H' (.int (t.length : Nat)) := fun s0 => ev_cb (ea_cons (ev_var s0) ea_nil) (rc_lenT (by omega))
  refine aq_when (b := decide (way = 2) && decide (((t.length : Nat) : Int) = 200)) am (et_and (et_test (ev_op (ev_var rfl) ev_c r_eqI)) fun _ => et_test (ev_op (ht1 rfl) ev_c r_eqI)) (fun c H5 am => ?_) fun _ H5 am => ?_
  · rw [Bool.and_eq_true, decide_eq_true_eq, decide_eq_true_eq] at c
    have hw : more % 2 = 0 ∨ more % 2 = 1 := by omega
    have h3 : 0 ≤ more / 2 % 3 ∧ more / 2 % 3 < 3 := by omega
    refine ret_tupQ (P := fun v _ => v = tS [at0 [97, 98, 122] (more / 2 % 3)]) (x1 := tS (if more % 2 = 0 then dPF else dPL)) (x3 := tS wFull) (fun H6 e => hends (am.ex e) rfl (ev_op (ev_var rfl) ev_c (r_modI (by decide))) hw) (eq_ev (ev_op ev_c (ev_op (ev_op (ev_var rfl) ev_c (r_divI (by decide))) ev_c (r_modI (by decide))) (r_ixS h3.1 h3.2 (by decide))) fun _ _ => rfl) (fun _ _ _ _ h => h) (fun _ => ev_c) fun p v H6 e hp hv => ?_
    subst hv
    have hth : Thing A.K H6 (tS [at0 [97, 98, 122] (more / 2 % 3)]) (some [at0 [97, 98, 122] (more / 2 % 3)]) := .inl ⟨_, rfl, by show 1 ≤ 1000; decide, rfl⟩
    have hol : oLet (some [at0 [97, 98, 122] (more / 2 % 3)]) = true := by
      have key : ∀ i, i < 3 → oLet (some [List.getD [97, 98, 122] i 0]) = true := by decide
      exact key _ (by omega)
    have hlen : t.length = 200 := by omega
    have e2 := am.toEx.trans e
    rcases hw with h0 | h0
    · rw [h0, if_pos rfl] at hp
      exact k p _ _ _ _ H6 e2 hp (.fulF hth hol hlen)
    · rw [h0, if_neg (by decide)] at hp
      exact k p _ _ _ _ H6 e2 hp (.fulL hth hol hlen)
  -- cuts of a text of none
  refine aq_when (b := decide (way = 3) && decide (t = [])) am (et_and (et_test (ev_op (ev_var rfl) ev_c r_eqI)) fun _ => et_test (ev_op (ev_var rfl) ev_c r_eqS)) (fun c H6 am => ?_) fun _ H6 am => ?_
  · rw [Bool.and_eq_true, decide_eq_true_eq, decide_eq_true_eq] at c
    have hw : more % 2 = 0 ∨ more % 2 = 1 := by omega
    refine ret_tupQ (P := fun v _ => v = .non) (x1 := tS (if more % 2 = 0 then dCF else dCL)) (x3 := tS wPlac) (fun H7 e => e_two (K := A.K) (fun H8 e8 => ev_op (ev_var rfl) ev_c (r_modI (by decide))) hw) (eq_ev ev_c fun _ _ => rfl) (fun _ _ _ _ h => h) (fun _ => ev_c) fun p v H7 e hp hv => ?_
    subst hv
    have e2 := am.toEx.trans e
    rcases hw with h0 | h0
    · rw [h0, if_pos rfl] at hp
      exact k p _ _ _ _ H7 e2 hp (.cutF c.2)
    · rw [h0, if_neg (by decide)] at hp
      exact k p _ _ _ _ H7 e2 hp (.cutL c.2)
  -- counts of what is no mirror word
  refine aq_when (b := decide (way < 5)) am (et_test (ev_op (ev_var rfl) ev_c rv_I0)) (fun c H7 am => ?_) fun c H7 am => ?_
  · obtain ⟨j, hj, hj2⟩ := nat_of (i := more % 9) (n := 9) (by omega) (by omega)
    refine ret_tupQ (P := NoMi A.K) (x1 := tS dCo) (x3 := tS wWord) (fun H8 e => ev_c) (eq_ixL (j := j) (n := 9) (NoMi.ex A.K) ?_ (ev_is (ev_op (ev_var rfl) ev_c (r_modI (by decide))) (by rw [hj])) hj2 (by decide)) (NoMi.ex A.K) (fun _ => ev_c) fun p v H8 e hp hv => ?_
    · refine eqa_cons (NoMi.ex A.K) (T2 (by decide) (by decide)) <| eqa_cons (NoMi.ex A.K) (T2 (by decide) (by decide)) <| eqa_cons (NoMi.ex A.K) (T2 (by decide) (by decide)) <|
        eqa_cons (NoMi.ex A.K) (eq_ev ev_c fun _ _ => noMi_odd odd_non) <| eqa_cons (NoMi.ex A.K) (eq_ev ev_c fun _ _ => noMi_odd odd_int) <| eqa_cons (NoMi.ex A.K) (eq_evL la fun p H1 _ h => noMi_odd (odd_lst h)) <|
        eqa_cons (NoMi.ex A.K) (eq_ev rep201 fun _ _ => noMi_text (by unfold oMir; dsimp only; rw [long_text]; rfl) (by rw [len_rep]; decide)) <| eqa_cons (NoMi.ex A.K) (T2 (by decide) (by decide)) <| eqa_cons (NoMi.ex A.K) (eq_evU ua fun p H1 _ h => noMi_odd (odd_tup h)) eqa_nil
    · obtain ⟨o, h1, h2⟩ := hv
      exact k p _ v _ _ H8 (am.toEx.trans e) hp (.cnt h1 h2)
  -- places that are none
  have c5 := of_decide_eq_false c
  have nm : ∀ v H H', Ex H H' → NoPl A.K H v t.length → NoPl A.K H' v t.length := fun v H H' e h => h.ex e
  refine aq_when (b := decide (way < 7)) am (et_test (ev_op (ev_var rfl) ev_c rv_I0)) (fun c H8 am => ?_) fun c H8 am => ?_
  · have c7 := of_decide_eq_true c
    have I1 : ∀ {te : TE} {σ : L2.St} {H : Hp} {i : Int}, Ev te σ H (.int i) → (i < 0 ∨ (t.length : Int) ≤ i) → EvQ te σ H (fun v H => NoPl A.K H v t.length) := fun h1 h2 => eq_ev h1 fun _ _ => .inr ⟨_, rfl, h2⟩
    refine aq_asgQ (n := 9) (P := fun v H => NoPl A.K H v t.length) am nm ?_ (by decide) fun po xs H9 am hlx hx => ?_
    · refine eqa_cons nm (I1 (e_negI ev_c) (.inl (by decide))) <| eqa_cons nm (I1 (ht1 rfl) (.inr (Int.le_refl _))) <| eqa_cons nm (I1 (ev_op (ht1 rfl) ev_c rv_I0) (.inr (by omega))) <|
        eqa_cons nm (eq_ev ev_c fun _ _ => .inl ⟨"bool", .base (.bl _), by decide, by decide⟩) <| eqa_cons nm (eq_ev ev_c fun _ _ => .inl ⟨"NoneType", .base .non, by decide, by decide⟩) <| eqa_cons nm (eq_ev ev_c fun _ _ => .inl ⟨"str", .base (.str _), by decide, by decide⟩) <|
        eqa_cons nm (eq_evL (el_lst (vs := [.int 0]) (ea_cons ev_c ea_nil) (by show 1 ≤ 100000; decide)) fun p H1 _ h => .inl ⟨"list", .base (.lst h), by decide, by decide⟩) <| eqa_cons nm (I1 (ev_op ev_c ev_c (r_powI (i := 10) (j := 20) (by decide))) (.inr ?_)) <| eqa_cons nm (eq_ev ev_c fun _ _ => .inl ⟨"bool", .base (.bl _), by decide, by decide⟩) eqa_nil
      have : (10 : Int) ^ (20 : Int).toNat = 100000000000000000000 := by decide
      rw [this]; omega
    dsimp only [List.set]
    obtain ⟨j, hj, hj2⟩ := nat_of (i := more % 9) (n := 9) (by omega) (by omega)
    have hw : way - 5 = 0 ∨ way - 5 = 1 := by omega
    have hjl : j < xs.length := by omega
    refine ret_tupQ (P := fun v H => NoPl A.K H v t.length) (x1 := tS (if way - 5 = 0 then dBe else dEn)) (x3 := tS wPlac) (fun H10 e => e_two (K := A.K) (fun H11 e11 => ev_op (ev_var rfl) ev_c rv_I0) hw) (eq_ev (v := xs[j]) (ev_op (ev_var rfl) (ev_is (ev_op (ev_var rfl) ev_c (r_modI (by decide))) (by rw [hj])) (rv_ixL (K := A.K) (sq_of (am.at 0 rfl)) (atI_nat (List.getElem?_eq_getElem hjl)))) fun H10 e => (hx _ (List.getElem_mem hjl)).ex e) nm (fun _ => ev_c) fun p v H10 e hp hv => ?_
    have e2 := am.toEx.trans e
    rcases hw with h0 | h0
    · rw [h0, if_pos rfl] at hp
      exact k p _ _ _ _ H10 e2 hp (.beg hv)
    · rw [h0, if_neg (by decide)] at hp
      exact k p _ _ _ _ H10 e2 hp (.fin hv)
  -- books of what is no text
  · obtain ⟨j, hj, hj2⟩ := nat_of (i := more % 9) (n := 9) (by omega) (by omega)
    refine ret_tupQ (P := BadT A.K) (x1 := tS dBo) (x3 := tS wText) (fun H9 e => ev_c) (eq_ixL (j := j) (n := 9) (BadT.ex A.K) ?_ (ev_is (ev_op (ev_var rfl) ev_c (r_modI (by decide))) (by rw [hj])) hj2 (by decide)) (BadT.ex A.K) (fun _ => ev_c) fun p v H9 e hp hv => ?_
    · refine eqa_cons (BadT.ex A.K) (eq_ev ev_c fun _ _ => bad_odd odd_non) <| eqa_cons (BadT.ex A.K) (eq_ev ev_c fun _ _ => bad_odd odd_int) <| eqa_cons (BadT.ex A.K) (T3 (by decide) (by decide)) <| eqa_cons (BadT.ex A.K) (T3 (by decide) (by decide)) <|
        eqa_cons (BadT.ex A.K) (eq_ev rep201 fun _ _ => bad_text long_text (by rw [len_rep]; decide)) <| eqa_cons (BadT.ex A.K) (eq_evL la fun p H1 _ h => bad_odd (odd_lst h)) <| eqa_cons (BadT.ex A.K) (eq_ev ev_c fun _ _ => bad_odd odd_bl) <|
        eqa_cons (BadT.ex A.K) (T3 (by decide) (by decide)) <| eqa_cons (BadT.ex A.K) (eq_evU ua fun p H1 _ h => bad_odd (odd_tup h)) eqa_nil
    · obtain ⟨o, h1, h2⟩ := hv
      exact k p _ v _ _ H9 (am.toEx.trans e) hp (.book h1 h2)

end Mw
namespace Mw
open PySem PySem.Spec PyProof.Rows L2 Evl
local macro_rules | `(tactic| walk_at "sd") => `(tactic| (first
  | assumption
  | omega
  | decide
  | (simp only [List.length_append, List.length_cons, List.length_nil, List.length_reverse, List.length_take, List.length_drop, List.length_map, List.length_range] at *; omega)
  | skip))
local macro_rules | `(tactic| walk_at "ev") => `(tactic| (first
  | ((with_reducible apply ev_var); rfl)
  | (with_reducible exact ev_c)
  | ((with_reducible apply ev_op) <;> walk_at "ev")
  | ((with_reducible apply e_negI) <;> walk_at "ev")
  | ((with_reducible apply et_test) <;> walk_at "ev")
  | ((with_reducible apply et_B) <;> walk_at "ev")
  | ((with_reducible apply et_and); (focus walk_at "ev"); intro hq; (try simp only [Bool.and_eq_true, Bool.or_eq_true, decide_eq_true_eq, Bool.not_eq_true', decide_eq_false_iff_not, Bool.and_eq_false_iff, Bool.or_eq_false_iff, Bool.not_eq_false'] at hq); walk_at "ev")
  | ((with_reducible apply et_or); (focus walk_at "ev"); intro hq; (try simp only [Bool.and_eq_true, Bool.or_eq_true, decide_eq_true_eq, Bool.not_eq_true', decide_eq_false_iff_not, Bool.and_eq_false_iff, Bool.or_eq_false_iff, Bool.not_eq_false'] at hq); walk_at "ev")
  | ((with_reducible apply ev_andV); (focus walk_at "ev"); intro hq; (try simp only [Bool.and_eq_true, Bool.or_eq_true, decide_eq_true_eq, Bool.not_eq_true', decide_eq_false_iff_not, Bool.and_eq_false_iff, Bool.or_eq_false_iff, Bool.not_eq_false'] at hq); walk_at "ev")
  | ((with_reducible apply ev_orV); (focus walk_at "ev"); intro hq; (try simp only [Bool.and_eq_true, Bool.or_eq_true, decide_eq_true_eq, Bool.not_eq_true', decide_eq_false_iff_not, Bool.and_eq_false_iff, Bool.or_eq_false_iff, Bool.not_eq_false'] at hq); walk_at "ev")
  | ((with_reducible apply e_if); (focus walk_at "ev"); (focus (intro hq; (try simp only [Bool.and_eq_true, Bool.or_eq_true, decide_eq_true_eq, Bool.not_eq_true', decide_eq_false_iff_not, Bool.and_eq_false_iff, Bool.or_eq_false_iff, Bool.not_eq_false'] at hq); walk_at "ev")); (intro hq; (try simp only [Bool.and_eq_true, Bool.or_eq_true, decide_eq_true_eq, Bool.not_eq_true', decide_eq_false_iff_not, Bool.and_eq_false_iff, Bool.or_eq_false_iff, Bool.not_eq_false'] at hq); walk_at "ev"))
  | ((with_reducible apply et_not) <;> walk_at "ev")
  | ((with_reducible apply ev_notV) <;> walk_at "ev")
  | (with_reducible exact et_yes)
  | (with_reducible exact ea_nil)
  | ((with_reducible apply ea_cons) <;> walk_at "ev")
  | (with_reducible exact eo_none)
  | ((with_reducible apply eo_some) <;> walk_at "ev")
  | ((with_reducible apply e_slBut) <;> walk_at "ev")
  | ((with_reducible apply e_slIn) <;> walk_at "ev")
  | ((with_reducible apply e_slTo) <;> walk_at "ev")
  | ((with_reducible apply e_slFrom) <;> walk_at "ev")
  | ((with_reducible apply e_slMid) <;> walk_at "ev")
  | ((with_reducible apply e_rev) <;> walk_at "ev")
  | (with_reducible exact rv_I0)
  | (with_reducible exact r_eqI) | (with_reducible exact r_neI) | (with_reducible exact r_eqS) | (with_reducible exact r_neS)
  | (with_reducible exact r_inC) | (with_reducible exact r_ninC) | (with_reducible exact r_isN) | (with_reducible exact r_notN)
  | (with_reducible exact r_ltT) | (with_reducible exact r_gtT)
  | (with_reducible exact rc_max2) | (with_reducible exact rc_min2)
  | ((with_reducible apply r_divI) <;> walk_at "sd") | ((with_reducible apply r_modI) <;> walk_at "sd") | ((with_reducible apply r_mulI) <;> walk_at "sd")
  | ((with_reducible apply r_ixS) <;> walk_at "sd")
  | ((with_reducible apply r_addT) <;> walk_at "sd")
  | ((with_reducible apply r_mulT) <;> walk_at "sd")
  | ((with_reducible apply rc_lenT) <;> walk_at "sd")
  | ((with_reducible apply rc_lenL) <;> walk_at "sd")
  | ((with_reducible apply ev_cb) <;> walk_at "ev")
  | walk_at "evc"
  | walk_at "sd"))

/-! ## _law_kept -/
def plN (t : Tx) : Nat := (Builtin.Range.rangeSize 0 (t.length : Nat) (17 : Nat)).toNat
theorem pl_lt {t : Tx} {i : Nat} (h : i < plN t) : 17 * i < t.length := by
  unfold plN Builtin.Range.rangeSize at h
  rw [if_pos (by decide)] at h
  split at h
  · next c =>
    have h2 : (i : Int) < ((t.length : Nat) - 0 - 1) / (17 : Nat) + 1 := by omega
    have h3 : (i : Int) ≤ ((t.length : Nat) - 0 - 1) / (17 : Nat) := by omega
    have h4 := (Int.le_ediv_iff_mul_le (by decide : (0 : Int) < (17 : Nat))).mp h3
    omega
  · exact absurd h (Nat.not_lt_zero _)
def pairD (t : Tx) (i : Nat) : PyData := .tuple [.str (T (lps (t.drop (17 * i)).reverse)), .str (T (lps (t.take (17 * i + 1))))]
def cI (t : Tx) : List Int := (wordsL t).map fun w => ((cntD t w : Nat) : Int)
/-- what a book tells, as data -/
def kD (t : Tx) : PyData := .tuple [.str (T t), dTs (wordsL t), dI (cI t), .str (T (longF t)), .int ((wordsL t).length : Nat), .list ((List.range (plN t)).map (pairD t))]
theorem lps_lets {u : Tx} (h : ∀ c ∈ u, c ∈ letters) : ∀ c ∈ lps u, c ∈ letters := fun c hc => h c ((lps_suf u).subset hc)
theorem long_lets {t : Tx} (h : ∀ c ∈ t, c ∈ letters) : ∀ c ∈ longF t, c ∈ letters := by
  unfold longF
  split
  · intro c hc; cases hc
  · exact lps_lets fun c hc => h c (List.drop_subset _ _ (List.mem_reverse.mp hc))
theorem lay_pairs {t : Tx} (h : ∀ c ∈ t, c ∈ letters) : ∀ l : List Nat, PyData.canLayAll0 (l.map (pairD t)) = true
  | [] => by simp [PyData.canLayAll0]
  | i :: r => by
    have h1 : PyData.strOk (T (lps (t.drop (17 * i)).reverse)) = true := okT_lets2 (lps_lets fun c hc => h c (List.drop_subset _ _ (List.mem_reverse.mp hc)))
    have h2 : PyData.strOk (T (lps (t.take (17 * i + 1)))) = true := okT_lets2 (lps_lets fun c hc => h c (List.take_subset _ _ hc))
    unfold pairD at *
    simp [PyData.canLayAll0, PyData.canLay0, h1, h2, lay_pairs h r]
    exact lay_pairs h r
theorem depth_pairs (t : Tx) : ∀ l : List Nat, PyData.depthAll (l.map (pairD t)) ≤ 1
  | [] => by simp [PyData.depthAll]
  | i :: r => by
    have ih := depth_pairs t r
    have e : PyData.depth (pairD t i) ≤ 1 := by unfold pairD; simp [PyData.depth, PyData.depthAll]
    rw [List.map_cons, PyData.depthAll]
    exact Nat.max_le.mpr ⟨e, ih⟩
theorem kD_lay {t : Tx} (h : ∀ c ∈ t, c ∈ letters) : PyData.canLay0 (kD t) = true := by
  have h1 : PyData.strOk (T t) = true := okT_lets2 h
  have h2 : PyData.strOk (T (longF t)) = true := okT_lets2 (long_lets h)
  have h3 := layAll_texts (wordsL t) fun w hw => okT_lets2 (word_lets h hw)
  have h4 := layAll_ints (cI t)
  have h5 := lay_pairs h (List.range (plN t))
  unfold kD dTs dI
  simp only [PyData.canLay0, PyData.canLayAll0, h1, h2, h3, h4, h5, Bool.and_self, Bool.and_true]
theorem kD_shaped {t : Tx} (h : ∀ c ∈ t, c ∈ letters) : SeqAt.shaped (kD t) = true := by
  unfold SeqAt.shaped
  rw [kD_lay h, Bool.true_and, decide_eq_true_eq]
  have h5 := depth_pairs t (List.range (plN t))
  unfold kD dTs dI
  simp only [PyData.depth, PyData.depthAll, depth_texts, depth_ints]
  omega
theorem dpAll_pairs {K : PySem.W.Frag} {H : Hp} {t : Tx} : ∀ {es : List (Addr × Nat)}, (∀ e ∈ es, H e.1 = some (.tup [tS (lps (t.drop (17 * e.2)).reverse), tS (lps (t.take (17 * e.2 + 1)))])) → DpAll K H (es.map fun e => V.ref e.1) ((es.map (·.2)).map (pairD t))
  | [], _ => .nil
  | e :: r, h => .cons (.tup (st_of (h e (List.mem_cons_self ..))) (.cons (.str _) (.cons (.str _) .nil))) (dpAll_pairs fun x hx => h x (List.mem_cons_of_mem _ hx))
theorem q_te {σ : L2.St} {H : Hp} {te : TE} {tz : TS} {D : Ends} {i : Nat} (h : te σ H fun x H1 => tz D (σ.set i (some x)) H1) : tSeq (tAsg te (gName i)) tz D σ H := h
def sp__law_kept (A : Ad) : Sp := fun vs H Q _ => ∃ g b t kT kU, vs = [.ref g] ∧ BkAt A g b t kT kU H ∧ ∀ p H', Ex H H' → Dp A.K H' (.ref p) (kD t) → Q (.ref p) H'
def t__law_kept (A : Ad) : TS :=
  (tSeq (tAsg (tLc (iRng3 (tCons (tC (.int 0)) (tCons (tCB rLenT (tCons (tMeth A.cBook "whole" (sp_Book_whole A) [] E0 (tVar 0) tNil) tNil)) (tCons (tC (.int 17)) tNil)))) (gName 2) tYes (tTup (tCons (tMeth A.cBook "begins_at" (sp_Book_begins_at A) [] E0 (tVar 0) (tCons (tVar 2) tNil)) (tCons (tMeth A.cBook "ends_at" (sp_Book_ends_at A) [] E0 (tVar 0) (tCons (tVar 2) tNil)) tNil))) [2]) (gName 1))
  (tSeq (tAsg (tLc (iList A.K (tMeth A.cBook "words" (sp_Book_words A) [] E0 (tVar 0) tNil)) (gName 4) tYes (tMeth A.cBook "count" (sp_Book_count A) [] E0 (tVar 0) (tCons (tVar 4) tNil)) [4]) (gName 3))
  (tRet (tTup (tCons (tMeth A.cBook "whole" (sp_Book_whole A) [] E0 (tVar 0) tNil) (tCons (tMeth A.cBook "words" (sp_Book_words A) [] E0 (tVar 0) tNil) (tCons (tVar 3) (tCons (tMeth A.cBook "longest" (sp_Book_longest A) [] E0 (tVar 0) tNil) (tCons (tMeth A.cBook "many" (sp_Book_many A) [] E0 (tVar 0) tNil) (tCons (tVar 1) tNil))))))))))

theorem len__law_kept (A : Ad) : ∀ vs H Q E, sp__law_kept A vs H Q E → vs.length = 1 := fun vs H Q E h => by
  obtain ⟨g, b, t, kT, kU, rfl, _⟩ := h
  rfl
theorem pu__law_kept (A : Ad) (vs : List V) (H : Hp) (Q : VK) (E : XK) (h : sp__law_kept A vs H Q E) : t__law_kept A { nx := fun _ H' => Q .non H', rt := Q } (start ["_law_book", "_law_places", "_law_place", "_law_counts", "_law_word_here"] vs) H := by
  obtain ⟨g, b, t, kT, kU, rfl, hb, k⟩ := h
  show t__law_kept A _ [some (.ref g), none, none, none, none] H
  unfold t__law_kept
  have hlen := hb.len
  have hpn : plN t ≤ 1000 := by
    rcases Nat.eq_zero_or_pos (plN t) with c | c
    · omega
    · have := pl_lt (t := t) (i := plN t - 1) (by omega)
      omega
  refine q_te ?_
  have hw := wk_range3 (ta := tCons (tC (.int 0)) (tCons (tCB rLenT (tCons (tMeth A.cBook "whole" (sp_Book_whole A) [] E0 (tVar 0) tNil) tNil)) (tCons (tC (.int 17)) tNil))) (lo := 0) (n := (t.length : Nat)) (c := 17) (σ := [some (.ref g), none, none, none, none]) (H := H) (ea_cons ev_c (ea_cons (ev_cb (ea_cons (c_whole (ev_var rfl) hb.has hlen) ea_nil) (rc_lenT (by omega))) (ea_cons ev_c ea_nil))) (by decide) (by decide) (by omega)
  refine lc_tups (f := fun i : Nat => V.int (0 + (i : Nat) * ((17 : Nat) : Int))) (g := fun i => [tS (lps (t.drop (17 * i)).reverse), tS (lps (t.take (17 * i + 1)))]) (ns := List.range (plN t)) hw (fun _ _ => pm_true) trivial (by rw [List.length_range]; omega) (fun _ => rfl)
    (fun i hi => ?_) (Ex.refl H) fun p1 es H1 hes hp1 e1 h1 ht => ?_
  · have hi := pl_lt (List.mem_range.mp hi)
    have hpl : ∀ {H' : Hp} {σ : L2.St}, σ[2]? = some (some (.int (0 + (i : Nat) * ((17 : Nat) : Int)))) → Ev (tVar 2) σ H' (.int (17 * i : Nat)) := fun s2 => ev_is (ev_var s2) (by congr 1; omega)
    exact eu_tup (ea_cons (c_begins (ev_var rfl) (hpl rfl) hb hi) (ea_cons (c_ends (ev_var rfl) (hpl rfl) hb hi) ea_nil)) (by show 2 ≤ 100000; decide)
  dsimp only [List.set]
  have hb1 := hb.ex e1
  refine q_asgL (xs := (cI t).map V.int) ?_ fun p2 H2 hp2 e2 h2 => ?_
  · have z := el_lcN (K := A.K) (σ := [some (.ref g), some (.ref p1), none, none, none]) (H := H1) (f := tS) (ns := wordsL t) (j := 4) (vs := [4]) (t := tYes) (te := tMeth A.cBook "count" (sp_Book_count A) [] E0 (tVar 0) (tCons (tVar 4) tNil)) (fun _ => true) (fun w => V.int (cntD t w : Nat)) (c_words (te := tVar 0) (ev_var rfl) hb1) (by have := len_words t; omega) (fun _ => rfl) (fun _ _ => et_yes) fun w hw _ => by
        have h1 := wordsL_len hw
        exact c_count (ev_var rfl) (ev_var rfl) hb1 (mir_is (t := t) (mem_words.mp hw).1 (word_lets hb.lets hw) (by omega)) (by omega)
    rw [List.filter_eq_self.mpr (fun _ _ => rfl)] at z
    unfold cI
    rw [List.map_map]
    exact z
  dsimp only [List.set]
  have hb2 := hb1.ex e2
  show (tTup _) _ H2 _
  refine (c_whole (te := tVar 0) (σ := [some (.ref g), some (.ref p1), none, some (.ref p2), none]) (ev_var rfl) hb2.has hlen) H2 (Ex.refl _) _ fun H3 e3 => ?_
  refine (c_words (te := tVar 0) (σ := [some (.ref g), some (.ref p1), none, some (.ref p2), none]) (ev_var rfl) (hb2.ex e3)) H3 (Ex.refl _) _ fun p3 H4 hp3 e4 h4 => ?_
  refine (ev_var (i := 3) (v := .ref p2) rfl) H4 (Ex.refl _) _ fun H5 e5 => ?_
  refine (c_longest (te := tVar 0) (σ := [some (.ref g), some (.ref p1), none, some (.ref p2), none]) (ev_var rfl) (hb2.ex ((e3.trans e4).trans e5))) H5 (Ex.refl _) _ fun H6 e6 => ?_
  refine (c_many (te := tVar 0) (σ := [some (.ref g), some (.ref p1), none, some (.ref p2), none]) (ev_var rfl) (hb2.ex (((e3.trans e4).trans e5).trans e6))) H6 (Ex.refl _) _ fun H7 e7 => ?_
  refine (ev_var (i := 1) (v := .ref p1) rfl) H7 (Ex.refl _) _ fun H8 e8 => ?_
  refine ⟨sz6 (by show 6 ≤ 1000000; decide), fun p hp => ?_⟩
  have e9 : Ex H8 (upd H8 p (.tup [tS t, .ref p3, .ref p2, tS (longF t), .int ((wordsL t).length : Nat), .ref p1])) := Ex.new hp
  have e48 := ((((e5.trans e6).trans e7).trans e8).trans e9)
  have e28 := (e3.trans e4).trans e48
  refine k p _ ((e1.trans e2).trans e28) (.tup (st_of upd_same) (.cons (.str _) (.cons (.lst (sq_of (e48 _ _ h4)) (dpAll_texts _)) (.cons (.lst (sq_of (e28 _ _ h2)) (dpAll_ints _)) (.cons (.str _) (.cons (.int _) (.cons (.lst (sq_of ((e2.trans e28) _ _ h1)) ?_) .nil)))))))
  have z := dpAll_pairs (K := A.K) (H := upd H8 p (.tup [tS t, .ref p3, .ref p2, tS (longF t), .int ((wordsL t).length : Nat), .ref p1])) (t := t) (es := es) fun e he => (e2.trans e28) _ _ (ht e he)
  rw [hes] at z
  exact z
/-! ## law k09 -/
theorem e_lit {K : PySem.W.Frag} {σ : L2.St} {H : Hp} {ta : TA} {ti : TE} {ks : List Int} {d : Int} (ha : EvA ta σ H (ks.map V.int)) (hk : ks.length ≤ 100) (h0 : 0 < ks.length) (h : ∀ H1, Ex H H1 → Ev ti σ H1 (.int (d % (ks.length : Nat)))) : Ev (tOp (rIxL K) (tLst ta) ti) σ H (.int (ks.getD (d % (ks.length : Nat)).toNat 0)) := by
  have h1 : 0 ≤ d % ((ks.length : Nat) : Int) := Int.emod_nonneg _ (by omega)
  have h2 : d % ((ks.length : Nat) : Int) < (ks.length : Nat) := Int.emod_lt_of_pos _ (by omega)
  have h3 : (d % ((ks.length : Nat) : Int)).toNat < ks.length := by omega
  exact ev_opL1 (el_lst ha (by rw [List.length_map]; omega)) h (fun p H2 h2 e => rv_ixL (K := K) (sq_of h2) (atI_map (f := V.int) (ns := ks) h1 (by
    rw [List.getD_eq_getElem?_getD, List.getElem?_eq_getElem h3]; rfl)))
theorem and_step {σ : L2.St} {H : Hp} {ta tb : TE} {Q : VK} (h : Ev ta σ H (.bl true)) (k : ∀ H1, Ex H H1 → tb σ H1 Q) : tAndV ta tb σ H Q := h H (Ex.refl H) _ fun H1 e => ⟨true, rfl, k H1 e⟩
theorem lps_one (c : Nat) : lps [c] = [c] := by rw [lps_cons, if_pos (mir_iff.mp (pal_one1 c)).1]
theorem new_one (c : Nat) : newV (cntD [] (lps [c])) (lps [c]) = tS [c] := by
  rw [lps_one, cntD_nil]; rfl
def sp_law (A : Ad) : Sp := fun vs H Q _ => ∃ (a : Addr) (ns : List Int), vs = [.ref a] ∧ SqL A.K H a (ns.map V.int) ∧ ns.length ≤ 63 ∧ ∀ H', Q (.bl true) H'
def t_law (A : Ad) : TS :=
  (tSeq (tAsg (tC (tS letters)) (gName 1))
  (tSeq (tAsg (tOp (rIxL A.K) (tLst (tCons (tC (.int 1)) (tCons (tC (.int 2)) (tCons (tC (.int 3)) (tCons (tC (.int 26)) tNil))))) (tOp rModI (tCall (sp__law_draw A) [] E0 (tCons (tVar 0) (tCons (tC (.int 0)) tNil))) (tC (.int 4)))) (gName 2))
  (tSeq (tAsg (tOp (rIxL A.K) (tLst (tCons (tC (.int 0)) (tCons (tC (.int 1)) (tCons (tC (.int 5)) (tCons (tC (.int 12)) (tCons (tC (.int 200)) (tCons (tC (.int 0)) (tCons (tC (.int 9)) (tCons (tC (.int 7)) tNil))))))))) (tOp rModI (tCall (sp__law_draw A) [] E0 (tCons (tVar 0) (tCons (tC (.int 1)) tNil))) (tC (.int 8)))) (gName 3))
  (tSeq (tAsg (tJoin A.K (tC (tS [])) (tLc (iRng1 (tCons (tVar 3) tNil)) (gName 5) tYes (tOp rIxS (tVar 1) (tOp rModI (tOp rAddI (tOp rDivI (tCall (sp__law_draw A) [] E0 (tCons (tVar 0) (tCons (tC (.int 2)) tNil))) (tOp rAddI (tC (.int 1)) (tOp rModI (tVar 5) (tC (.int 9))))) (tOp rDivI (tVar 5) (tC (.int 7)))) (tVar 2))) [5])) (gName 4))
  (tSeq (tAsg (tMake A.cBook (sp_Book_init A) [] E0 (tCons (tVar 4) tNil)) (gName 6))
  (tSeq (tAsg (tCall (sp__law_kept A) [] E0 (tCons (tVar 6) tNil)) (gName 7))
  (tSeq (tFor (iList A.K (tSl (rSlL A.K) (tVar 0) (tPart (tC (.int 6))) (tPart (tC (.int 16))))) (gName 8)
  (tSeq (tAsg (tCall (sp__law_refusal A) [] E0 (tCons (tVar 4) (tCons (tVar 8) tNil))) (gTup A.K 3 (gCons (gName 9) (gCons (gName 10) (gCons (gName 11) gNil)))))
  (tIfS (tOr (tTest (tOp rNe (tCall (sp__law_said A) [] E0 (tCons (tVar 6) (tCons (tVar 9) (tCons (tVar 10) tNil)))) (tVar 11))) (tTest (tOp (rNeD A.K) (tCall (sp__law_kept A) [] E0 (tCons (tVar 6) tNil)) (tVar 7)))) (tRet (tC (.bl false))) tNext)))
  (tSeq (tIfS (tTest (tOp rEq (tVar 4) (tC (tS [])))) (tRet (tAndV (tOp rEq (tMeth A.cBook "longest" (sp_Book_longest A) [] E0 (tVar 6) tNil) (tC (tS []))) (tAndV (tOp rEq (tMeth A.cBook "put_first" (sp_Book_put_first A) [] E0 (tVar 6) (tCons (tC (tS [113])) tNil)) (tC (tS [113]))) (tAndV (tOp rEq (tMeth A.cBook "cut_last" (sp_Book_cut_last A) [] E0 (tVar 6) tNil) (tC (tS [113]))) (tOp rEq (tMeth A.cBook "whole" (sp_Book_whole A) [] E0 (tVar 6) tNil) (tC (tS []))))))) tNext)
  (tSeq (tDrop (tMeth A.cBook "cut_first" (sp_Book_cut_first A) [] E0 (tVar 6) tNil))
  (tSeq (tDrop (tMeth A.cBook "put_last" (sp_Book_put_last A) [] E0 (tVar 6) (tCons (tC (tS [113])) tNil)))
  (tRet (tAndV (tOp rEq (tMeth A.cBook "whole" (sp_Book_whole A) [] E0 (tVar 6) tNil) (tOp rAddT (tSl rSlS (tVar 4) (tPart (tC (.int 1))) tNoPart) (tC (tS [113])))) (tOp rEq (tMeth A.cBook "count" (sp_Book_count A) [] E0 (tVar 6) (tCons (tC (tS [113])) tNil)) (tM1 rCountT (tOp rAddT (tSl rSlS (tVar 4) (tPart (tC (.int 1))) tNoPart) (tC (tS [113]))) (tC (tS [113]))))))))))))))))

theorem len_law (A : Ad) : ∀ vs H Q E, sp_law A vs H Q E → vs.length = 1 := fun vs H Q E h => by
  obtain ⟨a, ns, rfl, _⟩ := h
  rfl
theorem pu_law (A : Ad) (vs : List V) (H : Hp) (Q : VK) (E : XK) (h : sp_law A vs H Q E) :
    t_law A { nx := fun _ H' => Q .non H', rt := Q } (start ["_law_script", "_law_letters", "_law_many", "_law_size", "_law_text", "_law_k", "_law_book", "_law_kept_here", "_law_cell", "_law_deed", "_law_thing", "_law_due"] vs) H := by
  obtain ⟨q, ns, rfl, hS, hns, k⟩ := h
  show t_law A _ [some (.ref q), none, none, none, none, none, none, none, none, none, none, none] H
  unfold t_law
  refine aq_asg (Am.start H) ev_c fun H1 am => ?_
  dsimp only [List.set]
  refine aq_asg am (e_lit (K := A.K) (ks := [1, 2, 3, 26]) (d := drawI ns 0) (ea_cons ev_c (ea_cons ev_c (ea_cons ev_c (ea_cons ev_c ea_nil)))) (by decide) (by decide) fun H2 e => ev_op (c__law_draw_ (k := 0) (ev_var rfl) ev_c (ex_l (am.toEx.trans e) hS)) ev_c (r_modI (by decide))) fun H2 am => ?_
  have hm : 1 ≤ ([1, 2, 3, 26] : List Int).getD (drawI ns 0 % ((([1, 2, 3, 26] : List Int).length : Nat) : Int)).toNat 0 ∧ ([1, 2, 3, 26] : List Int).getD (drawI ns 0 % ((([1, 2, 3, 26] : List Int).length : Nat) : Int)).toNat 0 ≤ 26 := by
    have key : ∀ i, i < 4 → 1 ≤ ([1, 2, 3, 26] : List Int).getD i 0 ∧ ([1, 2, 3, 26] : List Int).getD i 0 ≤ 26 := by decide
    exact key _ (by show (drawI ns 0 % 4).toNat < 4; omega)
  generalize ([1, 2, 3, 26] : List Int).getD (drawI ns 0 % ((([1, 2, 3, 26] : List Int).length : Nat) : Int)).toNat 0 = many at hm ⊢
  dsimp only [List.set]
  refine aq_asg am (e_lit (K := A.K) (ks := [0, 1, 5, 12, 200, 0, 9, 7]) (d := drawI ns 1) (ea_cons ev_c (ea_cons ev_c (ea_cons ev_c (ea_cons ev_c (ea_cons ev_c (ea_cons ev_c (ea_cons ev_c (ea_cons ev_c ea_nil)))))))) (by decide) (by decide) fun H3 e => ev_op (c__law_draw_ (k := 1) (ev_var rfl) ev_c (ex_l (am.toEx.trans e) hS)) ev_c (r_modI (by decide))) fun H3 am => ?_
  obtain ⟨n, hn, hn2⟩ : ∃ n : Nat, ([0, 1, 5, 12, 200, 0, 9, 7] : List Int).getD (drawI ns 1 % ((([0, 1, 5, 12, 200, 0, 9, 7] : List Int).length : Nat) : Int)).toNat 0 = (n : Nat) ∧ n ≤ 200 := by
    have key : ∀ i, i < 8 → 0 ≤ ([0, 1, 5, 12, 200, 0, 9, 7] : List Int).getD i 0 ∧ ([0, 1, 5, 12, 200, 0, 9, 7] : List Int).getD i 0 ≤ 200 := by decide
    have z := key (drawI ns 1 % 8).toNat (by omega)
    exact ⟨(([0, 1, 5, 12, 200, 0, 9, 7] : List Int).getD (drawI ns 1 % 8).toNat 0).toNat, by
      show ([0, 1, 5, 12, 200, 0, 9, 7] : List Int).getD (drawI ns 1 % 8).toNat 0 = _
      omega, by omega⟩
  rw [hn]
  dsimp only [List.set]
  -- the text
  have hix : ∀ x : Int, 0 ≤ x % many ∧ x % many < 26 := fun x => ⟨Int.emod_nonneg _ (by omega), by have := Int.emod_lt_of_pos x (b := many) (by omega); omega⟩
  let fc : Nat → Tx := fun i => [at0 letters ((drawI ns 2 / (1 + (i : Int) % 9) + (i : Int) / 7) % many)]
  have hfl : ∀ l : List Nat, ((l.map fc).flatten).length = l.length := fun l => by
    induction l with
    | nil => rfl
    | cons c r ih => rw [List.map_cons, List.flatten_cons, List.length_append, ih, List.length_cons]; simp [fc]; omega
  have hw := wk_range1 (ta := tCons (tVar 3) tNil) (n := (n : Nat)) (σ := [some (.ref q), some (tS letters), some (.int many), some (.int (n : Nat)), none, none, none, none, none, none, none, none]) (H := H3) (ea_cons (ev_var rfl) ea_nil) (by omega)
  rw [Int.toNat_natCast] at hw
  refine aq_asg (v := tS ((List.range n).map fc).flatten) am (e_join (K := A.K) (ls := (List.range n).map fc) ev_c ?_ (by rw [hfl, List.length_range]; omega)) fun H4 am => ?_
  · rw [List.map_map]
    exact el_lcY (f := fun i : Nat => V.int (i : Nat)) (ns := List.range n) (fun i => tS (fc i)) hw (fun _ _ => pm_true) trivial (by rw [List.length_range]; omega) (fun _ => rfl) fun i _ =>
      ev_op (ev_var rfl) (ev_op (ev_op (ev_op (c__law_draw_ (k := 2) (ev_var rfl) ev_c (ex_l am.toEx hS)) (ev_op ev_c (ev_op (ev_var rfl) ev_c (r_modI (by decide))) rv_I0) (r_divI (by omega))) (ev_op (ev_var rfl) ev_c (r_divI (by decide))) rv_I0) (ev_var rfl) (r_modI (by omega))) (r_ixS (hix _).1 (hix _).2 (by decide))
  have hl0 : (((List.range n).map fc).flatten).length ≤ 200 := by rw [hfl, List.length_range]; exact hn2
  have hle0 : Lets ((List.range n).map fc).flatten := fun c hc => by
    obtain ⟨x, hx, hc⟩ := List.mem_flatten.mp hc
    obtain ⟨i, _, rfl⟩ := List.mem_map.mp hx
    have e : c = at0 letters ((drawI ns 2 / (1 + (i : Int) % 9) + (i : Int) / 7) % many) := by simpa [fc] using hc
    rw [e]
    exact at0_let _ (hix _).1 (hix _).2
  generalize ((List.range n).map fc).flatten = t at hl0 hle0 ⊢
  dsimp only [List.set]
  refine aq_make am (ea_cons (ev_var rfl) ea_nil) fun g dx H5 am => ?_
  refine .inl ⟨g, dx, t, rfl, Am.has (La := [(g, .ins A.cBook dx [])]) (L := [(dx, .own g)]) am, hle0, by omega, fun b kT kU H6 ok am2 => ⟨rfl, ?_⟩⟩
  have am : Am [] H (bkL A g b t (hdV t) (enV t) kT kU ++ [(dx, .own g)]) H6 := Am.call (La := [(g, .ins A.cBook dx [])]) (L := [(dx, .own g)]) am am2
  dsimp only [List.set]
  have hb6 : BkAt A g b t kT kU H6 := bk_at am ok hle0 hl0
  have hS6 := ex_l am.toEx hS
  refine aq_callA am (ea_cons (ev_var rfl) ea_nil) fun H7 am => ?_
  have hb7 : BkAt A g b t kT kU H7 := bk_at am ok hle0 hl0
  refine ⟨g, b, t, kT, kU, rfl, hb7, fun p7 H8 e8 dp8 => ?_⟩
  have hb8 := hb7.ex e8
  have hS8 := ex_l (am.toEx.trans e8) hS
  dsimp only [List.set]
  -- what is refused
  have hsl := e_slL (K := A.K) (σ := [some (.ref q), some (tS letters), some (.int many), some (.int (n : Nat)), some (tS t), none, some (.ref g), some (.ref p7), none, none, none, none]) (H := H8) (te := tVar 0) (a := q) (f := V.int) (ns := ns) (tl := tPart (tC (.int 6))) (th := tPart (tC (.int 16))) (lo := some 6) (hi := some 16) (ev_var rfl) (eo_some ev_c) (eo_some ev_c) hS8
  rw [cut_mid ns (by decide) (by decide)] at hsl
  generalize (ns.drop (6 : Int).toNat).take ((16 : Int).toNat - (6 : Int).toNat) = cells at hsl
  refine aq_forN2 (K := A.K) (f := V.int) (ns := cells) (fun p pre σ' H' => ∃ (v8 v9 v10 v11 : Option V), σ' = [some (.ref q), some (tS letters), some (.int many), some (.int (n : Nat)), some (tS t), none, some (.ref g), some (.ref p7), v8, v9, v10, v11] ∧ Am [] H8 [(p, .lst (cells.map V.int))] H') (Am.start H8) hsl (fun p H9 am => ⟨none, none, none, none, rfl, am⟩)
    (fun p pre σ' H' h => by obtain ⟨_, _, _, _, _, am⟩ := h; exact am.at 0 rfl) ?_ ?_
  · rintro p pre cell post σ' H9 hs ⟨v8, v9, v10, v11, rfl, am⟩
    dsimp only [List.set]
    have hA : EvA (tCons (tVar 4) (tCons (tVar 8) tNil)) [some (.ref q), some (tS letters), some (.int many), some (.int (n : Nat)), some (tS t), none, some (.ref g), some (.ref p7), some (.int cell), v9, v10, v11] H9 [tS t, .int cell] := ea_cons (ev_var rfl) (ea_cons (ev_var rfl) ea_nil)
    show (tCall (sp__law_refusal A) [] E0 (tCons (tVar 4) (tCons (tVar 8) tNil))) _ H9 _
    refine hA H9 (Ex.refl _) _ fun H10 e10 => ?_
    rw [List.append_nil]
    refine ⟨t, cell, rfl, hl0, fun p2 d x C w H11 e11 hp2 hR => ⟨p2, _, rfl, st_of hp2, rfl, _, _, rfl, _, _, rfl, _, _, rfl, rfl, ?_⟩⟩
    have am := am.ex (e10.trans e11)
    dsimp only [List.set]
    have hkn : ∀ {H' : Hp}, Ex H8 H' → Ev (tOp (rNeD A.K) (tCall (sp__law_kept A) [] E0 (tCons (tVar 6) tNil)) (tVar 7)) [some (.ref q), some (tS letters), some (.int many), some (.int (n : Nat)), some (tS t), none, some (.ref g), some (.ref p7), some (.int cell), some (tS d), some x, some (tS w)] H' (.bl false) := fun {H'} e8' H1 e Q' q' => by
      have hA : EvA (tCons (tVar 6) tNil) [some (.ref q), some (tS letters), some (.int many), some (.int (n : Nat)), some (tS t), none, some (.ref g), some (.ref p7), some (.int cell), some (tS d), some x, some (tS w)] H1 [.ref g] := ea_cons (ev_var rfl) ea_nil
      show (tCall (sp__law_kept A) [] E0 (tCons (tVar 6) tNil)) _ H1 _
      refine hA H1 (Ex.refl _) _ fun H2 e2 => ?_
      rw [List.append_nil]
      refine ⟨g, b, t, kT, kU, rfl, hb8.ex ((e8'.trans e).trans e2), fun p3 H3 e3 dp3 => ?_⟩
      refine (ev_var (i := 7) (v := .ref p7) rfl) H3 (Ex.refl _) _ fun H4 e4 => ?_
      refine ⟨kD t, kD t, dp_ex e4 dp3, dp_ex ((((e8'.trans e).trans e2).trans e3).trans e4) dp8, kD_shaped hle0, kD_shaped hle0, ?_⟩
      rw [PySem.SeqAt.eqv_refl _ (kD_lay hle0)]
      exact q' H4 ((e2.trans e3).trans e4)
    refine a_when (b := false) am (et_is (et_or (et_test (ev_op (c__law_said_ (ev_var rfl) (ev_var rfl) (ev_var rfl) (hb8.ex am.toEx) hR) (ev_var rfl) r_neS)) fun _ => et_test (hkn am.toEx)) (by rw [decide_eq_true rfl]; rfl)) (fun c => Bool.noConfusion c) fun _ H12 am => ⟨_, _, _, _, rfl, am⟩
  · rintro p σ' H9 ⟨v8, v9, v10, v11, rfl, am⟩
    have hb9 := hb8.ex am.toEx
    have am : Am (bkS g b) H9 (bkL A g b t (hdV t) (enV t) kT kU) H9 := hb9.has.am
    have bk : ∀ {H' : Hp} {t' : Tx} {kT' kU' : List (Key × V)}, Am (bkS g b) H9 (bkL A g b t' (hdV t') (enV t') kT' kU') H' → BkOk (cntD t') kT' kU' → Lets t' → t'.length ≤ 200 → BkAt A g b t' kT' kU' H' := fun am ok h1 h2 => ⟨am.hasAll, ok, h1, h2⟩
    have cll : ∀ {H1 H2 : Hp} {t1 t' : Tx} {kT1 kU1 kT' kU' : List (Key × V)}, Am (bkS g b) H9 (bkL A g b t1 (hdV t1) (enV t1) kT1 kU1) H1 → Am (bkS g b) H1 (bkL A g b t' (hdV t') (enV t') kT' kU') H2 → Am (bkS g b) H9 (bkL A g b t' (hdV t') (enV t') kT' kU') H2 := fun {H1 H2 t1 t' kT1 kU1 kT' kU'} am am2 => Am.call (La := bkL A g b t1 (hdV t1) (enV t1) kT1 kU1) (L := []) am am2
    have hq : (113 : Nat) ∈ letters := by decide
    refine aq_when am (et_test (ev_op (ev_var rfl) ev_c r_eqS)) (fun c H10 am => ?_) fun c H10 am => ?_
    · have ht := of_decide_eq_true c
      subst ht
      have hbe := bk am ok hle0 hl0
      show (tAndV _ _) _ H10 _
      refine and_step (ev_op (c_longest (ev_var rfl) hbe) ev_c r_eqS) fun H11 e11 => ?_
      have am := am.ex e11
      show (tOp rEq _ _) _ H11 _
      refine t_meth (ta := tVar 6) (t := tCons (tC (tS [113])) tNil) (vs := [tS [113]]) (ev_var rfl) (am.at 0 rfl) rfl (ea_cons ev_c ea_nil) fun H12 e12 => ?_
      have am := am.ex e12
      refine .inl ⟨g, b, [], kT, kU, 113, rfl, bk am ok hle0 hl0, hq, by decide, fun kT' kU' H13 ok2 am2 => ?_⟩
      have am := cll am am2
      have e1 : newV (cntD [] (lps (([] : Tx).reverse ++ [113]))) (lps (([] : Tx).reverse ++ [113])) = tS [113] := new_one 113
      rw [e1]
      refine ⟨rfl, true, by rw [decide_eq_true rfl], ?_⟩
      rw [if_pos rfl]
      show (tOp rEq (tMeth A.cBook "cut_last" (sp_Book_cut_last A) [] E0 (tVar 6) tNil) (tC (tS [113]))) _ H13 _
      refine t_meth (ta := tVar 6) (t := tNil) (vs := []) (ev_var rfl) (am.at 0 rfl) rfl ea_nil fun H14 e14 => ?_
      have am := am.ex e14
      refine .inl ⟨g, b, [], 113, kT', kU', rfl, bk am ok2 (fun c hc => by rw [List.mem_singleton.mp hc]; exact hq) (by decide), fun kT2 kU2 H15 ok3 am3 => ?_⟩
      have am := cll am am3
      have e2 : newV (cntD [] (lps (([] : Tx) ++ [113]))) (lps (([] : Tx) ++ [113])) = tS [113] := new_one 113
      rw [e2]
      refine ⟨rfl, true, by rw [decide_eq_true rfl], ?_⟩
      rw [if_pos rfl]
      exact (ev_op (c_whole (te := tVar 6) (ev_var rfl) am.hasAll (by decide)) ev_c r_eqS) H15 (Ex.refl _) _ fun H16 _ => by rw [decide_eq_true rfl]; exact k H16
    · have ht := of_decide_eq_false c
      obtain ⟨d, v, rfl⟩ : ∃ d v, t = d :: v := by
        cases t with
        | nil => exact absurd rfl ht
        | cons d v => exact ⟨d, v, rfl⟩
      have hvl : v.length + 1 ≤ 200 := hl0
      have hvle : Lets v := fun c hc => hle0 c (List.mem_cons_of_mem _ hc)
      have hvq : Lets (v ++ [113]) := hvle.app fun c hc => by rw [List.mem_singleton.mp hc]; exact hq
      have hql : (v ++ [113]).length ≤ 200 := by rw [List.length_append]; exact hvl
      refine aq_methD am (ev_var rfl) (am.at 0 rfl) rfl ea_nil fun H11 am => ?_
      refine .inl ⟨g, b, v, d, kT, kU, rfl, bk am ok hle0 hl0, fun kT' kU' H12 ok2 am2 => ?_⟩
      have am := cll am am2
      refine aq_methD am (ev_var rfl) (am.at 0 rfl) rfl (ea_cons ev_c ea_nil) fun H13 am => ?_
      refine .inl ⟨g, b, v, kT', kU', 113, rfl, bk am ok2 hvle (by omega), hq, by omega, fun kT2 kU2 H14 ok3 am3 => ?_⟩
      have am := cll am am3
      have hb14 := bk am ok3 hvq hql
      have sl : ∀ {H' : Hp} {σ : L2.St}, σ[4]? = some (some (tS (d :: v))) → Ev (tOp rAddT (tSl rSlS (tVar 4) (tPart (tC (.int 1))) tNoPart) (tC (tS [113]))) σ H' (tS (v ++ [113])) := fun s4 => ev_op (e_slFrom (l := d :: v) (i := 1) (ev_var s4) ev_c (by decide) (by show v.length + 1 ≤ 1000000; omega)) ev_c (r_addT (a := v) (by rw [List.length_singleton]; omega))
      have hmq : oMir (some [113]) = true := by decide
      refine a_ret (v := .bl (decide (v ++ [113] = v ++ [113]) && decide (((cntD (v ++ [113]) [113] : Nat) : Int) = (cnt (v ++ [113]) [113] : Nat)))) am (ev_andV (ev_op (c_whole (ev_var rfl) hb14.has hql) (sl rfl) r_eqS) fun _ => ev_op (c_count (ev_var rfl) ev_c hb14 hmq (by show 1 ≤ 1000; decide)) (e_countT (sl rfl) ev_c) r_eqI) fun H15 _ => ?_
      have e1 : cntD (v ++ [113]) [113] = cnt (v ++ [113]) [113] := if_pos (pal_one1 113)
      rw [e1, decide_eq_true rfl, decide_eq_true rfl]
      exact k H15

end Mw
namespace Mw
open PySem PySem.Spec PyProof.Rows L2 Evl
def topS (i : Nat) : Stmt := PySem.Challenge.pw_mirrorwords_k09_what_is_refused.main.body.getD i (.Pass ⟨0, 0, 0, 0⟩)
abbrev s_is_whole : Stmt := topS 12
theorem sc_is_whole : FnScope ["thing"] ["thing"] (defScope s_is_whole) := ⟨rfl, rfl, rfl, by decide +kernel, rfl, by decide +kernel, by decide +kernel⟩
abbrev s_is_letter : Stmt := topS 13
theorem sc_is_letter : FnScope ["thing"] ["thing"] (defScope s_is_letter) := ⟨rfl, rfl, rfl, by decide +kernel, rfl, by decide +kernel, by decide +kernel⟩
abbrev s_is_text : Stmt := topS 14
theorem sc_is_text : FnScope ["thing", "sign"] ["thing"] (defScope s_is_text) := ⟨rfl, rfl, rfl, by decide +kernel, rfl, by decide +kernel, by decide +kernel⟩
abbrev s_need_text : Stmt := topS 15
theorem sc_need_text : FnScope ["thing"] ["thing"] (defScope s_need_text) := ⟨rfl, rfl, rfl, by decide +kernel, rfl, by decide +kernel, by decide +kernel⟩
abbrev s_is_mirror : Stmt := topS 16
theorem sc_is_mirror : FnScope ["thing"] ["thing"] (defScope s_is_mirror) := ⟨rfl, rfl, rfl, by decide +kernel, rfl, by decide +kernel, by decide +kernel⟩
abbrev s_need_mirror : Stmt := topS 17
theorem sc_need_mirror : FnScope ["thing"] ["thing"] (defScope s_need_mirror) := ⟨rfl, rfl, rfl, by decide +kernel, rfl, by decide +kernel, by decide +kernel⟩
abbrev s_Book_init : Stmt := inClass (topS 19) 0
theorem sc_Book_init : FnScope ["self", "text", "letter"] ["self", "text"] (defScope s_Book_init) := ⟨rfl, rfl, rfl, by decide +kernel, rfl, by decide +kernel, by decide +kernel⟩
abbrev s_Book_whole : Stmt := inClass (topS 19) 1
theorem sc_Book_whole : FnScope ["self"] ["self"] (defScope s_Book_whole) := ⟨rfl, rfl, rfl, by decide +kernel, rfl, by decide +kernel, by decide +kernel⟩
abbrev s_Book_words : Stmt := inClass (topS 19) 2
theorem sc_Book_words : FnScope ["self", "pair", "word"] ["self"] (defScope s_Book_words) := ⟨rfl, rfl, rfl, by decide +kernel, rfl, by decide +kernel, by decide +kernel⟩
abbrev s_Book_many : Stmt := inClass (topS 19) 3
theorem sc_Book_many : FnScope ["self"] ["self"] (defScope s_Book_many) := ⟨rfl, rfl, rfl, by decide +kernel, rfl, by decide +kernel, by decide +kernel⟩
abbrev s_Book_count : Stmt := inClass (topS 19) 4
theorem sc_Book_count : FnScope ["self", "word"] ["self", "word"] (defScope s_Book_count) := ⟨rfl, rfl, rfl, by decide +kernel, rfl, by decide +kernel, by decide +kernel⟩
abbrev s_Book_need_place : Stmt := inClass (topS 19) 5
theorem sc_Book_need_place : FnScope ["self", "place"] ["self", "place"] (defScope s_Book_need_place) := ⟨rfl, rfl, rfl, by decide +kernel, rfl, by decide +kernel, by decide +kernel⟩
abbrev s_Book_begins_at : Stmt := inClass (topS 19) 6
theorem sc_Book_begins_at : FnScope ["self", "place"] ["self", "place"] (defScope s_Book_begins_at) := ⟨rfl, rfl, rfl, by decide +kernel, rfl, by decide +kernel, by decide +kernel⟩
abbrev s_Book_ends_at : Stmt := inClass (topS 19) 7
theorem sc_Book_ends_at : FnScope ["self", "place"] ["self", "place"] (defScope s_Book_ends_at) := ⟨rfl, rfl, rfl, by decide +kernel, rfl, by decide +kernel, by decide +kernel⟩
abbrev s_Book_longest : Stmt := inClass (topS 19) 8
theorem sc_Book_longest : FnScope ["self", "most"] ["self"] (defScope s_Book_longest) := ⟨rfl, rfl, rfl, by decide +kernel, rfl, by decide +kernel, by decide +kernel⟩
abbrev s_Book_need_room : Stmt := inClass (topS 19) 9
theorem sc_Book_need_room : FnScope ["self", "letter"] ["self", "letter"] (defScope s_Book_need_room) := ⟨rfl, rfl, rfl, by decide +kernel, rfl, by decide +kernel, by decide +kernel⟩
abbrev s_Book_grown : Stmt := inClass (topS 19) 10
theorem sc_Book_grown : FnScope ["self", "word", "letter", "behind", "size"] ["self", "word", "letter", "behind"] (defScope s_Book_grown) := ⟨rfl, rfl, rfl, by decide +kernel, rfl, by decide +kernel, by decide +kernel⟩
abbrev s_Book_met : Stmt := inClass (topS 19) 11
theorem sc_Book_met : FnScope ["self", "word", "letter", "behind", "is_new", "shorter", "one"] ["self", "word", "letter", "behind"] (defScope s_Book_met) := ⟨rfl, rfl, rfl, by decide +kernel, rfl, by decide +kernel, by decide +kernel⟩
abbrev s_Book_lost : Stmt := inClass (topS 19) 12
theorem sc_Book_lost : FnScope ["self", "word", "one"] ["self", "word"] (defScope s_Book_lost) := ⟨rfl, rfl, rfl, by decide +kernel, rfl, by decide +kernel, by decide +kernel⟩
abbrev s_Book_put_last : Stmt := inClass (topS 19) 13
theorem sc_Book_put_last : FnScope ["self", "letter", "word", "is_new", "one"] ["self", "letter"] (defScope s_Book_put_last) := ⟨rfl, rfl, rfl, by decide +kernel, rfl, by decide +kernel, by decide +kernel⟩
abbrev s_Book_put_first : Stmt := inClass (topS 19) 14
theorem sc_Book_put_first : FnScope ["self", "letter", "word", "is_new", "one"] ["self", "letter"] (defScope s_Book_put_first) := ⟨rfl, rfl, rfl, by decide +kernel, rfl, by decide +kernel, by decide +kernel⟩
abbrev s_Book_cut_last : Stmt := inClass (topS 19) 15
theorem sc_Book_cut_last : FnScope ["self", "word", "one", "row"] ["self"] (defScope s_Book_cut_last) := ⟨rfl, rfl, rfl, by decide +kernel, rfl, by decide +kernel, by decide +kernel⟩
abbrev s_Book_cut_first : Stmt := inClass (topS 19) 16
theorem sc_Book_cut_first : FnScope ["self", "word", "one", "row"] ["self"] (defScope s_Book_cut_first) := ⟨rfl, rfl, rfl, by decide +kernel, rfl, by decide +kernel, by decide +kernel⟩
abbrev s__law_draw : Stmt := topS 21
theorem sc__law_draw : FnScope ["_law_script", "_law_k"] ["_law_script", "_law_k"] (defScope s__law_draw) := ⟨rfl, rfl, rfl, by decide +kernel, rfl, by decide +kernel, by decide +kernel⟩
abbrev s__law_word : Stmt := topS 22
theorem sc__law_word : FnScope ["_law_caught", "_law_found"] ["_law_caught"] (defScope s__law_word) := ⟨rfl, rfl, rfl, by decide +kernel, rfl, by decide +kernel, by decide +kernel⟩
abbrev s__law_done : Stmt := topS 23
theorem sc__law_done : FnScope ["_law_book", "_law_deed", "_law_thing"] ["_law_book", "_law_deed", "_law_thing"] (defScope s__law_done) := ⟨rfl, rfl, rfl, by decide +kernel, rfl, by decide +kernel, by decide +kernel⟩
abbrev s__law_said : Stmt := topS 24
theorem sc__law_said : FnScope ["_law_book", "_law_deed", "_law_thing", "_law_caught", "e"] ["_law_book", "_law_deed", "_law_thing"] (defScope s__law_said) := ⟨rfl, rfl, rfl, by decide +kernel, rfl, by decide +kernel, by decide +kernel⟩
abbrev s__law_refusal : Stmt := topS 25
theorem sc__law_refusal : FnScope ["_law_text", "_law_cell", "_law_way", "_law_more", "_law_ends", "_law_odd"] ["_law_text", "_law_cell"] (defScope s__law_refusal) := ⟨rfl, rfl, rfl, by decide +kernel, rfl, by decide +kernel, by decide +kernel⟩
abbrev s__law_kept : Stmt := topS 26
theorem sc__law_kept : FnScope ["_law_book", "_law_places", "_law_place", "_law_counts", "_law_word_here"] ["_law_book"] (defScope s__law_kept) := ⟨rfl, rfl, rfl, by decide +kernel, rfl, by decide +kernel, by decide +kernel⟩
abbrev s_law : Stmt := topS 27
theorem sc_law : FnScope ["_law_script", "_law_letters", "_law_many", "_law_size", "_law_text", "_law_k", "_law_book", "_law_kept_here", "_law_cell", "_law_deed", "_law_thing", "_law_due"] ["_law_script"] (defScope s_law) := ⟨rfl, rfl, rfl, by decide +kernel, rfl, by decide +kernel, by decide +kernel⟩
/-- what the top has left -/
structure Wd (A : Ad) (mg : Str → Option Value) : Prop where
  n_ValueError : mg "ValueError" = none
  n_all : mg "all" = none
  n_bool : mg "bool" = none
  n_int : mg "int" = none
  n_isinstance : mg "isinstance" = none
  n_len : mg "len" = none
  n_max : mg "max" = none
  n_range : mg "range" = none
  n_sorted : mg "sorted" = none
  n_str : mg "str" = none
  g_LETTERS : ∃ t, mg "LETTERS" = some (.str (T letters) t)
  g_MOST : ∃ t, mg "MOST" = some (.int 200 t)
  g_MirrorError : mg "MirrorError" = some (.ref A.cME)
  g_BadText : mg "BadText" = some (.ref A.cBT)
  g_BadLetter : mg "BadLetter" = some (.ref A.cBL)
  g_BadWord : mg "BadWord" = some (.ref A.cBW)
  g_BadArms : mg "BadArms" = some (.ref A.cBA)
  g_NoText : mg "NoText" = some (.ref A.cNT)
  g_NoPlace : mg "NoPlace" = some (.ref A.cNP)
  g_Full : mg "Full" = some (.ref A.cFu)
  x_BadLetter : XCls A.K mg "BadLetter" A.cBL
  x_BadText : XCls A.K mg "BadText" A.cBT
  x_BadWord : XCls A.K mg "BadWord" A.cBW
  x_Full : XCls A.K mg "Full" A.cFu
  x_NoPlace : XCls A.K mg "NoPlace" A.cNP
  k_BadText : XC A A.cBT true false false false false false false
  k_BadLetter : XC A A.cBL false true false false false false false
  k_BadWord : XC A A.cBW false false true false false false false
  k_NoPlace : XC A A.cNP false false false false false true false
  k_Full : XC A A.cFu false false false false false false true
  cl_Book : BC A
section
variable {P : Program} {w : World} {A : Ad} {mg : Str → Option Value} {base : Heap}
theorem ok_is_whole {f : Addr} {fd : FuncData} (F : Fun A.K "is_whole" "is_whole" s_is_whole f fd) (W : Wd A mg)  : FnOk P w A.K mg base CX0 1 f fd ["thing"] (sp_is_whole A) := by
  have sc := sc_is_whole
  refine F.ok sc_is_whole (len_is_whole A) (fun cdv Ar outer s H vs Q E hr h => ⟨t_is_whole A, ?_, pu_is_whole A  vs H Q E h⟩)
  exact (pss_one (ps_ret (pe_and (pe_callB call_isi (by rfl) W.n_isinstance (by decide +kernel) (pa_cons (pv 0) (pa_cons (pe_bltn (by rfl) W.n_int (by decide +kernel) rfl) pa_nil))) (pe_one (pe_not (pe_callB call_isi (by rfl) W.n_isinstance (by decide +kernel) (pa_cons (pv 0) (pa_cons (pe_bltn (by rfl) W.n_bool (by decide +kernel) rfl) pa_nil))))))))
theorem ok_is_letter {f : Addr} {fd : FuncData} (F : Fun A.K "is_letter" "is_letter" s_is_letter f fd) (W : Wd A mg)  : FnOk P w A.K mg base CX0 1 f fd ["thing"] (sp_is_letter A) := by
  have sc := sc_is_letter
  refine F.ok sc_is_letter (len_is_letter A) (fun cdv Ar outer s H vs Q E hr h => ⟨t_is_letter A, ?_, pu_is_letter A  vs H Q E h⟩)
  exact (pss_one (ps_ret (pe_and (pe_callB call_isi (by rfl) W.n_isinstance (by decide +kernel) (pa_cons (pv 0) (pa_cons (pe_bltn (by rfl) W.n_str (by decide +kernel) rfl) pa_nil))) (pe_and (pe_cmpR op_eq (pe_callB call_len_str (by rfl) W.n_len (by decide +kernel) (pa_cons (pv 0) pa_nil)) pe_int (nomark _)) (pe_one (pe_cmpR op_in_sign (pv 0) (pe_globT (by rfl) W.g_LETTERS) (by rfl)))))))
theorem ok_is_text {f : Addr} {fd : FuncData} (F : Fun A.K "is_text" "is_text" s_is_text f fd) (W : Wd A mg)  : FnOk P w A.K mg base CX0 1 f fd ["thing"] (sp_is_text A) := by
  have sc := sc_is_text
  refine F.ok sc_is_text (len_is_text A) (fun cdv Ar outer s H vs Q E hr h => ⟨t_is_text A, ?_, pu_is_text A  vs H Q E h⟩)
  exact (pss_one (ps_ret (pe_and (pe_callB call_isi (by rfl) W.n_isinstance (by decide +kernel) (pa_cons (pv 0) (pa_cons (pe_bltn (by rfl) W.n_str (by decide +kernel) rfl) pa_nil))) (pe_and (pe_cmpR op_le (pe_callB call_len_str (by rfl) W.n_len (by decide +kernel) (pa_cons (pv 0) pa_nil)) (pe_globI (by rfl) W.g_MOST) (nomark _)) (pe_one (pe_callB (cr_all rfl) (by rfl) W.n_all (by decide +kernel) (pa_cons (pe_lc (own := [("sign", 1)]) (g := (gName 1)) (tt := tYes) rfl sc.nd (pi_str (pv 0)) (blkOk_by (N := ["thing", "sign"]) (sc := defScope s_is_text) (by decide +kernel)) (fun _ _ _ _ _ => (pg_name (i := 1) sc.nd rfl (by first | exact Or.inl rfl | exact Or.inr rfl))) (fun _ _ _ _ _ => pts_nil) (fun _ _ _ _ _ => (pe_cmpR op_in_sign (pv 1) (pe_globT (by rfl) W.g_LETTERS) (by rfl)))) pa_nil)))))))
theorem ok_need_text {f : Addr} {fd : FuncData} (F : Fun A.K "need_text" "need_text" s_need_text f fd) (W : Wd A mg) (c_is_text : Cal P w A.K mg base CX0 1 "is_text" ["thing"] (sp_is_text A)) : FnOk P w A.K mg base (L2.CX P w) 2 f fd ["thing"] (sp_need_text A) := by
  have sc := sc_need_text
  refine F.okX sc_need_text (len_need_text A) (fun cdv Ar outer s H vs Q E hr h => ⟨t_need_text A E, ?_, pu_need_text A  vs H Q E h⟩)
  exact (pss_one (ps_if (pt_not (pt_val (pe_cal c_is_text (hr.mono (by decide)) (by rfl) pass0 (pa_cons (pv 0) pa_nil)))) (pss_one (ps_rz rfl W.x_BadText (by rfl) (takes_of rfl rfl rfl rfl))) pss_nil))
theorem ok_is_mirror {f : Addr} {fd : FuncData} (F : Fun A.K "is_mirror" "is_mirror" s_is_mirror f fd) (W : Wd A mg) (c_is_text : Cal P w A.K mg base CX0 1 "is_text" ["thing"] (sp_is_text A)) : FnOk P w A.K mg base CX0 2 f fd ["thing"] (sp_is_mirror A) := by
  have sc := sc_is_mirror
  refine F.ok sc_is_mirror (len_is_mirror A) (fun cdv Ar outer s H vs Q E hr h => ⟨t_is_mirror A, ?_, pu_is_mirror A  vs H Q E h⟩)
  exact (pss_one (ps_ret (pe_and (pe_cal c_is_text (hr.mono (by decide)) (by rfl) pass0 (pa_cons (pv 0) pa_nil)) (pe_and (pe_cmpR op_ne (pv 0) (pe_strT (l := []) (by decide +kernel)) (nomark _)) (pe_one (pe_cmpR op_eq (pv 0) (pe_revT (pv 0)) (nomark _)))))))
theorem ok_need_mirror {f : Addr} {fd : FuncData} (F : Fun A.K "need_mirror" "need_mirror" s_need_mirror f fd) (W : Wd A mg) (c_is_mirror : Cal P w A.K mg base CX0 2 "is_mirror" ["thing"] (sp_is_mirror A)) : FnOk P w A.K mg base (L2.CX P w) 3 f fd ["thing"] (sp_need_mirror A) := by
  have sc := sc_need_mirror
  refine F.okX sc_need_mirror (len_need_mirror A) (fun cdv Ar outer s H vs Q E hr h => ⟨t_need_mirror A E, ?_, pu_need_mirror A  vs H Q E h⟩)
  exact (pss_one (ps_if (pt_not (pt_val (pe_cal c_is_mirror (hr.mono (by decide)) (by rfl) pass0 (pa_cons (pv 0) pa_nil)))) (pss_one (ps_rz rfl W.x_BadWord (by rfl) (takes_of rfl rfl rfl rfl))) pss_nil))
theorem ok_Book_init {f : Addr} {fd : FuncData} (F : FunD A.K "__init__" "Book.__init__" (defArgs s_Book_init) (defBody s_Book_init) (defScope s_Book_init) [tS []] [] f fd) (W : Wd A mg) (c_need_text : Cal P w A.K mg base (L2.CX P w) 2 "need_text" ["thing"] (sp_need_text A)) (c_Book_put_last : Mcal P w A.K mg base (L2.CX P w) 4 A.cBook "put_last" ["self", "letter"] (sp_Book_put_last A)) : FnOk P w A.K mg base (L2.CX P w) 5 f fd ["self", "text"] (sp_Book_init A) := by
  have sc := sc_Book_init
  refine F.ok sc_Book_init (len_Book_init A) (fun cdv Ar outer s H vs Q E hr h => ⟨t_Book_init A E, ?_, pu_Book_init A W.cl_Book vs H Q E h⟩)
  exact (pss_cons (ps_expr (pe_cal c_need_text (hr.mono (by decide)) (by rfl) (passX (takes_of rfl rfl rfl rfl)) (pa_cons (pv 1) pa_nil)))
  (pss_cons (ps_fld (pv 0) (pe_lst pa_nil) rfl)
  (pss_cons (ps_fld (pv 0) (pe_lst pa_nil) rfl)
  (pss_cons (ps_fld (pv 0) (pe_lst pa_nil) rfl)
  (pss_cons (ps_fld (pv 0) pe_dnewK rfl)
  (pss_cons (ps_fld (pv 0) (pe_disp (pps_cons (pe_strT (l := []) (by decide +kernel)) (pe_strT (l := []) (by decide +kernel)) pps_nil) (by rfl) (by rfl) (fun z => by cases z) (by decide)) rfl)
  (pss_one (ps_for (passes_of rfl) rfl (pi_str (pv 1)) (pg_name (i := 2) sc.nd rfl (by first | exact Or.inl rfl | exact Or.inr rfl)) (pss_one (ps_expr (pe_mcal c_Book_put_last W.cl_Book.cls (hr.mono (by decide)) (passX (takes_of rfl rfl rfl rfl)) (pv 0) (pa_cons (pv 2) pa_nil))))))))))))
theorem ok_Book_whole {f : Addr} {fd : FuncData} (F : Fun A.K "whole" "Book.whole" s_Book_whole f fd) (W : Wd A mg)  : FnOk P w A.K mg base CX0 1 f fd ["self"] (sp_Book_whole A) := by
  have sc := sc_Book_whole
  refine F.ok sc_Book_whole (len_Book_whole A) (fun cdv Ar outer s H vs Q E hr h => ⟨t_Book_whole A, ?_, pu_Book_whole A W.cl_Book vs H Q E h⟩)
  exact (pss_one (ps_ret (pe_join (pe_strT (l := []) (by decide +kernel)) (pe_fld (pv 0) rfl))))
theorem ok_Book_words {f : Addr} {fd : FuncData} (F : Fun A.K "words" "Book.words" s_Book_words f fd) (W : Wd A mg)  : FnOk P w A.K mg base CX0 1 f fd ["self"] (sp_Book_words A) := by
  have sc := sc_Book_words
  refine F.ok sc_Book_words (len_Book_words A) (fun cdv Ar outer s H vs Q E hr h => ⟨t_Book_words A, ?_, pu_Book_words A W.cl_Book vs H Q E h⟩)
  exact (pss_one (ps_ret (pe_lc (own := [("pair", 1)]) (g := (gName 1)) (tt := tYes) rfl sc.nd (pi_list (pe_callB (cr_sortW hr.units) (by rfl) W.n_sorted (by decide +kernel) (pa_cons (pe_lock (pe_lc (own := [("word", 2)]) (g := (gName 2)) (tt := tYes) rfl sc.nd (pi_keys (pe_fld (pv 0) rfl)) (blkOk_by (N := ["self", "pair", "word"]) (sc := defScope s_Book_words) (by decide +kernel)) (fun _ _ _ _ _ => (pg_name (i := 2) sc.nd rfl (by first | exact Or.inl rfl | exact Or.inr rfl))) (fun _ _ _ _ _ => pts_nil) (fun _ _ _ _ _ => (pe_tup (pa_cons (pe_callB call_len_str (by rfl) W.n_len (by decide +kernel) (pa_cons (pv 2) pa_nil)) (pa_cons (pv 2) pa_nil)))))) pa_nil))) (blkOk_by (N := ["self", "pair", "word"]) (sc := defScope s_Book_words) (by decide +kernel)) (fun _ _ _ _ _ => (pg_name (i := 1) sc.nd rfl (by first | exact Or.inl rfl | exact Or.inr rfl))) (fun _ _ _ _ _ => pts_nil) (fun _ _ _ _ _ => (pe_ix ix_tup (pv 1) pe_int (fun _ _ => rfl))))))
theorem ok_Book_many {f : Addr} {fd : FuncData} (F : Fun A.K "many" "Book.many" s_Book_many f fd) (W : Wd A mg)  : FnOk P w A.K mg base CX0 1 f fd ["self"] (sp_Book_many A) := by
  have sc := sc_Book_many
  refine F.ok sc_Book_many (len_Book_many A) (fun cdv Ar outer s H vs Q E hr h => ⟨t_Book_many A, ?_, pu_Book_many A W.cl_Book vs H Q E h⟩)
  exact (pss_one (ps_ret (pe_callB call_lenD (by rfl) W.n_len (by decide +kernel) (pa_cons (pe_fld (pv 0) rfl) pa_nil))))
theorem ok_Book_count {f : Addr} {fd : FuncData} (F : Fun A.K "count" "Book.count" s_Book_count f fd) (W : Wd A mg) (c_need_mirror : Cal P w A.K mg base (L2.CX P w) 3 "need_mirror" ["thing"] (sp_need_mirror A)) : FnOk P w A.K mg base (L2.CX P w) 4 f fd ["self", "word"] (sp_Book_count A) := by
  have sc := sc_Book_count
  refine F.okX sc_Book_count (len_Book_count A) (fun cdv Ar outer s H vs Q E hr h => ⟨t_Book_count A E, ?_, pu_Book_count A W.cl_Book vs H Q E h⟩)
  exact (pss_cons (ps_expr (pe_cal c_need_mirror (hr.mono (by decide)) (by rfl) (passX (takes_of rfl rfl rfl rfl)) (pa_cons (pv 1) pa_nil)))
  (pss_one (ps_ret (pe_dget2 (hu_of hr) (pe_fld (pv 0) rfl) (pv 1) pe_int ⟨by rfl, by rfl, by rfl, by rfl⟩))))
theorem ok_Book_need_place {f : Addr} {fd : FuncData} (F : Fun A.K "need_place" "Book.need_place" s_Book_need_place f fd) (W : Wd A mg) (c_is_whole : Cal P w A.K mg base CX0 1 "is_whole" ["thing"] (sp_is_whole A)) : FnOk P w A.K mg base (L2.CX P w) 2 f fd ["self", "place"] (sp_Book_need_place A) := by
  have sc := sc_Book_need_place
  refine F.okX sc_Book_need_place (len_Book_need_place A) (fun cdv Ar outer s H vs Q E hr h => ⟨t_Book_need_place A E, ?_, pu_Book_need_place A W.cl_Book vs H Q E h⟩)
  exact (pss_one (ps_if (PW.pt (pw_or (pt_not (pt_val (pe_cal c_is_whole (hr.mono (by decide)) (by rfl) pass0 (pa_cons (pv 1) pa_nil)))) (pw_or1 (pt_not (pt_chain op_le op_lt pe_int (pv 1) (pe_callB call_len_seq (by rfl) W.n_len (by decide +kernel) (pa_cons (pe_fld (pv 0) rfl) pa_nil))))))) (pss_one (ps_rz rfl W.x_NoPlace (by rfl) (takes_of rfl rfl rfl rfl))) pss_nil))
theorem ok_Book_begins_at {f : Addr} {fd : FuncData} (F : Fun A.K "begins_at" "Book.begins_at" s_Book_begins_at f fd) (W : Wd A mg) (c_Book_whole : Mcal P w A.K mg base CX0 1 A.cBook "whole" ["self"] (sp_Book_whole A)) (c_Book_need_place : Mcal P w A.K mg base (L2.CX P w) 2 A.cBook "need_place" ["self", "place"] (sp_Book_need_place A)) : FnOk P w A.K mg base (L2.CX P w) 3 f fd ["self", "place"] (sp_Book_begins_at A) := by
  have sc := sc_Book_begins_at
  refine F.okX sc_Book_begins_at (len_Book_begins_at A) (fun cdv Ar outer s H vs Q E hr h => ⟨t_Book_begins_at A E, ?_, pu_Book_begins_at A W.cl_Book vs H Q E h⟩)
  exact (pss_cons (ps_expr (pe_mcal c_Book_need_place W.cl_Book.cls (hr.mono (by decide)) (passX (takes_of rfl rfl rfl rfl)) (pv 0) (pa_cons (pv 1) pa_nil)))
  (pss_one (ps_ret (pe_slice sl_str (pe_mcal0 c_Book_whole W.cl_Book.cls (hr.mono (by decide)) pass0 (pv 0)) (po_some (pv 1)) (po_some (pe_op op_add (pv 1) (pe_ix ix_list (pe_fld (pv 0) rfl) (pv 1) (fun _ _ => rfl))))))))
theorem ok_Book_ends_at {f : Addr} {fd : FuncData} (F : Fun A.K "ends_at" "Book.ends_at" s_Book_ends_at f fd) (W : Wd A mg) (c_Book_whole : Mcal P w A.K mg base CX0 1 A.cBook "whole" ["self"] (sp_Book_whole A)) (c_Book_need_place : Mcal P w A.K mg base (L2.CX P w) 2 A.cBook "need_place" ["self", "place"] (sp_Book_need_place A)) : FnOk P w A.K mg base (L2.CX P w) 3 f fd ["self", "place"] (sp_Book_ends_at A) := by
  have sc := sc_Book_ends_at
  refine F.okX sc_Book_ends_at (len_Book_ends_at A) (fun cdv Ar outer s H vs Q E hr h => ⟨t_Book_ends_at A E, ?_, pu_Book_ends_at A W.cl_Book vs H Q E h⟩)
  exact (pss_cons (ps_expr (pe_mcal c_Book_need_place W.cl_Book.cls (hr.mono (by decide)) (passX (takes_of rfl rfl rfl rfl)) (pv 0) (pa_cons (pv 1) pa_nil)))
  (pss_one (ps_ret (pe_slice sl_str (pe_mcal0 c_Book_whole W.cl_Book.cls (hr.mono (by decide)) pass0 (pv 0)) (po_some (pe_op op_sub (pe_op op_add (pv 1) pe_int) (pe_ix ix_list (pe_fld (pv 0) rfl) (pv 1) (fun _ _ => rfl)))) (po_some (pe_op op_add (pv 1) pe_int))))))
theorem ok_Book_longest {f : Addr} {fd : FuncData} (F : Fun A.K "longest" "Book.longest" s_Book_longest f fd) (W : Wd A mg) (c_Book_begins_at : Mcal P w A.K mg base (L2.CX P w) 3 A.cBook "begins_at" ["self", "place"] (sp_Book_begins_at A)) : FnOk P w A.K mg base (L2.CX P w) 4 f fd ["self"] (sp_Book_longest A) := by
  have sc := sc_Book_longest
  refine F.okX sc_Book_longest (len_Book_longest A) (fun cdv Ar outer s H vs Q E hr h => ⟨t_Book_longest A E, ?_, pu_Book_longest A W.cl_Book vs H Q E h⟩)
  exact (pss_cons (ps_set (i := 1) sc.nd rfl (by first | exact Or.inl rfl | exact Or.inr rfl) (pe_callBK (cr_maxDI rfl hr.units) (by rfl) W.n_max (by decide +kernel) (pa_cons (pe_fld (pv 0) rfl) pa_nil) (pk_cons pe_int pk_nil)))
  (pss_cons (ps_if (pt_cmpR op_eq (pv 1) pe_int (nomark _)) (pss_one (ps_ret (pe_strT (l := []) (by decide +kernel)))) pss_nil)
  (pss_one (ps_ret (pe_mcal c_Book_begins_at W.cl_Book.cls (hr.mono (by decide)) (passX (takes_of rfl rfl rfl rfl)) (pv 0) (pa_cons (pe_bm PySem.F.plainAttrs_list PySem.F.slot_list_index PySem.F.type_list_index mt_index (pe_fld (pv 0) rfl) (pa_cons (pv 1) pa_nil)) pa_nil))))))
theorem ok_Book_need_room {f : Addr} {fd : FuncData} (F : Fun A.K "need_room" "Book.need_room" s_Book_need_room f fd) (W : Wd A mg) (c_is_letter : Cal P w A.K mg base CX0 1 "is_letter" ["thing"] (sp_is_letter A)) : FnOk P w A.K mg base (L2.CX P w) 2 f fd ["self", "letter"] (sp_Book_need_room A) := by
  have sc := sc_Book_need_room
  refine F.okX sc_Book_need_room (len_Book_need_room A) (fun cdv Ar outer s H vs Q E hr h => ⟨t_Book_need_room A E, ?_, pu_Book_need_room A W.cl_Book vs H Q E h⟩)
  exact (pss_cons (ps_if (pt_not (pt_val (pe_cal c_is_letter (hr.mono (by decide)) (by rfl) pass0 (pa_cons (pv 1) pa_nil)))) (pss_one (ps_rz rfl W.x_BadLetter (by rfl) (takes_of rfl rfl rfl rfl))) pss_nil)
  (pss_one (ps_if (pt_cmpR op_eq (pe_callB call_len_seq (by rfl) W.n_len (by decide +kernel) (pa_cons (pe_fld (pv 0) rfl) pa_nil)) (pe_globI (by rfl) W.g_MOST) (nomark _)) (pss_one (ps_rz rfl W.x_Full (by rfl) (takes_of rfl rfl rfl rfl))) pss_nil)))
theorem ok_Book_grown {f : Addr} {fd : FuncData} (F : Fun A.K "grown" "Book.grown" s_Book_grown f fd) (W : Wd A mg)  : FnOk P w A.K mg base CX0 1 f fd ["self", "word", "letter", "behind"] (sp_Book_grown A) := by
  have sc := sc_Book_grown
  refine F.ok sc_Book_grown (len_Book_grown A) (fun cdv Ar outer s H vs Q E hr h => ⟨t_Book_grown A, ?_, pu_Book_grown A W.cl_Book vs H Q E h⟩)
  exact (pss_one (ps_while (PassesOwn.never) (pt_val pe_bl) (pss_cons (ps_set (i := 4) sc.nd rfl (by first | exact Or.inl rfl | exact Or.inr rfl) (pe_callB call_len_str (by rfl) W.n_len (by decide +kernel) (pa_cons (pv 1) pa_nil)))
  (pss_cons (ps_if (PW.pt (pw_and (pt_cmpR op_lt (pv 4) (pe_callB call_len_seq (by rfl) W.n_len (by decide +kernel) (pa_cons (pe_fld (pv 0) rfl) pa_nil)) (nomark _)) (pw_and1 (pt_cmpR op_eq (pe_ix ix_list (pe_fld (pv 0) rfl) (pe_ifExp (pt_val (pv 3)) (pe_op op_sub (pe_un un_neg pe_int) (pv 4)) (pv 4)) (fun _ _ => rfl)) (pv 2) (nomark _))))) (pss_one (ps_ret (pe_op op_add_str (pe_op op_add_str (pv 2) (pv 1)) (pv 2)))) pss_nil)
  (pss_cons (ps_if (pt_cmpR op_eq (pv 1) (pe_strT (l := []) (by decide +kernel)) (nomark _)) (pss_one (ps_ret (pv 2))) pss_nil)
  (pss_one (ps_set (i := 1) sc.nd rfl (by first | exact Or.inl rfl | exact Or.inr rfl) (pe_dget (hu_of hr) (pe_fld (pv 0) rfl) (pv 1) (fun _ _ => rfl)))))))))
theorem ok_Book_met {f : Addr} {fd : FuncData} (F : Fun A.K "met" "Book.met" s_Book_met f fd) (W : Wd A mg) (c_Book_grown : Mcal P w A.K mg base CX0 1 A.cBook "grown" ["self", "word", "letter", "behind"] (sp_Book_grown A)) : FnOk P w A.K mg base CX0 2 f fd ["self", "word", "letter", "behind"] (sp_Book_met A) := by
  have sc := sc_Book_met
  refine F.ok sc_Book_met (len_Book_met A) (fun cdv Ar outer s H vs Q E hr h => ⟨t_Book_met A, ?_, pu_Book_met A W.cl_Book vs H Q E h⟩)
  exact (pss_cons (ps_set (i := 4) sc.nd rfl (by first | exact Or.inl rfl | exact Or.inr rfl) (pe_cmp (pc_dnotin (hu_of hr) (pv 1) (pe_fld (pv 0) rfl)) (by rfl)))
  (pss_cons (ps_if (pt_val (pv 4)) (pss_cons (ps_set (i := 5) sc.nd rfl (by first | exact Or.inl rfl | exact Or.inr rfl) (pe_strT (l := []) (by decide +kernel)))
  (pss_cons (ps_if (pt_cmpR op_gt (pe_callB call_len_str (by rfl) W.n_len (by decide +kernel) (pa_cons (pv 1) pa_nil)) pe_int (nomark _)) (pss_one (ps_set (i := 5) sc.nd rfl (by first | exact Or.inl rfl | exact Or.inr rfl) (pe_ifExp (pt_cmpR op_gt (pe_callB call_len_str (by rfl) W.n_len (by decide +kernel) (pa_cons (pv 1) pa_nil)) pe_int (nomark _)) (pe_mcal c_Book_grown W.cl_Book.cls (hr.mono (by decide)) pass0 (pv 0) (pa_cons (pe_dget (hu_of hr) (pe_fld (pv 0) rfl) (pe_slice sl_str (pv 1) (po_some pe_int) (po_some (pe_un un_neg pe_int))) (fun _ _ => rfl)) (pa_cons (pv 2) (pa_cons (pv 3) pa_nil)))) (pv 2)))) pss_nil)
  (pss_one (ps_dput (hu_of hr) (pe_fld (pv 0) rfl) (pv 1) (pv 5) rfl)))) pss_nil)
  (pss_cons (ps_set (i := 6) sc.nd rfl (by first | exact Or.inl rfl | exact Or.inr rfl) (pv 1))
  (pss_cons (ps_while (PassesOwn.never) (pt_cmpR op_ne (pv 6) (pe_strT (l := []) (by decide +kernel)) (nomark _)) (pss_cons (ps_dput (hu_of hr) (pe_fld (pv 0) rfl) (pv 6) (pe_op op_add (pe_dget2 (hu_of hr) (pe_fld (pv 0) rfl) (pv 6) pe_int ⟨by rfl, by rfl, by rfl, by rfl⟩) pe_int) rfl)
  (pss_one (ps_set (i := 6) sc.nd rfl (by first | exact Or.inl rfl | exact Or.inr rfl) (pe_dget (hu_of hr) (pe_fld (pv 0) rfl) (pv 6) (fun _ _ => rfl))))))
  (pss_one (ps_ret (pv 4)))))))
theorem ok_Book_lost {f : Addr} {fd : FuncData} (F : Fun A.K "lost" "Book.lost" s_Book_lost f fd) (W : Wd A mg)  : FnOk P w A.K mg base CX0 1 f fd ["self", "word"] (sp_Book_lost A) := by
  have sc := sc_Book_lost
  refine F.ok sc_Book_lost (len_Book_lost A) (fun cdv Ar outer s H vs Q E hr h => ⟨t_Book_lost A, ?_, pu_Book_lost A W.cl_Book vs H Q E h⟩)
  exact (pss_cons (ps_set (i := 2) sc.nd rfl (by first | exact Or.inl rfl | exact Or.inr rfl) (pv 1))
  (pss_cons (ps_while (PassesOwn.never) (pt_cmpR op_ne (pv 2) (pe_strT (l := []) (by decide +kernel)) (nomark _)) (pss_cons (ps_dput (hu_of hr) (pe_fld (pv 0) rfl) (pv 2) (pe_op op_sub (pe_dget (hu_of hr) (pe_fld (pv 0) rfl) (pv 2) (fun _ _ => rfl)) pe_int) rfl)
  (pss_one (ps_set (i := 2) sc.nd rfl (by first | exact Or.inl rfl | exact Or.inr rfl) (pe_dget (hu_of hr) (pe_fld (pv 0) rfl) (pv 2) (fun _ _ => rfl))))))
  (pss_cons (ps_if (pt_cmpR op_gt (pe_dget (hu_of hr) (pe_fld (pv 0) rfl) (pv 1) (fun _ _ => rfl)) pe_int (nomark _)) (pss_one (ps_ret pe_bl)) pss_nil)
  (pss_cons (ps_expr (pe_dpop1 (pe_fld (pv 0) rfl) (pv 1) ⟨by rfl, by rfl, by rfl, by rfl⟩))
  (pss_cons (ps_expr (pe_dpop1 (pe_fld (pv 0) rfl) (pv 1) ⟨by rfl, by rfl, by rfl, by rfl⟩))
  (pss_one (ps_ret pe_bl)))))))
theorem ok_Book_put_last {f : Addr} {fd : FuncData} (F : Fun A.K "put_last" "Book.put_last" s_Book_put_last f fd) (W : Wd A mg) (c_Book_ends_at : Mcal P w A.K mg base (L2.CX P w) 3 A.cBook "ends_at" ["self", "place"] (sp_Book_ends_at A)) (c_Book_need_room : Mcal P w A.K mg base (L2.CX P w) 2 A.cBook "need_room" ["self", "letter"] (sp_Book_need_room A)) (c_Book_grown : Mcal P w A.K mg base CX0 1 A.cBook "grown" ["self", "word", "letter", "behind"] (sp_Book_grown A)) (c_Book_met : Mcal P w A.K mg base CX0 2 A.cBook "met" ["self", "word", "letter", "behind"] (sp_Book_met A)) : FnOk P w A.K mg base (L2.CX P w) 4 f fd ["self", "letter"] (sp_Book_put_last A) := by
  have sc := sc_Book_put_last
  refine F.okX sc_Book_put_last (len_Book_put_last A) (fun cdv Ar outer s H vs Q E hr h => ⟨t_Book_put_last A E, ?_, pu_Book_put_last A W.cl_Book vs H Q E h⟩)
  exact (pss_cons (ps_expr (pe_mcal c_Book_need_room W.cl_Book.cls (hr.mono (by decide)) (passX (takes_of rfl rfl rfl rfl)) (pv 0) (pa_cons (pv 1) pa_nil)))
  (pss_cons (ps_set (i := 2) sc.nd rfl (by first | exact Or.inl rfl | exact Or.inr rfl) (pe_mcal c_Book_grown W.cl_Book.cls (hr.mono (by decide)) pass0 (pv 0) (pa_cons (pe_ifExp (pt_cmpR (op_neD hr.units) (pe_fld (pv 0) rfl) (pe_lst pa_nil) (nomark _)) (pe_mcal c_Book_ends_at W.cl_Book.cls (hr.mono (by decide)) (passX (takes_of rfl rfl rfl rfl)) (pv 0) (pa_cons (pe_op op_sub (pe_callB call_len_seq (by rfl) W.n_len (by decide +kernel) (pa_cons (pe_fld (pv 0) rfl) pa_nil)) pe_int) pa_nil)) (pe_strT (l := []) (by decide +kernel))) (pa_cons (pv 1) (pa_cons pe_bl pa_nil)))))
  (pss_cons (ps_set (i := 3) sc.nd rfl (by first | exact Or.inl rfl | exact Or.inr rfl) (pe_mcal c_Book_met W.cl_Book.cls (hr.mono (by decide)) pass0 (pv 0) (pa_cons (pv 2) (pa_cons (pv 1) (pa_cons pe_bl pa_nil)))))
  (pss_cons (ps_expr (pe_bm PySem.F.plainAttrs_list PySem.F.slot_list_append PySem.F.type_list_append mt_append (pe_fld (pv 0) rfl) (pa_cons (pv 1) pa_nil)))
  (pss_cons (ps_expr (pe_bm PySem.F.plainAttrs_list PySem.F.slot_list_append PySem.F.type_list_append mt_append (pe_fld (pv 0) rfl) (pa_cons pe_int pa_nil)))
  (pss_cons (ps_expr (pe_bm PySem.F.plainAttrs_list PySem.F.slot_list_append PySem.F.type_list_append mt_append (pe_fld (pv 0) rfl) (pa_cons (pe_callB call_len_str (by rfl) W.n_len (by decide +kernel) (pa_cons (pv 2) pa_nil)) pa_nil)))
  (pss_cons (ps_set (i := 4) sc.nd rfl (by first | exact Or.inl rfl | exact Or.inr rfl) (pv 2))
  (pss_cons (ps_while (passes_of rfl) (pt_cmpR op_ne (pv 4) (pe_strT (l := []) (by decide +kernel)) (nomark _)) (pss_cons (ps_asg (pe_callB call_len_str (by rfl) W.n_len (by decide +kernel) (pa_cons (pv 4) pa_nil)) (pg_sub (pe_fld (pv 0) rfl) (pe_op op_sub (pe_callB call_len_seq (by rfl) W.n_len (by decide +kernel) (pa_cons (pe_fld (pv 0) rfl) pa_nil)) (pe_callB call_len_str (by rfl) W.n_len (by decide +kernel) (pa_cons (pv 4) pa_nil))) set_list))
  (pss_one (ps_set (i := 4) sc.nd rfl (by first | exact Or.inl rfl | exact Or.inr rfl) (pe_dget (hu_of hr) (pe_fld (pv 0) rfl) (pv 4) (fun _ _ => rfl))))))
  (pss_one (ps_ret (pe_ifExp (pt_val (pv 3)) (pv 2) pe_non)))))))))))
theorem ok_Book_put_first {f : Addr} {fd : FuncData} (F : Fun A.K "put_first" "Book.put_first" s_Book_put_first f fd) (W : Wd A mg) (c_Book_begins_at : Mcal P w A.K mg base (L2.CX P w) 3 A.cBook "begins_at" ["self", "place"] (sp_Book_begins_at A)) (c_Book_need_room : Mcal P w A.K mg base (L2.CX P w) 2 A.cBook "need_room" ["self", "letter"] (sp_Book_need_room A)) (c_Book_grown : Mcal P w A.K mg base CX0 1 A.cBook "grown" ["self", "word", "letter", "behind"] (sp_Book_grown A)) (c_Book_met : Mcal P w A.K mg base CX0 2 A.cBook "met" ["self", "word", "letter", "behind"] (sp_Book_met A)) : FnOk P w A.K mg base (L2.CX P w) 4 f fd ["self", "letter"] (sp_Book_put_first A) := by
  have sc := sc_Book_put_first
  refine F.okX sc_Book_put_first (len_Book_put_first A) (fun cdv Ar outer s H vs Q E hr h => ⟨t_Book_put_first A E, ?_, pu_Book_put_first A W.cl_Book vs H Q E h⟩)
  exact (pss_cons (ps_expr (pe_mcal c_Book_need_room W.cl_Book.cls (hr.mono (by decide)) (passX (takes_of rfl rfl rfl rfl)) (pv 0) (pa_cons (pv 1) pa_nil)))
  (pss_cons (ps_set (i := 2) sc.nd rfl (by first | exact Or.inl rfl | exact Or.inr rfl) (pe_mcal c_Book_grown W.cl_Book.cls (hr.mono (by decide)) pass0 (pv 0) (pa_cons (pe_ifExp (pt_cmpR (op_neD hr.units) (pe_fld (pv 0) rfl) (pe_lst pa_nil) (nomark _)) (pe_mcal c_Book_begins_at W.cl_Book.cls (hr.mono (by decide)) (passX (takes_of rfl rfl rfl rfl)) (pv 0) (pa_cons pe_int pa_nil)) (pe_strT (l := []) (by decide +kernel))) (pa_cons (pv 1) (pa_cons pe_bl pa_nil)))))
  (pss_cons (ps_set (i := 3) sc.nd rfl (by first | exact Or.inl rfl | exact Or.inr rfl) (pe_mcal c_Book_met W.cl_Book.cls (hr.mono (by decide)) pass0 (pv 0) (pa_cons (pv 2) (pa_cons (pv 1) (pa_cons pe_bl pa_nil)))))
  (pss_cons (ps_expr (pe_bm PySem.F.plainAttrs_list PySem.F.slot_list_insert PySem.F.type_list_insert mt_insert (pe_fld (pv 0) rfl) (pa_cons pe_int (pa_cons (pv 1) pa_nil))))
  (pss_cons (ps_expr (pe_bm PySem.F.plainAttrs_list PySem.F.slot_list_insert PySem.F.type_list_insert mt_insert (pe_fld (pv 0) rfl) (pa_cons pe_int (pa_cons (pe_callB call_len_str (by rfl) W.n_len (by decide +kernel) (pa_cons (pv 2) pa_nil)) pa_nil))))
  (pss_cons (ps_expr (pe_bm PySem.F.plainAttrs_list PySem.F.slot_list_insert PySem.F.type_list_insert mt_insert (pe_fld (pv 0) rfl) (pa_cons pe_int (pa_cons pe_int pa_nil))))
  (pss_cons (ps_set (i := 4) sc.nd rfl (by first | exact Or.inl rfl | exact Or.inr rfl) (pv 2))
  (pss_cons (ps_while (passes_of rfl) (pt_cmpR op_ne (pv 4) (pe_strT (l := []) (by decide +kernel)) (nomark _)) (pss_cons (ps_asg (pe_callB call_len_str (by rfl) W.n_len (by decide +kernel) (pa_cons (pv 4) pa_nil)) (pg_sub (pe_fld (pv 0) rfl) (pe_op op_sub (pe_callB call_len_str (by rfl) W.n_len (by decide +kernel) (pa_cons (pv 4) pa_nil)) pe_int) set_list))
  (pss_one (ps_set (i := 4) sc.nd rfl (by first | exact Or.inl rfl | exact Or.inr rfl) (pe_dget (hu_of hr) (pe_fld (pv 0) rfl) (pv 4) (fun _ _ => rfl))))))
  (pss_one (ps_ret (pe_ifExp (pt_val (pv 3)) (pv 2) pe_non)))))))))))
theorem ok_Book_cut_last {f : Addr} {fd : FuncData} (F : Fun A.K "cut_last" "Book.cut_last" s_Book_cut_last f fd) (W : Wd A mg) (c_Book_need_place : Mcal P w A.K mg base (L2.CX P w) 2 A.cBook "need_place" ["self", "place"] (sp_Book_need_place A)) (c_Book_ends_at : Mcal P w A.K mg base (L2.CX P w) 3 A.cBook "ends_at" ["self", "place"] (sp_Book_ends_at A)) (c_Book_lost : Mcal P w A.K mg base CX0 1 A.cBook "lost" ["self", "word"] (sp_Book_lost A)) : FnOk P w A.K mg base (L2.CX P w) 4 f fd ["self"] (sp_Book_cut_last A) := by
  have sc := sc_Book_cut_last
  refine F.okX sc_Book_cut_last (len_Book_cut_last A) (fun cdv Ar outer s H vs Q E hr h => ⟨t_Book_cut_last A E, ?_, pu_Book_cut_last A W.cl_Book vs H Q E h⟩)
  exact (pss_cons (ps_expr (pe_mcal c_Book_need_place W.cl_Book.cls (hr.mono (by decide)) (passX (takes_of rfl rfl rfl rfl)) (pv 0) (pa_cons (pe_op op_sub (pe_callB call_len_seq (by rfl) W.n_len (by decide +kernel) (pa_cons (pe_fld (pv 0) rfl) pa_nil)) pe_int) pa_nil)))
  (pss_cons (ps_set (i := 1) sc.nd rfl (by first | exact Or.inl rfl | exact Or.inr rfl) (pe_mcal c_Book_ends_at W.cl_Book.cls (hr.mono (by decide)) (passX (takes_of rfl rfl rfl rfl)) (pv 0) (pa_cons (pe_op op_sub (pe_callB call_len_seq (by rfl) W.n_len (by decide +kernel) (pa_cons (pe_fld (pv 0) rfl) pa_nil)) pe_int) pa_nil)))
  (pss_cons (ps_set (i := 2) sc.nd rfl (by first | exact Or.inl rfl | exact Or.inr rfl) (pv 1))
  (pss_cons (ps_while (passes_of rfl) (pt_cmpR op_ne (pv 2) (pe_strT (l := []) (by decide +kernel)) (nomark _)) (pss_cons (ps_asg (pe_callB call_len_str (by rfl) W.n_len (by decide +kernel) (pa_cons (pe_dget (hu_of hr) (pe_fld (pv 0) rfl) (pv 2) (fun _ _ => rfl)) pa_nil)) (pg_sub (pe_fld (pv 0) rfl) (pe_op op_sub (pe_callB call_len_seq (by rfl) W.n_len (by decide +kernel) (pa_cons (pe_fld (pv 0) rfl) pa_nil)) (pe_callB call_len_str (by rfl) W.n_len (by decide +kernel) (pa_cons (pv 2) pa_nil))) set_list))
  (pss_one (ps_set (i := 2) sc.nd rfl (by first | exact Or.inl rfl | exact Or.inr rfl) (pe_dget (hu_of hr) (pe_fld (pv 0) rfl) (pv 2) (fun _ _ => rfl))))))
  (pss_cons (ps_for (passes_of rfl) rfl (pi_tup (pe_tup (pa_cons (pe_fld (pv 0) rfl) (pa_cons (pe_fld (pv 0) rfl) (pa_cons (pe_fld (pv 0) rfl) pa_nil))))) (pg_name (i := 3) sc.nd rfl (by first | exact Or.inl rfl | exact Or.inr rfl)) (pss_one (ps_expr (pe_bm0 PySem.F.plainAttrs_list PySem.F.slot_list_pop PySem.F.type_list_pop mt_pop (pv 3)))))
  (pss_one (ps_ret (pe_ifExp (pt_val (pe_mcal c_Book_lost W.cl_Book.cls (hr.mono (by decide)) pass0 (pv 0) (pa_cons (pv 1) pa_nil))) (pv 1) pe_non))))))))
theorem ok_Book_cut_first {f : Addr} {fd : FuncData} (F : Fun A.K "cut_first" "Book.cut_first" s_Book_cut_first f fd) (W : Wd A mg) (c_Book_need_place : Mcal P w A.K mg base (L2.CX P w) 2 A.cBook "need_place" ["self", "place"] (sp_Book_need_place A)) (c_Book_begins_at : Mcal P w A.K mg base (L2.CX P w) 3 A.cBook "begins_at" ["self", "place"] (sp_Book_begins_at A)) (c_Book_lost : Mcal P w A.K mg base CX0 1 A.cBook "lost" ["self", "word"] (sp_Book_lost A)) : FnOk P w A.K mg base (L2.CX P w) 4 f fd ["self"] (sp_Book_cut_first A) := by
  have sc := sc_Book_cut_first
  refine F.okX sc_Book_cut_first (len_Book_cut_first A) (fun cdv Ar outer s H vs Q E hr h => ⟨t_Book_cut_first A E, ?_, pu_Book_cut_first A W.cl_Book vs H Q E h⟩)
  exact (pss_cons (ps_expr (pe_mcal c_Book_need_place W.cl_Book.cls (hr.mono (by decide)) (passX (takes_of rfl rfl rfl rfl)) (pv 0) (pa_cons pe_int pa_nil)))
  (pss_cons (ps_set (i := 1) sc.nd rfl (by first | exact Or.inl rfl | exact Or.inr rfl) (pe_mcal c_Book_begins_at W.cl_Book.cls (hr.mono (by decide)) (passX (takes_of rfl rfl rfl rfl)) (pv 0) (pa_cons pe_int pa_nil)))
  (pss_cons (ps_set (i := 2) sc.nd rfl (by first | exact Or.inl rfl | exact Or.inr rfl) (pv 1))
  (pss_cons (ps_while (passes_of rfl) (pt_cmpR op_ne (pv 2) (pe_strT (l := []) (by decide +kernel)) (nomark _)) (pss_cons (ps_asg (pe_callB call_len_str (by rfl) W.n_len (by decide +kernel) (pa_cons (pe_dget (hu_of hr) (pe_fld (pv 0) rfl) (pv 2) (fun _ _ => rfl)) pa_nil)) (pg_sub (pe_fld (pv 0) rfl) (pe_op op_sub (pe_callB call_len_str (by rfl) W.n_len (by decide +kernel) (pa_cons (pv 2) pa_nil)) pe_int) set_list))
  (pss_one (ps_set (i := 2) sc.nd rfl (by first | exact Or.inl rfl | exact Or.inr rfl) (pe_dget (hu_of hr) (pe_fld (pv 0) rfl) (pv 2) (fun _ _ => rfl))))))
  (pss_cons (ps_for (passes_of rfl) rfl (pi_tup (pe_tup (pa_cons (pe_fld (pv 0) rfl) (pa_cons (pe_fld (pv 0) rfl) (pa_cons (pe_fld (pv 0) rfl) pa_nil))))) (pg_name (i := 3) sc.nd rfl (by first | exact Or.inl rfl | exact Or.inr rfl)) (pss_one (ps_expr (pe_bm PySem.F.plainAttrs_list PySem.F.slot_list_pop PySem.F.type_list_pop mt_popAt (pv 3) (pa_cons pe_int pa_nil)))))
  (pss_one (ps_ret (pe_ifExp (pt_val (pe_mcal c_Book_lost W.cl_Book.cls (hr.mono (by decide)) pass0 (pv 0) (pa_cons (pv 1) pa_nil))) (pv 1) pe_non))))))))
theorem ok__law_draw {f : Addr} {fd : FuncData} (F : Fun A.K "_law_draw" "_law_draw" s__law_draw f fd) (W : Wd A mg)  : FnOk P w A.K mg base CX0 1 f fd ["_law_script", "_law_k"] (sp__law_draw A) := by
  have sc := sc__law_draw
  refine F.ok sc__law_draw (len__law_draw A) (fun cdv Ar outer s H vs Q E hr h => ⟨t__law_draw A, ?_, pu__law_draw A  vs H Q E h⟩)
  exact (pss_one (ps_ret (pe_ifExp (pt_cmpR op_gt (pe_callB call_len_seq (by rfl) W.n_len (by decide +kernel) (pa_cons (pv 0) pa_nil)) (pv 1) (nomark _)) (pe_ix ix_list (pv 0) (pv 1) (fun _ _ => rfl)) pe_int)))
theorem ok__law_word {f : Addr} {fd : FuncData} (F : Fun A.K "_law_word" "_law_word" s__law_word f fd) (W : Wd A mg)  : FnOk P w A.K mg base CX0 1 f fd ["_law_caught"] (sp__law_word A) := by
  have sc := sc__law_word
  refine F.ok sc__law_word (len__law_word A) (fun cdv Ar outer s H vs Q E hr h => ⟨t__law_word A, ?_, pu__law_word A  vs H Q E h⟩)
  exact (pss_cons (ps_if (PW.pt (pw_or (pt_cmpR op_isN (pv 0) pe_non (nomark _)) (pw_or (pt_not (pt_val (pe_callB call_isX (by rfl) W.n_isinstance (by decide +kernel) (pa_cons (pv 0) (pa_cons (pe_bltn (by rfl) W.n_ValueError (by decide +kernel) rfl) pa_nil))))) (pw_or1 (pt_val (pe_callB call_isXT (by rfl) W.n_isinstance (by decide +kernel) (pa_cons (pv 0) (pa_cons (pe_tup (pa_cons (pe_glob (by rfl) W.g_BadArms rfl) (pa_cons (pe_glob (by rfl) W.g_NoText rfl) pa_nil))) pa_nil)))))))) (pss_one (ps_ret (pe_strT (l := [111, 116, 104, 101, 114]) (by decide +kernel)))) pss_nil)
  (pss_cons (ps_set (i := 1) sc.nd rfl (by first | exact Or.inl rfl | exact Or.inr rfl) (pe_op op_add_str (pe_op op_mulT (pe_strT (l := [116, 101, 120, 116, 32]) (by decide +kernel)) (pe_callTy call_int1 (by rfl) W.n_int (by decide +kernel) (pa_cons (pe_callB call_isX (by rfl) W.n_isinstance (by decide +kernel) (pa_cons (pv 0) (pa_cons (pe_glob (by rfl) W.g_BadText rfl) pa_nil))) pa_nil))) (pe_op op_mulT (pe_strT (l := [108, 101, 116, 116, 101, 114, 32]) (by decide +kernel)) (pe_callTy call_int1 (by rfl) W.n_int (by decide +kernel) (pa_cons (pe_callB call_isX (by rfl) W.n_isinstance (by decide +kernel) (pa_cons (pv 0) (pa_cons (pe_glob (by rfl) W.g_BadLetter rfl) pa_nil))) pa_nil)))))
  (pss_cons (ps_set (i := 1) sc.nd rfl (by first | exact Or.inl rfl | exact Or.inr rfl) (pe_op op_add_str (pe_op op_add_str (pv 1) (pe_op op_mulT (pe_strT (l := [119, 111, 114, 100, 32]) (by decide +kernel)) (pe_callTy call_int1 (by rfl) W.n_int (by decide +kernel) (pa_cons (pe_callB call_isX (by rfl) W.n_isinstance (by decide +kernel) (pa_cons (pv 0) (pa_cons (pe_glob (by rfl) W.g_BadWord rfl) pa_nil))) pa_nil)))) (pe_op op_mulT (pe_strT (l := [102, 117, 108, 108, 32]) (by decide +kernel)) (pe_callTy call_int1 (by rfl) W.n_int (by decide +kernel) (pa_cons (pe_callB call_isX (by rfl) W.n_isinstance (by decide +kernel) (pa_cons (pv 0) (pa_cons (pe_glob (by rfl) W.g_Full rfl) pa_nil))) pa_nil)))))
  (pss_one (ps_ret (pe_op op_add_str (pv 1) (pe_op op_mulT (pe_strT (l := [112, 108, 97, 99, 101, 32]) (by decide +kernel)) (pe_callTy call_int1 (by rfl) W.n_int (by decide +kernel) (pa_cons (pe_callB call_isX (by rfl) W.n_isinstance (by decide +kernel) (pa_cons (pv 0) (pa_cons (pe_glob (by rfl) W.g_NoPlace rfl) pa_nil))) pa_nil)))))))))
theorem ok__law_done {f : Addr} {fd : FuncData} (F : Fun A.K "_law_done" "_law_done" s__law_done f fd) (W : Wd A mg) (c_Book_init : MkcD P w A.K mg base (L2.CX P w) 5 "Book" ["self", "text"] A.cBook (sp_Book_init A) [tS []]) (c_Book_count : Mcal P w A.K mg base (L2.CX P w) 4 A.cBook "count" ["self", "word"] (sp_Book_count A)) (c_Book_begins_at : Mcal P w A.K mg base (L2.CX P w) 3 A.cBook "begins_at" ["self", "place"] (sp_Book_begins_at A)) (c_Book_ends_at : Mcal P w A.K mg base (L2.CX P w) 3 A.cBook "ends_at" ["self", "place"] (sp_Book_ends_at A)) (c_Book_put_last : Mcal P w A.K mg base (L2.CX P w) 4 A.cBook "put_last" ["self", "letter"] (sp_Book_put_last A)) (c_Book_put_first : Mcal P w A.K mg base (L2.CX P w) 4 A.cBook "put_first" ["self", "letter"] (sp_Book_put_first A)) (c_Book_cut_last : Mcal P w A.K mg base (L2.CX P w) 4 A.cBook "cut_last" ["self"] (sp_Book_cut_last A)) (c_Book_cut_first : Mcal P w A.K mg base (L2.CX P w) 4 A.cBook "cut_first" ["self"] (sp_Book_cut_first A)) : FnOk P w A.K mg base (L2.CX P w) 7 f fd ["_law_book", "_law_deed", "_law_thing"] (sp__law_done A) := by
  have sc := sc__law_done
  refine F.okX sc__law_done (len__law_done A) (fun cdv Ar outer s H vs Q E hr h => ⟨t__law_done A E, ?_, pu__law_done A  vs H Q E h⟩)
  exact (pss_one (ps_if (pt_cmpR op_eq (pv 1) (pe_strT (l := [112, 117, 116, 32, 102, 105, 114, 115, 116]) (by decide +kernel)) (nomark _)) (pss_one (ps_expr (pe_mcal c_Book_put_first W.cl_Book.cls (hr.mono (by decide)) (passX (takes_of rfl rfl rfl rfl)) (pv 0) (pa_cons (pv 2) pa_nil)))) (pss_one (ps_if (pt_cmpR op_eq (pv 1) (pe_strT (l := [112, 117, 116, 32, 108, 97, 115, 116]) (by decide +kernel)) (nomark _)) (pss_one (ps_expr (pe_mcal c_Book_put_last W.cl_Book.cls (hr.mono (by decide)) (passX (takes_of rfl rfl rfl rfl)) (pv 0) (pa_cons (pv 2) pa_nil)))) (pss_one (ps_if (pt_cmpR op_eq (pv 1) (pe_strT (l := [99, 117, 116, 32, 102, 105, 114, 115, 116]) (by decide +kernel)) (nomark _)) (pss_one (ps_expr (pe_mcal0 c_Book_cut_first W.cl_Book.cls (hr.mono (by decide)) (passX (takes_of rfl rfl rfl rfl)) (pv 0)))) (pss_one (ps_if (pt_cmpR op_eq (pv 1) (pe_strT (l := [99, 117, 116, 32, 108, 97, 115, 116]) (by decide +kernel)) (nomark _)) (pss_one (ps_expr (pe_mcal0 c_Book_cut_last W.cl_Book.cls (hr.mono (by decide)) (passX (takes_of rfl rfl rfl rfl)) (pv 0)))) (pss_one (ps_if (pt_cmpR op_eq (pv 1) (pe_strT (l := [99, 111, 117, 110, 116]) (by decide +kernel)) (nomark _)) (pss_one (ps_expr (pe_mcal c_Book_count W.cl_Book.cls (hr.mono (by decide)) (passX (takes_of rfl rfl rfl rfl)) (pv 0) (pa_cons (pv 2) pa_nil)))) (pss_one (ps_if (pt_cmpR op_eq (pv 1) (pe_strT (l := [98, 101, 103, 105, 110, 115]) (by decide +kernel)) (nomark _)) (pss_one (ps_expr (pe_mcal c_Book_begins_at W.cl_Book.cls (hr.mono (by decide)) (passX (takes_of rfl rfl rfl rfl)) (pv 0) (pa_cons (pv 2) pa_nil)))) (pss_one (ps_if (pt_cmpR op_eq (pv 1) (pe_strT (l := [101, 110, 100, 115]) (by decide +kernel)) (nomark _)) (pss_one (ps_expr (pe_mcal c_Book_ends_at W.cl_Book.cls (hr.mono (by decide)) (passX (takes_of rfl rfl rfl rfl)) (pv 0) (pa_cons (pv 2) pa_nil)))) (pss_one (ps_expr (pe_mk c_Book_init.to (hr.mono (by decide)) (by rfl) (passX (takes_of rfl rfl rfl rfl)) (pa_cons (pv 2) pa_nil))))))))))))))))))
theorem ok__law_said {f : Addr} {fd : FuncData} (F : Fun A.K "_law_said" "_law_said" s__law_said f fd) (W : Wd A mg) (c__law_word : Cal P w A.K mg base CX0 1 "_law_word" ["_law_caught"] (sp__law_word A)) (c__law_done : Cal P w A.K mg base (L2.CX P w) 7 "_law_done" ["_law_book", "_law_deed", "_law_thing"] (sp__law_done A)) : FnOk P w A.K mg base CX0 8 f fd ["_law_book", "_law_deed", "_law_thing"] (sp__law_said A) := by
  have sc := sc__law_said
  refine F.ok sc__law_said (len__law_said A) (fun cdv Ar outer s H vs Q E hr h => ⟨t__law_said A, ?_, pu__law_said A ⟨W.k_BadText, W.k_BadLetter, W.k_BadWord, W.k_NoPlace, W.k_Full⟩ vs H Q E h⟩)
  exact (pss_cons (ps_set (i := 3) sc.nd rfl (by first | exact Or.inl rfl | exact Or.inr rfl) pe_non)
  (pss_cons (ps_tryK (i := 4) (j := 3) (tb := fun W => (tDrop (tCallS (sp__law_done A) (WE W) (tCons (tVar 0) (tCons (tVar 1) (tCons (tVar 2) tNil)))))) rfl rfl rfl sc.nd rfl rfl (by decide) rfl rfl (by rfl) W.g_MirrorError (fun W pn xe tk => (pss_one (ps_expr (pe_calS c__law_done (hr.mono (by decide)) (by rfl) (fun σ => passAt tk σ) (pa_cons (pv 0) (pa_cons (pv 1) (pa_cons (pv 2) pa_nil))))))))
  (pss_one (ps_ret (pe_cal c__law_word (hr.mono (by decide)) (by rfl) pass0 (pa_cons (pv 3) pa_nil))))))
theorem ok__law_refusal {f : Addr} {fd : FuncData} (F : Fun A.K "_law_refusal" "_law_refusal" s__law_refusal f fd) (W : Wd A mg)  : FnOk P w A.K mg base CX0 1 f fd ["_law_text", "_law_cell"] (sp__law_refusal A) := by
  have sc := sc__law_refusal
  refine F.ok sc__law_refusal (len__law_refusal A) (fun cdv Ar outer s H vs Q E hr h => ⟨t__law_refusal A, ?_, pu__law_refusal A  vs H Q E h⟩)
  exact (pss_cons (ps_set (i := 2) sc.nd rfl (by first | exact Or.inl rfl | exact Or.inr rfl) (pe_op op_mod (pv 1) pe_int))
  (pss_cons (ps_set (i := 3) sc.nd rfl (by first | exact Or.inl rfl | exact Or.inr rfl) (pe_op op_fdiv (pv 1) pe_int))
  (pss_cons (ps_set (i := 4) sc.nd rfl (by first | exact Or.inl rfl | exact Or.inr rfl) (pe_lst (pa_cons (pe_strT (l := [112, 117, 116, 32, 102, 105, 114, 115, 116]) (by decide +kernel)) (pa_cons (pe_strT (l := [112, 117, 116, 32, 108, 97, 115, 116]) (by decide +kernel)) pa_nil))))
  (pss_cons (ps_if (pt_cmpR op_lt (pv 2) pe_int (nomark _)) (pss_one (ps_ret (pe_tup (pa_cons (pe_ix ix_list (pv 4) (pv 2) (fun _ _ => rfl)) (pa_cons (pe_ix ix_list (pe_lst (pa_cons (pe_strT (l := []) (by decide +kernel)) (pa_cons (pe_strT (l := [97, 98]) (by decide +kernel)) (pa_cons (pe_strT (l := [65]) (by decide +kernel)) (pa_cons (pe_strT (l := [32]) (by decide +kernel)) (pa_cons pe_non (pa_cons pe_int (pa_cons pe_bl (pa_cons (pe_lst (pa_cons (pe_strT (l := [97]) (by decide +kernel)) pa_nil)) (pa_cons (pe_tup (pa_cons (pe_strT (l := [97]) (by decide +kernel)) pa_nil)) (pa_cons (pe_strT (l := [49]) (by decide +kernel)) (pa_cons pe_dnewK pa_nil)))))))))))) (pe_op op_mod (pv 3) pe_int) (fun _ _ => rfl)) (pa_cons (pe_strT (l := [108, 101, 116, 116, 101, 114, 32]) (by decide +kernel)) pa_nil)))))) pss_nil)
  (pss_cons (ps_if (PW.pt (pw_and (pt_cmpR op_eq (pv 2) pe_int (nomark _)) (pw_and1 (pt_cmpR op_eq (pe_callB call_len_str (by rfl) W.n_len (by decide +kernel) (pa_cons (pv 0) pa_nil)) pe_int (nomark _))))) (pss_one (ps_ret (pe_tup (pa_cons (pe_ix ix_list (pv 4) (pe_op op_mod (pv 3) pe_int) (fun _ _ => rfl)) (pa_cons (pe_ix ix_str (pe_strT (l := [97, 98, 122]) (by decide +kernel)) (pe_op op_mod (pe_op op_fdiv (pv 3) pe_int) pe_int) (fun _ _ => rfl)) (pa_cons (pe_strT (l := [102, 117, 108, 108, 32]) (by decide +kernel)) pa_nil)))))) pss_nil)
  (pss_cons (ps_if (PW.pt (pw_and (pt_cmpR op_eq (pv 2) pe_int (nomark _)) (pw_and1 (pt_cmpR op_eq (pv 0) (pe_strT (l := []) (by decide +kernel)) (nomark _))))) (pss_one (ps_ret (pe_tup (pa_cons (pe_ix ix_list (pe_lst (pa_cons (pe_strT (l := [99, 117, 116, 32, 102, 105, 114, 115, 116]) (by decide +kernel)) (pa_cons (pe_strT (l := [99, 117, 116, 32, 108, 97, 115, 116]) (by decide +kernel)) pa_nil))) (pe_op op_mod (pv 3) pe_int) (fun _ _ => rfl)) (pa_cons pe_non (pa_cons (pe_strT (l := [112, 108, 97, 99, 101, 32]) (by decide +kernel)) pa_nil)))))) pss_nil)
  (pss_cons (ps_if (pt_cmpR op_lt (pv 2) pe_int (nomark _)) (pss_one (ps_ret (pe_tup (pa_cons (pe_strT (l := [99, 111, 117, 110, 116]) (by decide +kernel)) (pa_cons (pe_ix ix_list (pe_lst (pa_cons (pe_strT (l := []) (by decide +kernel)) (pa_cons (pe_strT (l := [97, 98]) (by decide +kernel)) (pa_cons (pe_strT (l := [97, 66, 97]) (by decide +kernel)) (pa_cons pe_non (pa_cons pe_int (pa_cons (pe_lst (pa_cons (pe_strT (l := [97]) (by decide +kernel)) pa_nil)) (pa_cons (pe_op op_mulT (pe_strT (l := [97]) (by decide +kernel)) pe_int) (pa_cons (pe_strT (l := [97, 32, 97]) (by decide +kernel)) (pa_cons (pe_tup (pa_cons (pe_strT (l := [97]) (by decide +kernel)) pa_nil)) pa_nil)))))))))) (pe_op op_mod (pv 3) pe_int) (fun _ _ => rfl)) (pa_cons (pe_strT (l := [119, 111, 114, 100, 32]) (by decide +kernel)) pa_nil)))))) pss_nil)
  (pss_cons (ps_if (pt_cmpR op_lt (pv 2) pe_int (nomark _)) (pss_cons (ps_set (i := 5) sc.nd rfl (by first | exact Or.inl rfl | exact Or.inr rfl) (pe_lst (pa_cons (pe_un un_neg pe_int) (pa_cons (pe_callB call_len_str (by rfl) W.n_len (by decide +kernel) (pa_cons (pv 0) pa_nil)) (pa_cons (pe_op op_add (pe_callB call_len_str (by rfl) W.n_len (by decide +kernel) (pa_cons (pv 0) pa_nil)) pe_int) (pa_cons pe_bl (pa_cons pe_non (pa_cons (pe_strT (l := [48]) (by decide +kernel)) (pa_cons (pe_lst (pa_cons pe_int pa_nil)) (pa_cons (pe_op op_pow pe_int pe_int) (pa_cons pe_bl pa_nil)))))))))))
  (pss_one (ps_ret (pe_tup (pa_cons (pe_ix ix_list (pe_lst (pa_cons (pe_strT (l := [98, 101, 103, 105, 110, 115]) (by decide +kernel)) (pa_cons (pe_strT (l := [101, 110, 100, 115]) (by decide +kernel)) pa_nil))) (pe_op op_sub (pv 2) pe_int) (fun _ _ => rfl)) (pa_cons (pe_ix ix_list (pv 5) (pe_op op_mod (pv 3) pe_int) (fun _ _ => rfl)) (pa_cons (pe_strT (l := [112, 108, 97, 99, 101, 32]) (by decide +kernel)) pa_nil))))))) pss_nil)
  (pss_one (ps_ret (pe_tup (pa_cons (pe_strT (l := [98, 111, 111, 107]) (by decide +kernel)) (pa_cons (pe_ix ix_list (pe_lst (pa_cons pe_non (pa_cons pe_int (pa_cons (pe_strT (l := [65]) (by decide +kernel)) (pa_cons (pe_strT (l := [97, 32, 98]) (by decide +kernel)) (pa_cons (pe_op op_mulT (pe_strT (l := [97]) (by decide +kernel)) pe_int) (pa_cons (pe_lst (pa_cons (pe_strT (l := [97]) (by decide +kernel)) pa_nil)) (pa_cons pe_bl (pa_cons (pe_strT (l := [97, 10]) (by decide +kernel)) (pa_cons (pe_tup (pa_cons (pe_strT (l := [97]) (by decide +kernel)) pa_nil)) pa_nil)))))))))) (pe_op op_mod (pv 3) pe_int) (fun _ _ => rfl)) (pa_cons (pe_strT (l := [116, 101, 120, 116, 32]) (by decide +kernel)) pa_nil))))))))))))))
theorem ok__law_kept {f : Addr} {fd : FuncData} (F : Fun A.K "_law_kept" "_law_kept" s__law_kept f fd) (W : Wd A mg) (c_Book_whole : Mcal P w A.K mg base CX0 1 A.cBook "whole" ["self"] (sp_Book_whole A)) (c_Book_words : Mcal P w A.K mg base CX0 1 A.cBook "words" ["self"] (sp_Book_words A)) (c_Book_many : Mcal P w A.K mg base CX0 1 A.cBook "many" ["self"] (sp_Book_many A)) (c_Book_count : Mcal P w A.K mg base (L2.CX P w) 4 A.cBook "count" ["self", "word"] (sp_Book_count A)) (c_Book_begins_at : Mcal P w A.K mg base (L2.CX P w) 3 A.cBook "begins_at" ["self", "place"] (sp_Book_begins_at A)) (c_Book_ends_at : Mcal P w A.K mg base (L2.CX P w) 3 A.cBook "ends_at" ["self", "place"] (sp_Book_ends_at A)) (c_Book_longest : Mcal P w A.K mg base (L2.CX P w) 4 A.cBook "longest" ["self"] (sp_Book_longest A)) : FnOk P w A.K mg base CX0 5 f fd ["_law_book"] (sp__law_kept A) := by
  have sc := sc__law_kept
  refine F.ok sc__law_kept (len__law_kept A) (fun cdv Ar outer s H vs Q E hr h => ⟨t__law_kept A, ?_, pu__law_kept A  vs H Q E h⟩)
  exact (pss_cons (ps_setLc (i := 1) (own := [("_law_place", 2)]) (g := (gName 2)) (tt := tYes) rfl sc.nd rfl rfl (sw_true rfl rfl rfl (by decide +kernel)) (pi_range3 (by rfl) W.n_range (pa_cons pe_int (pa_cons (pe_callB call_len_str (by rfl) W.n_len (by decide +kernel) (pa_cons (pe_mcal0 c_Book_whole W.cl_Book.cls (hr.mono (by decide)) pass0 (pv 0)) pa_nil)) (pa_cons pe_int pa_nil)))) (blkOk_by (N := ["_law_book", "_law_places", "_law_place", "_law_counts", "_law_word_here"]) (sc := defScope s__law_kept) (by decide +kernel)) (fun _ _ _ _ _ => (pg_name (i := 2) sc.nd rfl (by first | exact Or.inl rfl | exact Or.inr rfl))) (fun _ _ _ _ _ => pts_nil) (fun _ _ _ _ _ => (pe_tup (pa_cons (pe_mcal c_Book_begins_at W.cl_Book.cls (hr.mono (by decide)) passL (pv 0) (pa_cons (pv 2) pa_nil)) (pa_cons (pe_mcal c_Book_ends_at W.cl_Book.cls (hr.mono (by decide)) passL (pv 0) (pa_cons (pv 2) pa_nil)) pa_nil)))))
  (pss_cons (ps_setLc (i := 3) (own := [("_law_word_here", 4)]) (g := (gName 4)) (tt := tYes) rfl sc.nd rfl rfl (sw_true rfl rfl rfl (by decide +kernel)) (pi_list (pe_mcal0 c_Book_words W.cl_Book.cls (hr.mono (by decide)) pass0 (pv 0))) (blkOk_by (N := ["_law_book", "_law_places", "_law_place", "_law_counts", "_law_word_here"]) (sc := defScope s__law_kept) (by decide +kernel)) (fun _ _ _ _ _ => (pg_name (i := 4) sc.nd rfl (by first | exact Or.inl rfl | exact Or.inr rfl))) (fun _ _ _ _ _ => pts_nil) (fun _ _ _ _ _ => (pe_mcal c_Book_count W.cl_Book.cls (hr.mono (by decide)) passL (pv 0) (pa_cons (pv 4) pa_nil))))
  (pss_one (ps_ret (pe_tup (pa_cons (pe_mcal0 c_Book_whole W.cl_Book.cls (hr.mono (by decide)) pass0 (pv 0)) (pa_cons (pe_mcal0 c_Book_words W.cl_Book.cls (hr.mono (by decide)) pass0 (pv 0)) (pa_cons (pv 3) (pa_cons (pe_mcal0 c_Book_longest W.cl_Book.cls (hr.mono (by decide)) passL (pv 0)) (pa_cons (pe_mcal0 c_Book_many W.cl_Book.cls (hr.mono (by decide)) pass0 (pv 0)) (pa_cons (pv 1) pa_nil)))))))))))
theorem ok_law {f : Addr} {fd : FuncData} (F : Fun A.K "law" "law" s_law f fd) (W : Wd A mg) (c_Book_init : MkcD P w A.K mg base (L2.CX P w) 5 "Book" ["self", "text"] A.cBook (sp_Book_init A) [tS []]) (c_Book_whole : Mcal P w A.K mg base CX0 1 A.cBook "whole" ["self"] (sp_Book_whole A)) (c_Book_count : Mcal P w A.K mg base (L2.CX P w) 4 A.cBook "count" ["self", "word"] (sp_Book_count A)) (c_Book_longest : Mcal P w A.K mg base (L2.CX P w) 4 A.cBook "longest" ["self"] (sp_Book_longest A)) (c_Book_put_last : Mcal P w A.K mg base (L2.CX P w) 4 A.cBook "put_last" ["self", "letter"] (sp_Book_put_last A)) (c_Book_put_first : Mcal P w A.K mg base (L2.CX P w) 4 A.cBook "put_first" ["self", "letter"] (sp_Book_put_first A)) (c_Book_cut_last : Mcal P w A.K mg base (L2.CX P w) 4 A.cBook "cut_last" ["self"] (sp_Book_cut_last A)) (c_Book_cut_first : Mcal P w A.K mg base (L2.CX P w) 4 A.cBook "cut_first" ["self"] (sp_Book_cut_first A)) (c__law_draw : Cal P w A.K mg base CX0 1 "_law_draw" ["_law_script", "_law_k"] (sp__law_draw A)) (c__law_said : Cal P w A.K mg base CX0 8 "_law_said" ["_law_book", "_law_deed", "_law_thing"] (sp__law_said A)) (c__law_refusal : Cal P w A.K mg base CX0 1 "_law_refusal" ["_law_text", "_law_cell"] (sp__law_refusal A)) (c__law_kept : Cal P w A.K mg base CX0 5 "_law_kept" ["_law_book"] (sp__law_kept A)) : FnOk P w A.K mg base CX0 9 f fd ["_law_script"] (sp_law A) := by
  have sc := sc_law
  refine F.ok sc_law (len_law A) (fun cdv Ar outer s H vs Q E hr h => ⟨t_law A, ?_, pu_law A  vs H Q E h⟩)
  exact (pss_cons (ps_set (i := 1) sc.nd rfl (by first | exact Or.inl rfl | exact Or.inr rfl) (pe_strT (l := letters) (by decide +kernel)))
  (pss_cons (ps_set (i := 2) sc.nd rfl (by first | exact Or.inl rfl | exact Or.inr rfl) (pe_ix ix_list (pe_lst (pa_cons pe_int (pa_cons pe_int (pa_cons pe_int (pa_cons pe_int pa_nil))))) (pe_op op_mod (pe_cal c__law_draw (hr.mono (by decide)) (by rfl) pass0 (pa_cons (pv 0) (pa_cons pe_int pa_nil))) pe_int) (fun _ _ => rfl)))
  (pss_cons (ps_set (i := 3) sc.nd rfl (by first | exact Or.inl rfl | exact Or.inr rfl) (pe_ix ix_list (pe_lst (pa_cons pe_int (pa_cons pe_int (pa_cons pe_int (pa_cons pe_int (pa_cons pe_int (pa_cons pe_int (pa_cons pe_int (pa_cons pe_int pa_nil))))))))) (pe_op op_mod (pe_cal c__law_draw (hr.mono (by decide)) (by rfl) pass0 (pa_cons (pv 0) (pa_cons pe_int pa_nil))) pe_int) (fun _ _ => rfl)))
  (pss_cons (ps_set (i := 4) sc.nd rfl (by first | exact Or.inl rfl | exact Or.inr rfl) (pe_join (pe_strT (l := []) (by decide +kernel)) (pe_lc (own := [("_law_k", 5)]) (g := (gName 5)) (tt := tYes) rfl sc.nd (pi_range1 (by rfl) W.n_range (pa_cons (pv 3) pa_nil)) (blkOk_by (N := ["_law_script", "_law_letters", "_law_many", "_law_size", "_law_text", "_law_k", "_law_book", "_law_kept_here", "_law_cell", "_law_deed", "_law_thing", "_law_due"]) (sc := defScope s_law) (by decide +kernel)) (fun _ _ _ _ _ => (pg_name (i := 5) sc.nd rfl (by first | exact Or.inl rfl | exact Or.inr rfl))) (fun _ _ _ _ _ => pts_nil) (fun _ _ _ _ _ => (pe_ix ix_str (pv 1) (pe_op op_mod (pe_op op_add (pe_op op_fdiv (pe_cal c__law_draw (hr.mono (by decide)) (by rfl) pass0 (pa_cons (pv 0) (pa_cons pe_int pa_nil))) (pe_op op_add pe_int (pe_op op_mod (pv 5) pe_int))) (pe_op op_fdiv (pv 5) pe_int)) (pv 2)) (fun _ _ => rfl))))))
  (pss_cons (ps_set (i := 6) sc.nd rfl (by first | exact Or.inl rfl | exact Or.inr rfl) (pe_mk c_Book_init.to (hr.mono (by decide)) (by rfl) passL (pa_cons (pv 4) pa_nil)))
  (pss_cons (ps_set (i := 7) sc.nd rfl (by first | exact Or.inl rfl | exact Or.inr rfl) (pe_cal c__law_kept (hr.mono (by decide)) (by rfl) pass0 (pa_cons (pv 6) pa_nil)))
  (pss_cons (ps_for (PassesOwn.never) rfl (pi_list (pe_slice sl_list (pv 0) (po_some pe_int) (po_some pe_int))) (pg_name (i := 8) sc.nd rfl (by first | exact Or.inl rfl | exact Or.inr rfl)) (pss_cons (ps_asg (pe_cal c__law_refusal (hr.mono (by decide)) (by rfl) pass0 (pa_cons (pv 4) (pa_cons (pv 8) pa_nil))) (pg_tup rfl (pgs_cons (pg_name (i := 9) sc.nd rfl (by first | exact Or.inl rfl | exact Or.inr rfl)) (pgs_cons (pg_name (i := 10) sc.nd rfl (by first | exact Or.inl rfl | exact Or.inr rfl)) (pgs_cons (pg_name (i := 11) sc.nd rfl (by first | exact Or.inl rfl | exact Or.inr rfl)) pgs_nil)))))
  (pss_one (ps_if (PW.pt (pw_or (pt_cmpR op_ne (pe_cal c__law_said (hr.mono (by decide)) (by rfl) pass0 (pa_cons (pv 6) (pa_cons (pv 9) (pa_cons (pv 10) pa_nil)))) (pv 11) (nomark _)) (pw_or1 (pt_cmpR (op_neD hr.units) (pe_cal c__law_kept (hr.mono (by decide)) (by rfl) pass0 (pa_cons (pv 6) pa_nil)) (pv 7) (nomark _))))) (pss_one (ps_ret pe_bl)) pss_nil))))
  (pss_cons (ps_if (pt_cmpR op_eq (pv 4) (pe_strT (l := []) (by decide +kernel)) (nomark _)) (pss_one (ps_ret (pe_and (pe_cmpR op_eq (pe_mcal0 c_Book_longest W.cl_Book.cls (hr.mono (by decide)) passL (pv 6)) (pe_strT (l := []) (by decide +kernel)) (nomark _)) (pe_and (pe_cmpR op_eq (pe_mcal c_Book_put_first W.cl_Book.cls (hr.mono (by decide)) passL (pv 6) (pa_cons (pe_strT (l := [113]) (by decide +kernel)) pa_nil)) (pe_strT (l := [113]) (by decide +kernel)) (nomark _)) (pe_and (pe_cmpR op_eq (pe_mcal0 c_Book_cut_last W.cl_Book.cls (hr.mono (by decide)) passL (pv 6)) (pe_strT (l := [113]) (by decide +kernel)) (nomark _)) (pe_one (pe_cmpR op_eq (pe_mcal0 c_Book_whole W.cl_Book.cls (hr.mono (by decide)) pass0 (pv 6)) (pe_strT (l := []) (by decide +kernel)) (nomark _)))))))) pss_nil)
  (pss_cons (ps_expr (pe_mcal0 c_Book_cut_first W.cl_Book.cls (hr.mono (by decide)) passL (pv 6)))
  (pss_cons (ps_expr (pe_mcal c_Book_put_last W.cl_Book.cls (hr.mono (by decide)) passL (pv 6) (pa_cons (pe_strT (l := [113]) (by decide +kernel)) pa_nil)))
  (pss_one (ps_ret (pe_and (pe_cmpR op_eq (pe_mcal0 c_Book_whole W.cl_Book.cls (hr.mono (by decide)) pass0 (pv 6)) (pe_op op_add_str (pe_slice sl_str (pv 4) (po_some pe_int) po_none) (pe_strT (l := [113]) (by decide +kernel))) (nomark _)) (pe_one (pe_cmpR op_eq (pe_mcal c_Book_count W.cl_Book.cls (hr.mono (by decide)) passL (pv 6) (pa_cons (pe_strT (l := [113]) (by decide +kernel)) pa_nil)) (pe_m1 PySem.F.slot_str_count PySem.F.type_str_count mt_count (pe_op op_add_str (pe_slice sl_str (pv 4) (po_some pe_int) po_none) (pe_strT (l := [113]) (by decide +kernel))) (pe_strT (l := [113]) (by decide +kernel))) (nomark _))))))))))))))))
end
def spL0 (K : PySem.W.Frag) : Sp := fun vs H Q _ => ∃ (a : Addr) (ns : List Int), vs = [.ref a] ∧ SqL K H a (ns.map V.int) ∧ ns.length ≤ 63 ∧ ∀ H', Q (.bl true) H'
theorem all_mk {l : PySem.W.OpenLaw} {w : World} {K : PySem.W.Frag} {h : Heap} {mg : Str → Option Value} {fa f0 f1 f2 f3 f4 f5 f6 f7 f8 f9 f10 f11 f12 f13 f14 f15 f16 f17 f18 f19 f20 f21 f22 f23 f24 f25 f26 f27 f28 f29 e_cME e_cBT e_cBL e_cBW e_cBA e_cNT e_cNP e_cFu e_cBook : Addr} {od0 an0 od1 an1 od2 an2 od3 an3 od4 an4 od5 an5 od6 an6 od7 an7 od8 an8 od9 an9 od10 an10 od11 an11 od12 an12 od13 an13 od14 an14 od15 an15 od16 an16 od17 an17 od18 an18 od19 an19 od20 an20 od21 an21 od22 an22 od23 an23 od24 an24 od25 an25 od26 an26 od27 an27 od28 an28 od29 an29 : Option Addr} {sl0 sl1 sl2 sl3 sl4 sl5 sl6 sl7 sl8 sl9 sl10 sl11 sl12 sl13 sl14 sl15 sl16 sl17 sl18 sl19 sl20 sl21 sl22 sl23 sl24 sl25 sl26 sl27 sl28 sl29 : Array (Option Value)} {oc0 kV0 dc0 pm0 cd0 ct0 oc1 kV1 dc1 pm1 cd1 ct1 oc2 kV2 dc2 pm2 cd2 ct2 oc3 kV3 dc3 pm3 cd3 ct3 oc4 kV4 dc4 pm4 cd4 ct4 oc5 kV5 dc5 pm5 cd5 ct5 oc6 kV6 dc6 pm6 cd6 ct6 oc7 kV7 dc7 pm7 cd7 ct7 oc8 kV8 dc8 pm8 cd8 ct8 oc9 kV9 dc9 pm9 cd9 ct9 oc10 kV10 dc10 pm10 cd10 ct10 oc11 kV11 dc11 pm11 cd11 ct11 oc12 kV12 dc12 pm12 cd12 ct12 oc13 kV13 dc13 pm13 cd13 ct13 oc14 kV14 dc14 pm14 cd14 ct14 oc15 kV15 dc15 pm15 cd15 ct15 oc16 kV16 dc16 pm16 cd16 ct16 oc17 kV17 dc17 pm17 cd17 ct17 oc18 kV18 dc18 pm18 cd18 ct18 oc19 kV19 dc19 pm19 cd19 ct19 oc20 kV20 dc20 pm20 cd20 ct20 oc21 kV21 dc21 pm21 cd21 ct21 oc22 kV22 dc22 pm22 cd22 ct22 oc23 kV23 dc23 pm23 cd23 ct23 oc24 kV24 dc24 pm24 cd24 ct24 oc25 kV25 dc25 pm25 cd25 ct25 oc26 kV26 dc26 pm26 cd26 ct26 oc27 kV27 dc27 pm27 cd27 ct27 oc28 kV28 dc28 pm28 cd28 ct28 oc29 kV29 dc29 pm29 cd29 ct29 : Value} {t_LETTERS t_MOST : Tok} {dT6 : Addr} {tc6 : Value} {td6 : Option Addr} {tn6 : Nat} {ts6 : Array (Option Value)} {tt6 : Tok} (X : K.In h) (G : h.Ns mainGlobals mg) (hfa : mg "law" = some (.ref fa))
    (g_MirrorError : PySem.W.nsIn K mainGlobals "MirrorError" = some (some (.ref e_cME)))
    (g_BadText : PySem.W.nsIn K mainGlobals "BadText" = some (some (.ref e_cBT)))
    (g_BadLetter : PySem.W.nsIn K mainGlobals "BadLetter" = some (some (.ref e_cBL)))
    (g_BadWord : PySem.W.nsIn K mainGlobals "BadWord" = some (some (.ref e_cBW)))
    (g_BadArms : PySem.W.nsIn K mainGlobals "BadArms" = some (some (.ref e_cBA)))
    (g_NoText : PySem.W.nsIn K mainGlobals "NoText" = some (some (.ref e_cNT)))
    (g_NoPlace : PySem.W.nsIn K mainGlobals "NoPlace" = some (some (.ref e_cNP)))
    (g_Full : PySem.W.nsIn K mainGlobals "Full" = some (some (.ref e_cFu)))
    (g_Book : PySem.W.nsIn K mainGlobals "Book" = some (some (.ref e_cBook)))
    (a0 : PySem.W.nsIn K mainGlobals "is_whole" = some (some (.ref f0)))
    (l0 : K.lookup f0 = some ⟨oc0, od0, .func (PySem.W.fnOf "is_whole" "is_whole" (defArgs s_is_whole) (defBody s_is_whole) (defScope s_is_whole) .none kV0 dc0 pm0 an0 cd0 ct0), sl0⟩)
    (c0 : PySem.W.codeIn K cd0 "is_whole" = true)
    (k0 : PySem.W.keepIn K (.ref f0) = true)
    (a1 : PySem.W.nsIn K mainGlobals "is_letter" = some (some (.ref f1)))
    (l1 : K.lookup f1 = some ⟨oc1, od1, .func (PySem.W.fnOf "is_letter" "is_letter" (defArgs s_is_letter) (defBody s_is_letter) (defScope s_is_letter) .none kV1 dc1 pm1 an1 cd1 ct1), sl1⟩)
    (c1 : PySem.W.codeIn K cd1 "is_letter" = true)
    (k1 : PySem.W.keepIn K (.ref f1) = true)
    (a2 : PySem.W.nsIn K mainGlobals "is_text" = some (some (.ref f2)))
    (l2 : K.lookup f2 = some ⟨oc2, od2, .func (PySem.W.fnOf "is_text" "is_text" (defArgs s_is_text) (defBody s_is_text) (defScope s_is_text) .none kV2 dc2 pm2 an2 cd2 ct2), sl2⟩)
    (c2 : PySem.W.codeIn K cd2 "is_text" = true)
    (k2 : PySem.W.keepIn K (.ref f2) = true)
    (a3 : PySem.W.nsIn K mainGlobals "need_text" = some (some (.ref f3)))
    (l3 : K.lookup f3 = some ⟨oc3, od3, .func (PySem.W.fnOf "need_text" "need_text" (defArgs s_need_text) (defBody s_need_text) (defScope s_need_text) .none kV3 dc3 pm3 an3 cd3 ct3), sl3⟩)
    (c3 : PySem.W.codeIn K cd3 "need_text" = true)
    (k3 : PySem.W.keepIn K (.ref f3) = true)
    (a4 : PySem.W.nsIn K mainGlobals "is_mirror" = some (some (.ref f4)))
    (l4 : K.lookup f4 = some ⟨oc4, od4, .func (PySem.W.fnOf "is_mirror" "is_mirror" (defArgs s_is_mirror) (defBody s_is_mirror) (defScope s_is_mirror) .none kV4 dc4 pm4 an4 cd4 ct4), sl4⟩)
    (c4 : PySem.W.codeIn K cd4 "is_mirror" = true)
    (k4 : PySem.W.keepIn K (.ref f4) = true)
    (a5 : PySem.W.nsIn K mainGlobals "need_mirror" = some (some (.ref f5)))
    (l5 : K.lookup f5 = some ⟨oc5, od5, .func (PySem.W.fnOf "need_mirror" "need_mirror" (defArgs s_need_mirror) (defBody s_need_mirror) (defScope s_need_mirror) .none kV5 dc5 pm5 an5 cd5 ct5), sl5⟩)
    (c5 : PySem.W.codeIn K cd5 "need_mirror" = true)
    (k5 : PySem.W.keepIn K (.ref f5) = true)
    (a6 : PySem.W.findIn K (.ref e_cBook) "__init__" = some (some (.ref f6)))
    (i6 : PySem.W.isFn K (.ref f6) = true)
    (l6 : K.lookup f6 = some ⟨oc6, od6, .func (PySem.W.fnOf "__init__" "Book.__init__" (defArgs s_Book_init) (defBody s_Book_init) (defScope s_Book_init) (.ref dT6) kV6 dc6 pm6 an6 cd6 ct6), sl6⟩)
    (lt6 : K.lookup dT6 = some ⟨tc6, td6, .seq #[.str (PySem.Str.ofString "") tt6] tn6, ts6⟩)
    (c6 : PySem.W.codeIn K cd6 "Book.__init__" = true)
    (k6 : PySem.W.keepIn K (.ref f6) = true)
    (a7 : PySem.W.findIn K (.ref e_cBook) "whole" = some (some (.ref f7)))
    (i7 : PySem.W.isFn K (.ref f7) = true)
    (l7 : K.lookup f7 = some ⟨oc7, od7, .func (PySem.W.fnOf "whole" "Book.whole" (defArgs s_Book_whole) (defBody s_Book_whole) (defScope s_Book_whole) .none kV7 dc7 pm7 an7 cd7 ct7), sl7⟩)
    (c7 : PySem.W.codeIn K cd7 "Book.whole" = true)
    (k7 : PySem.W.keepIn K (.ref f7) = true)
    (a8 : PySem.W.findIn K (.ref e_cBook) "words" = some (some (.ref f8)))
    (i8 : PySem.W.isFn K (.ref f8) = true)
    (l8 : K.lookup f8 = some ⟨oc8, od8, .func (PySem.W.fnOf "words" "Book.words" (defArgs s_Book_words) (defBody s_Book_words) (defScope s_Book_words) .none kV8 dc8 pm8 an8 cd8 ct8), sl8⟩)
    (c8 : PySem.W.codeIn K cd8 "Book.words" = true)
    (k8 : PySem.W.keepIn K (.ref f8) = true)
    (a9 : PySem.W.findIn K (.ref e_cBook) "many" = some (some (.ref f9)))
    (i9 : PySem.W.isFn K (.ref f9) = true)
    (l9 : K.lookup f9 = some ⟨oc9, od9, .func (PySem.W.fnOf "many" "Book.many" (defArgs s_Book_many) (defBody s_Book_many) (defScope s_Book_many) .none kV9 dc9 pm9 an9 cd9 ct9), sl9⟩)
    (c9 : PySem.W.codeIn K cd9 "Book.many" = true)
    (k9 : PySem.W.keepIn K (.ref f9) = true)
    (a10 : PySem.W.findIn K (.ref e_cBook) "count" = some (some (.ref f10)))
    (i10 : PySem.W.isFn K (.ref f10) = true)
    (l10 : K.lookup f10 = some ⟨oc10, od10, .func (PySem.W.fnOf "count" "Book.count" (defArgs s_Book_count) (defBody s_Book_count) (defScope s_Book_count) .none kV10 dc10 pm10 an10 cd10 ct10), sl10⟩)
    (c10 : PySem.W.codeIn K cd10 "Book.count" = true)
    (k10 : PySem.W.keepIn K (.ref f10) = true)
    (a11 : PySem.W.findIn K (.ref e_cBook) "need_place" = some (some (.ref f11)))
    (i11 : PySem.W.isFn K (.ref f11) = true)
    (l11 : K.lookup f11 = some ⟨oc11, od11, .func (PySem.W.fnOf "need_place" "Book.need_place" (defArgs s_Book_need_place) (defBody s_Book_need_place) (defScope s_Book_need_place) .none kV11 dc11 pm11 an11 cd11 ct11), sl11⟩)
    (c11 : PySem.W.codeIn K cd11 "Book.need_place" = true)
    (k11 : PySem.W.keepIn K (.ref f11) = true)
    (a12 : PySem.W.findIn K (.ref e_cBook) "begins_at" = some (some (.ref f12)))
    (i12 : PySem.W.isFn K (.ref f12) = true)
    (l12 : K.lookup f12 = some ⟨oc12, od12, .func (PySem.W.fnOf "begins_at" "Book.begins_at" (defArgs s_Book_begins_at) (defBody s_Book_begins_at) (defScope s_Book_begins_at) .none kV12 dc12 pm12 an12 cd12 ct12), sl12⟩)
    (c12 : PySem.W.codeIn K cd12 "Book.begins_at" = true)
    (k12 : PySem.W.keepIn K (.ref f12) = true)
    (a13 : PySem.W.findIn K (.ref e_cBook) "ends_at" = some (some (.ref f13)))
    (i13 : PySem.W.isFn K (.ref f13) = true)
    (l13 : K.lookup f13 = some ⟨oc13, od13, .func (PySem.W.fnOf "ends_at" "Book.ends_at" (defArgs s_Book_ends_at) (defBody s_Book_ends_at) (defScope s_Book_ends_at) .none kV13 dc13 pm13 an13 cd13 ct13), sl13⟩)
    (c13 : PySem.W.codeIn K cd13 "Book.ends_at" = true)
    (k13 : PySem.W.keepIn K (.ref f13) = true)
    (a14 : PySem.W.findIn K (.ref e_cBook) "longest" = some (some (.ref f14)))
    (i14 : PySem.W.isFn K (.ref f14) = true)
    (l14 : K.lookup f14 = some ⟨oc14, od14, .func (PySem.W.fnOf "longest" "Book.longest" (defArgs s_Book_longest) (defBody s_Book_longest) (defScope s_Book_longest) .none kV14 dc14 pm14 an14 cd14 ct14), sl14⟩)
    (c14 : PySem.W.codeIn K cd14 "Book.longest" = true)
    (k14 : PySem.W.keepIn K (.ref f14) = true)
    (a15 : PySem.W.findIn K (.ref e_cBook) "need_room" = some (some (.ref f15)))
    (i15 : PySem.W.isFn K (.ref f15) = true)
    (l15 : K.lookup f15 = some ⟨oc15, od15, .func (PySem.W.fnOf "need_room" "Book.need_room" (defArgs s_Book_need_room) (defBody s_Book_need_room) (defScope s_Book_need_room) .none kV15 dc15 pm15 an15 cd15 ct15), sl15⟩)
    (c15 : PySem.W.codeIn K cd15 "Book.need_room" = true)
    (k15 : PySem.W.keepIn K (.ref f15) = true)
    (a16 : PySem.W.findIn K (.ref e_cBook) "grown" = some (some (.ref f16)))
    (i16 : PySem.W.isFn K (.ref f16) = true)
    (l16 : K.lookup f16 = some ⟨oc16, od16, .func (PySem.W.fnOf "grown" "Book.grown" (defArgs s_Book_grown) (defBody s_Book_grown) (defScope s_Book_grown) .none kV16 dc16 pm16 an16 cd16 ct16), sl16⟩)
    (c16 : PySem.W.codeIn K cd16 "Book.grown" = true)
    (k16 : PySem.W.keepIn K (.ref f16) = true)
    (a17 : PySem.W.findIn K (.ref e_cBook) "met" = some (some (.ref f17)))
    (i17 : PySem.W.isFn K (.ref f17) = true)
    (l17 : K.lookup f17 = some ⟨oc17, od17, .func (PySem.W.fnOf "met" "Book.met" (defArgs s_Book_met) (defBody s_Book_met) (defScope s_Book_met) .none kV17 dc17 pm17 an17 cd17 ct17), sl17⟩)
    (c17 : PySem.W.codeIn K cd17 "Book.met" = true)
    (k17 : PySem.W.keepIn K (.ref f17) = true)
    (a18 : PySem.W.findIn K (.ref e_cBook) "lost" = some (some (.ref f18)))
    (i18 : PySem.W.isFn K (.ref f18) = true)
    (l18 : K.lookup f18 = some ⟨oc18, od18, .func (PySem.W.fnOf "lost" "Book.lost" (defArgs s_Book_lost) (defBody s_Book_lost) (defScope s_Book_lost) .none kV18 dc18 pm18 an18 cd18 ct18), sl18⟩)
    (c18 : PySem.W.codeIn K cd18 "Book.lost" = true)
    (k18 : PySem.W.keepIn K (.ref f18) = true)
    (a19 : PySem.W.findIn K (.ref e_cBook) "put_last" = some (some (.ref f19)))
    (i19 : PySem.W.isFn K (.ref f19) = true)
    (l19 : K.lookup f19 = some ⟨oc19, od19, .func (PySem.W.fnOf "put_last" "Book.put_last" (defArgs s_Book_put_last) (defBody s_Book_put_last) (defScope s_Book_put_last) .none kV19 dc19 pm19 an19 cd19 ct19), sl19⟩)
    (c19 : PySem.W.codeIn K cd19 "Book.put_last" = true)
    (k19 : PySem.W.keepIn K (.ref f19) = true)
    (a20 : PySem.W.findIn K (.ref e_cBook) "put_first" = some (some (.ref f20)))
    (i20 : PySem.W.isFn K (.ref f20) = true)
    (l20 : K.lookup f20 = some ⟨oc20, od20, .func (PySem.W.fnOf "put_first" "Book.put_first" (defArgs s_Book_put_first) (defBody s_Book_put_first) (defScope s_Book_put_first) .none kV20 dc20 pm20 an20 cd20 ct20), sl20⟩)
    (c20 : PySem.W.codeIn K cd20 "Book.put_first" = true)
    (k20 : PySem.W.keepIn K (.ref f20) = true)
    (a21 : PySem.W.findIn K (.ref e_cBook) "cut_last" = some (some (.ref f21)))
    (i21 : PySem.W.isFn K (.ref f21) = true)
    (l21 : K.lookup f21 = some ⟨oc21, od21, .func (PySem.W.fnOf "cut_last" "Book.cut_last" (defArgs s_Book_cut_last) (defBody s_Book_cut_last) (defScope s_Book_cut_last) .none kV21 dc21 pm21 an21 cd21 ct21), sl21⟩)
    (c21 : PySem.W.codeIn K cd21 "Book.cut_last" = true)
    (k21 : PySem.W.keepIn K (.ref f21) = true)
    (a22 : PySem.W.findIn K (.ref e_cBook) "cut_first" = some (some (.ref f22)))
    (i22 : PySem.W.isFn K (.ref f22) = true)
    (l22 : K.lookup f22 = some ⟨oc22, od22, .func (PySem.W.fnOf "cut_first" "Book.cut_first" (defArgs s_Book_cut_first) (defBody s_Book_cut_first) (defScope s_Book_cut_first) .none kV22 dc22 pm22 an22 cd22 ct22), sl22⟩)
    (c22 : PySem.W.codeIn K cd22 "Book.cut_first" = true)
    (k22 : PySem.W.keepIn K (.ref f22) = true)
    (a23 : PySem.W.nsIn K mainGlobals "_law_draw" = some (some (.ref f23)))
    (l23 : K.lookup f23 = some ⟨oc23, od23, .func (PySem.W.fnOf "_law_draw" "_law_draw" (defArgs s__law_draw) (defBody s__law_draw) (defScope s__law_draw) .none kV23 dc23 pm23 an23 cd23 ct23), sl23⟩)
    (c23 : PySem.W.codeIn K cd23 "_law_draw" = true)
    (k23 : PySem.W.keepIn K (.ref f23) = true)
    (a24 : PySem.W.nsIn K mainGlobals "_law_word" = some (some (.ref f24)))
    (l24 : K.lookup f24 = some ⟨oc24, od24, .func (PySem.W.fnOf "_law_word" "_law_word" (defArgs s__law_word) (defBody s__law_word) (defScope s__law_word) .none kV24 dc24 pm24 an24 cd24 ct24), sl24⟩)
    (c24 : PySem.W.codeIn K cd24 "_law_word" = true)
    (k24 : PySem.W.keepIn K (.ref f24) = true)
    (a25 : PySem.W.nsIn K mainGlobals "_law_done" = some (some (.ref f25)))
    (l25 : K.lookup f25 = some ⟨oc25, od25, .func (PySem.W.fnOf "_law_done" "_law_done" (defArgs s__law_done) (defBody s__law_done) (defScope s__law_done) .none kV25 dc25 pm25 an25 cd25 ct25), sl25⟩)
    (c25 : PySem.W.codeIn K cd25 "_law_done" = true)
    (k25 : PySem.W.keepIn K (.ref f25) = true)
    (a26 : PySem.W.nsIn K mainGlobals "_law_said" = some (some (.ref f26)))
    (l26 : K.lookup f26 = some ⟨oc26, od26, .func (PySem.W.fnOf "_law_said" "_law_said" (defArgs s__law_said) (defBody s__law_said) (defScope s__law_said) .none kV26 dc26 pm26 an26 cd26 ct26), sl26⟩)
    (c26 : PySem.W.codeIn K cd26 "_law_said" = true)
    (k26 : PySem.W.keepIn K (.ref f26) = true)
    (a27 : PySem.W.nsIn K mainGlobals "_law_refusal" = some (some (.ref f27)))
    (l27 : K.lookup f27 = some ⟨oc27, od27, .func (PySem.W.fnOf "_law_refusal" "_law_refusal" (defArgs s__law_refusal) (defBody s__law_refusal) (defScope s__law_refusal) .none kV27 dc27 pm27 an27 cd27 ct27), sl27⟩)
    (c27 : PySem.W.codeIn K cd27 "_law_refusal" = true)
    (k27 : PySem.W.keepIn K (.ref f27) = true)
    (a28 : PySem.W.nsIn K mainGlobals "_law_kept" = some (some (.ref f28)))
    (l28 : K.lookup f28 = some ⟨oc28, od28, .func (PySem.W.fnOf "_law_kept" "_law_kept" (defArgs s__law_kept) (defBody s__law_kept) (defScope s__law_kept) .none kV28 dc28 pm28 an28 cd28 ct28), sl28⟩)
    (c28 : PySem.W.codeIn K cd28 "_law_kept" = true)
    (k28 : PySem.W.keepIn K (.ref f28) = true)
    (a29 : PySem.W.nsIn K mainGlobals "law" = some (some (.ref f29)))
    (l29 : K.lookup f29 = some ⟨oc29, od29, .func (PySem.W.fnOf "law" "law" (defArgs s_law) (defBody s_law) (defScope s_law) .none kV29 dc29 pm29 an29 cd29 ct29), sl29⟩)
    (c29 : PySem.W.codeIn K cd29 "law" = true)
    (k29 : PySem.W.keepIn K (.ref f29) = true)
    (n_ValueError : PySem.W.nsIn K mainGlobals "ValueError" = some none)
    (n_all : PySem.W.nsIn K mainGlobals "all" = some none)
    (n_bool : PySem.W.nsIn K mainGlobals "bool" = some none)
    (n_int : PySem.W.nsIn K mainGlobals "int" = some none)
    (n_isinstance : PySem.W.nsIn K mainGlobals "isinstance" = some none)
    (n_len : PySem.W.nsIn K mainGlobals "len" = some none)
    (n_max : PySem.W.nsIn K mainGlobals "max" = some none)
    (n_range : PySem.W.nsIn K mainGlobals "range" = some none)
    (n_sorted : PySem.W.nsIn K mainGlobals "sorted" = some none)
    (n_str : PySem.W.nsIn K mainGlobals "str" = some none)
    (g_LETTERS : PySem.W.nsIn K mainGlobals "LETTERS" = some (some (.str (PySem.Str.ofString "abcdefghijklmnopqrstuvwxyz") t_LETTERS)))
    (g_MOST : PySem.W.nsIn K mainGlobals "MOST" = some (some (.int 200 t_MOST)))
    (xx_BadLetter : PySem.W.excIn K e_cBL [.type "ValueError", .type "Exception", .type "BaseException", .type "object"] "ValueError.__new__" = true)
    (xk_BadLetter : PySem.W.keepIn K (.ref e_cBL) = true)
    (xs_BadLetter : PySem.W.subIn K (.ref e_cBL) (.type "BaseException") = some true)
    (xt_BadLetter : PySem.W.typeIn K (.ref e_cBL) = some (.type "type"))
    (xx_BadText : PySem.W.excIn K e_cBT [.type "ValueError", .type "Exception", .type "BaseException", .type "object"] "ValueError.__new__" = true)
    (xk_BadText : PySem.W.keepIn K (.ref e_cBT) = true)
    (xs_BadText : PySem.W.subIn K (.ref e_cBT) (.type "BaseException") = some true)
    (xt_BadText : PySem.W.typeIn K (.ref e_cBT) = some (.type "type"))
    (xx_BadWord : PySem.W.excIn K e_cBW [.type "ValueError", .type "Exception", .type "BaseException", .type "object"] "ValueError.__new__" = true)
    (xk_BadWord : PySem.W.keepIn K (.ref e_cBW) = true)
    (xs_BadWord : PySem.W.subIn K (.ref e_cBW) (.type "BaseException") = some true)
    (xt_BadWord : PySem.W.typeIn K (.ref e_cBW) = some (.type "type"))
    (xx_Full : PySem.W.excIn K e_cFu [.type "ValueError", .type "Exception", .type "BaseException", .type "object"] "ValueError.__new__" = true)
    (xk_Full : PySem.W.keepIn K (.ref e_cFu) = true)
    (xs_Full : PySem.W.subIn K (.ref e_cFu) (.type "BaseException") = some true)
    (xt_Full : PySem.W.typeIn K (.ref e_cFu) = some (.type "type"))
    (xx_NoPlace : PySem.W.excIn K e_cNP [.type "ValueError", .type "Exception", .type "BaseException", .type "object"] "ValueError.__new__" = true)
    (xk_NoPlace : PySem.W.keepIn K (.ref e_cNP) = true)
    (xs_NoPlace : PySem.W.subIn K (.ref e_cNP) (.type "BaseException") = some true)
    (xt_NoPlace : PySem.W.typeIn K (.ref e_cNP) = some (.type "type"))
    (sn : PySem.W.specialIn K (.builtin "object.__class__") "__get__" = some (some (.builtin "getset_descriptor.__get__")))
    (st : PySem.W.takesIn K (.builtin "object.__class__") = some true)
    (yg_BadText : PySem.W.findIn K (.ref e_cBT) "__getattribute__" = some (some (.builtin "BaseException.__getattribute__")))
    (yk_BadText : PySem.W.findIn K (.ref e_cBT) "__getattr__" = some none)
    (ys_BadText : PySem.W.subIn K (.ref e_cBT) (.type "BaseException") = some true)
    (yd_BadText : PySem.W.hasDictIn K e_cBT = true)
    (ya_BadText : PySem.W.findIn K (.ref e_cBT) "__class__" = some (some (.builtin "object.__class__")))
    (ym_BadText : PySem.W.mroIn K e_cBT (.type "object") = some true)
    (yx_BadText : PySem.W.subIn K (.ref e_cBT) (.ref e_cME) = some true)
    (yv_BadText : PySem.W.subIn K (.ref e_cBT) (.type "ValueError") = some true)
    (y_BadText_cBL : PySem.W.subIn K (.ref e_cBT) (.ref e_cBL) = some false)
    (d_BadText_cBL : (Value.ref e_cBT == Value.ref e_cBL) = false)
    (y_BadText_cBW : PySem.W.subIn K (.ref e_cBT) (.ref e_cBW) = some false)
    (d_BadText_cBW : (Value.ref e_cBT == Value.ref e_cBW) = false)
    (y_BadText_cBA : PySem.W.subIn K (.ref e_cBT) (.ref e_cBA) = some false)
    (d_BadText_cBA : (Value.ref e_cBT == Value.ref e_cBA) = false)
    (y_BadText_cNT : PySem.W.subIn K (.ref e_cBT) (.ref e_cNT) = some false)
    (d_BadText_cNT : (Value.ref e_cBT == Value.ref e_cNT) = false)
    (y_BadText_cNP : PySem.W.subIn K (.ref e_cBT) (.ref e_cNP) = some false)
    (d_BadText_cNP : (Value.ref e_cBT == Value.ref e_cNP) = false)
    (y_BadText_cFu : PySem.W.subIn K (.ref e_cBT) (.ref e_cFu) = some false)
    (d_BadText_cFu : (Value.ref e_cBT == Value.ref e_cFu) = false)
    (yg_BadLetter : PySem.W.findIn K (.ref e_cBL) "__getattribute__" = some (some (.builtin "BaseException.__getattribute__")))
    (yk_BadLetter : PySem.W.findIn K (.ref e_cBL) "__getattr__" = some none)
    (ys_BadLetter : PySem.W.subIn K (.ref e_cBL) (.type "BaseException") = some true)
    (yd_BadLetter : PySem.W.hasDictIn K e_cBL = true)
    (ya_BadLetter : PySem.W.findIn K (.ref e_cBL) "__class__" = some (some (.builtin "object.__class__")))
    (ym_BadLetter : PySem.W.mroIn K e_cBL (.type "object") = some true)
    (yx_BadLetter : PySem.W.subIn K (.ref e_cBL) (.ref e_cME) = some true)
    (yv_BadLetter : PySem.W.subIn K (.ref e_cBL) (.type "ValueError") = some true)
    (y_BadLetter_cBT : PySem.W.subIn K (.ref e_cBL) (.ref e_cBT) = some false)
    (d_BadLetter_cBT : (Value.ref e_cBL == Value.ref e_cBT) = false)
    (y_BadLetter_cBW : PySem.W.subIn K (.ref e_cBL) (.ref e_cBW) = some false)
    (d_BadLetter_cBW : (Value.ref e_cBL == Value.ref e_cBW) = false)
    (y_BadLetter_cBA : PySem.W.subIn K (.ref e_cBL) (.ref e_cBA) = some false)
    (d_BadLetter_cBA : (Value.ref e_cBL == Value.ref e_cBA) = false)
    (y_BadLetter_cNT : PySem.W.subIn K (.ref e_cBL) (.ref e_cNT) = some false)
    (d_BadLetter_cNT : (Value.ref e_cBL == Value.ref e_cNT) = false)
    (y_BadLetter_cNP : PySem.W.subIn K (.ref e_cBL) (.ref e_cNP) = some false)
    (d_BadLetter_cNP : (Value.ref e_cBL == Value.ref e_cNP) = false)
    (y_BadLetter_cFu : PySem.W.subIn K (.ref e_cBL) (.ref e_cFu) = some false)
    (d_BadLetter_cFu : (Value.ref e_cBL == Value.ref e_cFu) = false)
    (yg_BadWord : PySem.W.findIn K (.ref e_cBW) "__getattribute__" = some (some (.builtin "BaseException.__getattribute__")))
    (yk_BadWord : PySem.W.findIn K (.ref e_cBW) "__getattr__" = some none)
    (ys_BadWord : PySem.W.subIn K (.ref e_cBW) (.type "BaseException") = some true)
    (yd_BadWord : PySem.W.hasDictIn K e_cBW = true)
    (ya_BadWord : PySem.W.findIn K (.ref e_cBW) "__class__" = some (some (.builtin "object.__class__")))
    (ym_BadWord : PySem.W.mroIn K e_cBW (.type "object") = some true)
    (yx_BadWord : PySem.W.subIn K (.ref e_cBW) (.ref e_cME) = some true)
    (yv_BadWord : PySem.W.subIn K (.ref e_cBW) (.type "ValueError") = some true)
    (y_BadWord_cBT : PySem.W.subIn K (.ref e_cBW) (.ref e_cBT) = some false)
    (d_BadWord_cBT : (Value.ref e_cBW == Value.ref e_cBT) = false)
    (y_BadWord_cBL : PySem.W.subIn K (.ref e_cBW) (.ref e_cBL) = some false)
    (d_BadWord_cBL : (Value.ref e_cBW == Value.ref e_cBL) = false)
    (y_BadWord_cBA : PySem.W.subIn K (.ref e_cBW) (.ref e_cBA) = some false)
    (d_BadWord_cBA : (Value.ref e_cBW == Value.ref e_cBA) = false)
    (y_BadWord_cNT : PySem.W.subIn K (.ref e_cBW) (.ref e_cNT) = some false)
    (d_BadWord_cNT : (Value.ref e_cBW == Value.ref e_cNT) = false)
    (y_BadWord_cNP : PySem.W.subIn K (.ref e_cBW) (.ref e_cNP) = some false)
    (d_BadWord_cNP : (Value.ref e_cBW == Value.ref e_cNP) = false)
    (y_BadWord_cFu : PySem.W.subIn K (.ref e_cBW) (.ref e_cFu) = some false)
    (d_BadWord_cFu : (Value.ref e_cBW == Value.ref e_cFu) = false)
    (yg_NoPlace : PySem.W.findIn K (.ref e_cNP) "__getattribute__" = some (some (.builtin "BaseException.__getattribute__")))
    (yk_NoPlace : PySem.W.findIn K (.ref e_cNP) "__getattr__" = some none)
    (ys_NoPlace : PySem.W.subIn K (.ref e_cNP) (.type "BaseException") = some true)
    (yd_NoPlace : PySem.W.hasDictIn K e_cNP = true)
    (ya_NoPlace : PySem.W.findIn K (.ref e_cNP) "__class__" = some (some (.builtin "object.__class__")))
    (ym_NoPlace : PySem.W.mroIn K e_cNP (.type "object") = some true)
    (yx_NoPlace : PySem.W.subIn K (.ref e_cNP) (.ref e_cME) = some true)
    (yv_NoPlace : PySem.W.subIn K (.ref e_cNP) (.type "ValueError") = some true)
    (y_NoPlace_cBT : PySem.W.subIn K (.ref e_cNP) (.ref e_cBT) = some false)
    (d_NoPlace_cBT : (Value.ref e_cNP == Value.ref e_cBT) = false)
    (y_NoPlace_cBL : PySem.W.subIn K (.ref e_cNP) (.ref e_cBL) = some false)
    (d_NoPlace_cBL : (Value.ref e_cNP == Value.ref e_cBL) = false)
    (y_NoPlace_cBW : PySem.W.subIn K (.ref e_cNP) (.ref e_cBW) = some false)
    (d_NoPlace_cBW : (Value.ref e_cNP == Value.ref e_cBW) = false)
    (y_NoPlace_cBA : PySem.W.subIn K (.ref e_cNP) (.ref e_cBA) = some false)
    (d_NoPlace_cBA : (Value.ref e_cNP == Value.ref e_cBA) = false)
    (y_NoPlace_cNT : PySem.W.subIn K (.ref e_cNP) (.ref e_cNT) = some false)
    (d_NoPlace_cNT : (Value.ref e_cNP == Value.ref e_cNT) = false)
    (y_NoPlace_cFu : PySem.W.subIn K (.ref e_cNP) (.ref e_cFu) = some false)
    (d_NoPlace_cFu : (Value.ref e_cNP == Value.ref e_cFu) = false)
    (yg_Full : PySem.W.findIn K (.ref e_cFu) "__getattribute__" = some (some (.builtin "BaseException.__getattribute__")))
    (yk_Full : PySem.W.findIn K (.ref e_cFu) "__getattr__" = some none)
    (ys_Full : PySem.W.subIn K (.ref e_cFu) (.type "BaseException") = some true)
    (yd_Full : PySem.W.hasDictIn K e_cFu = true)
    (ya_Full : PySem.W.findIn K (.ref e_cFu) "__class__" = some (some (.builtin "object.__class__")))
    (ym_Full : PySem.W.mroIn K e_cFu (.type "object") = some true)
    (yx_Full : PySem.W.subIn K (.ref e_cFu) (.ref e_cME) = some true)
    (yv_Full : PySem.W.subIn K (.ref e_cFu) (.type "ValueError") = some true)
    (y_Full_cBT : PySem.W.subIn K (.ref e_cFu) (.ref e_cBT) = some false)
    (d_Full_cBT : (Value.ref e_cFu == Value.ref e_cBT) = false)
    (y_Full_cBL : PySem.W.subIn K (.ref e_cFu) (.ref e_cBL) = some false)
    (d_Full_cBL : (Value.ref e_cFu == Value.ref e_cBL) = false)
    (y_Full_cBW : PySem.W.subIn K (.ref e_cFu) (.ref e_cBW) = some false)
    (d_Full_cBW : (Value.ref e_cFu == Value.ref e_cBW) = false)
    (y_Full_cBA : PySem.W.subIn K (.ref e_cFu) (.ref e_cBA) = some false)
    (d_Full_cBA : (Value.ref e_cFu == Value.ref e_cBA) = false)
    (y_Full_cNT : PySem.W.subIn K (.ref e_cFu) (.ref e_cNT) = some false)
    (d_Full_cNT : (Value.ref e_cFu == Value.ref e_cNT) = false)
    (y_Full_cNP : PySem.W.subIn K (.ref e_cFu) (.ref e_cNP) = some false)
    (d_Full_cNP : (Value.ref e_cFu == Value.ref e_cNP) = false)
    (me1 : PySem.W.subIn K (.ref e_cME) (.type "BaseException") = some true)
    (me2 : PySem.W.hasDictIn K e_cME = true)
    (me3 : PySem.W.typeIn K (.ref e_cME) = some (.type "type"))
    (is_cBT : PySem.W.isClsIn K e_cBT = true)
    (it_cBT : PySem.W.typeIn K (.ref e_cBT) = some (.type "type"))
    (is_cBL : PySem.W.isClsIn K e_cBL = true)
    (it_cBL : PySem.W.typeIn K (.ref e_cBL) = some (.type "type"))
    (is_cBW : PySem.W.isClsIn K e_cBW = true)
    (it_cBW : PySem.W.typeIn K (.ref e_cBW) = some (.type "type"))
    (is_cBA : PySem.W.isClsIn K e_cBA = true)
    (it_cBA : PySem.W.typeIn K (.ref e_cBA) = some (.type "type"))
    (is_cNT : PySem.W.isClsIn K e_cNT = true)
    (it_cNT : PySem.W.typeIn K (.ref e_cNT) = some (.type "type"))
    (is_cNP : PySem.W.isClsIn K e_cNP = true)
    (it_cNP : PySem.W.typeIn K (.ref e_cNP) = some (.type "type"))
    (is_cFu : PySem.W.isClsIn K e_cFu = true)
    (it_cFu : PySem.W.typeIn K (.ref e_cFu) = some (.type "type"))
    (pg_Book : PySem.W.plainGet K e_cBook Str.empty = true)
    (hd_Book : PySem.W.hasDictIn K e_cBook = true)
    (po_Book : PySem.W.plainOver K e_cBook = true)
    (sa_Book : PySem.W.findIn K (.ref e_cBook) "__setattr__" = some (some (.builtin "object.__setattr__")))
    (mk_Book : PySem.W.makesIn K e_cBook = true)
    (kc_Book : PySem.W.keepIn K (.ref e_cBook) = true)
    (na_Book_letters : PySem.W.findIn K (.ref e_cBook) "letters" = some none)
    (na_Book_heads : PySem.W.findIn K (.ref e_cBook) "heads" = some none)
    (na_Book_ends : PySem.W.findIn K (.ref e_cBook) "ends" = some none)
    (na_Book_told : PySem.W.findIn K (.ref e_cBook) "told" = some none)
    (na_Book_tails : PySem.W.findIn K (.ref e_cBook) "tails" = some none)
    : ∃ fd : FuncData, (∀ (s : Shared) (v : Value), BindsTo s fd ⟨[v], []⟩ [("_law_script", v)]) ∧ ∀ base : Heap, K.In base → base.Ns mainGlobals mg → FnOk l.prog w K mg base CX0 9 fa fd ["_law_script"] (spL0 K) := by
  have e := hfa.symm.trans (PySem.W.mg_of X G a29)
  cases e
  have W : Wd (⟨K, e_cME, e_cBT, e_cBL, e_cBW, e_cBA, e_cNT, e_cNP, e_cFu, e_cBook, 0⟩ : Ad) mg := { n_ValueError := PySem.W.mg_none_of X G n_ValueError, n_all := PySem.W.mg_none_of X G n_all, n_bool := PySem.W.mg_none_of X G n_bool, n_int := PySem.W.mg_none_of X G n_int, n_isinstance := PySem.W.mg_none_of X G n_isinstance, n_len := PySem.W.mg_none_of X G n_len, n_max := PySem.W.mg_none_of X G n_max, n_range := PySem.W.mg_none_of X G n_range, n_sorted := PySem.W.mg_none_of X G n_sorted, n_str := PySem.W.mg_none_of X G n_str, g_LETTERS := ⟨t_LETTERS, (PySem.W.mg_of X G g_LETTERS).trans (by rw [show PySem.Str.ofString "abcdefghijklmnopqrstuvwxyz" = T letters by decide +kernel])⟩, g_MOST := ⟨t_MOST, PySem.W.mg_of X G g_MOST⟩, g_MirrorError := PySem.W.mg_of X G g_MirrorError, g_BadText := PySem.W.mg_of X G g_BadText, g_BadLetter := PySem.W.mg_of X G g_BadLetter, g_BadWord := PySem.W.mg_of X G g_BadWord, g_BadArms := PySem.W.mg_of X G g_BadArms, g_NoText := PySem.W.mg_of X G g_NoText, g_NoPlace := PySem.W.mg_of X G g_NoPlace, g_Full := PySem.W.mg_of X G g_Full, x_BadLetter := ⟨PySem.W.mg_of X G g_BadLetter, xx_BadLetter, xk_BadLetter, xs_BadLetter, xt_BadLetter⟩, x_BadText := ⟨PySem.W.mg_of X G g_BadText, xx_BadText, xk_BadText, xs_BadText, xt_BadText⟩, x_BadWord := ⟨PySem.W.mg_of X G g_BadWord, xx_BadWord, xk_BadWord, xs_BadWord, xt_BadWord⟩, x_Full := ⟨PySem.W.mg_of X G g_Full, xx_Full, xk_Full, xs_Full, xt_Full⟩, x_NoPlace := ⟨PySem.W.mg_of X G g_NoPlace, xx_NoPlace, xk_NoPlace, xs_NoPlace, xt_NoPlace⟩, k_BadText := ⟨⟨yg_BadText, yk_BadText, ys_BadText, yd_BadText, ya_BadText, sn, st, ym_BadText⟩, PySem.W.exm_ref me1 me2 me3 yx_BadText, kit_ve yv_BadText, kit_self, kit_cls is_cBL it_cBL y_BadText_cBL d_BadText_cBL, kit_cls is_cBW it_cBW y_BadText_cBW d_BadText_cBW, kit_cls is_cBA it_cBA y_BadText_cBA d_BadText_cBA, kit_cls is_cNT it_cNT y_BadText_cNT d_BadText_cNT, kit_cls is_cNP it_cNP y_BadText_cNP d_BadText_cNP, kit_cls is_cFu it_cFu y_BadText_cFu d_BadText_cFu⟩, k_BadLetter := ⟨⟨yg_BadLetter, yk_BadLetter, ys_BadLetter, yd_BadLetter, ya_BadLetter, sn, st, ym_BadLetter⟩, PySem.W.exm_ref me1 me2 me3 yx_BadLetter, kit_ve yv_BadLetter, kit_cls is_cBT it_cBT y_BadLetter_cBT d_BadLetter_cBT, kit_self, kit_cls is_cBW it_cBW y_BadLetter_cBW d_BadLetter_cBW, kit_cls is_cBA it_cBA y_BadLetter_cBA d_BadLetter_cBA, kit_cls is_cNT it_cNT y_BadLetter_cNT d_BadLetter_cNT, kit_cls is_cNP it_cNP y_BadLetter_cNP d_BadLetter_cNP, kit_cls is_cFu it_cFu y_BadLetter_cFu d_BadLetter_cFu⟩, k_BadWord := ⟨⟨yg_BadWord, yk_BadWord, ys_BadWord, yd_BadWord, ya_BadWord, sn, st, ym_BadWord⟩, PySem.W.exm_ref me1 me2 me3 yx_BadWord, kit_ve yv_BadWord, kit_cls is_cBT it_cBT y_BadWord_cBT d_BadWord_cBT, kit_cls is_cBL it_cBL y_BadWord_cBL d_BadWord_cBL, kit_self, kit_cls is_cBA it_cBA y_BadWord_cBA d_BadWord_cBA, kit_cls is_cNT it_cNT y_BadWord_cNT d_BadWord_cNT, kit_cls is_cNP it_cNP y_BadWord_cNP d_BadWord_cNP, kit_cls is_cFu it_cFu y_BadWord_cFu d_BadWord_cFu⟩, k_NoPlace := ⟨⟨yg_NoPlace, yk_NoPlace, ys_NoPlace, yd_NoPlace, ya_NoPlace, sn, st, ym_NoPlace⟩, PySem.W.exm_ref me1 me2 me3 yx_NoPlace, kit_ve yv_NoPlace, kit_cls is_cBT it_cBT y_NoPlace_cBT d_NoPlace_cBT, kit_cls is_cBL it_cBL y_NoPlace_cBL d_NoPlace_cBL, kit_cls is_cBW it_cBW y_NoPlace_cBW d_NoPlace_cBW, kit_cls is_cBA it_cBA y_NoPlace_cBA d_NoPlace_cBA, kit_cls is_cNT it_cNT y_NoPlace_cNT d_NoPlace_cNT, kit_self, kit_cls is_cFu it_cFu y_NoPlace_cFu d_NoPlace_cFu⟩, k_Full := ⟨⟨yg_Full, yk_Full, ys_Full, yd_Full, ya_Full, sn, st, ym_Full⟩, PySem.W.exm_ref me1 me2 me3 yx_Full, kit_ve yv_Full, kit_cls is_cBT it_cBT y_Full_cBT d_Full_cBT, kit_cls is_cBL it_cBL y_Full_cBL d_Full_cBL, kit_cls is_cBW it_cBW y_Full_cBW d_Full_cBW, kit_cls is_cBA it_cBA y_Full_cBA d_Full_cBA, kit_cls is_cNT it_cNT y_Full_cNT d_Full_cNT, kit_cls is_cNP it_cNP y_Full_cNP d_Full_cNP, kit_self⟩, cl_Book := ⟨⟨pg_Book, hd_Book, po_Book, sa_Book⟩, na_Book_letters, na_Book_heads, na_Book_ends, na_Book_told, na_Book_tails⟩ }
  refine ⟨PySem.W.fnOf "law" "law" (defArgs s_law) (defBody s_law) (defScope s_law) .none kV29 dc29 pm29 an29 cd29 ct29, fun s v => .of_eq rfl, fun base _ _ => ?_⟩
  have F0 := fun_mk (st := s_is_whole) l0 c0 k0
  have O0 := ok_is_whole (P := l.prog) (w := w) (A := ⟨K, e_cME, e_cBT, e_cBL, e_cBW, e_cBA, e_cNT, e_cNP, e_cFu, e_cBook, 0⟩) (mg := mg) (base := base) F0 W 
  have b0 := F0.binds (ps := ["thing"]) fun _ _ _ _ _ _ us hl => match us, hl with | [_], _ => rfl
  have C0 : Cal l.prog w K mg base CX0 1 "is_whole" ["thing"] (sp_is_whole ⟨K, e_cME, e_cBT, e_cBL, e_cBW, e_cBA, e_cNT, e_cNP, e_cFu, e_cBook, 0⟩) := ⟨⟨f0, _, O0, PySem.W.mg_of X G a0, k0, b0⟩⟩
  have F1 := fun_mk (st := s_is_letter) l1 c1 k1
  have O1 := ok_is_letter (P := l.prog) (w := w) (A := ⟨K, e_cME, e_cBT, e_cBL, e_cBW, e_cBA, e_cNT, e_cNP, e_cFu, e_cBook, 0⟩) (mg := mg) (base := base) F1 W 
  have b1 := F1.binds (ps := ["thing"]) fun _ _ _ _ _ _ us hl => match us, hl with | [_], _ => rfl
  have C1 : Cal l.prog w K mg base CX0 1 "is_letter" ["thing"] (sp_is_letter ⟨K, e_cME, e_cBT, e_cBL, e_cBW, e_cBA, e_cNT, e_cNP, e_cFu, e_cBook, 0⟩) := ⟨⟨f1, _, O1, PySem.W.mg_of X G a1, k1, b1⟩⟩
  have F2 := fun_mk (st := s_is_text) l2 c2 k2
  have O2 := ok_is_text (P := l.prog) (w := w) (A := ⟨K, e_cME, e_cBT, e_cBL, e_cBW, e_cBA, e_cNT, e_cNP, e_cFu, e_cBook, 0⟩) (mg := mg) (base := base) F2 W 
  have b2 := F2.binds (ps := ["thing"]) fun _ _ _ _ _ _ us hl => match us, hl with | [_], _ => rfl
  have C2 : Cal l.prog w K mg base CX0 1 "is_text" ["thing"] (sp_is_text ⟨K, e_cME, e_cBT, e_cBL, e_cBW, e_cBA, e_cNT, e_cNP, e_cFu, e_cBook, 0⟩) := ⟨⟨f2, _, O2, PySem.W.mg_of X G a2, k2, b2⟩⟩
  have F7 := fun_mk (st := s_Book_whole) l7 c7 k7
  have O7 := ok_Book_whole (P := l.prog) (w := w) (A := ⟨K, e_cME, e_cBT, e_cBL, e_cBW, e_cBA, e_cNT, e_cNP, e_cFu, e_cBook, 0⟩) (mg := mg) (base := base) F7 W 
  have b7 := F7.binds (ps := ["self"]) fun _ _ _ _ _ _ us hl => match us, hl with | [_], _ => rfl
  have C7 : Mcal l.prog w K mg base CX0 1 e_cBook "whole" ["self"] (sp_Book_whole ⟨K, e_cME, e_cBT, e_cBL, e_cBW, e_cBA, e_cNT, e_cNP, e_cFu, e_cBook, 0⟩) := ⟨⟨f7, _, O7, ⟨a7, i7, k7⟩, b7⟩⟩
  have F8 := fun_mk (st := s_Book_words) l8 c8 k8
  have O8 := ok_Book_words (P := l.prog) (w := w) (A := ⟨K, e_cME, e_cBT, e_cBL, e_cBW, e_cBA, e_cNT, e_cNP, e_cFu, e_cBook, 0⟩) (mg := mg) (base := base) F8 W 
  have b8 := F8.binds (ps := ["self"]) fun _ _ _ _ _ _ us hl => match us, hl with | [_], _ => rfl
  have C8 : Mcal l.prog w K mg base CX0 1 e_cBook "words" ["self"] (sp_Book_words ⟨K, e_cME, e_cBT, e_cBL, e_cBW, e_cBA, e_cNT, e_cNP, e_cFu, e_cBook, 0⟩) := ⟨⟨f8, _, O8, ⟨a8, i8, k8⟩, b8⟩⟩
  have F9 := fun_mk (st := s_Book_many) l9 c9 k9
  have O9 := ok_Book_many (P := l.prog) (w := w) (A := ⟨K, e_cME, e_cBT, e_cBL, e_cBW, e_cBA, e_cNT, e_cNP, e_cFu, e_cBook, 0⟩) (mg := mg) (base := base) F9 W 
  have b9 := F9.binds (ps := ["self"]) fun _ _ _ _ _ _ us hl => match us, hl with | [_], _ => rfl
  have C9 : Mcal l.prog w K mg base CX0 1 e_cBook "many" ["self"] (sp_Book_many ⟨K, e_cME, e_cBT, e_cBL, e_cBW, e_cBA, e_cNT, e_cNP, e_cFu, e_cBook, 0⟩) := ⟨⟨f9, _, O9, ⟨a9, i9, k9⟩, b9⟩⟩
  have F16 := fun_mk (st := s_Book_grown) l16 c16 k16
  have O16 := ok_Book_grown (P := l.prog) (w := w) (A := ⟨K, e_cME, e_cBT, e_cBL, e_cBW, e_cBA, e_cNT, e_cNP, e_cFu, e_cBook, 0⟩) (mg := mg) (base := base) F16 W 
  have b16 := F16.binds (ps := ["self", "word", "letter", "behind"]) fun _ _ _ _ _ _ us hl => match us, hl with | [_, _, _, _], _ => rfl
  have C16 : Mcal l.prog w K mg base CX0 1 e_cBook "grown" ["self", "word", "letter", "behind"] (sp_Book_grown ⟨K, e_cME, e_cBT, e_cBL, e_cBW, e_cBA, e_cNT, e_cNP, e_cFu, e_cBook, 0⟩) := ⟨⟨f16, _, O16, ⟨a16, i16, k16⟩, b16⟩⟩
  have F18 := fun_mk (st := s_Book_lost) l18 c18 k18
  have O18 := ok_Book_lost (P := l.prog) (w := w) (A := ⟨K, e_cME, e_cBT, e_cBL, e_cBW, e_cBA, e_cNT, e_cNP, e_cFu, e_cBook, 0⟩) (mg := mg) (base := base) F18 W 
  have b18 := F18.binds (ps := ["self", "word"]) fun _ _ _ _ _ _ us hl => match us, hl with | [_, _], _ => rfl
  have C18 : Mcal l.prog w K mg base CX0 1 e_cBook "lost" ["self", "word"] (sp_Book_lost ⟨K, e_cME, e_cBT, e_cBL, e_cBW, e_cBA, e_cNT, e_cNP, e_cFu, e_cBook, 0⟩) := ⟨⟨f18, _, O18, ⟨a18, i18, k18⟩, b18⟩⟩
  have F23 := fun_mk (st := s__law_draw) l23 c23 k23
  have O23 := ok__law_draw (P := l.prog) (w := w) (A := ⟨K, e_cME, e_cBT, e_cBL, e_cBW, e_cBA, e_cNT, e_cNP, e_cFu, e_cBook, 0⟩) (mg := mg) (base := base) F23 W 
  have b23 := F23.binds (ps := ["_law_script", "_law_k"]) fun _ _ _ _ _ _ us hl => match us, hl with | [_, _], _ => rfl
  have C23 : Cal l.prog w K mg base CX0 1 "_law_draw" ["_law_script", "_law_k"] (sp__law_draw ⟨K, e_cME, e_cBT, e_cBL, e_cBW, e_cBA, e_cNT, e_cNP, e_cFu, e_cBook, 0⟩) := ⟨⟨f23, _, O23, PySem.W.mg_of X G a23, k23, b23⟩⟩
  have F24 := fun_mk (st := s__law_word) l24 c24 k24
  have O24 := ok__law_word (P := l.prog) (w := w) (A := ⟨K, e_cME, e_cBT, e_cBL, e_cBW, e_cBA, e_cNT, e_cNP, e_cFu, e_cBook, 0⟩) (mg := mg) (base := base) F24 W 
  have b24 := F24.binds (ps := ["_law_caught"]) fun _ _ _ _ _ _ us hl => match us, hl with | [_], _ => rfl
  have C24 : Cal l.prog w K mg base CX0 1 "_law_word" ["_law_caught"] (sp__law_word ⟨K, e_cME, e_cBT, e_cBL, e_cBW, e_cBA, e_cNT, e_cNP, e_cFu, e_cBook, 0⟩) := ⟨⟨f24, _, O24, PySem.W.mg_of X G a24, k24, b24⟩⟩
  have F27 := fun_mk (st := s__law_refusal) l27 c27 k27
  have O27 := ok__law_refusal (P := l.prog) (w := w) (A := ⟨K, e_cME, e_cBT, e_cBL, e_cBW, e_cBA, e_cNT, e_cNP, e_cFu, e_cBook, 0⟩) (mg := mg) (base := base) F27 W 
  have b27 := F27.binds (ps := ["_law_text", "_law_cell"]) fun _ _ _ _ _ _ us hl => match us, hl with | [_, _], _ => rfl
  have C27 : Cal l.prog w K mg base CX0 1 "_law_refusal" ["_law_text", "_law_cell"] (sp__law_refusal ⟨K, e_cME, e_cBT, e_cBL, e_cBW, e_cBA, e_cNT, e_cNP, e_cFu, e_cBook, 0⟩) := ⟨⟨f27, _, O27, PySem.W.mg_of X G a27, k27, b27⟩⟩
  have F3 := fun_mk (st := s_need_text) l3 c3 k3
  have O3 := ok_need_text (P := l.prog) (w := w) (A := ⟨K, e_cME, e_cBT, e_cBL, e_cBW, e_cBA, e_cNT, e_cNP, e_cFu, e_cBook, 0⟩) (mg := mg) (base := base) F3 W C2
  have b3 := F3.binds (ps := ["thing"]) fun _ _ _ _ _ _ us hl => match us, hl with | [_], _ => rfl
  have C3 : Cal l.prog w K mg base (L2.CX l.prog w) 2 "need_text" ["thing"] (sp_need_text ⟨K, e_cME, e_cBT, e_cBL, e_cBW, e_cBA, e_cNT, e_cNP, e_cFu, e_cBook, 0⟩) := ⟨⟨f3, _, O3, PySem.W.mg_of X G a3, k3, b3⟩⟩
  have F4 := fun_mk (st := s_is_mirror) l4 c4 k4
  have O4 := ok_is_mirror (P := l.prog) (w := w) (A := ⟨K, e_cME, e_cBT, e_cBL, e_cBW, e_cBA, e_cNT, e_cNP, e_cFu, e_cBook, 0⟩) (mg := mg) (base := base) F4 W C2
  have b4 := F4.binds (ps := ["thing"]) fun _ _ _ _ _ _ us hl => match us, hl with | [_], _ => rfl
  have C4 : Cal l.prog w K mg base CX0 2 "is_mirror" ["thing"] (sp_is_mirror ⟨K, e_cME, e_cBT, e_cBL, e_cBW, e_cBA, e_cNT, e_cNP, e_cFu, e_cBook, 0⟩) := ⟨⟨f4, _, O4, PySem.W.mg_of X G a4, k4, b4⟩⟩
  have F11 := fun_mk (st := s_Book_need_place) l11 c11 k11
  have O11 := ok_Book_need_place (P := l.prog) (w := w) (A := ⟨K, e_cME, e_cBT, e_cBL, e_cBW, e_cBA, e_cNT, e_cNP, e_cFu, e_cBook, 0⟩) (mg := mg) (base := base) F11 W C0
  have b11 := F11.binds (ps := ["self", "place"]) fun _ _ _ _ _ _ us hl => match us, hl with | [_, _], _ => rfl
  have C11 : Mcal l.prog w K mg base (L2.CX l.prog w) 2 e_cBook "need_place" ["self", "place"] (sp_Book_need_place ⟨K, e_cME, e_cBT, e_cBL, e_cBW, e_cBA, e_cNT, e_cNP, e_cFu, e_cBook, 0⟩) := ⟨⟨f11, _, O11, ⟨a11, i11, k11⟩, b11⟩⟩
  have F15 := fun_mk (st := s_Book_need_room) l15 c15 k15
  have O15 := ok_Book_need_room (P := l.prog) (w := w) (A := ⟨K, e_cME, e_cBT, e_cBL, e_cBW, e_cBA, e_cNT, e_cNP, e_cFu, e_cBook, 0⟩) (mg := mg) (base := base) F15 W C1
  have b15 := F15.binds (ps := ["self", "letter"]) fun _ _ _ _ _ _ us hl => match us, hl with | [_, _], _ => rfl
  have C15 : Mcal l.prog w K mg base (L2.CX l.prog w) 2 e_cBook "need_room" ["self", "letter"] (sp_Book_need_room ⟨K, e_cME, e_cBT, e_cBL, e_cBW, e_cBA, e_cNT, e_cNP, e_cFu, e_cBook, 0⟩) := ⟨⟨f15, _, O15, ⟨a15, i15, k15⟩, b15⟩⟩
  have F17 := fun_mk (st := s_Book_met) l17 c17 k17
  have O17 := ok_Book_met (P := l.prog) (w := w) (A := ⟨K, e_cME, e_cBT, e_cBL, e_cBW, e_cBA, e_cNT, e_cNP, e_cFu, e_cBook, 0⟩) (mg := mg) (base := base) F17 W C16
  have b17 := F17.binds (ps := ["self", "word", "letter", "behind"]) fun _ _ _ _ _ _ us hl => match us, hl with | [_, _, _, _], _ => rfl
  have C17 : Mcal l.prog w K mg base CX0 2 e_cBook "met" ["self", "word", "letter", "behind"] (sp_Book_met ⟨K, e_cME, e_cBT, e_cBL, e_cBW, e_cBA, e_cNT, e_cNP, e_cFu, e_cBook, 0⟩) := ⟨⟨f17, _, O17, ⟨a17, i17, k17⟩, b17⟩⟩
  have F5 := fun_mk (st := s_need_mirror) l5 c5 k5
  have O5 := ok_need_mirror (P := l.prog) (w := w) (A := ⟨K, e_cME, e_cBT, e_cBL, e_cBW, e_cBA, e_cNT, e_cNP, e_cFu, e_cBook, 0⟩) (mg := mg) (base := base) F5 W C4
  have b5 := F5.binds (ps := ["thing"]) fun _ _ _ _ _ _ us hl => match us, hl with | [_], _ => rfl
  have C5 : Cal l.prog w K mg base (L2.CX l.prog w) 3 "need_mirror" ["thing"] (sp_need_mirror ⟨K, e_cME, e_cBT, e_cBL, e_cBW, e_cBA, e_cNT, e_cNP, e_cFu, e_cBook, 0⟩) := ⟨⟨f5, _, O5, PySem.W.mg_of X G a5, k5, b5⟩⟩
  have F12 := fun_mk (st := s_Book_begins_at) l12 c12 k12
  have O12 := ok_Book_begins_at (P := l.prog) (w := w) (A := ⟨K, e_cME, e_cBT, e_cBL, e_cBW, e_cBA, e_cNT, e_cNP, e_cFu, e_cBook, 0⟩) (mg := mg) (base := base) F12 W C7 C11
  have b12 := F12.binds (ps := ["self", "place"]) fun _ _ _ _ _ _ us hl => match us, hl with | [_, _], _ => rfl
  have C12 : Mcal l.prog w K mg base (L2.CX l.prog w) 3 e_cBook "begins_at" ["self", "place"] (sp_Book_begins_at ⟨K, e_cME, e_cBT, e_cBL, e_cBW, e_cBA, e_cNT, e_cNP, e_cFu, e_cBook, 0⟩) := ⟨⟨f12, _, O12, ⟨a12, i12, k12⟩, b12⟩⟩
  have F13 := fun_mk (st := s_Book_ends_at) l13 c13 k13
  have O13 := ok_Book_ends_at (P := l.prog) (w := w) (A := ⟨K, e_cME, e_cBT, e_cBL, e_cBW, e_cBA, e_cNT, e_cNP, e_cFu, e_cBook, 0⟩) (mg := mg) (base := base) F13 W C7 C11
  have b13 := F13.binds (ps := ["self", "place"]) fun _ _ _ _ _ _ us hl => match us, hl with | [_, _], _ => rfl
  have C13 : Mcal l.prog w K mg base (L2.CX l.prog w) 3 e_cBook "ends_at" ["self", "place"] (sp_Book_ends_at ⟨K, e_cME, e_cBT, e_cBL, e_cBW, e_cBA, e_cNT, e_cNP, e_cFu, e_cBook, 0⟩) := ⟨⟨f13, _, O13, ⟨a13, i13, k13⟩, b13⟩⟩
  have F10 := fun_mk (st := s_Book_count) l10 c10 k10
  have O10 := ok_Book_count (P := l.prog) (w := w) (A := ⟨K, e_cME, e_cBT, e_cBL, e_cBW, e_cBA, e_cNT, e_cNP, e_cFu, e_cBook, 0⟩) (mg := mg) (base := base) F10 W C5
  have b10 := F10.binds (ps := ["self", "word"]) fun _ _ _ _ _ _ us hl => match us, hl with | [_, _], _ => rfl
  have C10 : Mcal l.prog w K mg base (L2.CX l.prog w) 4 e_cBook "count" ["self", "word"] (sp_Book_count ⟨K, e_cME, e_cBT, e_cBL, e_cBW, e_cBA, e_cNT, e_cNP, e_cFu, e_cBook, 0⟩) := ⟨⟨f10, _, O10, ⟨a10, i10, k10⟩, b10⟩⟩
  have F14 := fun_mk (st := s_Book_longest) l14 c14 k14
  have O14 := ok_Book_longest (P := l.prog) (w := w) (A := ⟨K, e_cME, e_cBT, e_cBL, e_cBW, e_cBA, e_cNT, e_cNP, e_cFu, e_cBook, 0⟩) (mg := mg) (base := base) F14 W C12
  have b14 := F14.binds (ps := ["self"]) fun _ _ _ _ _ _ us hl => match us, hl with | [_], _ => rfl
  have C14 : Mcal l.prog w K mg base (L2.CX l.prog w) 4 e_cBook "longest" ["self"] (sp_Book_longest ⟨K, e_cME, e_cBT, e_cBL, e_cBW, e_cBA, e_cNT, e_cNP, e_cFu, e_cBook, 0⟩) := ⟨⟨f14, _, O14, ⟨a14, i14, k14⟩, b14⟩⟩
  have F19 := fun_mk (st := s_Book_put_last) l19 c19 k19
  have O19 := ok_Book_put_last (P := l.prog) (w := w) (A := ⟨K, e_cME, e_cBT, e_cBL, e_cBW, e_cBA, e_cNT, e_cNP, e_cFu, e_cBook, 0⟩) (mg := mg) (base := base) F19 W C13 C15 C16 C17
  have b19 := F19.binds (ps := ["self", "letter"]) fun _ _ _ _ _ _ us hl => match us, hl with | [_, _], _ => rfl
  have C19 : Mcal l.prog w K mg base (L2.CX l.prog w) 4 e_cBook "put_last" ["self", "letter"] (sp_Book_put_last ⟨K, e_cME, e_cBT, e_cBL, e_cBW, e_cBA, e_cNT, e_cNP, e_cFu, e_cBook, 0⟩) := ⟨⟨f19, _, O19, ⟨a19, i19, k19⟩, b19⟩⟩
  have F20 := fun_mk (st := s_Book_put_first) l20 c20 k20
  have O20 := ok_Book_put_first (P := l.prog) (w := w) (A := ⟨K, e_cME, e_cBT, e_cBL, e_cBW, e_cBA, e_cNT, e_cNP, e_cFu, e_cBook, 0⟩) (mg := mg) (base := base) F20 W C12 C15 C16 C17
  have b20 := F20.binds (ps := ["self", "letter"]) fun _ _ _ _ _ _ us hl => match us, hl with | [_, _], _ => rfl
  have C20 : Mcal l.prog w K mg base (L2.CX l.prog w) 4 e_cBook "put_first" ["self", "letter"] (sp_Book_put_first ⟨K, e_cME, e_cBT, e_cBL, e_cBW, e_cBA, e_cNT, e_cNP, e_cFu, e_cBook, 0⟩) := ⟨⟨f20, _, O20, ⟨a20, i20, k20⟩, b20⟩⟩
  have F21 := fun_mk (st := s_Book_cut_last) l21 c21 k21
  have O21 := ok_Book_cut_last (P := l.prog) (w := w) (A := ⟨K, e_cME, e_cBT, e_cBL, e_cBW, e_cBA, e_cNT, e_cNP, e_cFu, e_cBook, 0⟩) (mg := mg) (base := base) F21 W C11 C13 C18
  have b21 := F21.binds (ps := ["self"]) fun _ _ _ _ _ _ us hl => match us, hl with | [_], _ => rfl
  have C21 : Mcal l.prog w K mg base (L2.CX l.prog w) 4 e_cBook "cut_last" ["self"] (sp_Book_cut_last ⟨K, e_cME, e_cBT, e_cBL, e_cBW, e_cBA, e_cNT, e_cNP, e_cFu, e_cBook, 0⟩) := ⟨⟨f21, _, O21, ⟨a21, i21, k21⟩, b21⟩⟩
  have F22 := fun_mk (st := s_Book_cut_first) l22 c22 k22
  have O22 := ok_Book_cut_first (P := l.prog) (w := w) (A := ⟨K, e_cME, e_cBT, e_cBL, e_cBW, e_cBA, e_cNT, e_cNP, e_cFu, e_cBook, 0⟩) (mg := mg) (base := base) F22 W C11 C12 C18
  have b22 := F22.binds (ps := ["self"]) fun _ _ _ _ _ _ us hl => match us, hl with | [_], _ => rfl
  have C22 : Mcal l.prog w K mg base (L2.CX l.prog w) 4 e_cBook "cut_first" ["self"] (sp_Book_cut_first ⟨K, e_cME, e_cBT, e_cBL, e_cBW, e_cBA, e_cNT, e_cNP, e_cFu, e_cBook, 0⟩) := ⟨⟨f22, _, O22, ⟨a22, i22, k22⟩, b22⟩⟩
  have F6 := fund_mk (st := s_Book_init) l6 c6 k6 lt6
  have O6 := ok_Book_init (P := l.prog) (w := w) (A := ⟨K, e_cME, e_cBT, e_cBL, e_cBW, e_cBA, e_cNT, e_cNP, e_cFu, e_cBook, 0⟩) (mg := mg) (base := base) F6 W C3 C19
  have b6 := binds_nil (F6.binds1 (ps := ["self", "text"]) 2 1 (by simp) rfl fun _ _ _ _ _ _ _ us its h1 h2 => match us, its, h1, h2 with | [_, _], [_], _, _ => ⟨_, rfl, rfl⟩)
  have B6 := F6.binds1 (ps := ["self", "text"]) 1 0 (by simp) rfl fun _ _ _ _ _ _ _ us its h1 h2 => match us, its, h1, h2 with | [_], [_], _, _ => ⟨_, rfl, rfl⟩
  have C6 : MkcD l.prog w K mg base (L2.CX l.prog w) 5 "Book" ["self", "text"] e_cBook (sp_Book_init ⟨K, e_cME, e_cBT, e_cBL, e_cBW, e_cBA, e_cNT, e_cNP, e_cFu, e_cBook, 0⟩) [tS []] := ⟨⟨⟨f6, _, O6, PySem.W.mg_of X G g_Book, ⟨mk_Book, a6, i6, kc_Book⟩, b6⟩⟩, by obtain ⟨ds, v1, v2⟩ := B6; exact ⟨⟨f6, _, ds, O6, PySem.W.mg_of X G g_Book, ⟨mk_Book, a6, i6, kc_Book⟩, v1, v2⟩⟩⟩
  have F28 := fun_mk (st := s__law_kept) l28 c28 k28
  have O28 := ok__law_kept (P := l.prog) (w := w) (A := ⟨K, e_cME, e_cBT, e_cBL, e_cBW, e_cBA, e_cNT, e_cNP, e_cFu, e_cBook, 0⟩) (mg := mg) (base := base) F28 W C7 C8 C9 C10 C12 C13 C14
  have b28 := F28.binds (ps := ["_law_book"]) fun _ _ _ _ _ _ us hl => match us, hl with | [_], _ => rfl
  have C28 : Cal l.prog w K mg base CX0 5 "_law_kept" ["_law_book"] (sp__law_kept ⟨K, e_cME, e_cBT, e_cBL, e_cBW, e_cBA, e_cNT, e_cNP, e_cFu, e_cBook, 0⟩) := ⟨⟨f28, _, O28, PySem.W.mg_of X G a28, k28, b28⟩⟩
  have F25 := fun_mk (st := s__law_done) l25 c25 k25
  have O25 := ok__law_done (P := l.prog) (w := w) (A := ⟨K, e_cME, e_cBT, e_cBL, e_cBW, e_cBA, e_cNT, e_cNP, e_cFu, e_cBook, 0⟩) (mg := mg) (base := base) F25 W C6 C10 C12 C13 C19 C20 C21 C22
  have b25 := F25.binds (ps := ["_law_book", "_law_deed", "_law_thing"]) fun _ _ _ _ _ _ us hl => match us, hl with | [_, _, _], _ => rfl
  have C25 : Cal l.prog w K mg base (L2.CX l.prog w) 7 "_law_done" ["_law_book", "_law_deed", "_law_thing"] (sp__law_done ⟨K, e_cME, e_cBT, e_cBL, e_cBW, e_cBA, e_cNT, e_cNP, e_cFu, e_cBook, 0⟩) := ⟨⟨f25, _, O25, PySem.W.mg_of X G a25, k25, b25⟩⟩
  have F26 := fun_mk (st := s__law_said) l26 c26 k26
  have O26 := ok__law_said (P := l.prog) (w := w) (A := ⟨K, e_cME, e_cBT, e_cBL, e_cBW, e_cBA, e_cNT, e_cNP, e_cFu, e_cBook, 0⟩) (mg := mg) (base := base) F26 W C24 C25
  have b26 := F26.binds (ps := ["_law_book", "_law_deed", "_law_thing"]) fun _ _ _ _ _ _ us hl => match us, hl with | [_, _, _], _ => rfl
  have C26 : Cal l.prog w K mg base CX0 8 "_law_said" ["_law_book", "_law_deed", "_law_thing"] (sp__law_said ⟨K, e_cME, e_cBT, e_cBL, e_cBW, e_cBA, e_cNT, e_cNP, e_cFu, e_cBook, 0⟩) := ⟨⟨f26, _, O26, PySem.W.mg_of X G a26, k26, b26⟩⟩
  have F29 := fun_mk (st := s_law) l29 c29 k29
  have O29 := ok_law (P := l.prog) (w := w) (A := ⟨K, e_cME, e_cBT, e_cBL, e_cBW, e_cBA, e_cNT, e_cNP, e_cFu, e_cBook, 0⟩) (mg := mg) (base := base) F29 W C6 C7 C10 C14 C19 C20 C21 C22 C23 C26 C27 C28
  exact O29
end Mw
open PySem PySem.W PyProof.Rows
set_option maxRecDepth 100000 in
set_option maxHeartbeats 0 in
theorem PySem.Challenge.cw_mirrorwords_k09_what_is_refused_holds : PySem.Challenge.rw_mirrorwords_k09_what_is_refused.Holds := by
  w_on; o_law; k_head; (case hw => w_witness2)
  k_fill
  refine L2.walk_of (l := PySem.Challenge.rw_mirrorwords_k09_what_is_refused) (n := 63) (k := 9) (x := "_law_script") (CX := fun _ => L2.CX0) (sp := fun w => Mw.spL0 _) rfl (by decide) rfl ⟨rfl, by decide, by decide⟩ (fun w h Y => PySem.W.kIn_of Y) ?F (fun _ _ a ns hl _ hS => ⟨a, ns, rfl, hS, hl, fun _ => rfl⟩) (fun _ _ _ _ _ h => h)
  case F =>
    intro w mg fa h KX G hmg
    refine' Mw.all_mk KX G hmg ?g_MirrorError ?g_BadText ?g_BadLetter ?g_BadWord ?g_BadArms ?g_NoText ?g_NoPlace ?g_Full ?g_Book ?a0 ?l0 ?c0 ?k0 ?a1 ?l1 ?c1 ?k1 ?a2 ?l2 ?c2 ?k2 ?a3 ?l3 ?c3 ?k3 ?a4 ?l4 ?c4 ?k4 ?a5 ?l5 ?c5 ?k5 ?a6 ?i6 ?l6 ?lt6 ?c6 ?k6 ?a7 ?i7 ?l7 ?c7 ?k7 ?a8 ?i8 ?l8 ?c8 ?k8 ?a9 ?i9 ?l9 ?c9 ?k9 ?a10 ?i10 ?l10 ?c10 ?k10 ?a11 ?i11 ?l11 ?c11 ?k11 ?a12 ?i12 ?l12 ?c12 ?k12 ?a13 ?i13 ?l13 ?c13 ?k13 ?a14 ?i14 ?l14 ?c14 ?k14 ?a15 ?i15 ?l15 ?c15 ?k15 ?a16 ?i16 ?l16 ?c16 ?k16 ?a17 ?i17 ?l17 ?c17 ?k17 ?a18 ?i18 ?l18 ?c18 ?k18 ?a19 ?i19 ?l19 ?c19 ?k19 ?a20 ?i20 ?l20 ?c20 ?k20 ?a21 ?i21 ?l21 ?c21 ?k21 ?a22 ?i22 ?l22 ?c22 ?k22 ?a23 ?l23 ?c23 ?k23 ?a24 ?l24 ?c24 ?k24 ?a25 ?l25 ?c25 ?k25 ?a26 ?l26 ?c26 ?k26 ?a27 ?l27 ?c27 ?k27 ?a28 ?l28 ?c28 ?k28 ?a29 ?l29 ?c29 ?k29 ?n_ValueError ?n_all ?n_bool ?n_int ?n_isinstance ?n_len ?n_max ?n_range ?n_sorted ?n_str ?g_LETTERS ?g_MOST ?xx_BadLetter ?xk_BadLetter ?xs_BadLetter ?xt_BadLetter ?xx_BadText ?xk_BadText ?xs_BadText ?xt_BadText ?xx_BadWord ?xk_BadWord ?xs_BadWord ?xt_BadWord ?xx_Full ?xk_Full ?xs_Full ?xt_Full ?xx_NoPlace ?xk_NoPlace ?xs_NoPlace ?xt_NoPlace ?sn ?st ?yg_BadText ?yk_BadText ?ys_BadText ?yd_BadText ?ya_BadText ?ym_BadText ?yx_BadText ?yv_BadText ?y_BadText_cBL ?d_BadText_cBL ?y_BadText_cBW ?d_BadText_cBW ?y_BadText_cBA ?d_BadText_cBA ?y_BadText_cNT ?d_BadText_cNT ?y_BadText_cNP ?d_BadText_cNP ?y_BadText_cFu ?d_BadText_cFu ?yg_BadLetter ?yk_BadLetter ?ys_BadLetter ?yd_BadLetter ?ya_BadLetter ?ym_BadLetter ?yx_BadLetter ?yv_BadLetter ?y_BadLetter_cBT ?d_BadLetter_cBT ?y_BadLetter_cBW ?d_BadLetter_cBW ?y_BadLetter_cBA ?d_BadLetter_cBA ?y_BadLetter_cNT ?d_BadLetter_cNT ?y_BadLetter_cNP ?d_BadLetter_cNP ?y_BadLetter_cFu ?d_BadLetter_cFu ?yg_BadWord ?yk_BadWord ?ys_BadWord ?yd_BadWord ?ya_BadWord ?ym_BadWord ?yx_BadWord ?yv_BadWord ?y_BadWord_cBT ?d_BadWord_cBT ?y_BadWord_cBL ?d_BadWord_cBL ?y_BadWord_cBA ?d_BadWord_cBA ?y_BadWord_cNT ?d_BadWord_cNT ?y_BadWord_cNP ?d_BadWord_cNP ?y_BadWord_cFu ?d_BadWord_cFu ?yg_NoPlace ?yk_NoPlace ?ys_NoPlace ?yd_NoPlace ?ya_NoPlace ?ym_NoPlace ?yx_NoPlace ?yv_NoPlace ?y_NoPlace_cBT ?d_NoPlace_cBT ?y_NoPlace_cBL ?d_NoPlace_cBL ?y_NoPlace_cBW ?d_NoPlace_cBW ?y_NoPlace_cBA ?d_NoPlace_cBA ?y_NoPlace_cNT ?d_NoPlace_cNT ?y_NoPlace_cFu ?d_NoPlace_cFu ?yg_Full ?yk_Full ?ys_Full ?yd_Full ?ya_Full ?ym_Full ?yx_Full ?yv_Full ?y_Full_cBT ?d_Full_cBT ?y_Full_cBL ?d_Full_cBL ?y_Full_cBW ?d_Full_cBW ?y_Full_cBA ?d_Full_cBA ?y_Full_cNT ?d_Full_cNT ?y_Full_cNP ?d_Full_cNP ?me1 ?me2 ?me3 ?is_cBT ?it_cBT ?is_cBL ?it_cBL ?is_cBW ?it_cBW ?is_cBA ?it_cBA ?is_cNT ?it_cNT ?is_cNP ?it_cNP ?is_cFu ?it_cFu ?pg_Book ?hd_Book ?po_Book ?sa_Book ?mk_Book ?kc_Book ?na_Book_letters ?na_Book_heads ?na_Book_ends ?na_Book_told ?na_Book_tails
    (case g_MirrorError => k_is)
    (case g_BadText => k_is)
    (case g_BadLetter => k_is)
    (case g_BadWord => k_is)
    (case g_BadArms => k_is)
    (case g_NoText => k_is)
    (case g_NoPlace => k_is)
    (case g_Full => k_is)
    (case g_Book => k_is)
    (case a0 => k_is)
    (case l0 => k_is)
    (case c0 => k_is)
    (case k0 => k_is)
    (case a1 => k_is)
    (case l1 => k_is)
    (case c1 => k_is)
    (case k1 => k_is)
    (case a2 => k_is)
    (case l2 => k_is)
    (case c2 => k_is)
    (case k2 => k_is)
    (case a3 => k_is)
    (case l3 => k_is)
    (case c3 => k_is)
    (case k3 => k_is)
    (case a4 => k_is)
    (case l4 => k_is)
    (case c4 => k_is)
    (case k4 => k_is)
    (case a5 => k_is)
    (case l5 => k_is)
    (case c5 => k_is)
    (case k5 => k_is)
    (case a6 => k_is)
    (case i6 => k_is)
    (case l6 => k_is)
    (case lt6 => k_is)
    (case c6 => k_is)
    (case k6 => k_is)
    (case a7 => k_is)
    (case i7 => k_is)
    (case l7 => k_is)
    (case c7 => k_is)
    (case k7 => k_is)
    (case a8 => k_is)
    (case i8 => k_is)
    (case l8 => k_is)
    (case c8 => k_is)
    (case k8 => k_is)
    (case a9 => k_is)
    (case i9 => k_is)
    (case l9 => k_is)
    (case c9 => k_is)
    (case k9 => k_is)
    (case a10 => k_is)
    (case i10 => k_is)
    (case l10 => k_is)
    (case c10 => k_is)
    (case k10 => k_is)
    (case a11 => k_is)
    (case i11 => k_is)
    (case l11 => k_is)
    (case c11 => k_is)
    (case k11 => k_is)
    (case a12 => k_is)
    (case i12 => k_is)
    (case l12 => k_is)
    (case c12 => k_is)
    (case k12 => k_is)
    (case a13 => k_is)
    (case i13 => k_is)
    (case l13 => k_is)
    (case c13 => k_is)
    (case k13 => k_is)
    (case a14 => k_is)
    (case i14 => k_is)
    (case l14 => k_is)
    (case c14 => k_is)
    (case k14 => k_is)
    (case a15 => k_is)
    (case i15 => k_is)
    (case l15 => k_is)
    (case c15 => k_is)
    (case k15 => k_is)
    (case a16 => k_is)
    (case i16 => k_is)
    (case l16 => k_is)
    (case c16 => k_is)
    (case k16 => k_is)
    (case a17 => k_is)
    (case i17 => k_is)
    (case l17 => k_is)
    (case c17 => k_is)
    (case k17 => k_is)
    (case a18 => k_is)
    (case i18 => k_is)
    (case l18 => k_is)
    (case c18 => k_is)
    (case k18 => k_is)
    (case a19 => k_is)
    (case i19 => k_is)
    (case l19 => k_is)
    (case c19 => k_is)
    (case k19 => k_is)
    (case a20 => k_is)
    (case i20 => k_is)
    (case l20 => k_is)
    (case c20 => k_is)
    (case k20 => k_is)
    (case a21 => k_is)
    (case i21 => k_is)
    (case l21 => k_is)
    (case c21 => k_is)
    (case k21 => k_is)
    (case a22 => k_is)
    (case i22 => k_is)
    (case l22 => k_is)
    (case c22 => k_is)
    (case k22 => k_is)
    (case a23 => k_is)
    (case l23 => k_is)
    (case c23 => k_is)
    (case k23 => k_is)
    (case a24 => k_is)
    (case l24 => k_is)
    (case c24 => k_is)
    (case k24 => k_is)
    (case a25 => k_is)
    (case l25 => k_is)
    (case c25 => k_is)
    (case k25 => k_is)
    (case a26 => k_is)
    (case l26 => k_is)
    (case c26 => k_is)
    (case k26 => k_is)
    (case a27 => k_is)
    (case l27 => k_is)
    (case c27 => k_is)
    (case k27 => k_is)
    (case a28 => k_is)
    (case l28 => k_is)
    (case c28 => k_is)
    (case k28 => k_is)
    (case a29 => k_is)
    (case l29 => k_is)
    (case c29 => k_is)
    (case k29 => k_is)
    (case n_ValueError => k_is)
    (case n_all => k_is)
    (case n_bool => k_is)
    (case n_int => k_is)
    (case n_isinstance => k_is)
    (case n_len => k_is)
    (case n_max => k_is)
    (case n_range => k_is)
    (case n_sorted => k_is)
    (case n_str => k_is)
    (case g_LETTERS => k_is)
    (case g_MOST => k_is)
    (case xx_BadLetter => k_exc)
    (case xk_BadLetter => k_is)
    (case xs_BadLetter => k_is)
    (case xt_BadLetter => k_is)
    (case xx_BadText => k_exc)
    (case xk_BadText => k_is)
    (case xs_BadText => k_is)
    (case xt_BadText => k_is)
    (case xx_BadWord => k_exc)
    (case xk_BadWord => k_is)
    (case xs_BadWord => k_is)
    (case xt_BadWord => k_is)
    (case xx_Full => k_exc)
    (case xk_Full => k_is)
    (case xs_Full => k_is)
    (case xt_Full => k_is)
    (case xx_NoPlace => k_exc)
    (case xk_NoPlace => k_is)
    (case xs_NoPlace => k_is)
    (case xt_NoPlace => k_is)
    (case sn => k_is)
    (case st => k_is)
    (case yg_BadText => k_is)
    (case yk_BadText => k_is)
    (case ys_BadText => k_is)
    (case yd_BadText => k_is)
    (case ya_BadText => k_is)
    (case ym_BadText => k_is)
    (case yx_BadText => k_is)
    (case yv_BadText => k_is)
    (case y_BadText_cBL => k_is)
    (case d_BadText_cBL => first | rfl | decide)
    (case y_BadText_cBW => k_is)
    (case d_BadText_cBW => first | rfl | decide)
    (case y_BadText_cBA => k_is)
    (case d_BadText_cBA => first | rfl | decide)
    (case y_BadText_cNT => k_is)
    (case d_BadText_cNT => first | rfl | decide)
    (case y_BadText_cNP => k_is)
    (case d_BadText_cNP => first | rfl | decide)
    (case y_BadText_cFu => k_is)
    (case d_BadText_cFu => first | rfl | decide)
    (case yg_BadLetter => k_is)
    (case yk_BadLetter => k_is)
    (case ys_BadLetter => k_is)
    (case yd_BadLetter => k_is)
    (case ya_BadLetter => k_is)
    (case ym_BadLetter => k_is)
    (case yx_BadLetter => k_is)
    (case yv_BadLetter => k_is)
    (case y_BadLetter_cBT => k_is)
    (case d_BadLetter_cBT => first | rfl | decide)
    (case y_BadLetter_cBW => k_is)
    (case d_BadLetter_cBW => first | rfl | decide)
    (case y_BadLetter_cBA => k_is)
    (case d_BadLetter_cBA => first | rfl | decide)
    (case y_BadLetter_cNT => k_is)
    (case d_BadLetter_cNT => first | rfl | decide)
    (case y_BadLetter_cNP => k_is)
    (case d_BadLetter_cNP => first | rfl | decide)
    (case y_BadLetter_cFu => k_is)
    (case d_BadLetter_cFu => first | rfl | decide)
    (case yg_BadWord => k_is)
    (case yk_BadWord => k_is)
    (case ys_BadWord => k_is)
    (case yd_BadWord => k_is)
    (case ya_BadWord => k_is)
    (case ym_BadWord => k_is)
    (case yx_BadWord => k_is)
    (case yv_BadWord => k_is)
    (case y_BadWord_cBT => k_is)
    (case d_BadWord_cBT => first | rfl | decide)
    (case y_BadWord_cBL => k_is)
    (case d_BadWord_cBL => first | rfl | decide)
    (case y_BadWord_cBA => k_is)
    (case d_BadWord_cBA => first | rfl | decide)
    (case y_BadWord_cNT => k_is)
    (case d_BadWord_cNT => first | rfl | decide)
    (case y_BadWord_cNP => k_is)
    (case d_BadWord_cNP => first | rfl | decide)
    (case y_BadWord_cFu => k_is)
    (case d_BadWord_cFu => first | rfl | decide)
    (case yg_NoPlace => k_is)
    (case yk_NoPlace => k_is)
    (case ys_NoPlace => k_is)
    (case yd_NoPlace => k_is)
    (case ya_NoPlace => k_is)
    (case ym_NoPlace => k_is)
    (case yx_NoPlace => k_is)
    (case yv_NoPlace => k_is)
    (case y_NoPlace_cBT => k_is)
    (case d_NoPlace_cBT => first | rfl | decide)
    (case y_NoPlace_cBL => k_is)
    (case d_NoPlace_cBL => first | rfl | decide)
    (case y_NoPlace_cBW => k_is)
    (case d_NoPlace_cBW => first | rfl | decide)
    (case y_NoPlace_cBA => k_is)
    (case d_NoPlace_cBA => first | rfl | decide)
    (case y_NoPlace_cNT => k_is)
    (case d_NoPlace_cNT => first | rfl | decide)
    (case y_NoPlace_cFu => k_is)
    (case d_NoPlace_cFu => first | rfl | decide)
    (case yg_Full => k_is)
    (case yk_Full => k_is)
    (case ys_Full => k_is)
    (case yd_Full => k_is)
    (case ya_Full => k_is)
    (case ym_Full => k_is)
    (case yx_Full => k_is)
    (case yv_Full => k_is)
    (case y_Full_cBT => k_is)
    (case d_Full_cBT => first | rfl | decide)
    (case y_Full_cBL => k_is)
    (case d_Full_cBL => first | rfl | decide)
    (case y_Full_cBW => k_is)
    (case d_Full_cBW => first | rfl | decide)
    (case y_Full_cBA => k_is)
    (case d_Full_cBA => first | rfl | decide)
    (case y_Full_cNT => k_is)
    (case d_Full_cNT => first | rfl | decide)
    (case y_Full_cNP => k_is)
    (case d_Full_cNP => first | rfl | decide)
    (case me1 => k_is)
    (case me2 => k_is)
    (case me3 => k_is)
    (case is_cBT => k_is)
    (case it_cBT => k_is)
    (case is_cBL => k_is)
    (case it_cBL => k_is)
    (case is_cBW => k_is)
    (case it_cBW => k_is)
    (case is_cBA => k_is)
    (case it_cBA => k_is)
    (case is_cNT => k_is)
    (case it_cNT => k_is)
    (case is_cNP => k_is)
    (case it_cNP => k_is)
    (case is_cFu => k_is)
    (case it_cFu => k_is)
    (case pg_Book => k_is)
    (case hd_Book => k_is)
    (case po_Book => k_is)
    (case sa_Book => k_is)
    (case mk_Book => k_is)
    (case kc_Book => k_is)
    (case na_Book_letters => k_is)
    (case na_Book_heads => k_is)
    (case na_Book_ends => k_is)
    (case na_Book_told => k_is)
    (case na_Book_tails => k_is)
