import PyProof.Rows.All
import Wide.All
import OpenK.AllK
import Wide.FinOn
import HandS.ForMost
import HandS.ForExc
import HandS.Evl
import HandS.IsInst
import HandS.RevRange
import HandS.ExcIs
import HandS.ExcValue
import HandS.Style
import HandS.Conv
import HandS.SortInts
import HandS.Dict
import HandS.DictComp
import HandS.SortKw
import KE.DataMinMax
import HandS.Strs
import HandS.Zip
import HandS.Iter
import HandS.WordsDict
import HandS.SetKeys
import HandS.More
import HandS.Replace
import KE.SortData
import HandS.Sort
import PyProof.StrLawsFirst
import HandS.Defaults
import HandS.Words
import PySem.Challenge.RW_mirrorwords_k10_whole_books_and_arms
set_option Elab.async false
set_option linter.all false
set_option maxRecDepth 100000
set_option maxHeartbeats 4000000
/-! texts as lists of codes; the ledger of a frame's own objects; what a reading comes to -/
namespace Mw
open PySem PySem.Spec PyProof.Rows L2 Evl

abbrev Tx := List Nat
/-- a text by its codes -/
def T (l : Tx) : Str := ⟨l.toArray⟩
theorem T_inj {a b : Tx} (h : T a = T b) : a = b := by
  have q : a.toArray = b.toArray := congrArg Str.cps h
  simpa using q
theorem T_eq (a b : Tx) : (T a = T b) ↔ a = b := ⟨T_inj, fun h => by rw [h]⟩
theorem T_len (a : Tx) : (T a).length = a.length := by simp [T, Str.length]
theorem T_cps (a : Tx) : (T a).cps.toList = a := by simp [T]
theorem T_of (s : Str) : s = T s.cps.toList := by simp [T]
theorem T_app (a b : Tx) : T a ++ T b = T (a ++ b) := by
  show Str.append (T a) (T b) = T (a ++ b)
  simp [Str.append, T]
abbrev tS (l : Tx) : V := .str (T l)
theorem tS_eq (a b : Tx) : (tS a = tS b) ↔ a = b := ⟨fun h => T_inj (V.str.inj h), fun h => by rw [h]⟩
theorem dec_tS (a b : Tx) : decide (tS a = tS b) = decide (a = b) := by
  by_cases h : a = b
  · rw [decide_eq_true h, decide_eq_true ((tS_eq a b).mpr h)]
  · rw [decide_eq_false h, decide_eq_false (fun z => h ((tS_eq a b).mp z))]
theorem dec_tI (a b : Int) : decide (V.int a = V.int b) = decide (a = b) := by
  by_cases h : a = b
  · rw [decide_eq_true h, decide_eq_true (by rw [h])]
  · rw [decide_eq_false h, decide_eq_false (fun z => h (V.int.inj z))]
theorem dec_tB (a b : Bool) : decide (V.bl a = V.bl b) = (a == b) := by
  cases a <;> cases b <;> first | decide | rfl
theorem sz6 {n : Nat} (h : n ≤ 1000000) : n ≤ sizeLine := by rw [sizeLine_eq]; omega
theorem szL6 {n : Nat} (h : n < 1000000) : n < sizeLine := by rw [sizeLine_eq]; omega

/-! ### the named readings of operators -/
abbrev rAddI : R2 := rI0 fun i j => .int (i + j)
abbrev rSubI : R2 := rI0 fun i j => .int (i - j)
abbrev rMulI : R2 := rI CMul fun i j => .int (i * j)
abbrev rDivI : R2 := rI CDiv fun i j => .int (i / j)
abbrev rModI : R2 := rI (fun _ j => 0 < j) fun i j => .int (i % j)
abbrev rPowI : R2 := rI CPow fun i j => .int (i ^ j.toNat)
abbrev rLtI : R2 := rI0 fun i j => .bl (decide (i < j))
abbrev rLeI : R2 := rI0 fun i j => .bl (decide (i ≤ j))
abbrev rGtI : R2 := rI0 fun i j => .bl (decide (j < i))
abbrev rGeI : R2 := rI0 fun i j => .bl (decide (j ≤ i))
abbrev rAddT : R2 := fun x y H Q => ∃ i j, x = .str i ∧ y = .str j ∧ i.length + j.length ≤ sizeLine ∧ Q (.str (i ++ j)) H
abbrev rLtT' : R2 := fun x y H Q => ∃ i j, x = .str i ∧ y = .str j ∧ Q (.bl (decide (i.cps.toList < j.cps.toList))) H
abbrev rGtT' : R2 := fun x y H Q => ∃ i j, x = .str i ∧ y = .str j ∧ Q (.bl (decide (j.cps.toList < i.cps.toList))) H
abbrev rInC : R2 := fun x y H Q => ∃ (c : Nat) (z : Str), x = .str ⟨#[c]⟩ ∧ y = .str z ∧ Q (.bl (decide (c ∈ z.cps.toList))) H
abbrev rNinC : R2 := fun x y H Q => ∃ (c : Nat) (z : Str), x = .str ⟨#[c]⟩ ∧ y = .str z ∧ Q (.bl (!decide (c ∈ z.cps.toList))) H
abbrev rIsNn : R2 := fun x y H Q => y = .non ∧ Q (.bl (decide (x = .non))) H
abbrev rNotNn : R2 := fun x y H Q => y = .non ∧ Q (.bl (!decide (x = .non))) H
abbrev rLenT : List V → Hp → VK → Prop := fun xs H Q => ∃ z : Str, xs = [.str z] ∧ z.length ≤ sizeLine ∧ Q (.int z.length) H
abbrev rMax2I : List V → Hp → VK → Prop := fun xs H Q => ∃ i j, xs = [.int i, .int j] ∧ Q (.int (if j > i then j else i)) H
abbrev rMin2I : List V → Hp → VK → Prop := fun xs H Q => ∃ i j, xs = [.int i, .int j] ∧ Q (.int (if j < i then j else i)) H
abbrev tNegI (ta : TE) : TE := tUn (rU fun i => .int (-i)) ta

/-! ### values -/
section
variable {K : PySem.W.Frag} {σ : L2.St} {H H' : Hp} {ta tb tc te : TE} {t u : TT} {x y z v w : V} {r r' : R2}
theorem e_negI {i : Int} (h : Ev ta σ H (.int i)) : Ev (tNegI ta) σ H (.int (-i)) := ev_un h ru_neg
theorem r_eqI {i j : Int} : RV rEq (.int i) (.int j) H (.bl (decide (i = j))) := fun H1 _ _ q => ⟨rfl, by rw [dec_tI]; exact q H1 (Ex.refl H1)⟩
theorem r_neI {i j : Int} : RV rNe (.int i) (.int j) H (.bl (!decide (i = j))) := fun H1 _ _ q => ⟨rfl, by rw [dec_tI]; exact q H1 (Ex.refl H1)⟩
theorem r_eqS {a b : Tx} : RV rEq (tS a) (tS b) H (.bl (decide (a = b))) := fun H1 _ _ q => ⟨rfl, by rw [dec_tS]; exact q H1 (Ex.refl H1)⟩
theorem r_neS {a b : Tx} : RV rNe (tS a) (tS b) H (.bl (!decide (a = b))) := fun H1 _ _ q => ⟨rfl, by rw [dec_tS]; exact q H1 (Ex.refl H1)⟩
theorem r_addT {a b : Tx} (h : a.length + b.length ≤ 1000000) : RV rAddT (tS a) (tS b) H (tS (a ++ b)) := fun H1 _ _ q =>
  ⟨_, _, rfl, rfl, by rw [T_len, T_len]; exact sz6 h, by rw [T_app]; exact q H1 (Ex.refl H1)⟩
theorem r_ltT {a b : Tx} : RV rLtT' (tS a) (tS b) H (.bl (decide (a < b))) := fun H1 _ _ q => ⟨_, _, rfl, rfl, by rw [T_cps, T_cps]; exact q H1 (Ex.refl H1)⟩
theorem r_gtT {a b : Tx} : RV rGtT' (tS a) (tS b) H (.bl (decide (b < a))) := fun H1 _ _ q => ⟨_, _, rfl, rfl, by rw [T_cps, T_cps]; exact q H1 (Ex.refl H1)⟩
theorem r_inC {c : Nat} {l : Tx} : RV rInC (tS [c]) (tS l) H (.bl (decide (c ∈ l))) := fun H1 _ _ q => ⟨c, T l, rfl, rfl, by rw [T_cps]; exact q H1 (Ex.refl H1)⟩
theorem r_ninC {c : Nat} {l : Tx} : RV rNinC (tS [c]) (tS l) H (.bl (!decide (c ∈ l))) := fun H1 _ _ q => ⟨c, T l, rfl, rfl, by rw [T_cps]; exact q H1 (Ex.refl H1)⟩
theorem r_isN {x : V} : RV rIsNn x .non H (.bl (decide (x = .non))) := fun H1 _ _ q => ⟨rfl, q H1 (Ex.refl H1)⟩
theorem r_notN {x : V} : RV rNotNn x .non H (.bl (!decide (x = .non))) := fun H1 _ _ q => ⟨rfl, q H1 (Ex.refl H1)⟩
/-- the item of a text, at a place within -/
def at0 (l : Tx) (i : Int) : Nat := l.getD i.toNat 0
theorem atI_at0 {l : Tx} {i : Int} (h0 : 0 ≤ i) (h1 : i < l.length) : atI l i = some (at0 l i) := by
  obtain ⟨n, rfl⟩ : ∃ n : Nat, i = n := ⟨i.toNat, by omega⟩
  have hn : n < l.length := by omega
  refine atI_nat ?_
  unfold at0
  simp [List.getD, List.getElem?_eq_getElem hn]
theorem r_ixS {l : Tx} {i : Int} (h0 : 0 ≤ i) (h1 : i < l.length) (hl : l.length ≤ 1000000) : RV rIxS (tS l) (.int i) H (tS [at0 l i]) := fun H1 _ _ q =>
  ⟨T l, i, at0 l i, rfl, rfl, by rw [T_len]; exact sz6 hl, by rw [T_cps]; exact atI_at0 h0 h1, q H1 (Ex.refl H1)⟩
/-- an item of a list that is read, the list's items made of ns by f -/
theorem atI_map {α : Type} {f : α → V} {ns : List α} {i : Int} {n : α} (h0 : 0 ≤ i) (h : ns[i.toNat]? = some n) : atI (ns.map f) i = some (f n) := by
  obtain ⟨m, rfl⟩ : ∃ m : Nat, i = m := ⟨i.toNat, by omega⟩
  refine atI_nat ?_
  rw [List.getElem?_map]
  have h' : ns[m]? = some n := by simpa using h
  rw [h']; rfl
theorem rc_lenT {l : Tx} (hl : l.length ≤ 1000000) : RC rLenT [tS l] H (.int l.length) := fun H1 _ _ q => ⟨T l, rfl, by rw [T_len]; exact sz6 hl, by rw [T_len]; exact q H1 (Ex.refl H1)⟩
theorem rc_lenL {p : Addr} {xs : List V} (h : SqL K H p xs) : RC (rLenS K) [.ref p] H (.int xs.length) := fun H1 e _ q => ⟨p, xs, rfl, .inl (ex_l e h), q H1 (Ex.refl H1)⟩
theorem rc_max2 {i j : Int} : RC rMax2I [.int i, .int j] H (.int (max i j)) := fun H1 _ _ q => ⟨i, j, rfl, by
  have e : (if j > i then j else i) = max i j := by omega
  rw [e]; exact q H1 (Ex.refl H1)⟩
theorem rc_min2 {i j : Int} : RC rMin2I [.int i, .int j] H (.int (min i j)) := fun H1 _ _ q => ⟨i, j, rfl, by
  have e : (if j < i then j else i) = min i j := by omega
  rw [e]; exact q H1 (Ex.refl H1)⟩
theorem rc_all {p : Addr} {bs : List Bool} (h : SqL K H p (bs.map V.bl)) : RC (rAll K) [.ref p] H (.bl (bs.all id)) := fun H1 e _ q => ⟨p, bs, rfl, ex_l e h, q H1 (Ex.refl H1)⟩
/-- a built-in upon a new list -/
theorem e_cbN {r : List V → Hp → VK → Prop} {xs : List V} (h : EvL te σ H xs) (hr : ∀ p H1, Ex H H1 → H1 p = some (.lst xs) → RC r [.ref p] H1 z) : Ev (tCB r (tCons te tNil)) σ H z := fun H1 e Q q =>
  h H1 e _ fun p H2 _ e2 h2 => hr p H2 (e.trans e2) h2 H2 (Ex.refl H2) Q fun H3 e3 => q H3 (e2.trans e3)
theorem e_if {b : Bool} (h : EvT t σ H b) (h1 : b = true → Ev ta σ H v) (h2 : b = false → Ev tb σ H w) : Ev (tIf t ta tb) σ H (if b then v else w) := fun H1 e Q q => h H1 e _ fun H2 e2 => by
  cases b with
  | true => exact h1 rfl H2 (e.trans e2) Q fun H3 e3 => q H3 (e2.trans e3)
  | false => exact h2 rfl H2 (e.trans e2) Q fun H3 e3 => q H3 (e2.trans e3)
theorem et_yes : EvT tYes σ H true := fun H1 _ _ q => q H1 (Ex.refl H1)
/-- slices of texts -/
theorem sl_cut (l : Tx) (lo hi : Option Int) : cutS (T l) lo hi = T ((l.drop (HT.sIx l.length 0 lo)).take (HT.sIx l.length l.length hi - HT.sIx l.length 0 lo)) := by
  unfold cutS
  simp [T, Str.length]
theorem e_sl {tl th : TO} {l : Tx} {lo hi : Option Int} (h : Ev te σ H (tS l)) (h1 : EvO tl σ H lo) (h2 : EvO th σ H hi) (hl : l.length ≤ 1000000) :
    Ev (tSl rSlS te tl th) σ H (tS ((l.drop (HT.sIx l.length 0 lo)).take (HT.sIx l.length l.length hi - HT.sIx l.length 0 lo))) := fun H1 e _ q =>
  h H1 e _ fun H2 e2 => h1 H2 (e.trans e2) _ fun H3 e3 => h2 H3 ((e.trans e2).trans e3) _ fun H4 e4 =>
    ⟨T l, rfl, by rw [T_len]; exact sz6 hl, by rw [sl_cut]; exact q H4 ((e2.trans e3).trans e4)⟩
theorem sIx_pos (n d : Nat) (i : Int) (h : 0 ≤ i) : HT.sIx n d (some i) = min i.toNat n := by
  obtain ⟨m, rfl⟩ : ∃ m : Nat, i = m := ⟨i.toNat, by omega⟩
  rw [HT.sIx_nat]; simp
end

/-! ### the ledger -/
/-- H0: the heap at the entry; S: what of it may have changed; L: objects that are known and not among the others of H0 -/
structure Am (S : List Addr) (H0 : Hp) (L : List (Addr × HO)) (H : Hp) : Prop where
  old : ∀ a o, H0 a = some o → a ∉ S → H a = some o
  own : ∀ p ∈ L, H p.1 = some p.2
  new : ∀ p ∈ L, H0 p.1 = none ∨ p.1 ∈ S
  nd : (L.map (·.1)).Nodup
section
variable {S : List Addr} {H0 H H1 : Hp} {L : List (Addr × HO)} {p : Addr} {o o' : HO}
theorem Am.start (H : Hp) : Am [] H [] H := ⟨fun _ _ h _ => h, (fun _ h => (by cases h)), (fun _ h => (by cases h)), List.Pairwise.nil⟩
theorem Am.ex (am : Am S H0 L H) (e : Ex H H1) : Am S H0 L H1 := ⟨fun a o h n => e a o (am.old a o h n), fun p h => e _ _ (am.own p h), am.new, am.nd⟩
theorem Am.add (am : Am S H0 L H) (hp : H p = none) (e : Ex H H1) (h : H1 p = some o) : Am S H0 ((p, o) :: L) H1 := by
  refine ⟨fun a o h n => e a o (am.old a o h n), fun q hq => ?_, fun q hq => ?_, ?_⟩
  · rcases List.mem_cons.mp hq with rfl | hq
    · exact h
    · exact e _ _ (am.own q hq)
  · rcases List.mem_cons.mp hq with rfl | hq
    · show H0 p = none ∨ p ∈ S
      by_cases hs : p ∈ S
      · exact .inr hs
      · refine .inl ?_
        cases z : H0 p with
        | none => rfl
        | some w => rw [am.old p w z hs] at hp; cases hp
    · exact am.new q hq
  · refine List.nodup_cons.mpr ⟨fun hm => ?_, am.nd⟩
    obtain ⟨q, hq, e1⟩ := List.mem_map.mp hm
    have z := am.own q hq
    have e2 : q.1 = p := e1
    rw [e2, hp] at z; cases z
theorem Am.new1 (am : Am S H0 L H) (hp : H p = none) : Am S H0 ((p, o) :: L) (upd H p o) := am.add hp (Ex.new hp) upd_same
theorem nodup_at {α β : Type} : ∀ {l : List (α × β)} {i j : Nat} {x y : α × β}, (l.map (·.1)).Nodup → l[i]? = some x → l[j]? = some y → x.1 = y.1 → i = j
  | l, i, j, x, y, nd, h1, h2, e => by
    have a1 : (l.map (·.1))[i]? = some x.1 := by rw [List.getElem?_map, h1]; rfl
    have a2 : (l.map (·.1))[j]? = some x.1 := by rw [List.getElem?_map, h2]; exact congrArg some e.symm
    obtain ⟨b1, c1⟩ := List.getElem?_eq_some_iff.mp a1
    obtain ⟨b2, c2⟩ := List.getElem?_eq_some_iff.mp a2
    exact (List.getElem_inj nd).mp (c1.trans c2.symm)
theorem Am.set (i : Nat) (am : Am S H0 L H) (h : L[i]? = some (p, o)) : Am S H0 (L.set i (p, o')) (upd H p o') := by
  have hm : (p, o) ∈ L := List.mem_of_getElem? h
  have hi : i < L.length := (List.getElem?_eq_some_iff.mp h).1
  refine ⟨fun a u ha n => ?_, fun q hq => ?_, fun q hq => ?_, ?_⟩
  · have hne : a ≠ p := fun z => by
      rcases am.new _ hm with k | k
      · rw [z, k] at ha; cases ha
      · exact n (z ▸ k)
    rw [upd_ne hne]; exact am.old a u ha n
  · obtain ⟨j, hj⟩ := List.getElem?_of_mem hq
    by_cases e : j = i
    · subst e
      rw [List.getElem?_set_self hi] at hj
      cases hj
      exact upd_same
    · rw [List.getElem?_set_ne (Ne.symm e)] at hj
      have hne : q.1 ≠ p := fun z => e (nodup_at am.nd hj h z)
      rw [upd_ne hne]
      exact am.own q (List.mem_of_getElem? hj)
  · obtain ⟨j, hj⟩ := List.getElem?_of_mem hq
    by_cases e : j = i
    · subst e
      rw [List.getElem?_set_self hi] at hj
      cases hj
      exact am.new (p, o) hm
    · rw [List.getElem?_set_ne (Ne.symm e)] at hj
      exact am.new q (List.mem_of_getElem? hj)
  · have e : (L.set i (p, o')).map (·.1) = L.map (·.1) := by
      rw [List.map_set]
      apply List.ext_getElem?
      intro j
      by_cases e : i = j
      · subst e
        rw [List.getElem?_set_self (by simpa using hi), List.getElem?_map, h]; rfl
      · rw [List.getElem?_set_ne e]
    rw [e]; exact am.nd
theorem Am.sub {L' : List (Addr × HO)} (am : Am S H0 L H) (h : L'.Sublist L) : Am S H0 L' H :=
  ⟨am.old, fun p hp => am.own p (h.subset hp), fun p hp => am.new p (h.subset hp), am.nd.sublist (h.map _)⟩
theorem Am.at (i : Nat) (am : Am S H0 L H) (h : L[i]? = some (p, o)) : H p = some o := am.own _ (List.mem_of_getElem? h)
theorem Am.toEx (am : Am [] H0 L H) : Ex H0 H := fun a o h => am.old a o h (by simp)
theorem Am.free (i : Nat) (am : Am [] H0 L H) (h : L[i]? = some (p, o)) : H0 p = none := by
  rcases am.new _ (List.mem_of_getElem? h) with k | k
  · exact k
  · cases k
end

/-! ### statements over the ledger -/
section
variable {K : PySem.W.Frag} {S : List Addr} {H0 H H' : Hp} {L : List (Addr × HO)} {σ : L2.St} {ta tb te : TE} {t : TT} {x y z v w : V} {D : Ends} {tu tw tz : TS}
theorem a_asg {i : Nat} (am : Am S H0 L H) (h : Ev te σ H v) (k : ∀ H, Am S H0 L H → D.nx (σ.set i (some v)) H) : tAsg te (gName i) D σ H := s_asg h fun H1 e => k H1 (am.ex e)
theorem aq_asg {i : Nat} (am : Am S H0 L H) (h : Ev te σ H v) (k : ∀ H, Am S H0 L H → tz D (σ.set i (some v)) H) : tSeq (tAsg te (gName i)) tz D σ H := q_asg h fun H1 e => k H1 (am.ex e)
theorem a_asgL {i : Nat} {xs : List V} (am : Am S H0 L H) (h : EvL te σ H xs) (k : ∀ p H, Am S H0 ((p, .lst xs) :: L) H → D.nx (σ.set i (some (.ref p))) H) : tAsg te (gName i) D σ H :=
  s_asgL h fun p H1 hp e h1 => k p H1 (am.add hp e h1)
theorem aq_asgL {i : Nat} {xs : List V} (am : Am S H0 L H) (h : EvL te σ H xs) (k : ∀ p H, Am S H0 ((p, .lst xs) :: L) H → tz D (σ.set i (some (.ref p))) H) : tSeq (tAsg te (gName i)) tz D σ H :=
  q_asgL h fun p H1 hp e h1 => k p H1 (am.add hp e h1)
theorem a_ret (am : Am S H0 L H) (h : Ev te σ H v) (k : ∀ H, Am S H0 L H → D.rt v H) : tRet te D σ H := s_ret h fun H1 e => k H1 (am.ex e)
theorem a_retL {xs : List V} (am : Am S H0 L H) (h : EvL te σ H xs) (k : ∀ p H, Am S H0 ((p, .lst xs) :: L) H → D.rt (.ref p) H) : tRet te D σ H := s_retL h fun p H1 hp e h1 => k p H1 (am.add hp e h1)
theorem a_if {b : Bool} (am : Am S H0 L H) (h : EvT t σ H b) (h1 : b = true → ∀ H, Am S H0 L H → tu D σ H) (h2 : b = false → ∀ H, Am S H0 L H → tw D σ H) : tIfS t tu tw D σ H :=
  s_if h (fun e H1 x => h1 e H1 (am.ex x)) fun e H1 x => h2 e H1 (am.ex x)
theorem aq_if {b : Bool} (am : Am S H0 L H) (h : EvT t σ H b) (h1 : b = true → ∀ H, Am S H0 L H → tu { D with nx := tz D } σ H) (h2 : b = false → ∀ H, Am S H0 L H → tw { D with nx := tz D } σ H) : tSeq (tIfS t tu tw) tz D σ H :=
  q_if h (fun e H1 x => h1 e H1 (am.ex x)) fun e H1 x => h2 e H1 (am.ex x)
theorem aq_when {b : Bool} (am : Am S H0 L H) (h : EvT t σ H b) (h1 : b = true → ∀ H, Am S H0 L H → tu { D with nx := tz D } σ H) (h2 : b = false → ∀ H, Am S H0 L H → tz D σ H) : tSeq (tIfS t tu tNext) tz D σ H :=
  aq_if am h h1 h2
theorem a_when {b : Bool} (am : Am S H0 L H) (h : EvT t σ H b) (h1 : b = true → ∀ H, Am S H0 L H → tu D σ H) (h2 : b = false → ∀ H, Am S H0 L H → D.nx σ H) : tIfS t tu tNext D σ H :=
  a_if am h h1 h2
theorem a_drop (am : Am S H0 L H) (h : Ev te σ H v) (k : ∀ H, Am S H0 L H → D.nx σ H) : tDrop te D σ H := s_drop h fun H1 e => k H1 (am.ex e)
theorem aq_drop (am : Am S H0 L H) (h : Ev te σ H v) (k : ∀ H, Am S H0 L H → tz D σ H) : tSeq (tDrop te) tz D σ H := q_drop h fun H1 e => k H1 (am.ex e)
/-- xs.append(e), xs in the ledger at i -/
theorem a_app (i : Nat) {l : Addr} {xs : List V} (am : Am S H0 L H) (hi : L[i]? = some (l, .lst xs)) (ha : Ev ta σ H (.ref l)) (h : Ev te σ H v) (hz : xs.length < 100000)
    (k : ∀ H, Am S H0 (L.set i (l, .lst (xs ++ [v]))) H → D.nx σ H) : tDrop (tBM K "list" rAppend ta (tCons te tNil)) D σ H :=
  s_app (am.at i hi) ha h hz fun H1 e => k _ ((am.ex e).set i hi)
theorem aq_app (i : Nat) {l : Addr} {xs : List V} (am : Am S H0 L H) (hi : L[i]? = some (l, .lst xs)) (ha : Ev ta σ H (.ref l)) (h : Ev te σ H v) (hz : xs.length < 100000)
    (k : ∀ H, Am S H0 (L.set i (l, .lst (xs ++ [v]))) H → tz D σ H) : tSeq (tDrop (tBM K "list" rAppend ta (tCons te tNil))) tz D σ H :=
  q_app (am.at i hi) ha h hz fun H1 e => k _ ((am.ex e).set i hi)
/-- xs[j] = e -/
theorem a_setL (i : Nat) {l : Addr} {xs : List V} {j : Nat} (am : Am S H0 L H) (hi : L[i]? = some (l, .lst xs)) (h : Ev te σ H v) (ho : Ev ta σ H (.ref l)) (hj' : Ev tb σ H (.int (j : Int))) (hj : j < xs.length)
    (k : ∀ H, Am S H0 (L.set i (l, .lst (xs.set j v))) H → D.nx σ H) : tAsg te (gSub ta tb rSetL) D σ H :=
  s_setL (am.at i hi) h ho hj' hj fun H1 e => k _ ((am.ex e).set i hi)
theorem aq_setL (i : Nat) {l : Addr} {xs : List V} {j : Nat} (am : Am S H0 L H) (hi : L[i]? = some (l, .lst xs)) (h : Ev te σ H v) (ho : Ev ta σ H (.ref l)) (hj' : Ev tb σ H (.int (j : Int))) (hj : j < xs.length)
    (k : ∀ H, Am S H0 (L.set i (l, .lst (xs.set j v))) H → tz D σ H) : tSeq (tAsg te (gSub ta tb rSetL)) tz D σ H :=
  q_setL (am.at i hi) h ho hj' hj fun H1 e => k _ ((am.ex e).set i hi)

/-! ### what is walked -/
/-- J walks xs, wherever the heap is as P says -/
def Sq (J : It) (P : Hp → Prop) (xs : List V) : Prop := ∀ H, P H → (∀ (i : Nat) x, xs[i]? = some x → J.go i H ∧ ∀ y H', J.yld i H y H' → H' = H ∧ y = x) ∧ J.stop xs.length H
def Wk (wi : TI) (σ : L2.St) (H : Hp) (P : Hp → Prop) (xs : List V) : Prop := ∀ H1, Ex H H1 → ∀ R : It → Hp → Prop, (∀ J H2, Ex H1 H2 → Sq J P xs → R J H2) → wi σ H1 R
/-- over a new list -/
def WkN (wi : TI) (σ : L2.St) (H : Hp) (xs : List V) : Prop := ∀ H1, Ex H H1 → ∀ R : It → Hp → Prop, (∀ p J H2, H1 p = none → Ex H1 H2 → H2 p = some (.lst xs) → Sq J (fun H' => H' p = some (.lst xs)) xs → R J H2) → wi σ H1 R
theorem sq_list {a : Addr} {xs : List V} : Sq (Itl K a) (fun H => SqL K H a xs) xs := fun H h =>
  ⟨fun i x hx => ⟨⟨xs, x, h, hx⟩, fun y H' hy => ⟨hy.1, Option.some.inj ((hy.2 xs h).symm.trans hx)⟩⟩, ⟨xs, h, Nat.le_refl _⟩⟩
theorem sq_tup {a : Addr} {xs : List V} : Sq (Itt K a) (fun H => SqT K H a xs) xs := fun H h =>
  ⟨fun i x hx => ⟨⟨xs, x, h, hx⟩, fun y H' hy => ⟨hy.1, Option.some.inj ((hy.2 xs h).symm.trans hx)⟩⟩, ⟨xs, h, Nat.le_refl _⟩⟩
theorem sq_range {lo : Int} {n : Nat} : Sq (Itr lo n) (fun _ => True) ((List.range n).map fun i => .int (lo + (i : Nat))) := fun H _ => by
  refine ⟨fun i x hx => ?_, by show n ≤ _; simp⟩
  rw [List.getElem?_map] at hx
  by_cases hi : i < n
  · rw [List.getElem?_range hi] at hx
    exact ⟨hi, fun y H' hy => ⟨hy.1, hy.2.trans (Option.some.inj hx)⟩⟩
  · rw [List.getElem?_eq_none (by simp; omega)] at hx; cases hx
theorem sq_rangeC {lo c : Int} {n : Nat} : Sq (Itc lo c n) (fun _ => True) ((List.range n).map fun i => .int (lo + (i : Nat) * c)) := fun H _ => by
  refine ⟨fun i x hx => ?_, by show n ≤ _; simp⟩
  rw [List.getElem?_map] at hx
  by_cases hi : i < n
  · rw [List.getElem?_range hi] at hx
    exact ⟨hi, fun y H' hy => ⟨hy.1, hy.2.trans (Option.some.inj hx)⟩⟩
  · rw [List.getElem?_eq_none (by simp; omega)] at hx; cases hx
theorem sq_text {l : Tx} : Sq (Its (T l)) (fun _ => True) (l.map fun c => tS [c]) := fun H _ => by
  refine ⟨fun i x hx => ?_, by show (T l).cps.size ≤ _; simp [T]⟩
  rw [List.getElem?_map] at hx
  cases hc : l[i]? with
  | none => rw [hc] at hx; cases hx
  | some c =>
    rw [hc] at hx
    have hi : i < l.length := (List.getElem?_eq_some_iff.mp hc).1
    refine ⟨by show i < (T l).cps.size; simpa [T] using hi, fun y H' hy => ⟨hy.1, ?_⟩⟩
    obtain ⟨c', e1, e2⟩ := hy.2
    have e3 : l[i]? = some c' := by simpa [T] using e1
    rw [hc] at e3
    have e4 : c = c' := Option.some.inj e3
    subst e4
    exact e2.trans (Option.some.inj hx)
theorem wk_list {a : Addr} {xs : List V} {tl : TE} (h : Ev tl σ H (.ref a)) (hx : SqL K H a xs) : Wk (iList K tl) σ H (fun H => SqL K H a xs) xs := fun H1 e R q =>
  h H1 e _ fun H2 e2 => ⟨a, rfl, ⟨xs, ex_l (e.trans e2) hx⟩, q _ H2 e2 sq_list⟩
theorem wk_tup {a : Addr} {xs : List V} {tl : TE} (h : Ev tl σ H (.ref a)) (hx : SqT K H a xs) : Wk (iTup K tl) σ H (fun H => SqT K H a xs) xs := fun H1 e R q =>
  h H1 e _ fun H2 e2 => ⟨a, rfl, ⟨xs, ex_t (e.trans e2) hx⟩, q _ H2 e2 sq_tup⟩
theorem wk_range1 {ta : TA} {n : Int} (h : EvA ta σ H [.int n]) (hn : -1000000 ≤ n ∧ n ≤ 1000000) : Wk (iRng1 ta) σ H (fun _ => True) ((List.range n.toNat).map fun i => .int (i : Nat)) := fun H1 e R q =>
  h H1 e _ fun H2 e2 => ⟨n, rfl, by omega, by omega, q _ H2 e2 (by
    have z := sq_range (lo := 0) (n := n.toNat)
    simpa only [Int.zero_add] using z)⟩
theorem wk_range2 {ta : TA} {lo n : Int} (h : EvA ta σ H [.int lo, .int n]) (hn : -1000000 ≤ lo ∧ lo ≤ 1000000 ∧ -1000000 ≤ n ∧ n ≤ 1000000) :
    Wk (iRng2 ta) σ H (fun _ => True) ((List.range (n - lo).toNat).map fun i => .int (lo + (i : Nat))) := fun H1 e R q =>
  h H1 e _ fun H2 e2 => ⟨lo, n, rfl, ⟨by omega, by omega, by omega, by omega⟩, q _ H2 e2 sq_range⟩
theorem wk_text {te : TE} {l : Tx} (h : Ev te σ H (tS l)) : Wk (iStr te) σ H (fun _ => True) (l.map fun c => tS [c]) := fun H1 e R q =>
  h H1 e _ fun H2 e2 => ⟨T l, rfl, q _ H2 e2 sq_text⟩
theorem wk_newL {xs : List V} {tl : TE} (h : EvL tl σ H xs) : WkN (iList K tl) σ H xs := fun H1 e R q =>
  h H1 e _ fun p H2 hp e2 h2 => ⟨p, rfl, ⟨xs, sq_of h2⟩, q p _ H2 hp e2 h2 fun H3 h3 => sq_list H3 (sq_of h3)⟩

/-! ### loops -/
/-- over ns, told by f: Iv by what is gone through -/
theorem a_for {α : Type} {wi : TI} {P : Hp → Prop} {f : α → V} {ns : List α} {j : Nat} (Iv : List α → L2.St → Hp → Prop) (am : Am S H0 L H) (hw : Wk wi σ H P (ns.map f)) (h0 : ∀ H, Am S H0 L H → Iv [] σ H)
    (hP : ∀ pre σ' H', Iv pre σ' H' → P H')
    (hs : ∀ pre n post σ' H', ns = pre ++ n :: post → Iv pre σ' H' → tu { D with nx := Iv (pre ++ [n]), ct := Iv (pre ++ [n]), bk := D.nx } (σ'.set j (some (f n))) H')
    (hd : ∀ σ' H', Iv ns σ' H' → D.nx σ' H') : tFor wi (gName j) tu D σ H := by
  refine hw H (Ex.refl H) _ fun J H2 e sq => ?_
  refine ⟨fun i m σ' H' => i + m = ns.length ∧ Iv (ns.take i) σ' H', ⟨ns.length, by omega, h0 H2 (am.ex e)⟩, ?_⟩
  rintro i m σ' H' ⟨im, hI⟩
  obtain ⟨q1, q2⟩ := sq H' (hP _ _ _ hI)
  by_cases hi : i < ns.length
  · have g : (ns.map f)[i]? = some (f ns[i]) := by rw [List.getElem?_map, List.getElem?_eq_getElem hi]; rfl
    have hsp : ns = ns.take i ++ ns[i] :: ns.drop (i + 1) := by
      rw [← List.drop_eq_getElem_cons hi, List.take_append_drop]
    have ht : ns.take (i + 1) = ns.take i ++ [ns[i]] := by rw [List.take_succ_eq_append_getElem hi]
    obtain ⟨g1, g2⟩ := q1 i _ g
    refine .inr ⟨g1, Iv (ns.take i ++ [ns[i]]), fun σ2 H2 hN => ⟨m - 1, by omega, by omega, by rw [ht]; exact hN⟩, fun y H'' hy => ?_⟩
    obtain ⟨e1, e2⟩ := g2 y H'' hy
    subst e1 e2
    exact hs _ _ _ σ' H'' hsp hI
  · have ei : i = ns.length := by omega
    subst ei
    rw [List.take_length] at hI
    rw [List.length_map] at q2
    exact .inl ⟨q2, hd σ' H' hI⟩
theorem aq_for {α : Type} {wi : TI} {P : Hp → Prop} {f : α → V} {ns : List α} {j : Nat} (Iv : List α → L2.St → Hp → Prop) (am : Am S H0 L H) (hw : Wk wi σ H P (ns.map f)) (h0 : ∀ H, Am S H0 L H → Iv [] σ H)
    (hP : ∀ pre σ' H', Iv pre σ' H' → P H')
    (hs : ∀ pre n post σ' H', ns = pre ++ n :: post → Iv pre σ' H' → tu { D with nx := Iv (pre ++ [n]), ct := Iv (pre ++ [n]), bk := tz D } (σ'.set j (some (f n))) H')
    (hd : ∀ σ' H', Iv ns σ' H' → tz D σ' H') : tSeq (tFor wi (gName j) tu) tz D σ H := a_for (D := { D with nx := tz D }) Iv am hw h0 hP hs hd
/-- while -/
theorem a_while (W : Nat → L2.St → Hp → Prop) (m0 : Nat) (h0 : W m0 σ H)
    (hs : ∀ m σ' H', W m σ' H' → ∃ b, EvT t σ' H' b ∧ (b = true → ∀ H1, Ex H' H1 → ∀ N : L2.St → Hp → Prop, (∀ m' σ2 H2, m' < m → W m' σ2 H2 → N σ2 H2) → tu { D with nx := N, ct := N, bk := D.nx } σ' H1) ∧ (b = false → ∀ H1, Ex H' H1 → D.nx σ' H1)) : tWhile t tu D σ H :=
  s_while W m0 h0 fun m σ' H' hw => by
    obtain ⟨b, hb, h1, h2⟩ := hs m σ' H' hw
    exact ⟨b, hb, fun e H1 ex => ⟨fun σ2 H2 => ∃ m', m' < m ∧ W m' σ2 H2, fun _ _ h => h, h1 e H1 ex _ fun m' σ2 H2 l w => ⟨m', l, w⟩⟩, h2⟩
theorem aq_while (W : Nat → L2.St → Hp → Prop) (m0 : Nat) (h0 : W m0 σ H)
    (hs : ∀ m σ' H', W m σ' H' → ∃ b, EvT t σ' H' b ∧ (b = true → ∀ H1, Ex H' H1 → ∀ N : L2.St → Hp → Prop, (∀ m' σ2 H2, m' < m → W m' σ2 H2 → N σ2 H2) → tu { D with nx := N, ct := N, bk := tz D } σ' H1) ∧ (b = false → ∀ H1, Ex H' H1 → tz D σ' H1)) : tSeq (tWhile t tu) tz D σ H := a_while (D := { D with nx := tz D }) W m0 h0 hs

/-! ### comprehensions -/
theorem filter_snoc {α : Type} (b : α → Bool) (l : List α) (n : α) : (l ++ [n]).filter b = l.filter b ++ (if b n = true then [n] else []) := by
  rw [List.filter_append]
  by_cases h : b n = true
  · rw [if_pos h, List.filter_cons_of_pos h]; rfl
  · rw [if_neg h, List.filter_cons_of_neg h]; rfl
theorem el_lc {α : Type} {wi : TI} {P : Hp → Prop} {f : α → V} {ns : List α} {j : Nat} {vs : List Nat} (b : α → Bool) (v : α → V) (hw : Wk wi σ H P (ns.map f)) (hm : ∀ H H', Ex H H' → P H → P H') (hp : P H) (hz : ns.length ≤ 100000)
    (hv : ∀ x, wipe ((wipe σ vs).set j (some x)) vs = wipe σ vs)
    (ht : ∀ n ∈ ns, EvT t ((wipe σ vs).set j (some (f n))) H (b n)) (he : ∀ n ∈ ns, b n = true → Ev te ((wipe σ vs).set j (some (f n))) H (v n)) :
    EvL (tLc wi (gName j) t te vs) σ H ((ns.filter b).map v) := fun H1 e Q q => by
  refine hw H1 e _ fun J H2 e2 sq => fun Dl hD => ?_
  refine ⟨fun i m H' => i + m = ns.length ∧ Ex H2 H' ∧ H' Dl = some (.lst (((ns.take i).filter b).map v)), ⟨ns.length, by omega, Ex.new hD, upd_same⟩, ?_⟩
  rintro i m H' ⟨im, e3, hl⟩
  obtain ⟨q1, q2⟩ := sq H' (hm _ _ ((e.trans e2).trans e3) hp)
  by_cases hi : i < ns.length
  · have g : (ns.map f)[i]? = some (f ns[i]) := by rw [List.getElem?_map, List.getElem?_eq_getElem hi]; rfl
    have hmem : ns[i] ∈ ns := List.getElem_mem hi
    have ht2 : ns.take (i + 1) = ns.take i ++ [ns[i]] := by rw [List.take_succ_eq_append_getElem hi]
    obtain ⟨g1, g2⟩ := q1 i _ g
    refine .inr ⟨g1, fun H'' => Ex H2 H'' ∧ H'' Dl = some (.lst (((ns.take (i + 1)).filter b).map v)), fun H'' hN => ⟨m - 1, by omega, by omega, hN.1, hN.2⟩, fun y H'' hy => ?_⟩
    obtain ⟨e4, e5⟩ := g2 y H'' hy
    subst e4 e5
    refine ⟨hv _, ?_⟩
    refine ht _ hmem H'' ((e.trans e2).trans e3) _ fun H5 e6 => ?_
    rw [ht2, filter_snoc]
    cases hb : b ns[i] with
    | true =>
      show te ((wipe σ vs).set j (some (f ns[i]))) H5 _
      refine he _ hmem hb H5 (((e.trans e2).trans e3).trans e6) _ fun H6 e7 => ?_
      refine ⟨_, e7 _ _ (e6 _ _ hl), ?_, Ex.mut ((e3.trans e6).trans e7) hD, ?_⟩
      · refine szL6 ?_
        rw [List.length_map]
        have := List.length_filter_le b (ns.take i)
        rw [List.length_take] at this
        omega
      · rw [upd_same, if_pos rfl, List.map_append]; rfl
    | false =>
      show Ex H2 H5 ∧ _
      refine ⟨e3.trans e6, ?_⟩
      rw [if_neg Bool.false_ne_true, List.append_nil]
      exact e6 _ _ hl
  · have ei : i = ns.length := by omega
    subst ei
    rw [List.take_length] at hl
    rw [List.length_map] at q2
    exact .inl ⟨q2, q Dl H' (fresh_back e2 hD) (e2.trans e3) hl⟩
/-- without a test -/
theorem el_lcY {α : Type} {wi : TI} {P : Hp → Prop} {f : α → V} {ns : List α} {j : Nat} {vs : List Nat} (v : α → V) (hw : Wk wi σ H P (ns.map f)) (hm : ∀ H H', Ex H H' → P H → P H') (hp : P H) (hz : ns.length ≤ 100000)
    (hv : ∀ x, wipe ((wipe σ vs).set j (some x)) vs = wipe σ vs) (he : ∀ n ∈ ns, Ev te ((wipe σ vs).set j (some (f n))) H (v n)) :
    EvL (tLc wi (gName j) tYes te vs) σ H (ns.map v) := by
  have z := el_lc (t := tYes) (fun _ => true) v hw hm hp hz hv (fun _ _ => et_yes) (fun n hn _ => he n hn)
  rwa [List.filter_eq_self.mpr (fun _ _ => rfl)] at z
theorem pm_true {H H' : Hp} (_ : Ex H H') (_ : True) : True := trivial
/-- items of a new list -/
theorem el_lcN {α : Type} {tl : TE} {f : α → V} {ns : List α} {j : Nat} {vs : List Nat} (b : α → Bool) (v : α → V) (h : EvL tl σ H (ns.map f)) (hz : ns.length ≤ 100000)
    (hv : ∀ x, wipe ((wipe σ vs).set j (some x)) vs = wipe σ vs)
    (ht : ∀ n ∈ ns, EvT t ((wipe σ vs).set j (some (f n))) H (b n)) (he : ∀ n ∈ ns, b n = true → Ev te ((wipe σ vs).set j (some (f n))) H (v n)) :
    EvL (tLc (iList K tl) (gName j) t te vs) σ H ((ns.filter b).map v) := fun H1 e Q q =>
  h H1 e _ fun p H2 hp e2 h2 => by
    have z := el_lc (σ := σ) (H := H2) (wi := iList K (tC (.ref p))) (f := f) (ns := ns) (j := j) (vs := vs) (t := t) (te := te) b v (wk_list ev_c (sq_of h2)) (fun _ _ ex s => ex_l ex s) (sq_of h2) hz hv
      (fun n hn => (ht n hn).mono (e.trans e2)) (fun n hn hb => (he n hn hb).mono (e.trans e2))
    exact z H2 (Ex.refl H2) Q fun p' H3 hp' e3 h3 => q p' H3 (fresh_back e2 hp') (e2.trans e3) h3
end
end Mw
/-! rules of our own over the layer -/
namespace Mw
open PySem PySem.Spec PyProof.Rows L2 Evl

/-- where the classes stand -/
structure Ad where
  K : PySem.W.Frag
  cME : Addr
  cBT : Addr
  cBL : Addr
  cBW : Addr
  cBA : Addr
  cNT : Addr
  cNP : Addr
  cFu : Addr
  cBook : Addr
  cGroups : Addr

section
variable {X : Cx} {e : Expr} {te : TE} {pos : Pos}
theorem pe_globS {x z : Str} (hg : Gl X x) (hm : ∃ t, X.mg x = some (.str z t)) (hd : (x == ("__debug__" : Str)) = false := by decide) : PE X (.Name x pos) (tC (.str z)) := by
  obtain ⟨t, h⟩ := hm
  exact pe_glob hg h ⟨t, rfl⟩ hd
theorem pe_globI {x : Str} {i : Int} (hg : Gl X x) (hm : ∃ t, X.mg x = some (.int i t)) (hd : (x == ("__debug__" : Str)) = false := by decide) : PE X (.Name x pos) (tC (.int i)) := by
  obtain ⟨t, h⟩ := hm
  exact pe_glob hg h ⟨t, rfl⟩ hd

/-! ### calls -/
/-- a def that may be called by its name -/
structure Cal (P : Program) (w : World) (K : PySem.W.Frag) (mg : Str → Option Value) (base : Heap) (CX : CXT) (k : Nat) (x : Str) (ps : List Str) (sp : Sp) : Prop where
  ex : ∃ f fd, FnOk P w K mg base CX k f fd ps sp ∧ mg x = some (.ref f) ∧ PySem.W.keepIn K (.ref f) = true ∧ Binds K fd ps []
theorem pe_cal {CX : CXT} {k : Nat} {x : Str} {ps : List Str} {sp : Sp} {E : XK} {e : Expr} {es : List Expr} {t : TA} {p : Pos} (c : Cal X.prog X.w X.K X.mg X.base CX k x ps sp) (hr : Room k X.A) (hg : Gl X x) (hx : Passes CX X E) (ha : PA X (e :: es) t)
    (hdb : (x == ("__debug__" : Str)) = false := by decide) (he : starEach (e :: es) X.env = (false, eval e X.env) :: starEach es X.env := by rfl) (hpl : (backTo pos (starEach es X.env)).any (·.1) = false := by rfl) :
    PE X (.Call (.Name x p) (e :: es) [] pos) (tCall sp [] E t) := by
  obtain ⟨f, fd, F, hm, hk, hb⟩ := c.ex
  exact pe_call F hr hg hm hk hb .nil hx ha hdb he hpl
theorem pe_calS {k : Nat} {x : Str} {ps : List Str} {sp : Sp} {E : L2.St → XK} {e : Expr} {es : List Expr} {t : TA} {p : Pos} {CX : CXT} (c : Cal X.prog X.w X.K X.mg X.base CX k x ps sp) (hr : Room k X.A) (hg : Gl X x) (hx : ∀ σ, PassesAt CX X σ (E σ)) (ha : PA X (e :: es) t)
    (hdb : (x == ("__debug__" : Str)) = false := by decide) (he : starEach (e :: es) X.env = (false, eval e X.env) :: starEach es X.env := by rfl) (hpl : (backTo pos (starEach es X.env)).any (·.1) = false := by rfl) :
    PE X (.Call (.Name x p) (e :: es) [] pos) (tCallS sp E t) := by
  obtain ⟨f, fd, F, hm, hk, hb⟩ := c.ex
  exact pe_callS F hr hg hm hk hb hx ha hdb he hpl
theorem passX {E : XK} (tk : Takes X (fun cls d _ H => E cls d H)) : Passes (L2.CX X.prog X.w) X E := passes_call tk fun _ _ _ _ h => h

/-! ### raise C('..') -/
def tRz (E : XK) (C : Addr) : TS := fun _ _ H => E (.ref C) none H
/-- what the written part says of an own exception without own __init__ -/
structure XCls (K : PySem.W.Frag) (mg : Str → Option Value) (x : Str) (C : Addr) : Prop where
  g : mg x = some (.ref C)
  ex : PySem.W.excIn K C [.type "ValueError", .type "Exception", .type "BaseException", .type "object"] "ValueError.__new__" = true
  kp : PySem.W.keepIn K (.ref C) = true
  sb : PySem.W.subIn K (.ref C) (.type "BaseException") = some true
  ty : PySem.W.typeIn K (.ref C) = some (.type "type")
theorem ps_rz {x m : Str} {j : Nat} {p p2 pos2 : Pos} {E : XK} {C : Addr} (hc : X.calm = true) (c : XCls X.K X.mg x C) (hg : Gl X x) (tk : Takes X (fun cls d _ H => E cls d H)) (hdb : (x == ("__debug__" : Str)) = false := by decide) :
    PS X (.Raise (some (.Call (.Name x p) [.Constant (.str m) j p2] [] pos)) none pos2) (tRz E C) :=
  ps_raise hc tk (pmk_own PySem.F.excBase_ValueError c.ex c.g c.kp (raises_own c.sb c.ty) hg hdb)

/-! ### text[::-1] -/
def tRevT (te : TE) : TE := fun σ H Q => te σ H fun x H1 => ∃ z : Str, x = .str z ∧ z.length ≤ sizeLine ∧ Q (.str ⟨z.cps.toList.reverse.toArray⟩) H1
theorem range_down (n : Nat) : Builtin.Str.strSliceIndices none none (-1) n = (List.range n).reverse := by
  show sliceRange (((n : Nat) : Int) - 1) (-1) (-1) = _
  rw [PySem.W.krv_sliceRange, PySem.W.krv_range]
theorem pick_down (z : Str) : ((List.range z.length).reverse.filterMap (z.cps[·]?)) = z.cps.toList.reverse := by
  rw [List.filterMap_reverse]
  exact congrArg List.reverse (PySem.W.krv_all z.cps)
theorem pe_revT {k : Nat} {p1 p2 p3 : Pos} (he : PE X e te) : PE X (.Subscript e (.Slice none none (some (.UnaryOp .USub (.Constant (.int 1) k p1) p2)) p3) pos) (tRevT te) := by
  refine ⟨fun pins s σ H Q I h => Subscript_ (thn (he.run pins s σ H _ I h) fun v s1 hv => ?_)⟩
  obtain ⟨x, H1, J, rx, z, ex, hz, q⟩ := hv
  subst ex
  obtain ⟨t, rfl⟩ := rx
  have hd : PO X (some (.UnaryOp .USub (.Constant (.int 1) k p1) p2)) (tPart (tNegI (tC (.int 1)))) := po_some (pe_un un_neg pe_int)
  refine wpAny_Slice (thn ((po_none (X := X)).run pins s1 σ H1 (fun o G => o = none ∧ G = H1) J ⟨rfl, rfl⟩) fun vl s2 w1 => ?_)
  obtain ⟨l, G1, J1, pl, rfl, rfl⟩ := w1
  refine thn ((po_none (X := X)).run pins s2 σ G1 (fun o G => o = none ∧ G = G1) J1 ⟨rfl, rfl⟩) fun vu s3 w2 => ?_
  obtain ⟨u, G2, J2, pu, rfl, rfl⟩ := w2
  refine thn (hd.run pins s3 σ G2 (fun o G => o = some (-1) ∧ G = G2) J2 ⟨1, rfl, -1, rfl, rfl, rfl⟩) fun vs s4 w3 => ?_
  obtain ⟨o, G3, J3, ps, rfl, rfl⟩ := w3
  have J4 : Inv X pins σ G3 { s4 with heap := s4.heap.push { cls := .type "slice", data := .fields #[vl, vu, vs] } } := J3.kept (t' := s4.toks) fun b ob z => Heap.get?_push_of_some _ z
  obtain ⟨l1, rfl, q1⟩ := IsPart.raw pl
  obtain ⟨u1, rfl, q2⟩ := IsPart.raw pu
  obtain ⟨d1, rfl, q3⟩ := IsPart.raw ps
  obtain ⟨⟨di, dt⟩, rfl⟩ : ∃ y, d1 = some y := by
    cases d1 with
    | none => cases q3
    | some y => exact ⟨y, rfl⟩
  have q4 : di = -1 := Option.some.inj q3
  subst q4
  refine tail_any (ops := [.str z t, .ref s4.heap.objs.size]) (typeIs_str _ z t) PySem.F.slot_str_getitem.lookup ?_ (by with_unfolding_all rfl)
  refine wpAny_getItem_str_slice (l := l1) (u := u1) (st := some (-1, dt)) ⟨_, Heap.get?_push_size _ rfl, rfl, rfl⟩ rfl ?_
  have q1' : l1.map (·.1) = none := q1
  have q2' : u1.map (·.1) = none := q2
  have pk : slicePicked z l1 u1 (some (-1, dt)) = (List.range z.length).reverse := by
    unfold slicePicked
    rw [q1', q2']
    exact range_down _
  unfold sliceMade
  rw [pk, if_neg (show ¬ (((Option.map (·.1) (some ((-1 : Int), dt))).getD 1 == 1 && ((List.range z.length).reverse.length == z.length)) = true) from fun w => by
    rw [Bool.and_eq_true] at w
    have w1 : ((-1 : Int) == 1) = true := w.1
    exact absurd w1 (by decide)), pick_down]
  exact ⟨by show (z.cps.toList.reverse.toArray).size ≤ sizeLine; simpa [Str.length] using hz, .str _, G3, J4.tok _, ⟨_, rfl⟩, q⟩
end
section
variable {σ : L2.St} {H : Hp} {te : TE}
theorem e_rev {l : Tx} (h : Ev te σ H (tS l)) (hl : l.length ≤ 1000000) : Ev (tRevT te) σ H (tS l.reverse) := fun H1 e _ q =>
  h H1 e _ fun H2 e2 => ⟨T l, rfl, by rw [T_len]; exact sz6 hl, by rw [T_cps]; exact q H2 e2⟩
end

/-! ### text * int -/
def rMulT : R2 := fun x y H Q => ∃ (z : Str) (n : Int), x = .str z ∧ y = .int n ∧ 0 ≤ n ∧ n ≤ 1000000 ∧ z.length * n.toNat ≤ 1000000 ∧ Q (.str ⟨(List.replicate n.toNat z.cps.toList).flatten.toArray⟩) H
theorem fold_cat (xs : List (Array Nat)) : ∀ acc : Array Nat, (xs.foldl (· ++ ·) acc).toList = acc.toList ++ (xs.map Array.toList).flatten := by
  induction xs with
  | nil => intro acc; simp
  | cons x r ih => intro acc; rw [List.foldl_cons, ih]; simp
theorem fold_rep (z : Str) (k : Nat) : (⟨(List.replicate k z.cps).foldl (· ++ ·) #[]⟩ : Str) = ⟨(List.replicate k z.cps.toList).flatten.toArray⟩ := by
  congr 1
  apply Array.toList_inj.mp
  rw [fold_cat]
  simp
theorem tooL6 {n : Nat} (h : n ≤ 1000000) : Builtin.Str.tooLong n = false := by
  unfold Builtin.Str.tooLong
  rw [decide_eq_false]
  have := sizeLine_eq
  omega
theorem op_mulT {X : Cx} : OpR X (binaryOp .Mult) rMulT := by
  intro pins s σ H x y v u Q I rx ry h
  obtain ⟨z, n, rfl, rfl, h0, h1, h2, q⟩ := h
  obtain ⟨t, rfl⟩ := rx
  obtain ⟨t', rfl⟩ := ry
  have fin : ∀ r : Str, r = ⟨(List.replicate n.toNat z.cps.toList).flatten.toArray⟩ → r.length ≤ sizeLine → ∀ k, EP X pins σ Q (.str r k) { s with toks := s.toks + 1 } := fun r e _ k =>
    ⟨.str r, H, I.tok _, ⟨_, rfl⟩, by rw [e]; exact q⟩
  have hlen : ∀ k : Nat, (⟨(List.replicate k z.cps.toList).flatten.toArray⟩ : Str).length = z.length * k := fun k => by
    simp [Str.length, Nat.mul_comm]
  refine PySem.P.mul_str (by
    rw [decide_eq_false (by omega), decide_eq_false (by omega)]; rfl) (fun a b => ?_) (fun a b => tooL6 h2) ?_
  · have hn : 1 ≤ n := by omega
    obtain ⟨m, rfl⟩ : ∃ m : Nat, n = m := ⟨n.toNat, by omega⟩
    have h3 : z.length * m ≤ 1000000 := h2
    have h4 : ((z.length * m : Nat) : Int) ≤ ((1000000 : Nat) : Int) := Int.ofNat_le.mpr h3
    rw [Int.natCast_mul] at h4
    have h5 : (z.length : Int) ≤ (2 ^ 63 - 1) / (m : Int) := (Int.le_ediv_iff_mul_le (by omega)).mpr (by omega)
    omega
  · by_cases a : n < 1
    · have e : n = 0 := by omega
      subst e
      rw [if_pos a]
      exact ⟨by show 0 ≤ sizeLine; exact Nat.zero_le _, fin _ rfl (Nat.zero_le _) _⟩
    · rw [if_neg a]
      by_cases b : (n == 1 || z.length == 0) = true
      · rw [if_pos b]
        refine ⟨.str z, H, I, ⟨_, rfl⟩, ?_⟩
        have ez : z = ⟨(List.replicate n.toNat z.cps.toList).flatten.toArray⟩ := by
          rcases Bool.or_eq_true _ _ ▸ b with b | b
          · have e : n = 1 := by simpa using b
            subst e
            simp
          · have e : z.cps = #[] := by
              have : z.cps.size = 0 := by simpa [Str.length] using b
              exact Array.eq_empty_of_size_eq_zero this
            obtain ⟨c⟩ := z
            dsimp only at e
            subst e
            simp
        rw [← ez] at q
        exact q
      · rw [if_neg b]
        have hl : (⟨(List.replicate n.toNat z.cps).foldl (· ++ ·) #[]⟩ : Str).length ≤ sizeLine := by
          rw [fold_rep, hlen]
          exact sz6 h2
        exact ⟨hl, fin _ (fold_rep z n.toNat) hl _⟩
def repT (l : Tx) (n : Nat) : Tx := (List.replicate n l).flatten
theorem r_mulT {H : Hp} {l : Tx} {n : Int} (h0 : 0 ≤ n) (h1 : n ≤ 1000000) (h2 : l.length * n.toNat ≤ 1000000) : RV rMulT (tS l) (.int n) H (tS (repT l n.toNat)) := fun H1 _ _ q =>
  ⟨T l, n, rfl, rfl, h0, h1, by rw [T_len]; exact h2, by rw [T_cps]; exact q H1 (Ex.refl H1)⟩
end Mw
/-! an error that a try catches and a name keeps; what isinstance says of it -/
namespace Mw
open PySem PySem.Spec PyProof.Rows L2 Evl

/-- an error of the class at C that stands at a -/
def ExK (C a : Addr) : HO := .ext fun h => ∃ (oe : Obj) (vs : Array Value), h.get? a = some oe ∧ Zc (.ref C) none oe ∧ oe.data = .fields vs
section
variable {X : Cx} {pins : List (Addr × Obj)} {σ : L2.St} {H : Hp} {s : Shared} {a : Addr} {o : HO}
/-- an object that the frame did not find at its entry is taken up -/
theorem track (I : Inv X pins σ H s) (hn : H a = none) (hL : a ≠ X.env.locals) (h0 : X.s_0.heap.get? a = none) (hc : ∀ x c, X.env.cells.lookup x = some c → c ≠ a) (hp : ∀ p ∈ X.pn ++ pins, p.1 ≠ a)
    (new : ObjOk X.prog X.w (upd H a o) s.heap a o) : Inv X pins σ (upd H a o) s := by
  have ne0 : ∀ b u, X.s_0.heap.get? b = some u → b ≠ a := fun b u e z => by rw [z, h0] at e; cases e
  have neH : ∀ b u, H b = some u → b ≠ a := fun b u e z => by rw [z, hn] at e; cases e
  constructor
  · exact I.ok
  · exact I.os
  · exact I.bare
  · have b := I.base
    constructor
    · exact b.keep
    · exact b.slot
    · intro c u e n x
      rw [upd_ne (ne0 c u e)]; exact b.free c u e n x
    · exact b.there
    · intro c xs e
      have z := b.tups c xs e
      rw [upd_ne (neH c _ z)]; exact z
    · intro c u v e
      have z := b.frzs c u v e
      rw [upd_ne (neH c _ z)]; exact z
    · intro c ps e
      obtain ⟨m, z⟩ := b.tbls c ps e
      exact ⟨m, by rw [upd_ne (neH c _ z)]; exact z⟩
  · exact I.loc
  · exact I.cell
  · rw [upd_ne (Ne.symm hL)]; exact I.free
  · intro x c e
    rw [upd_ne (hc x c e)]; exact I.freeC x c e
  · intro p m
    obtain ⟨e1, e2, e3⟩ := I.pin p m
    exact ⟨e1, by rw [upd_ne (hp p m)]; exact e2, e3⟩
  · exact I.hok.laidN (fun _ _ z => z) hn new
  · exact I.len
end

/-- try: BODY except C as n: y = n: y keeps what was caught -/
def tTryK (K : PySem.W.Frag) (C : Addr) (i j : Nat) (tb : WX → TS) : TS := fun D σ H =>
  tb (fun cls d σ' H' => ∃ D' : Addr, cls = .ref D' ∧ d = none ∧ PySem.W.exmOne K (.ref D') (.ref C) = some true ∧ ∀ a, H' a = none → D.nx ((σ'.set j (some (.ref a))).set i none) (upd H' a (ExK D' a))) D σ H
section
variable {X : Cx} {x n y : Str} {C : Addr} {i j : Nat} {body : List Stmt} {np p1 p2 p3 pos pos' : Pos} {tb : WX → TS}
theorem ps_tryK (hs : X.stack = X.env :: X.outer) (hf : X.env.frame = some X.env.locals) (hex : X.ex = []) (hN : X.N.Nodup) (hi : X.N[i]? = some n) (hj : X.N[j]? = some y) (hij : i ≠ j) (hln : X.env.scope.names.lookup n = some .local) (hly : X.env.scope.names.lookup y = some .local)
    (hg : Gl X x) (hm : X.mg x = some (.ref C)) (hb : ∀ (W : WX) (pn : List (Addr × Obj)) (xe : Value → Shared → Prop), Takes (X.tr pn xe) W → PSs (X.tr pn xe) body (tb W))
    (hd : (n == ("__debug__" : Str)) = false := by decide) (hdc : (n == ("__classdict__" : Str)) = false := by decide) (hdx : (x == ("__debug__" : Str)) = false := by decide) (hsw : swapsWith (.Name n p1) (some (.Name y p2)) p3.line X.env = pure false := by rfl) :
    PS X (.Try body [.ExceptHandler (some (.Name x np)) (some n) [.Assign [.Name y p2] (.Name n p1) p3] pos'] [] [] pos) (tTryK X.K C i j tb) := by
  refine ⟨fun pins s σ H D I h => ?_⟩
  have ok := I.ok
  have hfr : X.A.frames = some (X.env :: X.outer) := by rw [← hs]; exact ok.frames
  have sui : ∀ (a : Addr) (l : List (Addr × Obj)), PSs (X.suite a l) [.Assign [.Name y p2] (.Name n p1) p3] (tAsg (tVar i) (gName j)) := fun a l =>
    pss_one (ps_set (X := X.suite a l) (i := j) hN hj (.inl hly) (pe_var (X := X.suite a l) hi (.inl hln) hd hdc) hsw (.inr hly))
  let Wt : WX := fun cls d σ' H' => ∃ D' : Addr, cls = .ref D' ∧ d = none ∧ PySem.W.exmOne X.K (.ref D') (.ref C) = some true ∧ ∀ a, H' a = none → D.nx ((σ'.set j (some (.ref a))).set i none) (upd H' a (ExK D' a))
  let Q3 : Value → Shared → Prop := fun e s3 => wpAny (model X.prog X.w) X.A (handleBy e X.env [.ExceptHandler (some (.Name x np)) (some n) [.Assign [.Name y p2] (.Name n p1) p3] pos']) (SP X pins D) X.xe s3
  let Q1 : Value → Shared → Prop := fun e s1 => wpAny (model X.prog X.w) X.A (noteFrame e X.env) (fun _ s2 => wpAny (model X.prog X.w) X.A (setFlight e none) (fun _ s3 => Q3 e s3) X.xe s2) X.xe s1
  have tk : Takes (X.tr (X.pn ++ pins) Q1) Wt := by
    intro u s' xx
    obtain ⟨a, B, sI, pins', σ1, H1, cls, d, rfl, J0, nb, up, sky, na, os, ag, D', rfl, rfl, hex1, kn⟩ := xx
    have J : Inv X pins σ1 H1 sI := J0.ofTry ok
    have sk : Sky B (X.env :: X.outer) a (Zc (.ref D') none) X.env.locals s'.heap := by
      have z := sky
      rw [show (X.tr (X.pn ++ pins) Q1).stack = X.env :: X.outer from hs] at z
      exact z
    show wpAny (model X.prog X.w) X.A (noteFrame (.ref a) X.env) (fun _ s2 => wpAny (model X.prog X.w) X.A (setFlight (.ref a) none) (fun _ s3 => Q3 (.ref a) s3) X.xe s2) X.xe s'
    refine Sky.land Zc.steady hfr hf sk fun g fl upg => ?_
    have Jg : Inv X pins σ1 H1 { s' with heap := g } := J.landed nb fl.1 (up.trans upg) os ag
    obtain ⟨og, vg, hag, hzg, hdg⟩ := fl.there
    have nfr : a ∉ frs (X.env :: X.outer) := fun hmem => by
      obtain ⟨_, o', e', hnf⟩ := fl.2.2.1.mem hmem
      rw [hag] at e'
      cases e'
      exact hnf _ hdg
    have nL : a ≠ X.env.locals := fun z => nfr (List.mem_filterMap.mpr ⟨X.env, List.mem_cons_self, by rw [hf, z]⟩)
    have nF : a ∉ X.fs := fun hmem => by
      obtain ⟨e1, he1, q1⟩ := List.mem_filterMap.mp hmem
      exact nfr (List.mem_filterMap.mpr ⟨e1, List.mem_cons_of_mem _ he1, q1⟩)
    have Sg := Jg.suite hag hdg na nL nF
    have nI : sI.heap.get? a = none := by
      cases z : sI.heap.get? a with
      | none => rfl
      | some u =>
        have nfr' : a ∉ frs X.stack := by rw [hs]; exact nfr
        have z2 := nb a u z nfr'
        rw [fl.2.1] at z2
        cases z2
    have n0 : X.s_0.heap.get? a = none := by
      cases z : X.s_0.heap.get? a with
      | none => rfl
      | some u =>
        obtain ⟨o', z2⟩ := J.base.there a u z (by rw [hex]; exact List.not_mem_nil)
        rw [nI] at z2
        cases z2
    refine wpAny_handleBy_cons (codeAny_handlers_test ?_) (fun q => by cases q)
    have LT : PySem.W.Looks (model X.prog X.w) g (typeOf (.ref a)) (.ref D') := fun A Q E s k q => wpAny_typeOf_ref (k _ _ hag) (by rw [hzg.1]; exact q)
    have LM := PySem.W.exm_one (M := model X.prog X.w) Jg.kIn LT hex1
    refine ld_glob (X := X.suite a ((a, og) :: (X.pn ++ pins))) Sg hg hm (LM.here ?_) hdx
    refine codeAny_handlers_suite_as (HandSPX.lands_againZ fl fun g2 fl2 upg2 => ?_)
    have Jk : Inv X pins σ1 H1 { s' with heap := g2 } := J.landed nb fl2.1 ((up.trans upg).trans upg2) os ag
    obtain ⟨o2, v2, ha2, hz2, hd2⟩ := fl2.there
    have Jt : Inv X pins σ1 (upd H1 a (ExK D' a)) { s' with heap := g2 } := track Jk na nL n0
      (fun x1 c e1 z => by
        obtain ⟨v, oc, e2, e3⟩ := Jk.cell x1 c e1
        rw [z] at e2
        have e4 : g2.get? a = some oc := e2
        rw [ha2] at e4
        cases e4
        rw [hd2] at e3
        cases e3)
      (fun p m z => by
        obtain ⟨e1, _⟩ := J.pin p m
        rw [z, nI] at e1
        cases e1)
      ⟨⟨o2, v2, ha2, hz2, hd2⟩, ⟨o2, ha2⟩, fun h1 h2 w1 k => by
        obtain ⟨u1, u2, e1, e2, e3⟩ := w1
        exact ⟨u1, u2, k _ e1, e2, e3⟩⟩
    have St : Inv (X.suite a (X.pn ++ pins)) [] σ1 (upd H1 a (ExK D' a)) { s' with heap := g2 } :=
      ⟨Jt.ok.suite _ _, Jt.os, Jt.bare, Jt.base, Jt.loc, Jt.cell, Jt.free, Jt.freeC, fun p hp => Jt.pin p (by rw [List.append_nil] at hp; exact hp), Jt.hok, Jt.len⟩
    refine store_ok (X := X.suite a (X.pn ++ pins)) (v := .ref a) St hN hi (.inl hln) rfl (fun s5 S5 => ?_) (.inr hln)
    have hlen : i < σ1.length := by rw [Jt.len]; exact (List.getElem?_eq_some_iff.mp hi).1
    refine wpAny_mono ((sui a (X.pn ++ pins)).run [] s5 _ _ { nx := fun σ2 H2 => σ2 = (σ1.set i (some (.ref a))).set j (some (.ref a)) ∧ H2 = upd H1 a (ExK D' a), rt := fun _ _ => False } S5 ⟨.ref a, by rw [List.getElem?_set_self hlen], rfl, rfl⟩) (fun f s6 hsp => ?_) (fun _ _ z => False.elim z)
    cases f with
    | next =>
      obtain ⟨σ6, H6, S6, rfl, rfl⟩ := hsp
      have J6 : Inv X pins ((σ1.set i (some (.ref a))).set j (some (.ref a))) (upd H1 a (ExK D' a)) s6 :=
        ⟨ok, S6.os, S6.bare, S6.base, S6.loc, S6.cell, S6.free, S6.freeC, fun p hp => S6.pin p (List.mem_append_left _ hp), S6.hok, S6.len⟩
      refine gone_ok J6 hN hi hln fun s7 J7 => ⟨_, _, J7, ?_⟩
      have e : ((σ1.set i (some (V.ref a))).set j (some (V.ref a))).set i none = (σ1.set j (some (V.ref a))).set i none := by
        rw [List.set_comm _ _ hij, List.set_set]
      rw [e]
      exact kn a na
    | brk => obtain ⟨_, _, _, z⟩ := hsp; exact z.elim
    | cont => obtain ⟨_, _, _, z⟩ := hsp; exact z.elim
    | ret u => obtain ⟨_, _, _, _, _, z⟩ := hsp; exact z.elim
  refine wpAny_Try_except (wpAny_mono ((hb Wt (X.pn ++ pins) Q1 tk).run [] s σ H D (I.toTry _) h) (fun f s1 hsp => ?_) (fun e s1 he => he))
  cases f with
  | next => obtain ⟨σ2, H2, J2, q⟩ := hsp; exact wpAny_execs_nil ⟨σ2, H2, J2.ofTry ok, q⟩
  | brk => obtain ⟨σ2, H2, J2, q⟩ := hsp; exact ⟨σ2, H2, J2.ofTry ok, q⟩
  | cont => obtain ⟨σ2, H2, J2, q⟩ := hsp; exact ⟨σ2, H2, J2.ofTry ok, q⟩
  | ret u => obtain ⟨v, σ2, H2, J2, r, q⟩ := hsp; exact ⟨v, σ2, H2, J2.ofTry ok, r, q⟩
end

/-! ### isinstance of what is kept -/
def rIsX (K : PySem.W.Frag) : List V → Hp → VK → Prop := fun xs H Q => ∃ (a D : Addr) (c : V) (u : Value) (b : Bool), xs = [.ref a, c] ∧ H a = some (ExK D a) ∧ ExcC K D ∧ ClsV c u ∧ PySem.W.kitOne K (.ref D) u = some b ∧ Q (.bl b) H
def rIsXT (K : PySem.W.Frag) : List V → Hp → VK → Prop := fun xs H Q => ∃ (a D tp : Addr) (cs : List V) (us : List Value) (b : Bool), xs = [.ref a, .ref tp] ∧ H a = some (ExK D a) ∧ ExcC K D ∧ H tp = some (.tup cs) ∧ Paired ClsV cs us ∧ PySem.W.kitAny K (.ref D) us = some b ∧ Q (.bl b) H
section
variable {X : Cx} {pins : List (Addr × Obj)} {σ : L2.St} {H : Hp} {s : Shared} {a D : Addr}
theorem exk_at (I : Inv X pins σ H s) (h : H a = some (ExK D a)) (C : ExcC X.K D) : ∃ oe, PySem.W.KitX X.K (.ref a) (.ref D) (fun h => PySem.W.InstAt h a oe D none) ∧ PySem.W.InstAt s.heap a oe D none := by
  obtain ⟨⟨oe, vs, e1, e2, e3⟩, _⟩ := I.hok a _ h
  refine ⟨oe, PySem.W.handS_kitx_exc C.hg C.hk C.hs C.hd C.ha C.hn C.ht C.hm, ?_⟩
  obtain ⟨oc, od, dt, sl⟩ := oe
  obtain ⟨z1, z2⟩ := e2
  dsimp only at z1 z2 e3
  subst z1 z2 e3
  exact ⟨e1, rfl, rfl, trivial⟩
theorem call_isX : CallR X (.builtin "isinstance") (rIsX X.K) := by
  intro pins s σ H xs us Q I r h
  obtain ⟨a, D, c, u, b, rfl, hh, C, k, e, q⟩ := h
  obtain ⟨u1, u2, rfl, r1, r2⟩ := vals2 r
  cases (show u1 = Value.ref a from r1)
  have e2 := k.eq r2
  subst e2
  obtain ⟨oe, Z, J⟩ := exk_at I hh C
  exact PySem.W.kia_one Z I.kIn J e (fun z => nomatch z) fun tk => ⟨.bl b, H, I.tok tk, rfl, q⟩
theorem call_isXT : CallR X (.builtin "isinstance") (rIsXT X.K) := by
  intro pins s σ H xs us Q I r h
  obtain ⟨a, D, tp, cs, ws, b, rfl, hh, C, hT, k, e, q⟩ := h
  obtain ⟨u1, u2, rfl, r1, r2⟩ := vals2 r
  cases (show u1 = Value.ref a from r1)
  cases (show u2 = Value.ref tp from r2)
  obtain ⟨oe, Z, J⟩ := exk_at I hh C
  obtain ⟨_, its, rv, o, h1, h2, n, h3⟩ := (show ObjOk X.prog X.w H s.heap tp (.tup cs) from I.hok tp _ hT)
  have e3 := ClsV.all k rv
  subst e3
  obtain ⟨oc, od, dt, sl⟩ := o
  simp only at h2 h3
  subst h2 h3
  exact PySem.W.kia_tup Z I.kIn J h1 e (fun z => nomatch z) fun tk => ⟨.bl b, H, I.tok tk, rfl, q⟩
end
section
variable {K : PySem.W.Frag} {σ : L2.St} {H H' : Hp} {a D : Addr} {te : TE} {ta : TA}
theorem rc_isX {c : V} {u : Value} {b : Bool} (h : H a = some (ExK D a)) (C : ExcC K D) (k : ClsV c u) (e : PySem.W.kitOne K (.ref D) u = some b) : RC (rIsX K) [.ref a, c] H (.bl b) := fun H1 x _ q =>
  ⟨a, D, c, u, b, rfl, x a _ h, C, k, e, q H1 (Ex.refl H1)⟩
/-- isinstance(x, (c, ..)), the tuple made on the way -/
theorem e_isXT {cs : List V} {us : List Value} {b : Bool} (h : H a = some (ExK D a)) (C : ExcC K D) (hx : Ev te σ H (.ref a)) (hc : EvA ta σ H cs) (hz : cs.length ≤ 1000) (k : Paired ClsV cs us) (e : PySem.W.kitAny K (.ref D) us = some b) :
    Ev (tCB (rIsXT K) (tCons te (tCons (tTup ta) tNil))) σ H (.bl b) := fun H1 x Q q =>
  hx H1 x _ fun H2 x2 => eu_tup hc (by omega) H2 (x.trans x2) _ fun p H3 _ x3 h3 => ⟨a, D, p, cs, us, b, rfl, ((x.trans x2).trans x3) a _ h, C, h3, k, e, q H3 (x2.trans x3)⟩
theorem rc_isi {x c : V} {t u : Value} {b : Bool} (ty : ∀ H1, Ex H H1 → TyX K H1 x t) (k : ClsV c u) (e : PySem.W.kitOne K t u = some b) : RC (rIsi K) [x, c] H (.bl b) := fun H1 ex _ q => ⟨x, c, t, u, b, rfl, k, ty H1 ex, e, q H1 (Ex.refl H1)⟩
end

/-! ### kinds of things; written texts -/
theorem tyOf_ex {K : PySem.W.Frag} {H H1 : Hp} {x : V} {t : Value} (e : Ex H H1) (h : TyOf K H x t) : TyOf K H1 x t := by
  cases h with
  | non => exact .non
  | bl b => exact .bl b
  | int i => exact .int i
  | str z => exact .str z
  | flt z => exact .flt z
  | lst h => exact .lst (e _ _ h)
  | frz h => exact .frz (e _ _ h)
  | tup h => exact .tup (e _ _ h)
  | dK h => exact .dK (e _ _ h)
  | dT h => exact .dT (e _ _ h)
  | ins h c h1 h2 h3 h4 => exact .ins (e _ _ h) c h1 h2 h3 h4
theorem tyX_ex {K : PySem.W.Frag} {H H1 : Hp} {x : V} {t : Value} (e : Ex H H1) (h : TyX K H x t) : TyX K H1 x t := by
  cases h with
  | base h => exact .base (tyOf_ex e h)
  | byt b => exact .byt b
  | set h => exact .set (e _ _ h)
  | kList h c => exact .kList h c
  | kTuple h c => exact .kTuple h c
  | kDict h c => exact .kDict h c
  | fTuple h => exact .fTuple (e _ _ h)
  | fDict h => exact .fDict (e _ _ h)
/-- v is no text -/
def Odd (K : PySem.W.Frag) (H : Hp) (v : V) : Prop := ∃ n : String, TyX K H v (.type n) ∧ n ∈ ["NoneType", "int", "bool", "list", "tuple", "dict"]
theorem Odd.ex {K : PySem.W.Frag} {H H1 : Hp} {v : V} (e : Ex H H1) (h : Odd K H v) : Odd K H1 v := by
  obtain ⟨n, h1, h2⟩ := h
  exact ⟨n, tyX_ex e h1, h2⟩
theorem odd_str {K : PySem.W.Frag} {n : String} (h : n ∈ ["NoneType", "int", "bool", "list", "tuple", "dict"]) : PySem.W.kitOne K (.type n) (.type "str") = some false := by
  simp only [List.mem_cons, List.not_mem_nil, or_false] at h
  rcases h with rfl | rfl | rfl | rfl | rfl | rfl <;> exact kit_ty (by decide +kernel)
section
variable {X : Cx} {pos : Pos}
theorem pe_strT {x : Str} {l : Tx} {j : Nat} (h : x = T l) : PE X (.Constant (.str x) j pos) (tC (tS l)) := by
  subst h; exact pe_str
theorem pe_globT {x : Str} {l : Tx} (hg : Gl X x) (hm : ∃ t, X.mg x = some (.str (T l) t)) (hd : (x == ("__debug__" : Str)) = false := by decide) : PE X (.Name x pos) (tC (tS l)) := pe_globS hg hm hd
end
def letters : Tx := [97, 98, 99, 100, 101, 102, 103, 104, 105, 106, 107, 108, 109, 110, 111, 112, 113, 114, 115, 116, 117, 118, 119, 120, 121, 122]
section
variable {K : PySem.W.Frag} {σ : L2.St} {H H' : Hp} {ta tb te : TE} {x y z v : V}
theorem r_divI {i j : Int} (h : 0 < j ∧ j < 1073741824) : RV rDivI (.int i) (.int j) H (.int (i / j)) := rv_I h
theorem r_modI {i j : Int} (h : 0 < j) : RV rModI (.int i) (.int j) H (.int (i % j)) := rv_I h
theorem r_mulI {i j : Int} (h : (-(2 ^ 64) < i ∧ i < 2 ^ 64) ∨ (-(2 ^ 64) < j ∧ j < 2 ^ 64)) : RV rMulI (.int i) (.int j) H (.int (i * j)) := rv_I h
theorem r_powI {i j : Int} (h : 0 ≤ j ∧ j ≤ 1000000 ∧ i.natAbs < 2 ^ 64) : RV rPowI (.int i) (.int j) H (.int (i ^ j.toNat)) := rv_I h
theorem r_eqN {i : V} : RV rEq .non .non H (.bl true) := fun H1 _ _ q => ⟨rfl, q H1 (Ex.refl H1)⟩
/-- a promise that a value comes of it; E is not wished -/
def spV (R : List V → Hp → V → Prop) : Sp := fun vs H Q _ => ∃ v, R vs H v ∧ ∀ H', Ex H H' → Q v H'
/-- .. a new list -/
def spL (R : List V → Hp → List V → Prop) : Sp := fun vs H Q _ => ∃ xs, R vs H xs ∧ ∀ p H', H p = none → Ex H H' → H' p = some (.lst xs) → Q (.ref p) H'
/-- .. a value, or an error of the class at C -/
def spVX (R : List V → Hp → V → Prop) (B : List V → Hp → Addr → Prop) : Sp := fun vs H Q E => (∃ v, R vs H v ∧ ∀ H', Ex H H' → Q v H') ∨ ∃ C, B vs H C ∧ ∀ H', Ex H H' → E (.ref C) none H'
def spLX (R : List V → Hp → List V → Prop) (B : List V → Hp → Addr → Prop) : Sp := fun vs H Q E => (∃ xs, R vs H xs ∧ ∀ p H', H p = none → Ex H H' → H' p = some (.lst xs) → Q (.ref p) H') ∨ ∃ C, B vs H C ∧ ∀ H', Ex H H' → E (.ref C) none H'
theorem e_callV {R : List V → Hp → V → Prop} {E : XK} {ta : TA} {vs : List V} (h : EvA ta σ H vs) (hR : ∀ H1, Ex H H1 → R vs H1 z) : Ev (tCall (spV R) [] E ta) σ H z :=
  ev_call h fun H1 e Q q E => ⟨z, by rw [List.append_nil]; exact hR H1 e, q⟩
theorem e_callL {R : List V → Hp → List V → Prop} {E : XK} {ta : TA} {vs xs : List V} (h : EvA ta σ H vs) (hR : ∀ H1, Ex H H1 → R vs H1 xs) : EvL (tCall (spL R) [] E ta) σ H xs :=
  el_call h fun H1 e Q q E => ⟨xs, by rw [List.append_nil]; exact hR H1 e, q⟩
theorem e_callVX {R : List V → Hp → V → Prop} {B : List V → Hp → Addr → Prop} {E : XK} {ta : TA} {vs : List V} (h : EvA ta σ H vs) (hR : ∀ H1, Ex H H1 → R vs H1 z) : Ev (tCall (spVX R B) [] E ta) σ H z :=
  ev_call h fun H1 e Q q E => .inl ⟨z, by rw [List.append_nil]; exact hR H1 e, q⟩
theorem e_callLX {R : List V → Hp → List V → Prop} {B : List V → Hp → Addr → Prop} {E : XK} {ta : TA} {vs xs : List V} (h : EvA ta σ H vs) (hR : ∀ H1, Ex H H1 → R vs H1 xs) : EvL (tCall (spLX R B) [] E ta) σ H xs :=
  el_call h fun H1 e Q q E => .inl ⟨xs, by rw [List.append_nil]; exact hR H1 e, q⟩
end

/-! ### "".join(..) -/
abbrev rJoin (K : PySem.W.Frag) : V → List V → Hp → VK → Prop := fun x xs H Q => ∃ a p, ∃ ys : List Str, x = .str a ∧ xs = [.ref p] ∧ (SqL K H p (ys.map V.str) ∨ SqT K H p (ys.map V.str)) ∧ (ys.map (·.length)).sum + ys.length * a.length ≤ 16777216 ∧ Q (.str (Txt.join a ys)) H
abbrev tJoin (K : PySem.W.Frag) (to te : TE) : TE := tM1 (rJoin K) to te
theorem joinL_nil : ∀ ls : List Tx, TL.joinL [] ls = ls.flatten
  | [] => rfl
  | [p] => by show p = [p].flatten; simp
  | p :: q :: r => by
    show p ++ ([] ++ TL.joinL [] (q :: r)) = (p :: q :: r).flatten
    rw [joinL_nil (q :: r)]; simp
theorem join_T (ls : List Tx) : Txt.join (T []) (ls.map T) = T ls.flatten := by
  refine TL.ext_tl ?_
  rw [TL.join_eq, TL.tl_join, List.map_map]
  show TL.joinL [] (ls.map (TL.tl ∘ T)) = ls.flatten
  have e : (TL.tl ∘ T) = (id : Tx → Tx) := funext fun l => T_cps l
  rw [e, List.map_id, joinL_nil]
theorem sum_len (ls : List Tx) : ((ls.map T).map (·.length)).sum = ls.flatten.length := by
  rw [List.length_flatten, List.map_map]
  exact congrArg List.sum (List.map_congr_left fun l _ => T_len l)
section
variable {K : PySem.W.Frag} {σ : L2.St} {H H' : Hp} {ta tb te to : TE} {x y z v : V}
theorem e_join {ls : List Tx} (ho : Ev to σ H (tS [])) (h : EvL te σ H (ls.map tS)) (hz : ls.flatten.length ≤ 1000000) : Ev (tJoin K to te) σ H (tS ls.flatten) := fun H1 e _ q =>
  ho H1 e _ fun H2 e2 => ⟨⟨_, rfl⟩, h H2 (e.trans e2) _ fun p H3 _ e3 h3 => ⟨T [], p, ls.map T, rfl, rfl, .inl (by rw [List.map_map]; exact sq_of h3), by
    rw [sum_len, T_len]; simp only [List.length_nil, Nat.mul_zero]; omega, by rw [join_T]; exact q H3 (e2.trans e3)⟩⟩
/-- a list that is there -/
theorem e_joinL {ls : List Tx} {p : Addr} (ho : Ev to σ H (tS [])) (h : Ev te σ H (.ref p)) (hp : SqL K H p (ls.map tS)) (hz : ls.flatten.length ≤ 1000000) : Ev (tJoin K to te) σ H (tS ls.flatten) := fun H1 e _ q =>
  ho H1 e _ fun H2 e2 => ⟨⟨_, rfl⟩, h H2 (e.trans e2) _ fun H3 e3 => ⟨T [], p, ls.map T, rfl, rfl, .inl (by rw [List.map_map]; exact ex_l ((e.trans e2).trans e3) hp), by
    rw [sum_len, T_len]; simp only [List.length_nil, Nat.mul_zero]; omega, by rw [join_T]; exact q H3 (e2.trans e3)⟩⟩
theorem cut_map {α : Type} (f : α → V) (ns : List α) (lo hi : Option Int) : cutV (ns.map f) lo hi = ((ns.drop (HT.sIx ns.length 0 lo)).take (HT.sIx ns.length ns.length hi - HT.sIx ns.length 0 lo)).map f := by
  unfold cutV
  rw [List.length_map, List.map_take, List.map_drop]
/-- a slice of a list that is read -/
theorem e_slL {α : Type} {f : α → V} {ns : List α} {tl th : TO} {a : Addr} {lo hi : Option Int} (h : Ev te σ H (.ref a)) (h1 : EvO tl σ H lo) (h2 : EvO th σ H hi) (hs : SqL K H a (ns.map f)) :
    EvL (tSl (rSlL K) te tl th) σ H (((ns.drop (HT.sIx ns.length 0 lo)).take (HT.sIx ns.length ns.length hi - HT.sIx ns.length 0 lo)).map f) := by
  rw [← cut_map]
  exact el_sl h h1 h2 hs
/-- one of several values -/
def EvP (te : TE) (σ : L2.St) (H : Hp) (P : V → Prop) : Prop := ∀ H1, Ex H H1 → ∀ Q : VK, (∀ v H2, P v → Ex H1 H2 → Q v H2) → te σ H1 Q
variable {S : List Addr} {H0 : Hp} {L : List (Addr × HO)} {D : Ends} {tz : TS} {P : V → Prop}
theorem a_asgP {i : Nat} (am : Am S H0 L H) (h : EvP te σ H P) (k : ∀ v H, P v → Am S H0 L H → D.nx (σ.set i (some v)) H) : tAsg te (gName i) D σ H := h H (Ex.refl H) _ fun v H1 p e => k v H1 p (am.ex e)
theorem aq_asgP {i : Nat} (am : Am S H0 L H) (h : EvP te σ H P) (k : ∀ v H, P v → Am S H0 L H → tz D (σ.set i (some v)) H) : tSeq (tAsg te (gName i)) tz D σ H := a_asgP (D := { D with nx := tz D }) am h k
theorem a_retP (am : Am S H0 L H) (h : EvP te σ H P) (k : ∀ v H, P v → Am S H0 L H → D.rt v H) : tRet te D σ H := h H (Ex.refl H) _ fun v H1 p e => k v H1 p (am.ex e)
end

/-! ### slices of texts by their common forms -/
theorem cut_to {α : Type} (l : List α) {i : Int} (h : 0 ≤ i) : (l.drop (HT.sIx l.length 0 none)).take (HT.sIx l.length l.length (some i) - HT.sIx l.length 0 none) = l.take i.toNat := by
  rw [HT.sIx_none, sIx_pos _ _ _ h, List.drop_zero, Nat.sub_zero]
  rw [List.take_eq_take_iff]; omega
theorem cut_from {α : Type} (l : List α) {i : Int} (h : 0 ≤ i) : (l.drop (HT.sIx l.length 0 (some i))).take (HT.sIx l.length l.length none - HT.sIx l.length 0 (some i)) = l.drop i.toNat := by
  rw [HT.sIx_none, sIx_pos _ _ _ h]
  by_cases c : i.toNat ≤ l.length
  · rw [Nat.min_eq_left c, List.take_of_length_le (by rw [List.length_drop]; exact Nat.le_refl _)]
  · rw [Nat.min_eq_right (by omega), List.drop_of_length_le (Nat.le_refl _), List.drop_of_length_le (by omega : l.length ≤ i.toNat)]
    simp
theorem cut_mid {α : Type} (l : List α) {i j : Int} (h : 0 ≤ i) (h2 : 0 ≤ j) : (l.drop (HT.sIx l.length 0 (some i))).take (HT.sIx l.length l.length (some j) - HT.sIx l.length 0 (some i)) = (l.drop i.toNat).take (j.toNat - i.toNat) := by
  rw [sIx_pos _ _ _ h, sIx_pos _ _ _ h2]
  by_cases c : i.toNat ≤ l.length
  · rw [Nat.min_eq_left c, List.take_eq_take_iff, List.length_drop]; omega
  · rw [List.drop_of_length_le (by omega : l.length ≤ min i.toNat l.length), List.drop_of_length_le (by omega : l.length ≤ i.toNat)]
    simp
theorem sIx_neg1 (n d : Nat) : HT.sIx n d (some (-1)) = n - 1 := by
  have h := HT.clip_eq (-1) n d
  rw [if_pos (by decide)] at h
  omega
theorem cut_but {α : Type} (l : List α) : (l.drop (HT.sIx l.length 0 none)).take (HT.sIx l.length l.length (some (-1)) - HT.sIx l.length 0 none) = l.dropLast := by
  rw [HT.sIx_none, sIx_neg1, List.drop_zero, Nat.sub_zero, List.dropLast_eq_take]
/-- without its first and last -/
def inL {α : Type} (l : List α) : List α := l.tail.dropLast
theorem cut_in {α : Type} (l : List α) : (l.drop (HT.sIx l.length 0 (some 1))).take (HT.sIx l.length l.length (some (-1)) - HT.sIx l.length 0 (some 1)) = inL l := by
  rw [sIx_neg1, sIx_pos _ _ _ (by decide)]
  unfold inL
  rw [List.dropLast_eq_take, List.length_tail]
  cases l with
  | nil => rfl
  | cons x r =>
    have e : min (1 : Int).toNat (x :: r).length = 1 := by
      show min 1 (r.length + 1) = 1
      omega
    rw [e]
    rfl
section
variable {σ : L2.St} {H : Hp} {te ti tj : TE} {l : Tx} {i j : Int}
theorem e_slTo (h : Ev te σ H (tS l)) (h1 : Ev ti σ H (.int i)) (h0 : 0 ≤ i) (hl : l.length ≤ 1000000) : Ev (tSl rSlS te tNoPart (tPart ti)) σ H (tS (l.take i.toNat)) := by
  have z := e_sl h eo_none (eo_some h1) hl
  rwa [cut_to l h0] at z
theorem e_slFrom (h : Ev te σ H (tS l)) (h1 : Ev ti σ H (.int i)) (h0 : 0 ≤ i) (hl : l.length ≤ 1000000) : Ev (tSl rSlS te (tPart ti) tNoPart) σ H (tS (l.drop i.toNat)) := by
  have z := e_sl h (eo_some h1) eo_none hl
  rwa [cut_from l h0] at z
theorem e_slMid (h : Ev te σ H (tS l)) (h1 : Ev ti σ H (.int i)) (h2 : Ev tj σ H (.int j)) (h0 : 0 ≤ i) (h3 : 0 ≤ j) (hl : l.length ≤ 1000000) : Ev (tSl rSlS te (tPart ti) (tPart tj)) σ H (tS ((l.drop i.toNat).take (j.toNat - i.toNat))) := by
  have z := e_sl h (eo_some h1) (eo_some h2) hl
  rwa [cut_mid l h0 h3] at z
theorem e_slBut (h : Ev te σ H (tS l)) (hl : l.length ≤ 1000000) : Ev (tSl rSlS te tNoPart (tPart (tNegI (tC (.int 1))))) σ H (tS l.dropLast) := by
  have z := e_sl h eo_none (eo_some (e_negI (ev_c (v := .int 1)))) hl
  rwa [cut_but l] at z
theorem e_slIn (h : Ev te σ H (tS l)) (hl : l.length ≤ 1000000) : Ev (tSl rSlS te (tPart (tC (.int 1))) (tPart (tNegI (tC (.int 1))))) σ H (tS (inL l)) := by
  have z := e_sl h (eo_some (ev_c (v := .int 1))) (eo_some (e_negI (ev_c (v := .int 1)))) hl
  rwa [cut_in l] at z
end

/-! ### what is known of the error classes -/
structure XC (A : Ad) (D : Addr) (b0 b1 b2 b3 b4 b5 b6 : Bool) : Prop where
  ex : ExcC A.K D
  exm : PySem.W.exmOne A.K (.ref D) (.ref A.cME) = some true
  ve : PySem.W.kitOne A.K (.ref D) (.type "ValueError") = some true
  kBT : PySem.W.kitOne A.K (.ref D) (.ref A.cBT) = some b0
  kBL : PySem.W.kitOne A.K (.ref D) (.ref A.cBL) = some b1
  kBW : PySem.W.kitOne A.K (.ref D) (.ref A.cBW) = some b2
  kBA : PySem.W.kitOne A.K (.ref D) (.ref A.cBA) = some b3
  kNT : PySem.W.kitOne A.K (.ref D) (.ref A.cNT) = some b4
  kNP : PySem.W.kitOne A.K (.ref D) (.ref A.cNP) = some b5
  kFu : PySem.W.kitOne A.K (.ref D) (.ref A.cFu) = some b6
/-- the call lets out an error of the class at C -/
def SpX (sp : Sp) (vs : List V) (H : Hp) (C : Addr) : Prop := ∀ H1, Ex H H1 → ∀ (Q : VK) (E : XK), (∀ H2, Ex H1 H2 → E (.ref C) none H2) → sp vs H1 Q E
section
variable {K : PySem.W.Frag} {σ : L2.St} {H H0 : Hp} {S : List Addr} {L : List (Addr × HO)} {ta : TA} {D : Ends} {tz : TS} {C ME : Addr} {sp : Sp} {vs : List V}
theorem spx_VX {R : List V → Hp → V → Prop} {B : List V → Hp → Addr → Prop} (h : ∀ H1, Ex H H1 → B vs H1 C) : SpX (spVX R B) vs H C := fun H1 e Q E q => .inr ⟨C, h H1 e, q⟩
theorem spx_LX {R : List V → Hp → List V → Prop} {B : List V → Hp → Addr → Prop} (h : ∀ H1, Ex H H1 → B vs H1 C) : SpX (spLX R B) vs H C := fun H1 e Q E q => .inr ⟨C, h H1 e, q⟩
theorem aq_tryK {i j : Nat} (am : Am S H0 L H) (h : EvA ta σ H vs) (hs : SpX sp vs H C) (xm : PySem.W.exmOne K (.ref C) (.ref ME) = some true)
    (k : ∀ a H, Am S H0 ((a, ExK C a) :: L) H → tz D ((σ.set j (some (.ref a))).set i none) H) : tSeq (tTryK K ME i j fun W => tDrop (tCallS sp (WE W) ta)) tz D σ H :=
  h H (Ex.refl H) _ fun H1 e1 => hs H1 e1 _ _ fun H2 e2 => ⟨C, rfl, rfl, xm, fun a ha => k a _ ((am.ex (e1.trans e2)).new1 ha)⟩
/-- .. that lets out nothing, and hands back one value -/
theorem aq_tryN {i j : Nat} {z : V} (am : Am S H0 L H) (h : EvA ta σ H vs) (hs : SpV sp vs H z) (k : ∀ H, Am S H0 L H → tz D σ H) : tSeq (tTryK K ME i j fun W => tDrop (tCallS sp (WE W) ta)) tz D σ H :=
  h H (Ex.refl H) _ fun H1 e1 => hs H1 e1 _ (fun H2 e2 => k H2 (am.ex (e1.trans e2))) _
end

/-! ### == of lists -/
section
variable {K : PySem.W.Frag} {σ : L2.St} {H H0 : Hp} {S : List Addr} {L : List (Addr × HO)} {ta tb te : TE} {D : Ends} {tz : TS} {p q : Addr}
def dI (ns : List Int) : PyData := .list (ns.map .int)
def dTs (ls : List Tx) : PyData := .list (ls.map fun l => .str (T l))
theorem dpAll_ints : ∀ ns : List Int, DpAll K H (ns.map V.int) (ns.map PyData.int)
  | [] => .nil
  | n :: r => .cons (.int n) (dpAll_ints r)
theorem dpAll_texts : ∀ ls : List Tx, DpAll K H (ls.map tS) (ls.map fun l => PyData.str (T l))
  | [] => .nil
  | l :: r => .cons (.str (T l)) (dpAll_texts r)
theorem dp_ints {ns : List Int} (h : SqL K H p (ns.map V.int)) : Dp K H (.ref p) (dI ns) := .lst h (dpAll_ints ns)
theorem dp_texts {ls : List Tx} (h : SqL K H p (ls.map tS)) : Dp K H (.ref p) (dTs ls) := .lst h (dpAll_texts ls)
theorem layAll_ints : ∀ ns : List Int, PyData.canLayAll0 (ns.map PyData.int) = true
  | [] => by simp [PyData.canLayAll0]
  | n :: r => by simp [PyData.canLayAll0, PyData.canLay0, layAll_ints r]
theorem depth_ints : ∀ ns : List Int, PyData.depthAll (ns.map PyData.int) = 0
  | [] => by simp [PyData.depthAll]
  | n :: r => by simp [PyData.depthAll, PyData.depth, depth_ints r]
theorem shaped_ints (ns : List Int) : SeqAt.shaped (dI ns) = true := by
  unfold SeqAt.shaped dI
  rw [PyData.canLay0, layAll_ints, PyData.depth, depth_ints]; rfl
theorem eqvAll_ints : ∀ a b : List Int, PyData.eqvAll (a.map PyData.int) (b.map PyData.int) = decide (a = b)
  | [], [] => by simp [PyData.eqvAll]
  | [], y :: b => by simp [PyData.eqvAll]
  | x :: a, [] => by simp [PyData.eqvAll]
  | x :: a, y :: b => by
    rw [List.map_cons, List.map_cons, PyData.eqvAll, eqvAll_ints a b, PyData.eqv]
    by_cases h1 : x = y
    · by_cases h2 : a = b <;> simp [h1, h2]
    · simp [h1]
theorem eqv_ints (a b : List Int) : PyData.eqv (dI a) (dI b) = decide (a = b) := by
  unfold dI; rw [PyData.eqv, eqvAll_ints]
def okT (l : Tx) : Bool := PyData.strOk (T l)
theorem layAll_texts : ∀ ls : List Tx, (∀ l ∈ ls, okT l = true) → PyData.canLayAll0 (ls.map fun l => PyData.str (T l)) = true
  | [], _ => by simp [PyData.canLayAll0]
  | l :: r, h => by
    have h1 : PyData.strOk (T l) = true := h l (List.mem_cons_self ..)
    simp only [List.map_cons, PyData.canLayAll0, PyData.canLay0, h1, layAll_texts r fun x hx => h x (List.mem_cons_of_mem _ hx), Bool.and_self]
theorem depth_texts : ∀ ls : List Tx, PyData.depthAll (ls.map fun l => PyData.str (T l)) = 0
  | [] => by simp [PyData.depthAll]
  | l :: r => by simp [PyData.depthAll, PyData.depth, depth_texts r]
theorem shaped_texts {ls : List Tx} (h : ∀ l ∈ ls, okT l = true) : SeqAt.shaped (dTs ls) = true := by
  unfold SeqAt.shaped dTs
  rw [PyData.canLay0, layAll_texts ls h, PyData.depth, depth_texts]; rfl
theorem eqvAll_texts : ∀ a b : List Tx, PyData.eqvAll (a.map fun l => PyData.str (T l)) (b.map fun l => PyData.str (T l)) = decide (a = b)
  | [], [] => by simp [PyData.eqvAll]
  | [], y :: b => by simp [PyData.eqvAll]
  | x :: a, [] => by simp [PyData.eqvAll]
  | x :: a, y :: b => by
    rw [List.map_cons, List.map_cons, PyData.eqvAll, eqvAll_texts a b, PyData.eqv]
    by_cases h1 : x = y
    · by_cases h2 : a = b <;> simp [h1, h2]
    · have h3 : ¬ T x = T y := fun z => h1 (T_inj z)
      simp [h1, h3]
theorem eqv_texts (a b : List Tx) : PyData.eqv (dTs a) (dTs b) = decide (a = b) := by
  unfold dTs; rw [PyData.eqv, eqvAll_texts]
theorem dp_ex {H1 : Hp} (e : Ex H H1) : ∀ {v : V} {d : PyData}, Dp K H v d → Dp K H1 v d := fun {v d} h => by
  refine Dp.rec (motive_1 := fun v d _ => Dp K H1 v d) (motive_2 := fun vs ds _ => DpAll K H1 vs ds) .non (fun b => .bl b) (fun i => .int i) (fun x => .str x) (fun s _ ih => .lst (ex_l e s) ih) (fun s _ ih => .tup (ex_t e s) ih) .nil (fun _ _ a b => .cons a b) h
theorem rv_eqD {x y : V} {d e : PyData} {b : Bool} (h1 : Dp K H x d) (h2 : Dp K H y e) (s1 : SeqAt.shaped d = true) (s2 : SeqAt.shaped e = true) (hb : PyData.eqv d e = b) : RV (rEqD K) x y H (.bl b) := fun H1 ex _ q =>
  ⟨d, e, dp_ex ex h1, dp_ex ex h2, s1, s2, by rw [hb]; exact q H1 (Ex.refl H1)⟩
theorem rv_neD {x y : V} {d e : PyData} {b : Bool} (h1 : Dp K H x d) (h2 : Dp K H y e) (s1 : SeqAt.shaped d = true) (s2 : SeqAt.shaped e = true) (hb : PyData.eqv d e = b) : RV (rNeD K) x y H (.bl (!b)) := fun H1 ex _ q =>
  ⟨d, e, dp_ex ex h1, dp_ex ex h2, s1, s2, by rw [hb]; exact q H1 (Ex.refl H1)⟩
theorem rv_eqI {a b : List Int} (h1 : SqL K H p (a.map V.int)) (h2 : SqL K H q (b.map V.int)) : RV (rEqD K) (.ref p) (.ref q) H (.bl (decide (a = b))) := rv_eqD (dp_ints h1) (dp_ints h2) (shaped_ints a) (shaped_ints b) (eqv_ints a b)
theorem rv_neI {a b : List Int} (h1 : SqL K H p (a.map V.int)) (h2 : SqL K H q (b.map V.int)) : RV (rNeD K) (.ref p) (.ref q) H (.bl (!decide (a = b))) := rv_neD (dp_ints h1) (dp_ints h2) (shaped_ints a) (shaped_ints b) (eqv_ints a b)
theorem rv_eqTs {a b : List Tx} (h1 : SqL K H p (a.map tS)) (h2 : SqL K H q (b.map tS)) (o1 : ∀ l ∈ a, okT l = true) (o2 : ∀ l ∈ b, okT l = true) : RV (rEqD K) (.ref p) (.ref q) H (.bl (decide (a = b))) := rv_eqD (dp_texts h1) (dp_texts h2) (shaped_texts o1) (shaped_texts o2) (eqv_texts a b)
theorem rv_neTs {a b : List Tx} (h1 : SqL K H p (a.map tS)) (h2 : SqL K H q (b.map tS)) (o1 : ∀ l ∈ a, okT l = true) (o2 : ∀ l ∈ b, okT l = true) : RV (rNeD K) (.ref p) (.ref q) H (.bl (!decide (a = b))) := rv_neD (dp_texts h1) (dp_texts h2) (shaped_texts o1) (shaped_texts o2) (eqv_texts a b)

/-! ### displays of things of many kinds: each item bears p -/
def EvQ (te : TE) (σ : L2.St) (H : Hp) (P : V → Hp → Prop) : Prop := ∀ H1, Ex H H1 → ∀ Q : VK, (∀ v H2, Ex H1 H2 → P v H2 → Q v H2) → te σ H1 Q
def EvQA (ta : TA) (σ : L2.St) (H : Hp) (n : Nat) (P : V → Hp → Prop) : Prop := ∀ H1, Ex H H1 → ∀ Q : List V → Hp → Prop, (∀ vs H2, Ex H1 H2 → vs.length = n → (∀ v ∈ vs, P v H2) → Q vs H2) → ta σ H1 Q
variable {P : V → Hp → Prop}
theorem EvQ.mono {H' : Hp} (e : Ex H H') (h : EvQ te σ H P) : EvQ te σ H' P := fun H1 a Q q => h H1 (e.trans a) Q q
theorem eq_ev {v : V} (h : Ev te σ H v) (hp : ∀ H1, Ex H H1 → P v H1) : EvQ te σ H P := fun H1 e Q q => h H1 e Q fun H2 e2 => q v H2 e2 (hp H2 (e.trans e2))
theorem eq_evL {xs : List V} (h : EvL te σ H xs) (hp : ∀ p H1, Ex H H1 → H1 p = some (.lst xs) → P (.ref p) H1) : EvQ te σ H P := fun H1 e Q q => h H1 e Q fun p H2 _ e2 h2 => q _ H2 e2 (hp p H2 (e.trans e2) h2)
theorem eq_evU {xs : List V} (h : EvU te σ H xs) (hp : ∀ p H1, Ex H H1 → H1 p = some (.tup xs) → P (.ref p) H1) : EvQ te σ H P := fun H1 e Q q => h H1 e Q fun p H2 _ e2 h2 => q _ H2 e2 (hp p H2 (e.trans e2) h2)
theorem eq_dnew (hp : ∀ p H1, H1 p = some (.dK []) → P (.ref p) H1) : EvQ tDNewK σ H P := fun H1 _ Q q => fun p h => q _ _ (Ex.new h) (hp p _ upd_same)
theorem eqa_nil : EvQA tNil σ H 0 P := fun H1 _ Q q => q [] H1 (Ex.refl H1) rfl fun v h => by cases h
theorem eqa_cons {tr : TA} {n : Nat} (hm : ∀ v H H', Ex H H' → P v H → P v H') (h : EvQ te σ H P) (hr : EvQA tr σ H n P) : EvQA (tCons te tr) σ H (n + 1) P := fun H1 e Q q =>
  h H1 e _ fun v H2 e2 pv => hr H2 (e.trans e2) _ fun vs H3 e3 hl pa => q _ H3 (e2.trans e3) (by rw [List.length_cons, hl]) fun w hw => by
    rcases List.mem_cons.mp hw with rfl | hw
    · exact hm _ _ _ e3 pv
    · exact pa w hw
theorem aq_asgQ {i n : Nat} {ta : TA} (am : Am S H0 L H) (hm : ∀ v H H', Ex H H' → P v H → P v H') (h : EvQA ta σ H n P) (hn : n ≤ 1000) (k : ∀ p xs H, Am S H0 ((p, .lst xs) :: L) H → xs.length = n → (∀ v ∈ xs, P v H) → tz D (σ.set i (some (.ref p))) H) :
    tSeq (tAsg (tLst ta) (gName i)) tz D σ H := h H (Ex.refl H) _ fun xs H1 e hl pa => ⟨sz6 (by omega), fun p hp => k p xs _ ((am.ex e).new1 hp) hl fun v hv => hm v _ _ (Ex.new hp) (pa v hv)⟩
end

/-! ### isinstance of an own error class, from what the top has left -/
section
variable {K : PySem.W.Frag} {C D : Addr}
theorem kit_self : PySem.W.kitOne K (.ref D) (.ref D) = some true := by
  unfold PySem.W.kitOne
  rw [if_pos (beq_self_eq_true _)]
theorem kit_cls (h1 : PySem.W.isClsIn K C = true) (h2 : PySem.W.typeIn K (.ref C) = some (.type "type")) (h3 : PySem.W.subIn K (.ref D) (.ref C) = some false) (h4 : (Value.ref D == Value.ref C) = false) : PySem.W.kitOne K (.ref D) (.ref C) = some false := by
  have e : ((PySem.W.clsIn K C).isSome && PySem.W.typeIn K (.ref C) == some (.type "type")) = true := by
    have h1' : (PySem.W.clsIn K C).isSome = true := h1
    rw [h1', h2]; rfl
  unfold PySem.W.kitOne
  rw [h4, if_neg Bool.false_ne_true]
  show (if ((PySem.W.clsIn K C).isSome && PySem.W.typeIn K (.ref C) == some (.type "type")) = true then PySem.W.subIn K (.ref D) (.ref C) else none) = some false
  rw [if_pos e, h3]
theorem kit_ve (h : PySem.W.subIn K (.ref D) (.type "ValueError") = some true) : PySem.W.kitOne K (.ref D) (.type "ValueError") = some true := by
  have e : (Value.ref D == Value.type "ValueError") = false := by rfl
  unfold PySem.W.kitOne
  rw [e, if_neg Bool.false_ne_true]
  show (if PySem.W.kitMeta "ValueError" = true then PySem.W.subIn K (.ref D) (.type "ValueError") else none) = some true
  rw [if_pos (by decide +kernel), h]
end

/-! ### more of lists, tries, ranges -/
section
variable {K : PySem.W.Frag} {σ : L2.St} {H H0 : Hp} {S : List Addr} {L : List (Addr × HO)} {ta tb te : TE} {D : Ends} {tz : TS} {C ME : Addr}
/-- xs + ys, both new -/
theorem el_cat {xs ys : List V} (ha : EvL ta σ H xs) (hb : EvL tb σ H ys) (hz : xs.length + ys.length ≤ 1000000) : EvL (tOp rCat ta tb) σ H (xs ++ ys) := fun H1 e Q q =>
  ha H1 e _ fun p H2 hp e2 h2 => hb H2 (e.trans e2) _ fun r H3 hr e3 h3 => ⟨p, r, xs, ys, rfl, rfl, e3 p _ h2, h3, sz6 hz, fun l hl => q l _ (fresh_back (e2.trans e3) hl) ((e2.trans e3).trans (Ex.new hl)) upd_same⟩
/-- xs + ys, the first one there -/
theorem el_catV {xs ys : List V} {p : Addr} (ha : Ev ta σ H (.ref p)) (h : H p = some (.lst xs)) (hb : EvL tb σ H ys) (hz : xs.length + ys.length ≤ 1000000) : EvL (tOp rCat ta tb) σ H (xs ++ ys) := fun H1 e Q q =>
  ha H1 e _ fun H2 e2 => hb H2 (e.trans e2) _ fun r H3 hr e3 h3 => ⟨p, r, xs, ys, rfl, rfl, ((e.trans e2).trans e3) p _ h, h3, sz6 hz, fun l hl => q l _ (fresh_back (e2.trans e3) hl) ((e2.trans e3).trans (Ex.new hl)) upd_same⟩
/-- a slice of a new list -/
theorem el_slN {xs : List V} {tl th : TO} {lo hi : Option Int} (h : EvL te σ H xs) (h1 : EvO tl σ H lo) (h2 : EvO th σ H hi) : EvL (tSl (rSlL K) te tl th) σ H (cutV xs lo hi) := fun H1 e Q q =>
  h H1 e _ fun p H2 hp e2 h3 => h1 H2 (e.trans e2) _ fun H3 e3 => h2 H3 ((e.trans e2).trans e3) _ fun H4 e4 =>
    ⟨p, xs, rfl, sq_of ((e3.trans e4) p _ h3), fun l hl => q l _ (fresh_back ((e2.trans e3).trans e4) hl) (((e2.trans e3).trans e4).trans (Ex.new hl)) upd_same⟩
/-- an item of a new list -/
theorem e_ixN {xs : List V} {i : Int} {v : V} (h : EvL ta σ H xs) (hi : Ev tb σ H (.int i)) (ha : atI xs i = some v) : Ev (tOp (rIxL K) ta tb) σ H v :=
  ev_opL1 h (fun _ e => hi.mono e) fun _ _ h1 _ => rv_ixL (sq_of h1) ha
/-- a try whose body lets out an error of the class at C, the slots as they were -/
theorem aq_tryB {i j : Nat} {tb : WX → TS} (am : Am S H0 L H) (xm : PySem.W.exmOne K (.ref C) (.ref ME) = some true) (hb : ∀ (W : WX) (D : Ends), (∀ H1, Ex H H1 → W (.ref C) none σ H1) → tb W D σ H)
    (k : ∀ a H, Am S H0 ((a, ExK C a) :: L) H → tz D ((σ.set j (some (.ref a))).set i none) H) : tSeq (tTryK K ME i j tb) tz D σ H :=
  hb _ _ fun H1 e1 => ⟨C, rfl, rfl, xm, fun a ha => k a _ ((am.ex e1).new1 ha)⟩
theorem x_drop {W : WX} {sp : Sp} {ta : TA} {vs : List V} (h : EvA ta σ H vs) (hs : SpX sp vs H C) (hw : ∀ H1, Ex H H1 → W (.ref C) none σ H1) : tDrop (tCallS sp (WE W) ta) D σ H :=
  h H (Ex.refl H) _ fun H1 e1 => hs H1 e1 _ _ fun H2 e2 => hw H2 (e1.trans e2)
theorem wk_range3 {ta : TA} {lo n : Int} {c : Nat} (h : EvA ta σ H [.int lo, .int n, .int c]) (hc : 1 ≤ c) (hc2 : c ≤ 1000) (hn : -1000000 ≤ lo ∧ lo ≤ 1000000 ∧ -1000000 ≤ n ∧ n ≤ 1000000) :
    Wk (iRng3 ta) σ H (fun _ => True) ((List.range (Builtin.Range.rangeSize lo n c).toNat).map fun i => .int (lo + (i : Nat) * (c : Int))) := fun H1 e R q =>
  h H1 e _ fun H2 e2 => by
    have hs : 0 ≤ Builtin.Range.rangeSize lo n c := by
      unfold Builtin.Range.rangeSize
      rw [if_pos (by omega)]
      split
      · have := Int.ediv_nonneg (a := n - lo - 1) (b := (c : Int)) (by omega) (by omega)
        omega
      · exact Int.le_refl 0
    have hs2 : Builtin.Range.rangeSize lo n c ≤ 3000000 := by
      unfold Builtin.Range.rangeSize
      rw [if_pos (by omega)]
      split
      · have := Int.ediv_le_self (a := n - lo - 1) (c : Int) (by omega)
        omega
      · decide
    refine ⟨lo, n, c, (Builtin.Range.rangeSize lo n c).toNat, rfl, ⟨by omega, by omega, ?_, by omega⟩, q _ H2 e2 sq_rangeC⟩
    have fl : ∀ x : Int, -100000000 ≤ x → x ≤ 100000000 → Builtin.Range.rangeFitsLong x = true := fun x h1 h2 => by
      unfold Builtin.Range.rangeFitsLong
      rw [Bool.and_eq_true]
      exact ⟨decide_eq_true (by omega), decide_eq_true (by omega)⟩
    unfold Builtin.Range.small
    rw [if_pos (by omega), fl _ (by omega) (by omega), fl _ (by omega) (by omega), fl _ (by omega) (by omega), fl _ (by omega) (by omega), fl _ (by omega) (by omega)]
    simp
def dB (bs : List Bool) : PyData := .list (bs.map .bool)
theorem dpAll_bools : ∀ bs : List Bool, DpAll K H (bs.map V.bl) (bs.map PyData.bool)
  | [] => .nil
  | b :: r => .cons (.bl b) (dpAll_bools r)
theorem layAll_bools : ∀ bs : List Bool, PyData.canLayAll0 (bs.map PyData.bool) = true
  | [] => by simp [PyData.canLayAll0]
  | b :: r => by simp [PyData.canLayAll0, PyData.canLay0, layAll_bools r]
theorem depth_bools : ∀ bs : List Bool, PyData.depthAll (bs.map PyData.bool) = 0
  | [] => by simp [PyData.depthAll]
  | b :: r => by simp [PyData.depthAll, PyData.depth, depth_bools r]
theorem shaped_bools (bs : List Bool) : SeqAt.shaped (dB bs) = true := by
  unfold SeqAt.shaped dB
  rw [PyData.canLay0, layAll_bools, PyData.depth, depth_bools]; rfl
theorem eqvAll_bools : ∀ a b : List Bool, PyData.eqvAll (a.map PyData.bool) (b.map PyData.bool) = decide (a = b)
  | [], [] => by simp [PyData.eqvAll]
  | [], y :: b => by simp [PyData.eqvAll]
  | x :: a, [] => by simp [PyData.eqvAll]
  | x :: a, y :: b => by
    rw [List.map_cons, List.map_cons, PyData.eqvAll, eqvAll_bools a b, PyData.eqv]
    by_cases h1 : x = y
    · by_cases h2 : a = b <;> simp [h1, h2]
    · simp [h1]
theorem rv_eqBs {p q : Addr} {a b : List Bool} (h1 : SqL K H p (a.map V.bl)) (h2 : SqL K H q (b.map V.bl)) : RV (rEqD K) (.ref p) (.ref q) H (.bl (decide (a = b))) :=
  rv_eqD (.lst h1 (dpAll_bools a)) (.lst h2 (dpAll_bools b)) (shaped_bools a) (shaped_bools b) (show PyData.eqv (dB a) (dB b) = decide (a = b) by unfold dB; rw [PyData.eqv, eqvAll_bools])
end
end Mw
namespace Mw
open PySem PySem.Spec PyProof.Rows L2 Evl
/-! # mathematics: arms -/
/-- how far a text reads alike from a places ahead of .. and on from b -/
def ext (l : Tx) : Nat → Nat → Nat
  | 0, _ => 0
  | a + 1, b => if b < l.length ∧ l.getD a 0 = l.getD b 0 then ext l a (b + 1) + 1 else 0
def armN (l : Tx) (m : Nat) : Nat := ext l ((m + 1) / 2) (m / 2 + 1)
/-- the step-th pair about a middle is there and alike -/
def okA (l : Tx) (m s : Nat) : Prop := s < (m + 1) / 2 ∧ m / 2 + 1 + s < l.length ∧ l.getD ((m + 1) / 2 - 1 - s) 0 = l.getD (m / 2 + 1 + s) 0
theorem ext_lt (l : Tx) : ∀ (a b s : Nat), s < ext l a b → s < a ∧ b + s < l.length ∧ l.getD (a - 1 - s) 0 = l.getD (b + s) 0
  | 0, b, s, h => by simp [ext] at h
  | a + 1, b, s, h => by
    rw [ext] at h
    by_cases c : b < l.length ∧ l.getD a 0 = l.getD b 0
    · rw [if_pos c] at h
      cases s with
      | zero => exact ⟨Nat.succ_pos _, c.1, c.2⟩
      | succ s =>
        obtain ⟨h1, h2, h3⟩ := ext_lt l a (b + 1) s (by omega)
        refine ⟨by omega, by omega, ?_⟩
        rw [show a + 1 - 1 - (s + 1) = a - 1 - s by omega, show b + (s + 1) = b + 1 + s by omega]
        exact h3
    · rw [if_neg c] at h; omega
theorem ext_not (l : Tx) : ∀ (a b : Nat), ¬ (ext l a b < a ∧ b + ext l a b < l.length ∧ l.getD (a - 1 - ext l a b) 0 = l.getD (b + ext l a b) 0)
  | 0, b => fun h => by simp [ext] at h
  | a + 1, b => by
    rw [ext]
    by_cases c : b < l.length ∧ l.getD a 0 = l.getD b 0
    · rw [if_pos c]
      intro h
      refine ext_not l a (b + 1) ⟨by omega, by omega, ?_⟩
      rw [show a - 1 - ext l a (b + 1) = a + 1 - 1 - (ext l a (b + 1) + 1) by omega, show b + 1 + ext l a (b + 1) = b + (ext l a (b + 1) + 1) by omega]
      exact h.2.2
    · rw [if_neg c]
      intro h
      exact c ⟨by omega, by simpa using h.2.2⟩
theorem arm_lt {l : Tx} {m s : Nat} (h : s < armN l m) : okA l m s := ext_lt l _ _ s h
theorem arm_not (l : Tx) (m : Nat) : ¬ okA l m (armN l m) := ext_not l _ _
theorem arm_eq {l : Tx} {m n : Nat} (h : ∀ s, s < n → okA l m s) (hn : ¬ okA l m n) : armN l m = n := by
  rcases Nat.lt_trichotomy (armN l m) n with c | c | c
  · exact absurd (h _ c) (arm_not l m)
  · exact c
  · exact absurd (arm_lt c) hn
theorem arm_le (l : Tx) (m : Nat) : armN l m ≤ (m + 1) / 2 := by
  rcases Nat.eq_zero_or_pos (armN l m) with c | c
  · omega
  · have := (arm_lt (l := l) (m := m) (s := armN l m - 1) (by omega)).1
    omega
theorem arm_in {l : Tx} {m : Nat} (hm : m / 2 < l.length) : m / 2 + armN l m < l.length := by
  rcases Nat.eq_zero_or_pos (armN l m) with c | c
  · omega
  · have := (arm_lt (l := l) (m := m) (s := armN l m - 1) (by omega)).2.1
    omega
/-- what lies within a reach is alike, place by place -/
theorem arm_pal {l : Tx} {a p q : Nat} (hpq : p + q = a) (hp : p ≤ a / 2 + armN l a) (hq : q ≤ a / 2 + armN l a) : l.getD p 0 = l.getD q 0 := by
  have key : ∀ p q, p + q = a → p < q → q ≤ a / 2 + armN l a → l.getD p 0 = l.getD q 0 := fun p q e lt le => by
    obtain ⟨h1, h2, h3⟩ := arm_lt (l := l) (m := a) (s := q - (a / 2 + 1)) (by omega)
    rw [show (a + 1) / 2 - 1 - (q - (a / 2 + 1)) = p by omega, show a / 2 + 1 + (q - (a / 2 + 1)) = q by omega] at h3
    exact h3
  rcases Nat.lt_trichotomy p q with c | c | c
  · exact key p q hpq c hq
  · rw [c]
  · exact (key q p (by omega) c hp).symm
/-- what lies within a longer reach is told by its mirror -/
theorem arm_mirror {l : Tx} {a m o : Nat} (ham : a ≤ m) (ho : m + o = 2 * a) (hlen : a / 2 + armN l a < l.length) (h : (m + 1) / 2 + armN l o < a / 2 + armN l a) : armN l m = armN l o := by
  have hle := arm_le l a
  refine arm_eq (fun s hs => ?_) fun hok => arm_not l o ?_
  · obtain ⟨h1, h2, h3⟩ := arm_lt hs
    refine ⟨?_, ?_, ?_⟩
    · omega
    · omega
    · have e1 := arm_pal (l := l) (a := a) (p := (m + 1) / 2 - 1 - s) (q := a - ((m + 1) / 2 - 1 - s)) (by omega) (by omega) (by omega)
      have e2 := arm_pal (l := l) (a := a) (p := m / 2 + 1 + s) (q := a - (m / 2 + 1 + s)) (by omega) (by omega) (by omega)
      rw [e1, e2]
      rw [show (o + 1) / 2 - 1 - s = a - (m / 2 + 1 + s) by omega, show o / 2 + 1 + s = a - ((m + 1) / 2 - 1 - s) by omega] at h3
      exact h3.symm
  · obtain ⟨h1, h2, h3⟩ := hok
    refine ⟨?_, ?_, ?_⟩
    · omega
    · omega
    · have e1 := arm_pal (l := l) (a := a) (p := (m + 1) / 2 - 1 - armN l o) (q := a - ((m + 1) / 2 - 1 - armN l o)) (by omega) (by omega) (by omega)
      have e2 := arm_pal (l := l) (a := a) (p := m / 2 + 1 + armN l o) (q := a - (m / 2 + 1 + armN l o)) (by omega) (by omega) (by omega)
      rw [show (o + 1) / 2 - 1 - armN l o = a - (m / 2 + 1 + armN l o) by omega, show o / 2 + 1 + armN l o = a - ((m + 1) / 2 - 1 - armN l o) by omega]
      rw [← e1, ← e2]
      exact h3.symm
end Mw
namespace Mw
open PySem PySem.Spec PyProof.Rows L2 Evl
/-! # mathematics: mirror words at a word's end -/
def pal (l : Tx) : Bool := decide (l = l.reverse)
/-- all mirror words at the end, the longest first -/
def endsT : Tx → List Tx
  | [] => []
  | c :: r => if pal (c :: r) then (c :: r) :: endsT r else endsT r
def tailF (l : Tx) : Tx := (endsT l.tail).headD []
theorem endsT_head : ∀ r : Tx, endsT ((endsT r).headD []) = endsT r
  | [] => rfl
  | c :: r => by
    rw [endsT]
    by_cases h : pal (c :: r) = true
    · rw [if_pos h, List.headD_cons, endsT, if_pos h]
    · rw [if_neg h]
      exact endsT_head r
theorem endsT_tail (l : Tx) : endsT (tailF l) = endsT l.tail := endsT_head l.tail
theorem endsT_pal {l : Tx} (h : pal l = true) (h0 : l ≠ []) : endsT l = l :: endsT l.tail := by
  cases l with
  | nil => exact absurd rfl h0
  | cons c r => rw [endsT, if_pos h]; rfl
theorem mem_endsT : ∀ {l w : Tx}, w ∈ endsT l → pal w = true ∧ w ≠ [] ∧ ∃ k, w = l.drop k
  | [], w, h => by cases h
  | c :: r, w, h => by
    rw [endsT] at h
    by_cases hp : pal (c :: r) = true
    · rw [if_pos hp] at h
      rcases List.mem_cons.mp h with rfl | h
      · exact ⟨hp, by simp, 0, rfl⟩
      · obtain ⟨a, b, k, e⟩ := mem_endsT h
        exact ⟨a, b, k + 1, e⟩
    · rw [if_neg hp] at h
      obtain ⟨a, b, k, e⟩ := mem_endsT h
      exact ⟨a, b, k + 1, e⟩
theorem tailF_pal (l : Tx) : tailF l = [] ∨ pal (tailF l) = true := by
  unfold tailF
  cases h : endsT l.tail with
  | nil => exact .inl rfl
  | cons w r => exact .inr (mem_endsT (l := l.tail) (w := w) (by rw [h]; exact List.mem_cons_self ..)).1
theorem len_endsT : ∀ l : Tx, (endsT l).length ≤ l.length
  | [] => Nat.le_refl _
  | c :: r => by
    have := len_endsT r
    rw [endsT]
    split
    · rw [List.length_cons, List.length_cons]; omega
    · rw [List.length_cons]; omega
theorem tailF_lt {l : Tx} (h : l ≠ []) : (tailF l).length < l.length := by
  cases l with
  | nil => exact absurd rfl h
  | cons c r =>
    unfold tailF
    show ((endsT r).headD []).length < r.length + 1
    cases e : endsT r with
    | nil => exact Nat.succ_pos _
    | cons w s =>
      obtain ⟨_, _, k, hk⟩ := mem_endsT (l := r) (w := w) (by rw [e]; exact List.mem_cons_self ..)
      rw [List.headD_cons, hk, List.length_drop]
      omega
/-- place by place -/
theorem endsT_range : ∀ l : Tx, ((List.range l.length).filter fun i => pal (l.drop i)).map (fun i => l.drop i) = endsT l
  | [] => rfl
  | c :: r => by
    rw [endsT, List.length_cons, List.range_succ_eq_map, ← endsT_range r]
    have e : ((List.range r.length).map Nat.succ).filter (fun i => pal ((c :: r).drop i)) = ((List.range r.length).filter fun i => pal (r.drop i)).map Nat.succ := by
      rw [List.filter_map]; rfl
    by_cases h : pal (c :: r) = true
    · rw [if_pos h, List.filter_cons_of_pos (by exact h), e, List.map_cons, List.map_map]; rfl
    · rw [if_neg h, List.filter_cons_of_neg (by exact h), e, List.map_map]; rfl
theorem endsT_skip {l : Tx} {i : Nat} (h : pal (l.drop i) = false) (hi : i < l.length) : endsT (l.drop i) = endsT (l.drop (i + 1)) := by
  rw [List.drop_eq_getElem_cons hi] at h ⊢
  rw [endsT, h, if_neg Bool.false_ne_true]
theorem endsT_hit {l : Tx} {i : Nat} (h : pal (l.drop i) = true) (hi : i < l.length) : (endsT (l.drop i)).headD [] = l.drop i := by
  rw [List.drop_eq_getElem_cons hi] at h ⊢
  rw [endsT, if_pos h, List.headD_cons]
end Mw
namespace Mw
open PySem PySem.Spec PyProof.Rows L2 Evl

/-! # mathematics: a text parted into as few mirror words as can be -/
def sub (l : Tx) (p e : Nat) : Tx := (l.drop p).take (e - p)
theorem sub_len {l : Tx} {p e : Nat} (h : e ≤ l.length) : (sub l p e).length = e - p := by
  unfold sub
  rw [List.length_take, List.length_drop]; omega
theorem getD_sub {l : Tx} {p e i : Nat} (hi : i < e - p) : (sub l p e).getD i 0 = l.getD (p + i) 0 := by
  unfold sub
  rw [List.getD_eq_getElem?_getD, List.getD_eq_getElem?_getD, List.getElem?_take_of_lt hi, List.getElem?_drop]
theorem ext_getD {a b : Tx} (hl : a.length = b.length) (h : ∀ i, i < a.length → a.getD i 0 = b.getD i 0) : a = b := by
  refine List.ext_getElem hl fun i h1 h2 => ?_
  have := h i h1
  rwa [List.getD_eq_getElem?_getD, List.getD_eq_getElem?_getD, List.getElem?_eq_getElem h1, List.getElem?_eq_getElem h2] at this
theorem pal_iff {l : Tx} : pal l = true ↔ ∀ i, i < l.length → l.getD i 0 = l.getD (l.length - 1 - i) 0 := by
  have key : ∀ i, i < l.length → l.reverse.getD i 0 = l.getD (l.length - 1 - i) 0 := fun i hi => by
    rw [List.getD_eq_getElem?_getD, List.getD_eq_getElem?_getD, List.getElem?_reverse hi]
  unfold pal
  rw [decide_eq_true_eq]
  constructor
  · intro h i hi
    rw [← key i hi, ← h]
  · intro h
    exact ext_getD (by rw [List.length_reverse]) fun i hi => by rw [key i hi]; exact h i hi
theorem pal_sub {l : Tx} {p e : Nat} (he : e ≤ l.length) : pal (sub l p e) = true ↔ ∀ i, p ≤ i → i < e → l.getD i 0 = l.getD (p + e - 1 - i) 0 := by
  rw [pal_iff, sub_len he]
  constructor
  · intro h i h1 h2
    have z := h (i - p) (by omega)
    rw [getD_sub (by omega), getD_sub (by omega)] at z
    rw [show p + (i - p) = i by omega, show p + (e - p - 1 - (i - p)) = p + e - 1 - i by omega] at z
    exact z
  · intro h i hi
    rw [getD_sub hi, getD_sub (by omega)]
    have z := h (p + i) (by omega) (by omega)
    rw [show p + e - 1 - (p + i) = p + (e - p - 1 - i) by omega] at z
    exact z
/-- a mirror word within a text is told by the arm of its middle -/
theorem reach_arm {l : Tx} {p e : Nat} (hp : p < e) (he : e ≤ l.length) : pal (sub l p e) = true ↔ e - 1 ≤ (p + e - 1) / 2 + armN l (p + e - 1) := by
  rw [pal_sub he]
  constructor
  · intro h
    rcases Nat.lt_or_ge ((p + e - 1) / 2 + armN l (p + e - 1)) (e - 1) with c | c
    · refine absurd ?_ (arm_not l (p + e - 1))
      refine ⟨by omega, by omega, ?_⟩
      have z := h ((p + e - 1) / 2 + 1 + armN l (p + e - 1)) (by omega) (by omega)
      rw [z]
      congr 1
      omega
    · exact c
  · intro h i h1 h2
    exact arm_pal (a := p + e - 1) (by omega) (by omega) (by omega)
theorem reach_ms {l : Tx} {p : Nat} {e : Nat} : (p < e ∧ e ≤ l.length ∧ pal (sub l p e) = true) ↔ ∃ m s : Nat, m < 2 * l.length - 1 ∧ s ≤ armN l m ∧ s ≤ (m + 1) / 2 ∧ (m + 1) / 2 - s = p ∧ e = m / 2 + s + 1 ∧ p < m / 2 + s + 1 := by
  constructor
  · rintro ⟨h1, h2, h3⟩
    have z := (reach_arm h1 h2).mp h3
    exact ⟨p + e - 1, e - 1 - (p + e - 1) / 2, by omega, by omega, by omega, by omega, by omega, by omega⟩
  · rintro ⟨m, s, h1, h2, h3, h4, h5, h6⟩
    have hin := arm_in (l := l) (m := m) (by omega)
    have hem : p + e - 1 = m := by omega
    refine ⟨by omega, by omega, (reach_arm (by omega) (by omega)).mpr ?_⟩
    rw [hem]
    omega
theorem pal_one {l : Tx} {p : Nat} (h : p < l.length) : pal (sub l p (p + 1)) = true :=
  (pal_sub h).mpr fun i h1 h2 => by rw [show p + (p + 1) - 1 - i = i by omega]
/-- the law's choice -/
def stepF (l : Tx) (p : Nat) (best : List (List Tx)) (found : Option (List Tx)) (e : Nat) : Option (List Tx) :=
  if pal (sub l p e) && (found.isNone || decide (1 + (best.getD (l.length - e) []).length < (found.getD []).length)) then some (sub l p e :: best.getD (l.length - e) []) else found
def rowN (l : Tx) (p : Nat) (best : List (List Tx)) (k : Nat) : Option (List Tx) := ((List.range k).map fun i => l.length - i).foldl (stepF l p best) none
theorem rowN_succ (l : Tx) (p : Nat) (best : List (List Tx)) (k : Nat) : rowN l p best (k + 1) = stepF l p best (rowN l p best k) (l.length - k) := by
  unfold rowN
  rw [List.range_succ, List.map_append, List.foldl_append]; rfl
def bests (l : Tx) : Nat → List (List Tx)
  | 0 => [[]]
  | k + 1 => bests l k ++ [(rowN l (l.length - (k + 1)) (bests l k) (k + 1)).getD []]
theorem len_bests (l : Tx) : ∀ k, (bests l k).length = k + 1
  | 0 => rfl
  | k + 1 => by rw [bests, List.length_append, len_bests l k]; rfl
def bst (l : Tx) (i : Nat) : List Tx := (bests l i).getD i []
theorem bests_at (l : Tx) {i k : Nat} (h : i ≤ k) : (bests l k).getD i [] = bst l i := by
  induction k with
  | zero => rw [show i = 0 by omega]; rfl
  | succ k ih =>
    by_cases c : i ≤ k
    · rw [← ih c, bests, List.getD_eq_getElem?_getD, List.getD_eq_getElem?_getD, List.getElem?_append_left (by rw [len_bests]; omega)]
    · rw [show i = k + 1 by omega]; rfl
theorem bst_succ (l : Tx) (k : Nat) : bst l (k + 1) = (rowN l (l.length - (k + 1)) (bests l k) (k + 1)).getD [] := by
  unfold bst
  rw [bests, List.getD_eq_getElem?_getD, List.getElem?_append_right (by rw [len_bests]; omega), len_bests, Nat.sub_self]
  rfl
/-- what is chosen out of the ends that are looked at -/
theorem row_spec (l : Tx) (p : Nat) (best : List (List Tx)) (k : Nat) : (rowN l p best k = none ∧ ∀ i, i < k → pal (sub l p (l.length - i)) = false) ∨
    ∃ i, i < k ∧ pal (sub l p (l.length - i)) = true ∧ rowN l p best k = some (sub l p (l.length - i) :: best.getD (l.length - (l.length - i)) []) ∧
      ∀ i', i' < k → pal (sub l p (l.length - i')) = true → (best.getD (l.length - (l.length - i)) []).length ≤ (best.getD (l.length - (l.length - i')) []).length ∧ (i' < i → (best.getD (l.length - (l.length - i)) []).length < (best.getD (l.length - (l.length - i')) []).length) := by
  induction k with
  | zero => exact .inl ⟨rfl, fun i h => by omega⟩
  | succ k ih =>
    rw [rowN_succ]
    unfold stepF
    by_cases hp : pal (sub l p (l.length - k)) = true
    · rcases ih with ⟨h1, h2⟩ | ⟨i, h1, h2, h3, h4⟩
      · rw [hp, h1]
        refine .inr ⟨k, by omega, hp, rfl, fun i' hi' hp' => ?_⟩
        rcases Nat.lt_or_ge i' k with c | c
        · rw [h2 i' c] at hp'; cases hp'
        · rw [show i' = k by omega]
          exact ⟨Nat.le_refl _, fun z => by omega⟩
      · rw [hp, h3, Bool.true_and]
        show _ ∨ _
        by_cases c : 1 + (best.getD (l.length - (l.length - k)) []).length < (sub l p (l.length - i) :: best.getD (l.length - (l.length - i)) []).length
        · rw [if_pos (by show (false || decide _) = true; rw [Bool.false_or]; exact decide_eq_true c)]
          rw [List.length_cons] at c
          refine .inr ⟨k, by omega, hp, rfl, fun i' hi' hp' => ?_⟩
          rcases Nat.lt_or_ge i' k with c2 | c2
          · have := (h4 i' c2 hp').1
            exact ⟨by omega, fun _ => by omega⟩
          · rw [show i' = k by omega]
            exact ⟨Nat.le_refl _, fun z => by omega⟩
        · rw [if_neg (by show ¬ (false || decide _) = true; rw [Bool.false_or, decide_eq_true_eq]; exact c)]
          rw [List.length_cons] at c
          refine .inr ⟨i, by omega, h2, rfl, fun i' hi' hp' => ?_⟩
          rcases Nat.lt_or_ge i' k with c2 | c2
          · exact h4 i' c2 hp'
          · rw [show i' = k by omega]
            exact ⟨by omega, fun z => by omega⟩
    · have hp : pal (sub l p (l.length - k)) = false := by simpa using hp
      rw [hp, if_neg (by simp)]
      rcases ih with ⟨h1, h2⟩ | ⟨i, h1, h2, h3, h4⟩
      · refine .inl ⟨h1, fun i hi => ?_⟩
        rcases Nat.lt_or_ge i k with c | c
        · exact h2 i c
        · rw [show i = k by omega]; exact hp
      · refine .inr ⟨i, by omega, h2, h3, fun i' hi' hp' => ?_⟩
        rcases Nat.lt_or_ge i' k with c | c
        · exact h4 i' c hp'
        · rw [show i' = k by omega, hp] at hp'; cases hp'
theorem bst_spec {l : Tx} {p : Nat} (hp : p < l.length) : ∃ e, p < e ∧ e ≤ l.length ∧ pal (sub l p e) = true ∧ bst l (l.length - p) = sub l p e :: bst l (l.length - e) ∧
    ∀ e', p < e' → e' ≤ l.length → pal (sub l p e') = true → (bst l (l.length - e)).length ≤ (bst l (l.length - e')).length ∧ (e < e' → (bst l (l.length - e)).length < (bst l (l.length - e')).length) := by
  obtain ⟨k, hk⟩ : ∃ k, l.length - p = k + 1 := ⟨l.length - p - 1, by omega⟩
  have hkp : l.length - (k + 1) = p := by omega
  rcases row_spec l p (bests l k) (k + 1) with ⟨_, h2⟩ | ⟨i, h1, h2, h3, h4⟩
  · have z := h2 k (by omega)
    rw [show l.length - k = p + 1 by omega, pal_one hp] at z
    cases z
  · refine ⟨l.length - i, by omega, by omega, h2, ?_, fun e' a1 a2 a3 => ?_⟩
    · rw [hk, bst_succ, hkp, h3, Option.getD_some, bests_at l (by omega)]
    · have z := h4 (l.length - e') (by omega) (by rw [show l.length - (l.length - e') = e' by omega]; exact a3)
      rw [bests_at l (by omega), bests_at l (by omega), show l.length - (l.length - (l.length - e')) = l.length - e' by omega] at z
      exact ⟨z.1, fun c => z.2 (by omega)⟩
theorem bst_zero (l : Tx) : bst l 0 = [] := rfl
theorem bst_flat (l : Tx) : ∀ k p, l.length - p = k → p ≤ l.length → (bst l (l.length - p)).flatten = l.drop p := by
  intro k
  induction k using Nat.strongRecOn with
  | _ k ih =>
    intro p hk hp
    rcases Nat.lt_or_ge p l.length with c | c
    · obtain ⟨e, h1, h2, h3, h4, _⟩ := bst_spec c
      rw [h4, List.flatten_cons, ih (l.length - e) (by omega) e rfl h2]
      unfold sub
      have e1 : l.drop e = (l.drop p).drop (e - p) := by rw [List.drop_drop, show p + (e - p) = e by omega]
      rw [e1, List.take_append_drop]
    · rw [show l.length - p = 0 by omega, bst_zero, List.drop_of_length_le c]; rfl
theorem bst_len (l : Tx) : ∀ k p, l.length - p = k → (bst l (l.length - p)).length ≤ l.length - p := by
  intro k
  induction k using Nat.strongRecOn with
  | _ k ih =>
    intro p hk
    rcases Nat.lt_or_ge p l.length with c | c
    · obtain ⟨e, h1, h2, h3, h4, _⟩ := bst_spec c
      have := ih (l.length - e) (by omega) e rfl
      rw [h4, List.length_cons]
      omega
    · rw [show l.length - p = 0 by omega, bst_zero]; exact Nat.le_refl _
theorem bst_all (l : Tx) : (bst l l.length).flatten = l := by
  have := bst_flat l l.length 0 (by omega) (by omega)
  rwa [Nat.sub_zero] at this
theorem mem_bst (l : Tx) : ∀ k p, l.length - p = k → ∀ w ∈ bst l (l.length - p), ∃ a e, a < e ∧ e ≤ l.length ∧ pal (sub l a e) = true ∧ w = sub l a e := by
  intro k
  induction k using Nat.strongRecOn with
  | _ k ih =>
    intro p hk w hw
    rcases Nat.lt_or_ge p l.length with c | c
    · obtain ⟨e, h1, h2, h3, h4, _⟩ := bst_spec c
      rw [h4] at hw
      rcases List.mem_cons.mp hw with rfl | hw
      · exact ⟨p, e, h1, h2, h3, rfl⟩
      · exact ih (l.length - e) (by omega) e rfl w hw
    · rw [show l.length - p = 0 by omega, bst_zero] at hw; cases hw
/-- where the first word of the told parting ends -/
def goesN (l : Tx) (p : Nat) : Nat := p + ((bst l (l.length - p)).headD []).length
theorem goes_eq {l : Tx} {p e : Nat} {r : List Tx} (h : bst l (l.length - p) = sub l p e :: r) (hp : p < e) (he : e ≤ l.length) : goesN l p = e := by
  unfold goesN
  rw [h, List.headD_cons, sub_len he]; omega
theorem set_range {α : Type} (f : Nat → α) (n j : Nat) (v : α) : ((List.range n).map f).set j v = (List.range n).map fun i => if i = j then v else f i := by
  apply List.ext_getElem?
  intro i
  rw [List.getElem?_set]
  by_cases e : j = i
  · subst e
    rw [if_pos rfl]
    by_cases c : j < n
    · rw [if_pos (by simpa using c), List.getElem?_map, List.getElem?_range c]; simp
    · rw [if_neg (by simpa using c), List.getElem?_eq_none (by simp; omega)]
  · rw [if_neg e, List.getElem?_map, List.getElem?_map]
    by_cases c : i < n
    · rw [List.getElem?_range c]
      simp [Ne.symm e]
    · rw [List.getElem?_eq_none (by simp; omega)]; rfl
theorem at_range {α : Type} (f : Nat → α) {n j : Nat} (h : j < n) : ((List.range n).map f)[j]? = some (f j) := by
  rw [List.getElem?_map, List.getElem?_range h]; rfl
theorem row_some (l : Tx) (best : List (List Tx)) {k : Nat} (h : k + 1 ≤ l.length) : ∃ ws, rowN l (l.length - (k + 1)) best (k + 1) = some ws := by
  rcases row_spec l (l.length - (k + 1)) best (k + 1) with ⟨_, h2⟩ | ⟨i, _, _, h3, _⟩
  · have z := h2 k (by omega)
    rw [show l.length - k = l.length - (k + 1) + 1 by omega, pal_one (by omega)] at z
    cases z
  · exact ⟨_, h3⟩
/-! lists of ints, by place -/
def entF (R : Nat → Addr) (X : Nat → List Int) (n : Nat) : List (Addr × List V) := (List.range n).map fun i => (R i, (X i).map V.int)
theorem entF_at {R : Nat → Addr} {X : Nat → List Int} {n i : Nat} (h : i < n) : (entF R X n)[i]? = some (R i, (X i).map V.int) := at_range _ h
theorem entF_set {R : Nat → Addr} {X : Nat → List Int} {n i : Nat} {ys : List Int} : (entF R X n).set i (R i, ys.map V.int) = entF R (fun j => if j = i then ys else X j) n := by
  unfold entF
  rw [set_range]
  refine List.map_congr_left fun j _ => ?_
  by_cases e : j = i
  · subst e; simp only [if_true]
  · simp only [if_neg e]

end Mw
namespace Mw
open PySem PySem.Spec PyProof.Rows L2 Evl
/-! # mathematics: the least text with told arms -/
def tieR (r : Nat → Nat) (p : Nat × Nat) : Nat → Nat := fun x => if r x = max (r p.1) (r p.2) then min (r p.1) (r p.2) else r x
def rootL (E : List (Nat × Nat)) : Nat → Nat := E.foldl tieR id
/-- r tells the first place of each group that the ties make -/
structure Fine (E : List (Nat × Nat)) (r : Nat → Nat) : Prop where
  le : ∀ x, r x ≤ x
  idem : ∀ x, r (r x) = r x
  edge : ∀ p ∈ E, r p.1 = r p.2
  sound : ∀ g : Nat → Nat, (∀ p ∈ E, g p.1 = g p.2) → ∀ x, g (r x) = g x
theorem fine_step {E : List (Nat × Nat)} {r : Nat → Nat} (h : Fine E r) (p : Nat × Nat) : Fine (E ++ [p]) (tieR r p) := by
  have h1 := h.idem p.1
  have h2 := h.idem p.2
  have hmin : r (min (r p.1) (r p.2)) = min (r p.1) (r p.2) := by
    rcases Nat.le_total (r p.1) (r p.2) with c | c
    · rw [Nat.min_eq_left c, h1]
    · rw [Nat.min_eq_right c, h2]
  refine ⟨fun x => ?_, fun x => ?_, fun q hq => ?_, fun g hg x => ?_⟩
  · have := h.le x
    unfold tieR
    split
    · omega
    · exact this
  · unfold tieR
    by_cases c : r x = max (r p.1) (r p.2)
    · rw [if_pos c, hmin]
      split <;> rfl
    · rw [if_neg c, h.idem, if_neg c]
  · rcases List.mem_append.mp hq with hq | hq
    · unfold tieR
      rw [h.edge q hq]
    · rw [List.mem_singleton.mp hq]
      unfold tieR
      split <;> split <;> omega
  · have hE := h.sound g fun q hq => hg q (List.mem_append_left _ hq)
    have hp := hg p (List.mem_append_right _ (List.mem_singleton.mpr rfl))
    unfold tieR
    by_cases c : r x = max (r p.1) (r p.2)
    · rw [if_pos c]
      have e1 := hE p.1
      have e2 := hE p.2
      have e3 := hE x
      rcases Nat.le_total (r p.1) (r p.2) with d | d
      · rw [Nat.min_eq_left d, e1, hp, ← e2, ← e3, c, Nat.max_eq_right d]
      · rw [Nat.min_eq_right d, e2, ← hp, ← e1, ← e3, c, Nat.max_eq_left d]
    · rw [if_neg c]
      exact hE x
theorem fine_fold : ∀ (E E0 : List (Nat × Nat)) (r : Nat → Nat), Fine E0 r → Fine (E0 ++ E) (E.foldl tieR r)
  | [], E0, r, h => by rw [List.append_nil]; exact h
  | p :: E, E0, r, h => by
    have z := fine_fold E (E0 ++ [p]) (tieR r p) (fine_step h p)
    rw [List.append_assoc] at z
    exact z
theorem fine_root (E : List (Nat × Nat)) : Fine E (rootL E) := fine_fold E [] id ⟨fun _ => Nat.le_refl _, fun _ => rfl, fun _ h => (by cases h), fun _ _ _ => rfl⟩
theorem fine_eq {E : List (Nat × Nat)} {r s : Nat → Nat} (h1 : Fine E r) (h2 : Fine E s) (x : Nat) : r x = s x := by
  have a := h1.sound s h2.edge x
  have b := h2.sound r h1.edge x
  have c := h1.le (s x)
  have d := h2.le (r x)
  omega

/-! ## the law's marks, gone over till nothing changes -/
def relax (F : Nat → Nat) (p : Nat × Nat) : Nat → Nat := fun x => if x = p.1 ∨ x = p.2 then min (F p.1) (F p.2) else F x
def turnF (E : List (Nat × Nat)) (F : Nat → Nat) : Nat → Nat := E.foldl relax F
def MInv (r F : Nat → Nat) : Prop := ∀ x, r (F x) = r x ∧ F x ≤ x
theorem minv_ge {E : List (Nat × Nat)} {r F : Nat → Nat} (h : Fine E r) (i : MInv r F) (x : Nat) : r x ≤ F x := by
  have := h.le (F x)
  rw [(i x).1] at this
  exact this
theorem minv_relax {E : List (Nat × Nat)} {r F : Nat → Nat} {p : Nat × Nat} (h : Fine E r) (hp : p ∈ E) (i : MInv r F) : MInv r (relax F p) := by
  intro x
  have e := h.edge p hp
  obtain ⟨a1, a2⟩ := i p.1
  obtain ⟨b1, b2⟩ := i p.2
  unfold relax
  by_cases c : x = p.1 ∨ x = p.2
  · rw [if_pos c]
    rcases c with c | c <;> subst c
    · refine ⟨?_, by omega⟩
      rcases Nat.le_total (F p.1) (F p.2) with d | d
      · rw [Nat.min_eq_left d, a1]
      · rw [Nat.min_eq_right d, b1, e]
    · refine ⟨?_, by omega⟩
      rcases Nat.le_total (F p.1) (F p.2) with d | d
      · rw [Nat.min_eq_left d, a1, e]
      · rw [Nat.min_eq_right d, b1]
  · rw [if_neg c]
    exact i x
theorem settled_relax {E : List (Nat × Nat)} {r F : Nat → Nat} {p : Nat × Nat} (h : Fine E r) (hp : p ∈ E) (i : MInv r F) {x : Nat} (hx : F x = r x) : relax F p x = r x := by
  have e := h.edge p hp
  have g1 := minv_ge h i p.1
  have g2 := minv_ge h i p.2
  unfold relax
  by_cases c : x = p.1 ∨ x = p.2
  · rw [if_pos c]
    rcases c with c | c <;> subst c <;> omega
  · rw [if_neg c]
    exact hx
theorem settled_edge {E : List (Nat × Nat)} {r F : Nat → Nat} {p : Nat × Nat} (h : Fine E r) (hp : p ∈ E) (i : MInv r F) (hs : F p.1 = r p.1 ∨ F p.2 = r p.2) : relax F p p.1 = r p.1 ∧ relax F p p.2 = r p.2 := by
  have e := h.edge p hp
  have g1 := minv_ge h i p.1
  have g2 := minv_ge h i p.2
  unfold relax
  rw [if_pos (.inl rfl), if_pos (.inr rfl)]
  omega
theorem turn_props {E0 : List (Nat × Nat)} {r : Nat → Nat} (h : Fine E0 r) : ∀ (E : List (Nat × Nat)) (F : Nat → Nat), (∀ p ∈ E, p ∈ E0) → MInv r F → MInv r (turnF E F) ∧ (∀ x, F x = r x → turnF E F x = r x) ∧ ∀ p ∈ E, F p.1 = r p.1 ∨ F p.2 = r p.2 → turnF E F p.1 = r p.1 ∧ turnF E F p.2 = r p.2
  | [], F, _, i => ⟨i, fun _ h => h, fun _ h => (by cases h)⟩
  | q :: E, F, hm, i => by
    have hq := hm q (List.mem_cons_self ..)
    have i2 := minv_relax h hq i
    obtain ⟨a, b, c⟩ := turn_props h E (relax F q) (fun p hp => hm p (List.mem_cons_of_mem _ hp)) i2
    refine ⟨a, fun x hx => b x (settled_relax h hq i hx), fun p hp hs => ?_⟩
    rcases List.mem_cons.mp hp with rfl | hp
    · obtain ⟨s1, s2⟩ := settled_edge h hq i hs
      exact ⟨b _ s1, b _ s2⟩
    · refine c p hp ?_
      rcases hs with hs | hs
      · exact .inl (settled_relax h hq i hs)
      · exact .inr (settled_relax h hq i hs)
theorem filter_lt {α : Type} {p q : α → Bool} : ∀ {l : List α}, (∀ x ∈ l, q x = true → p x = true) → (∃ x ∈ l, p x = true ∧ q x = false) → (l.filter q).length < (l.filter p).length
  | [], _, h => by obtain ⟨x, hx, _⟩ := h; cases hx
  | y :: l, hs, h => by
    have hle : (l.filter q).length ≤ (l.filter p).length := by
      have : ∀ {l : List α}, (∀ x ∈ l, q x = true → p x = true) → (l.filter q).length ≤ (l.filter p).length := by
        intro l
        induction l with
        | nil => intro _; exact Nat.le_refl _
        | cons z l ih =>
          intro hs
          have := ih fun x hx => hs x (List.mem_cons_of_mem _ hx)
          have h0 := hs z (List.mem_cons_self ..)
          rw [List.filter_cons, List.filter_cons]
          by_cases c : q z = true
          · rw [if_pos c, if_pos (h0 c), List.length_cons, List.length_cons]; omega
          · rw [if_neg c]
            split
            · rw [List.length_cons]; omega
            · exact this
      exact this fun x hx => hs x (List.mem_cons_of_mem _ hx)
    have h0 := hs y (List.mem_cons_self ..)
    obtain ⟨x, hx, h1, h2⟩ := h
    rw [List.filter_cons, List.filter_cons]
    rcases List.mem_cons.mp hx with rfl | hx
    · rw [if_neg (by rw [h2]; exact Bool.false_ne_true), if_pos h1, List.length_cons]; omega
    · have ih := filter_lt (fun x hx => hs x (List.mem_cons_of_mem _ hx)) ⟨x, hx, h1, h2⟩
      by_cases c : q y = true
      · rw [if_pos c, if_pos (h0 c), List.length_cons, List.length_cons]; omega
      · rw [if_neg c]
        split
        · rw [List.length_cons]; omega
        · exact ih
def unsF (r F : Nat → Nat) (n : Nat) : Nat := ((List.range n).filter fun x => !decide (F x = r x)).length
theorem turn_less {E : List (Nat × Nat)} {r F : Nat → Nat} {n : Nat} (h : Fine E r) (i : MInv r F) (hu : 0 < unsF r F n) (hE : ∀ p ∈ E, p.1 < n ∧ p.2 < n) : unsF r (turnF E F) n < unsF r F n := by
  obtain ⟨a, b, c⟩ := turn_props h E F (fun _ h => h) i
  obtain ⟨x, hx⟩ := List.exists_mem_of_length_pos hu
  obtain ⟨hxn, hxs⟩ := List.mem_filter.mp hx
  have hxs : ¬ F x = r x := by simpa using hxs
  have hcross : ∃ p ∈ E, (F p.1 = r p.1 ∧ ¬ F p.2 = r p.2) ∨ (F p.2 = r p.2 ∧ ¬ F p.1 = r p.1) := by
    apply Classical.byContradiction
    intro hn
    have hc : ∀ p ∈ E, (F p.1 = r p.1 ↔ F p.2 = r p.2) := fun p hp =>
      ⟨fun k => Classical.byContradiction fun k2 => hn ⟨p, hp, .inl ⟨k, k2⟩⟩, fun k => Classical.byContradiction fun k2 => hn ⟨p, hp, .inr ⟨k, k2⟩⟩⟩
    have hs := h.sound (fun y => if F y = r y then 1 else 0) (fun p hp => by
      have := hc p hp
      by_cases k : F p.1 = r p.1
      · simp only [if_pos k, if_pos (this.mp k)]
      · simp only [if_neg k, if_neg (fun k2 => k (this.mpr k2))]) x
    have e : F (r x) = r (r x) := by
      have := (i (r x)).2
      have := minv_ge h i (r x)
      have := h.idem x
      omega
    simp only [if_pos e, if_neg hxs] at hs
    cases hs
  obtain ⟨p, hp, hp2⟩ := hcross
  refine filter_lt (fun y _ hy => ?_) ?_
  · have hy : ¬ turnF E F y = r y := by simpa using hy
    simpa using fun k => hy (b y k)
  · rcases hp2 with ⟨k1, k2⟩ | ⟨k1, k2⟩
    · exact ⟨p.2, List.mem_range.mpr (hE p hp).2, by simpa using k2, by simpa using (c p hp (.inl k1)).2⟩
    · exact ⟨p.1, List.mem_range.mpr (hE p hp).1, by simpa using k2, by simpa using (c p hp (.inr k1)).1⟩
def turnsF (E : List (Nat × Nat)) : Nat → (Nat → Nat)
  | 0 => id
  | t + 1 => turnF E (turnsF E t)
theorem turns_inv {E : List (Nat × Nat)} {r : Nat → Nat} {n : Nat} (h : Fine E r) (hE : ∀ p ∈ E, p.1 < n ∧ p.2 < n) : ∀ t, MInv r (turnsF E t) ∧ unsF r (turnsF E t) n ≤ n - t
  | 0 => ⟨fun x => ⟨rfl, Nat.le_refl _⟩, by
    unfold unsF
    have := List.length_filter_le (fun x => !decide (turnsF E 0 x = r x)) (List.range n)
    rw [List.length_range] at this
    omega⟩
  | t + 1 => by
    obtain ⟨i, hu⟩ := turns_inv h hE t
    have hp := turn_props h E (turnsF E t) (fun _ h => h) i
    refine ⟨hp.1, ?_⟩
    show unsF r (turnF E (turnsF E t)) n ≤ _
    rcases Nat.eq_zero_or_pos (unsF r (turnsF E t) n) with c | c
    · have : unsF r (turnF E (turnsF E t)) n = 0 := by
        unfold unsF at c ⊢
        rw [List.length_eq_zero_iff, List.filter_eq_nil_iff] at c ⊢
        intro x hx k
        refine c x hx ?_
        have k : ¬ turnF E (turnsF E t) x = r x := by simpa using k
        simpa using fun k2 => k (hp.2.1 x k2)
      omega
    · have := turn_less h i c hE
      omega
theorem turns_root {E : List (Nat × Nat)} {r : Nat → Nat} {n x : Nat} (h : Fine E r) (hE : ∀ p ∈ E, p.1 < n ∧ p.2 < n) (hx : x < n) : turnsF E n x = r x := by
  have hu := (turns_inv h hE n).2
  have c : unsF r (turnsF E n) n = 0 := by omega
  unfold unsF at c
  rw [List.length_eq_zero_iff, List.filter_eq_nil_iff] at c
  have := c x (List.mem_range.mpr hx)
  simpa using this

/-! ## letters -/
theorem nodup_le {α : Type} [DecidableEq α] : ∀ {l m : List α}, l.Nodup → (∀ x ∈ l, x ∈ m) → l.length ≤ m.length
  | [], _, _, _ => Nat.zero_le _
  | x :: l, m, hn, hs => by
    have hx := hs x (List.mem_cons_self ..)
    obtain ⟨n1, n2⟩ := List.nodup_cons.mp hn
    have := nodup_le (l := l) (m := m.erase x) n2 fun y hy => (List.mem_erase_of_ne (fun e : y = x => n1 (by rw [← e]; exact hy))).mpr (hs y (List.mem_cons_of_mem _ hy))
    rw [List.length_erase_of_mem hx] at this
    have := List.length_pos_of_mem hx
    rw [List.length_cons]
    omega
theorem letters_nd : letters.Nodup := by decide
theorem letters_up : letters.Pairwise (· < ·) := by decide
def freeL (u : Nat → Bool) : Nat := (letters.filter fun c => !u c).headD 0
theorem free_spec {u : Nat → Bool} (h : ∃ c ∈ letters, u c = false) : freeL u ∈ letters ∧ u (freeL u) = false ∧ ∀ c ∈ letters, u c = false → freeL u ≤ c := by
  obtain ⟨c0, hc0, hu0⟩ := h
  have hp : (letters.filter fun c => !u c).Pairwise (· < ·) := letters_up.sublist List.filter_sublist
  have hm0 : c0 ∈ letters.filter fun c => !u c := List.mem_filter.mpr ⟨hc0, by rw [hu0]; rfl⟩
  unfold freeL
  cases hf : letters.filter fun c => !u c with
  | nil => rw [hf] at hm0; cases hm0
  | cons d r =>
    rw [hf] at hp
    rw [List.headD_cons]
    have hd : d ∈ letters.filter fun c => !u c := by rw [hf]; exact List.mem_cons_self ..
    obtain ⟨h1, h2⟩ := List.mem_filter.mp hd
    refine ⟨h1, by simpa using h2, fun c hc hu => ?_⟩
    have hc2 : c ∈ letters.filter fun c => !u c := List.mem_filter.mpr ⟨hc, by rw [hu]; rfl⟩
    rw [hf] at hc2
    rcases List.mem_cons.mp hc2 with rfl | hc2
    · exact Nat.le_refl _
    · exact Nat.le_of_lt ((List.pairwise_cons.mp hp).1 c hc2)
theorem free_26 {p : Nat} (hp : p < 26) (X : Nat → Bool) (f : Nat → Nat) : ∃ c ∈ letters, ((List.range p).any fun q => X q && decide (f q = c)) = false := by
  apply Classical.byContradiction
  intro hn
  have hs : ∀ c ∈ letters, c ∈ (List.range p).map f := fun c hc => by
    have h1 : ((List.range p).any fun q => X q && decide (f q = c)) = true := by
      cases h : (List.range p).any fun q => X q && decide (f q = c) with
      | true => rfl
      | false => exact absurd ⟨c, hc, h⟩ hn
    obtain ⟨q, hq, hx⟩ := List.any_eq_true.mp h1
    rw [Bool.and_eq_true, decide_eq_true_eq] at hx
    exact List.mem_map.mpr ⟨q, hq, hx.2⟩
  have := nodup_le letters_nd hs
  rw [List.length_map, List.length_range] at this
  have h26 : letters.length = 26 := rfl
  omega

/-! ## the greedy text -/
def tiesM (m k : Nat) : List (Nat × Nat) := (List.range k).map fun s => ((m + 1) / 2 - 1 - s, m / 2 + 1 + s)
def tiesN (a : Nat → Nat) (M : Nat) : List (Nat × Nat) := (List.range M).flatMap fun m => tiesM m (a m)
def Lf (a : Nat → Nat) (m : Nat) : Nat := (m + 1) / 2 - 1 - a m
def Rt (a : Nat → Nat) (m : Nat) : Nat := m / 2 + 1 + a m
/-- an end that parts two places -/
def vE (n : Nat) (a : Nat → Nat) (m : Nat) : Bool := decide (a m < (m + 1) / 2) && decide (m / 2 + 1 + a m < n)
def OkA (n : Nat) (a : Nat → Nat) : Prop := ∀ m, m < 2 * n - 1 → a m ≤ (m + 1) / 2 ∧ m / 2 + a m < n
def foeM (n : Nat) (a r : Nat → Nat) (p q m : Nat) : Bool := vE n a m && ((decide (r (Lf a m) = p) && decide (r (Rt a m) = q)) || (decide (r (Rt a m) = p) && decide (r (Lf a m) = q)))
def foeB (n : Nat) (a r : Nat → Nat) (p q : Nat) : Bool := (List.range (2 * n - 1)).any fun m => foeM n a r p q m
def usedB (n : Nat) (a r : Nat → Nat) (t : Tx) (p c : Nat) : Bool := (List.range p).any fun q => foeB n a r p q && decide (t.getD q 0 = c)
def nextL (n : Nat) (a r : Nat → Nat) (t : Tx) (p : Nat) : Nat := if r p < p then t.getD (r p) 0 else freeL (usedB n a r t p)
def gT (n : Nat) (a r : Nat → Nat) : Nat → Tx
  | 0 => []
  | p + 1 => gT n a r p ++ [nextL n a r (gT n a r p) p]
theorem len_gT (n : Nat) (a r : Nat → Nat) : ∀ p, (gT n a r p).length = p
  | 0 => rfl
  | p + 1 => by rw [gT, List.length_append, len_gT n a r p]; rfl
def wF (n : Nat) (a r : Nat → Nat) (i : Nat) : Nat := nextL n a r (gT n a r i) i
theorem gT_at (n : Nat) (a r : Nat → Nat) {i p : Nat} (h : i < p) : (gT n a r p).getD i 0 = wF n a r i := by
  induction p with
  | zero => omega
  | succ p ih =>
    rw [gT, List.getD_eq_getElem?_getD]
    rcases Nat.lt_or_ge i p with c | c
    · rw [List.getElem?_append_left (by rw [len_gT]; exact c), ← List.getD_eq_getElem?_getD, ih c]
    · rw [List.getElem?_append_right (by rw [len_gT]; exact c), len_gT, show i = p by omega, Nat.sub_self]; rfl
theorem used_wF (n : Nat) (a r : Nat → Nat) (p c : Nat) : usedB n a r (gT n a r p) p c = (List.range p).any fun q => foeB n a r p q && decide (wF n a r q = c) := by
  unfold usedB
  rw [Bool.eq_iff_iff, List.any_eq_true, List.any_eq_true]
  constructor
  · rintro ⟨q, hq, h⟩
    exact ⟨q, hq, by rw [gT_at n a r (List.mem_range.mp hq)] at h; exact h⟩
  · rintro ⟨q, hq, h⟩
    exact ⟨q, hq, by rw [gT_at n a r (List.mem_range.mp hq)]; exact h⟩
theorem wF_root {n : Nat} {a r : Nat → Nat} {i : Nat} (h : r i < i) : wF n a r i = wF n a r (r i) := by
  unfold wF
  rw [nextL, if_pos h, gT_at n a r h]
  rfl
theorem wF_new {n : Nat} {a r : Nat → Nat} {i : Nat} (h : r i = i) : wF n a r i = freeL fun c => (List.range i).any fun q => foeB n a r i q && decide (wF n a r q = c) := by
  unfold wF
  rw [nextL, if_neg (by omega)]
  congr 1
  funext c
  exact used_wF n a r i c
theorem wF_r {E : List (Nat × Nat)} {n : Nat} {a r : Nat → Nat} (h : Fine E r) (i : Nat) : wF n a r (r i) = wF n a r i := by
  rcases Nat.lt_or_ge (r i) i with c | c
  · exact (wF_root c).symm
  · have := h.le i
    rw [show r i = i by omega]
/-- a letter is left at each new place -/
def Free (n : Nat) (a r : Nat → Nat) : Prop := ∀ p, p < n → r p = p → ∃ c ∈ letters, ((List.range p).any fun q => foeB n a r p q && decide (wF n a r q = c)) = false
theorem free_small {n : Nat} {a r : Nat → Nat} (h : n ≤ 26) : Free n a r := fun p hp _ => free_26 (by omega) _ _
theorem mem_ties {a : Nat → Nat} {M : Nat} {p : Nat × Nat} : p ∈ tiesN a M ↔ ∃ m s, m < M ∧ s < a m ∧ p = ((m + 1) / 2 - 1 - s, m / 2 + 1 + s) := by
  unfold tiesN tiesM
  rw [List.mem_flatMap]
  constructor
  · rintro ⟨m, hm, hp⟩
    obtain ⟨s, hs, e⟩ := List.mem_map.mp hp
    exact ⟨m, s, List.mem_range.mp hm, List.mem_range.mp hs, e.symm⟩
  · rintro ⟨m, s, hm, hs, e⟩
    exact ⟨m, List.mem_range.mpr hm, List.mem_map.mpr ⟨s, List.mem_range.mpr hs, e.symm⟩⟩
theorem ties_in {n : Nat} {a : Nat → Nat} (ok : OkA n a) : ∀ p ∈ tiesN a (2 * n - 1), p.1 < n ∧ p.2 < n := fun p hp => by
  obtain ⟨m, s, hm, hs, rfl⟩ := mem_ties.mp hp
  have := ok m hm
  exact ⟨by show (m + 1) / 2 - 1 - s < n; omega, by show m / 2 + 1 + s < n; omega⟩
def NoCl (n : Nat) (a r : Nat → Nat) : Prop := ∀ m, m < 2 * n - 1 → vE n a m = true → r (Lf a m) ≠ r (Rt a m)
/-- it has just these arms -/
theorem gT_arms {n : Nat} {a r : Nat → Nat} (h : Fine (tiesN a (2 * n - 1)) r) (ok : OkA n a) (nc : NoCl n a r) (hf : Free n a r) {m : Nat} (hm : m < 2 * n - 1) : armN (gT n a r n) m = a m := by
  obtain ⟨o1, o2⟩ := ok m hm
  refine arm_eq (fun s hs => ?_) fun hk => ?_
  · refine ⟨by omega, by rw [len_gT]; omega, ?_⟩
    rw [gT_at n a r (by omega), gT_at n a r (by omega), ← wF_r h, ← wF_r h (m / 2 + 1 + s)]
    have := h.edge ((m + 1) / 2 - 1 - s, m / 2 + 1 + s) (mem_ties.mpr ⟨m, s, hm, hs, rfl⟩)
    rw [show r ((m + 1) / 2 - 1 - s) = r (m / 2 + 1 + s) from this]
  · obtain ⟨k1, k2, k3⟩ := hk
    rw [len_gT] at k2
    have hv : vE n a m = true := by unfold vE; rw [decide_eq_true k1, decide_eq_true k2]; rfl
    have hne := nc m hm hv
    have hL : Lf a m < n := by unfold Lf; omega
    have hR : Rt a m < n := by unfold Rt; omega
    have e3 : wF n a r (r (Lf a m)) = wF n a r (r (Rt a m)) := by
      rw [wF_r h, wF_r h, ← gT_at n a r hL, ← gT_at n a r hR]
      exact k3
    have key : ∀ p q, p < q → q < n → r q = q → r p = p → foeB n a r q p = true → wF n a r p ≠ wF n a r q := fun p q hpq hq hrq _ hfo he => by
      have sp := (free_spec (hf q hq hrq)).2.1
      rw [← wF_new hrq, List.any_eq_false] at sp
      refine sp p (List.mem_range.mpr hpq) ?_
      rw [hfo, he, decide_eq_true rfl]; rfl
    have hfoe1 : foeB n a r (r (Lf a m)) (r (Rt a m)) = true := List.any_eq_true.mpr ⟨m, List.mem_range.mpr hm, by unfold foeM; simp [hv]⟩
    have hfoe2 : foeB n a r (r (Rt a m)) (r (Lf a m)) = true := List.any_eq_true.mpr ⟨m, List.mem_range.mpr hm, by unfold foeM; simp [hv]⟩
    have l1 := h.le (Lf a m)
    have l2 := h.le (Rt a m)
    rcases Nat.lt_or_gt_of_ne hne with c | c
    · exact key _ _ c (by omega) (h.idem _) (h.idem _) hfoe2 e3
    · exact key _ _ c (by omega) (h.idem _) (h.idem _) hfoe1 e3.symm
/-- what a text with these arms says of the groups -/
theorem text_root {l : Tx} {a r : Nat → Nat} (h : Fine (tiesN a (2 * l.length - 1)) r) (ha : ∀ m, m < 2 * l.length - 1 → armN l m = a m) (x : Nat) : l.getD (r x) 0 = l.getD x 0 :=
  h.sound (fun y => l.getD y 0) (fun p hp => by
    obtain ⟨m, s, hm, hs, rfl⟩ := mem_ties.mp hp
    rw [← ha m hm] at hs
    exact (arm_lt hs).2.2) x
theorem text_ends {l : Tx} {a : Nat → Nat} (ha : ∀ m, m < 2 * l.length - 1 → armN l m = a m) {m : Nat} (hm : m < 2 * l.length - 1) (hv : vE l.length a m = true) : l.getD (Lf a m) 0 ≠ l.getD (Rt a m) 0 := fun e => by
  unfold vE at hv
  rw [Bool.and_eq_true, decide_eq_true_eq, decide_eq_true_eq] at hv
  refine arm_not l m ?_
  rw [ha m hm]
  exact ⟨hv.1, hv.2, e⟩
theorem text_nocl {l : Tx} {a r : Nat → Nat} (h : Fine (tiesN a (2 * l.length - 1)) r) (ha : ∀ m, m < 2 * l.length - 1 → armN l m = a m) : NoCl l.length a r := fun m hm hv e => by
  refine text_ends ha hm hv ?_
  rw [← text_root h ha, ← text_root h ha (Rt a m), e]
theorem text_ok {l : Tx} {a : Nat → Nat} (ha : ∀ m, m < 2 * l.length - 1 → armN l m = a m) : OkA l.length a := fun m hm => by
  rw [← ha m hm]
  exact ⟨arm_le l m, arm_in (by omega)⟩
theorem lex_le : ∀ {w l : Tx}, w.length = l.length → (∀ i, i < l.length → (∀ j, j < i → w.getD j 0 = l.getD j 0) → w.getD i 0 ≤ l.getD i 0) → ¬ l < w
  | [], [], _, _ => by decide
  | [], _ :: _, h, _ => by cases h
  | _ :: _, [], h, _ => by cases h
  | x :: w, y :: l, hl, h => by
    rw [List.cons_lt_cons_iff]
    have h0 : x ≤ y := h 0 (Nat.succ_pos _) fun j hj => absurd hj (Nat.not_lt_zero _)
    rintro (c | ⟨c, d⟩)
    · omega
    · subst c
      refine lex_le (w := w) (l := l) (by simpa using hl) (fun i hi hj => ?_) d
      refine h (i + 1) (Nat.succ_lt_succ hi) fun j hj2 => ?_
      cases j with
      | zero => rfl
      | succ j => exact hj j (by omega)
/-- .. and is no greater than any text that has them -/
theorem gT_least {l : Tx} {a r : Nat → Nat} (h : Fine (tiesN a (2 * l.length - 1)) r) (ha : ∀ m, m < 2 * l.length - 1 → armN l m = a m) (hl : ∀ c ∈ l, c ∈ letters) : ¬ l < gT l.length a r l.length := by
  refine lex_le (len_gT _ _ _ _) fun i hi hj => ?_
  rw [gT_at _ a r hi]
  have hj2 : ∀ j, j < i → wF l.length a r j = l.getD j 0 := fun j k => by
    rw [← hj j k, gT_at _ a r (by omega)]
  rcases Nat.lt_or_ge (r i) i with c | c
  · rw [wF_root c, hj2 _ c, text_root h ha]
    exact Nat.le_refl _
  · have hr : r i = i := by
      have := h.le i
      omega
    have hmem : l.getD i 0 ∈ letters := by
      rw [List.getD_eq_getElem?_getD, List.getElem?_eq_getElem hi]
      exact hl _ (List.getElem_mem hi)
    have hun : ((List.range i).any fun q => foeB l.length a r i q && decide (wF l.length a r q = l.getD i 0)) = false := by
      rw [List.any_eq_false]
      intro q hq k
      rw [Bool.and_eq_true, decide_eq_true_eq] at k
      obtain ⟨k1, k2⟩ := k
      obtain ⟨m, hm, k3⟩ := List.any_eq_true.mp k1
      have hm := List.mem_range.mp hm
      unfold foeM at k3
      simp only [Bool.and_eq_true, Bool.or_eq_true, decide_eq_true_eq] at k3
      obtain ⟨hv, k3⟩ := k3
      have hne := text_ends ha hm hv
      rw [hj2 q (List.mem_range.mp hq)] at k2
      rcases k3 with ⟨e1, e2⟩ | ⟨e1, e2⟩
      · refine hne ?_
        rw [← text_root h ha (Lf a m), ← text_root h ha (Rt a m), e1, e2, k2]
      · refine hne ?_
        rw [← text_root h ha (Lf a m), ← text_root h ha (Rt a m), e1, e2, k2]
    rw [wF_new hr]
    exact (free_spec ⟨_, hmem, hun⟩).2.2 _ hmem hun
theorem gT_lets {E : List (Nat × Nat)} {n : Nat} {a r : Nat → Nat} (h : Fine E r) (hf : Free n a r) : ∀ c ∈ gT n a r n, c ∈ letters := fun c hc => by
  obtain ⟨i, hi, e⟩ := List.getElem_of_mem hc
  rw [len_gT] at hi
  have e2 : wF n a r i = c := by
    rw [← gT_at n a r hi, List.getD_eq_getElem?_getD, List.getElem?_eq_getElem (by rw [len_gT]; exact hi), e]; rfl
  rw [← e2, ← wF_r h]
  have := h.le i
  rw [wF_new (h.idem i)]
  exact (free_spec (hf (r i) (by omega) (h.idem i))).1
/-! ## arms of nought -/
theorem root_none (n x : Nat) : rootL (tiesN (fun _ => 0) n) x = x := by
  have e : tiesN (fun _ => 0) n = [] := by
    unfold tiesN tiesM
    rw [List.flatMap_eq_nil_iff]
    intro m _
    rfl
  rw [e]; rfl
theorem ok_none (n : Nat) : OkA n fun _ => 0 := fun m hm => ⟨Nat.zero_le _, by show m / 2 + 0 < n; omega⟩
theorem foe_none {n : Nat} {r : Nat → Nat} (hr : ∀ x, r x = x) {p q : Nat} (hp : p < n) (hq : q < p) : foeB n (fun _ => 0) r p q = true ↔ (q + 1 = p ∨ q + 2 = p) := by
  unfold foeB
  rw [List.any_eq_true]
  constructor
  · rintro ⟨m, hm, h⟩
    unfold foeM vE Lf Rt at h
    simp only [hr, Bool.and_eq_true, Bool.or_eq_true, decide_eq_true_eq] at h
    omega
  · intro h
    rcases h with h | h
    · refine ⟨2 * p - 1, List.mem_range.mpr (by omega), ?_⟩
      unfold foeM vE Lf Rt
      simp only [hr, Bool.and_eq_true, Bool.or_eq_true, decide_eq_true_eq]
      omega
    · refine ⟨2 * (p - 1), List.mem_range.mpr (by omega), ?_⟩
      unfold foeM vE Lf Rt
      simp only [hr, Bool.and_eq_true, Bool.or_eq_true, decide_eq_true_eq]
      omega
theorem abc_let {k : Nat} (h : k < 3) : 97 + k ∈ letters := by
  match k, h with
  | 0, _ => decide
  | 1, _ => decide
  | 2, _ => decide
theorem let_ge {c : Nat} (h : c ∈ letters) : 97 ≤ c := by
  have : ∀ c ∈ letters, 97 ≤ c := by decide
  exact this c h
theorem used_none {n : Nat} {r : Nat → Nat} (hr : ∀ x, r x = x) {p : Nat} (hp : p < n) (ih : ∀ q, q < p → wF n (fun _ => 0) r q = 97 + q % 3) (c : Nat) :
    ((List.range p).any fun q => foeB n (fun _ => 0) r p q && decide (wF n (fun _ => 0) r q = c)) = true ↔ ∃ q, q < p ∧ (q + 1 = p ∨ q + 2 = p) ∧ 97 + q % 3 = c := by
  rw [List.any_eq_true]
  constructor
  · rintro ⟨q, hq, h⟩
    have hq := List.mem_range.mp hq
    rw [Bool.and_eq_true, decide_eq_true_eq, ih q hq] at h
    exact ⟨q, hq, (foe_none hr hp hq).mp h.1, h.2⟩
  · rintro ⟨q, hq, h1, h2⟩
    refine ⟨q, List.mem_range.mpr hq, ?_⟩
    rw [Bool.and_eq_true, decide_eq_true_eq, ih q hq]
    exact ⟨(foe_none hr hp hq).mpr h1, h2⟩
theorem unused_none {n : Nat} {r : Nat → Nat} (hr : ∀ x, r x = x) {p : Nat} (hp : p < n) (ih : ∀ q, q < p → wF n (fun _ => 0) r q = 97 + q % 3) :
    ((List.range p).any fun q => foeB n (fun _ => 0) r p q && decide (wF n (fun _ => 0) r q = 97 + p % 3)) = false := by
  rw [← Bool.not_eq_true, used_none hr hp ih]
  rintro ⟨q, hq, h1, h2⟩
  omega
theorem wF_none {n : Nat} {r : Nat → Nat} (hr : ∀ x, r x = x) : ∀ p, p < n → wF n (fun _ => 0) r p = 97 + p % 3 := by
  intro p
  induction p using Nat.strongRecOn with
  | _ p ih =>
    intro hp
    have ih2 : ∀ q, q < p → wF n (fun _ => 0) r q = 97 + q % 3 := fun q hq => ih q hq (by omega)
    have un := unused_none hr hp ih2
    obtain ⟨s1, s2, s3⟩ := free_spec (u := fun c => (List.range p).any fun q => foeB n (fun _ => 0) r p q && decide (wF n (fun _ => 0) r q = c)) ⟨97 + p % 3, abc_let (by omega), un⟩
    rw [wF_new (hr p)]
    have le := s3 _ (abc_let (by omega)) un
    have ge := let_ge s1
    rw [← Bool.not_eq_true, used_none hr hp ih2] at s2
    generalize freeL (fun c => (List.range p).any fun q => foeB n (fun _ => 0) r p q && decide (wF n (fun _ => 0) r q = c)) = f at *
    rcases Nat.lt_or_ge f (97 + p % 3) with c | c
    · exfalso
      apply s2
      by_cases d : f = 97 + (p - 1) % 3 ∧ 1 ≤ p
      · exact ⟨p - 1, by omega, by omega, by omega⟩
      · exact ⟨p - 2, by omega, by omega, by omega⟩
    · omega
theorem free_none {n : Nat} {r : Nat → Nat} (hr : ∀ x, r x = x) : Free n (fun _ => 0) r := fun p hp _ =>
  ⟨97 + p % 3, abc_let (by omega), unused_none hr hp fun q hq => wF_none hr q (by omega)⟩
theorem nocl_none {n : Nat} {r : Nat → Nat} (hr : ∀ x, r x = x) : NoCl n (fun _ => 0) r := fun m hm hv => by
  unfold vE at hv
  rw [Bool.and_eq_true, decide_eq_true_eq, decide_eq_true_eq] at hv
  rw [hr, hr]
  unfold Lf Rt
  omega
theorem gT_none {n : Nat} {r : Nat → Nat} (hr : ∀ x, r x = x) : gT n (fun _ => 0) r n = (List.range n).map fun i => 97 + i % 3 := by
  refine ext_getD (by rw [len_gT, List.length_map, List.length_range]) fun i hi => ?_
  rw [len_gT] at hi
  rw [gT_at _ _ _ hi, wF_none hr i hi, List.getD_eq_getElem?_getD, at_range _ hi]; rfl
end Mw
namespace Mw
open PySem PySem.Spec PyProof.Rows L2 Evl
/-! # mathematics: how often mirror words stand, what a letter brings -/
def cnt : Tx → Tx → Nat
  | [], _ => 0
  | c :: r, w => (if w <+: c :: r then 1 else 0) + cnt r w
theorem cnt_snoc {w : Tx} (hw : w ≠ []) (c : Nat) : ∀ t : Tx, cnt (t ++ [c]) w = cnt t w + if w <:+ t ++ [c] then 1 else 0
  | [] => by
    show (if w <+: [c] then 1 else 0) + 0 = 0 + (if w <:+ [c] then 1 else 0)
    have e : w <+: [c] ↔ w <:+ [c] := by
      have a := List.prefix_concat_iff (l₁ := w) (l₂ := []) (a := c)
      have b := List.suffix_cons_iff (l₁ := w) (l₂ := []) (a := c)
      rw [List.nil_append, List.prefix_nil] at a
      rw [List.suffix_nil] at b
      rw [a, b]
    simp only [e]
    omega
  | d :: t => by
    have ih := cnt_snoc hw c t
    show (if w <+: d :: (t ++ [c]) then 1 else 0) + cnt (t ++ [c]) w = ((if w <+: d :: t then 1 else 0) + cnt t w) + (if w <:+ d :: (t ++ [c]) then 1 else 0)
    rw [ih]
    by_cases e : w = d :: (t ++ [c])
    · have h1 : w <+: d :: (t ++ [c]) := by rw [e]; exact List.prefix_refl _
      have h2 : w <:+ d :: (t ++ [c]) := by rw [e]; exact List.suffix_refl _
      have h3 : ¬ w <+: d :: t := fun z => by have := z.length_le; rw [e] at this; simp at this; omega
      have h4 : ¬ w <:+ t ++ [c] := fun z => by have := z.length_le; rw [e] at this; simp at this; omega
      rw [if_pos h1, if_pos h2, if_neg h3, if_neg h4]; omega
    · have h1 : w <+: d :: (t ++ [c]) ↔ w <+: d :: t := by
        rw [show d :: (t ++ [c]) = (d :: t) ++ [c] from rfl, List.prefix_concat_iff]
        exact ⟨fun z => z.elim (fun z => absurd z e) id, .inr⟩
      have h2 : w <:+ d :: (t ++ [c]) ↔ w <:+ t ++ [c] := by
        rw [List.suffix_cons_iff]
        exact ⟨fun z => z.elim (fun z => absurd z e) id, .inr⟩
      simp only [h1, h2]; omega
theorem cnt_rev {w : Tx} (hw : w ≠ []) : ∀ t : Tx, cnt t.reverse w = cnt t w.reverse
  | [] => rfl
  | c :: t => by
    rw [List.reverse_cons, cnt_snoc hw, cnt_rev hw t]
    show _ = (if w.reverse <+: c :: t then 1 else 0) + cnt t w.reverse
    have e : w <:+ t.reverse ++ [c] ↔ w.reverse <+: c :: t := by
      rw [← List.reverse_cons, ← List.reverse_prefix, List.reverse_reverse]
    simp only [e]; omega
theorem cnt_pos {w : Tx} (hw : w ≠ []) : ∀ {t : Tx}, 0 < cnt t w ↔ w <:+: t
  | [] => by
    show 0 < 0 ↔ _
    rw [List.infix_nil]
    exact ⟨fun z => absurd z (Nat.lt_irrefl 0), fun z => absurd z hw⟩
  | c :: t => by
    rw [List.infix_cons_iff, ← cnt_pos hw]
    show 0 < (if w <+: c :: t then 1 else 0) + cnt t w ↔ _
    by_cases e : w <+: c :: t
    · rw [if_pos e]; exact ⟨fun _ => .inl e, fun _ => by omega⟩
    · rw [if_neg e, Nat.zero_add]; exact ⟨.inr, fun z => z.elim (fun z => absurd z e) id⟩
theorem cnt_le (w : Tx) : ∀ t : Tx, cnt t w ≤ t.length
  | [] => Nat.le_refl _
  | c :: t => by
    have := cnt_le w t
    show (if w <+: c :: t then 1 else 0) + cnt t w ≤ t.length + 1
    split <;> omega
/-- a mirror word -/
def mir (w : Tx) : Bool := pal w && decide (w ≠ [])
theorem mir_iff {w : Tx} : mir w = true ↔ pal w = true ∧ w ≠ [] := by
  unfold mir; rw [Bool.and_eq_true, decide_eq_true_eq]
theorem mir_rev {w : Tx} (h : mir w = true) : w.reverse = w := by
  have := (mir_iff.mp h).1
  unfold pal at this
  exact (of_decide_eq_true this).symm
/-- how often a mirror word stands; nought of what is none -/
def cntD (t w : Tx) : Nat := if mir w = true then cnt t w else 0
theorem cntD_rev (t w : Tx) : cntD t.reverse w = cntD t w := by
  unfold cntD
  split
  · next h => rw [cnt_rev (mir_iff.mp h).2, mir_rev h]
  · rfl
theorem cntD_nil (w : Tx) : cntD [] w = 0 := by unfold cntD; split <;> rfl
theorem cntD_no (t : Tx) : cntD t [] = 0 := rfl
theorem mem_ends {u w : Tx} : w ∈ endsT u ↔ mir w = true ∧ w <:+ u := by
  induction u with
  | nil =>
    rw [List.suffix_nil, mir_iff]
    exact ⟨fun h => (by cases h), fun h => absurd h.2 h.1.2⟩
  | cons c r ih =>
    rw [List.suffix_cons_iff, endsT]
    by_cases hp : pal (c :: r) = true
    · rw [if_pos hp, List.mem_cons, ih]
      constructor
      · rintro (rfl | ⟨h1, h2⟩)
        · exact ⟨mir_iff.mpr ⟨hp, by simp⟩, .inl rfl⟩
        · exact ⟨h1, .inr h2⟩
      · rintro ⟨h1, (rfl | h2)⟩
        · exact .inl rfl
        · exact .inr ⟨h1, h2⟩
    · rw [if_neg hp, ih]
      constructor
      · rintro ⟨h1, h2⟩; exact ⟨h1, .inr h2⟩
      · rintro ⟨h1, (rfl | h2)⟩
        · exact absurd (mir_iff.mp h1).1 hp
        · exact ⟨h1, h2⟩
theorem cntD_snoc (t w : Tx) (c : Nat) : cntD (t ++ [c]) w = cntD t w + if w ∈ endsT (t ++ [c]) then 1 else 0 := by
  unfold cntD
  by_cases h : mir w = true
  · have e : w ∈ endsT (t ++ [c]) ↔ w <:+ t ++ [c] := by rw [mem_ends]; exact ⟨fun z => z.2, fun z => ⟨h, z⟩⟩
    rw [if_pos h, if_pos h, cnt_snoc (mir_iff.mp h).2]
    simp only [e]
  · rw [if_neg h, if_neg h, if_neg fun z => h (mem_ends.mp z).1]
theorem cntD_pos {t w : Tx} : 0 < cntD t w ↔ mir w = true ∧ w <:+: t := by
  unfold cntD
  by_cases h : mir w = true
  · rw [if_pos h, cnt_pos (mir_iff.mp h).2]; exact ⟨fun z => ⟨h, z⟩, fun z => z.2⟩
  · rw [if_neg h]; exact ⟨fun z => absurd z (Nat.lt_irrefl 0), fun z => absurd z.1 h⟩
/-- the longest mirror word at the end -/
def lps (u : Tx) : Tx := (endsT u).headD []
theorem endsT_lps (u : Tx) : endsT (lps u) = endsT u := endsT_head u
theorem tailF_eq (l : Tx) : tailF l = lps l.tail := rfl
theorem lps_suf (u : Tx) : lps u <:+ u := by
  unfold lps
  cases h : endsT u with
  | nil => exact List.nil_suffix
  | cons w r => exact (mem_ends.mp (show w ∈ endsT u by rw [h]; exact List.mem_cons_self ..)).2
theorem lps_pal (u : Tx) : pal (lps u) = true := by
  unfold lps
  cases h : endsT u with
  | nil => rfl
  | cons w r => exact (mir_iff.mp (mem_ends.mp (show w ∈ endsT u by rw [h]; exact List.mem_cons_self ..)).1).1
theorem lps_rev (u : Tx) : (lps u).reverse = lps u := by
  have := lps_pal u
  unfold pal at this
  exact (of_decide_eq_true this).symm
theorem pal_one1 (c : Nat) : mir [c] = true := mir_iff.mpr ⟨by unfold pal; simp, by simp⟩
theorem lps_snoc (t : Tx) (c : Nat) : lps (t ++ [c]) ∈ endsT (t ++ [c]) := by
  have h : [c] ∈ endsT (t ++ [c]) := mem_ends.mpr ⟨pal_one1 c, List.suffix_append ..⟩
  unfold lps
  cases e : endsT (t ++ [c]) with
  | nil => rw [e] at h; cases h
  | cons w r => exact List.mem_cons_self ..
theorem lps_mir (t : Tx) (c : Nat) : mir (lps (t ++ [c])) = true := (mem_ends.mp (lps_snoc t c)).1
theorem lps_mir' {t : Tx} (h : t ≠ []) : mir (lps t) = true := by
  rw [← List.dropLast_concat_getLast h]; exact lps_mir _ _
theorem lps_max {u w : Tx} (h : w ∈ endsT u) : w.length ≤ (lps u).length := by
  rw [← endsT_lps] at h
  exact (mem_ends.mp h).2.length_le
theorem lps_cons (c : Nat) (r : Tx) : lps (c :: r) = if pal (c :: r) = true then c :: r else lps r := by
  unfold lps
  rw [endsT]
  split <;> rfl
/-- only the longest one can be new -/
theorem only_new {t w : Tx} {c : Nat} (h : w ∈ endsT (t ++ [c])) (hne : w ≠ lps (t ++ [c])) : 0 < cntD t w := by
  have hm := (mem_ends.mp h).1
  rw [← endsT_lps] at h
  have hs := (mem_ends.mp h).2
  refine cntD_pos.mpr ⟨hm, ?_⟩
  have hp : w <+: lps (t ++ [c]) := by
    rw [← List.reverse_suffix, lps_rev, mir_rev hm]; exact hs
  have hW := lps_suf (t ++ [c])
  obtain ⟨x, d, e⟩ : ∃ x d, lps (t ++ [c]) = x ++ [d] := by
    have h0 := (mir_iff.mp (lps_mir t c)).2
    exact ⟨_, _, (List.dropLast_concat_getLast h0).symm⟩
  rw [e] at hp hW hne
  rw [List.prefix_concat_iff] at hp
  have hx : x <:+ t := by
    obtain ⟨y, hy⟩ := hW
    rw [← List.append_assoc] at hy
    have := (List.append_inj' hy rfl).1
    exact ⟨y, this⟩
  exact (hp.resolve_left hne).isInfix.trans hx.isInfix
/-! ## growing -/
def condG (t : Tx) (c : Nat) (y : Tx) : Bool := decide (y.length < t.length) && decide (t.getD (t.length - 1 - y.length) 0 = c)
def grow (t : Tx) (c : Nat) : List Tx → Tx
  | [] => if condG t c [] = true then [c, c] else [c]
  | y :: r => if condG t c y = true then c :: (y ++ [c]) else grow t c r
theorem grow_congr {t s : Tx} {c : Nat} : ∀ {E : List Tx}, (∀ y ∈ E, condG t c y = condG s c y) → condG t c [] = condG s c [] → grow t c E = grow s c E
  | [], _, h => by rw [grow, grow, h]
  | y :: r, h, h0 => by
    rw [grow, grow, h y (List.mem_cons_self ..), grow_congr (fun z hz => h z (List.mem_cons_of_mem _ hz)) h0]
theorem condG_suf {t s : Tx} {c : Nat} {y : Tx} (h : s <:+ t) (hy : y.length < s.length) : condG t c y = condG s c y := by
  obtain ⟨x, rfl⟩ := h
  unfold condG
  rw [List.length_append, decide_eq_true hy, decide_eq_true (by omega), List.getD_eq_getElem?_getD, List.getD_eq_getElem?_getD, List.getElem?_append_right (by omega), show x.length + s.length - 1 - y.length - x.length = s.length - 1 - y.length by omega]
theorem condG_self (t : Tx) (c : Nat) : condG t c t = false := by
  unfold condG; rw [decide_eq_false (Nat.lt_irrefl _)]; rfl
theorem pal_wrap {c d : Nat} {r : Tx} : pal (d :: (r ++ [c])) = true ↔ d = c ∧ pal r = true := by
  unfold pal
  rw [decide_eq_true_eq, decide_eq_true_eq, List.reverse_cons, List.reverse_append]
  show d :: (r ++ [c]) = (c :: r.reverse) ++ [d] ↔ _
  rw [List.cons_append, List.cons.injEq]
  constructor
  · rintro ⟨rfl, h⟩; exact ⟨rfl, (List.append_inj' h rfl).1⟩
  · rintro ⟨rfl, h⟩; exact ⟨rfl, by rw [← h]⟩
theorem grow_lps (c : Nat) : ∀ s : Tx, grow s c (endsT s) = lps (s ++ [c])
  | [] => by
    show grow [] c [] = lps [c]
    rw [grow, condG_self, lps_cons, if_pos (mir_iff.mp (pal_one1 c)).1]; rfl
  | d :: r => by
    have ih := grow_lps c r
    have e1 : grow (d :: r) c (endsT (d :: r)) = grow (d :: r) c (endsT r) := by
      rw [endsT]
      split
      · rw [grow, condG_self]; rfl
      · rfl
    rw [e1, List.cons_append, lps_cons]
    have hlt : ∀ y : Tx, y.length < r.length → condG (d :: r) c y = condG r c y := fun y hy => condG_suf (List.suffix_cons d r) hy
    have hself : condG (d :: r) c r = decide (d = c) := by
      unfold condG
      rw [List.length_cons, decide_eq_true (by omega), show r.length + 1 - 1 - r.length = 0 by omega]; rfl
    by_cases hp : pal (d :: (r ++ [c])) = true
    · rw [if_pos hp]
      obtain ⟨rfl, hr⟩ := pal_wrap.mp hp
      cases r with
      | nil => show grow [d] d [] = _; rw [grow, hself, if_pos (by simp)]; rfl
      | cons a r' => rw [endsT_pal hr (by simp), grow, hself, if_pos (by simp)]
    · rw [if_neg hp, ← ih]
      have key : ∀ y ∈ endsT r, condG (d :: r) c y = condG r c y := fun y hy => by
        obtain ⟨h1, h2⟩ := mem_ends.mp hy
        rcases Nat.lt_or_ge y.length r.length with l | l
        · exact hlt y l
        · have e : y = r := h2.eq_of_length (Nat.le_antisymm h2.length_le l)
          subst e
          rw [hself, condG_self]
          exact decide_eq_false fun z => hp (pal_wrap.mpr ⟨z, (mir_iff.mp h1).1⟩)
      refine grow_congr key ?_
      cases r with
      | nil =>
        rw [hself, condG_self]
        exact decide_eq_false fun z => hp (pal_wrap.mpr ⟨z, rfl⟩)
      | cons a r' => exact hlt [] (by simp)
/-- the tail of a mirror word that a letter has made -/
theorem grow_tail {t s : Tx} {c : Nat} (hs : s <:+ t) (hm : mir s = true) : grow t c (endsT (tailF s)) = tailF (c :: (s ++ [c])) := by
  obtain ⟨h1, h0⟩ := mir_iff.mp hm
  rw [tailF_eq, endsT_lps, tailF_eq, List.tail_cons, ← grow_lps, endsT_pal h1 h0, grow, condG_self, if_neg Bool.false_ne_true]
  have hl : 0 < s.length := List.length_pos_iff.mpr h0
  refine grow_congr (fun y hy => condG_suf hs ?_) (condG_suf hs (by exact hl))
  have := (mem_ends.mp hy).2.length_le
  rw [List.length_tail] at this
  omega
/-- the longest mirror word made by a letter: of one letter, of two, or about one that stood at the end -/
theorem lps_form (t : Tx) (c : Nat) : lps (t ++ [c]) = [c] ∨ lps (t ++ [c]) = [c, c] ∨ ∃ s, s <:+ t ∧ mir s = true ∧ lps (t ++ [c]) = c :: (s ++ [c]) := by
  rw [← grow_lps]
  have key : ∀ E : List Tx, (∀ y ∈ E, y ∈ endsT t) → grow t c E = [c] ∨ grow t c E = [c, c] ∨ ∃ s, s <:+ t ∧ mir s = true ∧ grow t c E = c :: (s ++ [c]) := by
    intro E
    induction E with
    | nil => intro _; rw [grow]; split
             · exact .inr (.inl rfl)
             · exact .inl rfl
    | cons y r ih =>
      intro h
      rw [grow]
      split
      · obtain ⟨a, b⟩ := mem_ends.mp (h y (List.mem_cons_self ..))
        exact .inr (.inr ⟨y, b, a, rfl⟩)
      · exact ih fun z hz => h z (List.mem_cons_of_mem _ hz)
  exact key _ fun _ h => h

end Mw
namespace Mw
open PySem PySem.Spec PyProof.Rows L2 Evl
/-! # mathematics: what begins and ends at the places of a text -/
def hdN (t : Tx) (i : Nat) : Nat := (lps (t.drop i).reverse).length
def enN (t : Tx) (i : Nat) : Nat := (lps (t.take (i + 1))).length
theorem pal_rev (u : Tx) : pal u.reverse = pal u := by
  unfold pal
  rw [List.reverse_reverse]
  exact decide_eq_decide.mpr eq_comm
theorem rev_of_pal {u : Tx} (h : pal u = true) : u.reverse = u := by
  unfold pal at h
  exact (of_decide_eq_true h).symm
theorem lps_pos {u : Tx} (h : u ≠ []) : 0 < (lps u).length := List.length_pos_iff.mpr (mir_iff.mp (lps_mir' h)).2
theorem hdN_pos {t : Tx} {i : Nat} (h : i < t.length) : 0 < hdN t i := lps_pos (by rw [Ne, List.reverse_eq_nil_iff, List.drop_eq_nil_iff]; omega)
theorem enN_pos {t : Tx} {i : Nat} (h : i < t.length) : 0 < enN t i := lps_pos (by rw [Ne, List.take_eq_nil_iff]; rintro (z | z); · omega
                                                                                   · rw [z] at h; exact absurd h (Nat.not_lt_zero _))
theorem hdN_le (t : Tx) (i : Nat) : hdN t i ≤ t.length - i := by
  have := (lps_suf (t.drop i).reverse).length_le
  rw [List.length_reverse, List.length_drop] at this
  exact this
theorem enN_le (t : Tx) (i : Nat) : enN t i ≤ i + 1 := by
  have := (lps_suf (t.take (i + 1))).length_le
  rw [List.length_take] at this
  unfold enN
  omega
theorem enN_le2 (t : Tx) (i : Nat) : enN t i ≤ t.length := by
  have := (lps_suf (t.take (i + 1))).length_le
  rw [List.length_take] at this
  unfold enN
  omega
theorem begin_cut (t : Tx) (i : Nat) : (t.drop i).take (hdN t i) = lps (t.drop i).reverse := by
  have h := lps_suf (t.drop i).reverse
  rw [← List.reverse_prefix, List.reverse_reverse, lps_rev] at h
  exact (List.prefix_iff_eq_take.mp h).symm
theorem end_cut {t : Tx} {i : Nat} (hi : i < t.length) : (t.drop (i + 1 - enN t i)).take (i + 1 - (i + 1 - enN t i)) = lps (t.take (i + 1)) := by
  have h := List.suffix_iff_eq_drop.mp (lps_suf (t.take (i + 1)))
  rw [List.length_take, Nat.min_eq_left (by omega)] at h
  rw [h, List.drop_take]; rfl
theorem begin_pre (t : Tx) (i : Nat) : lps (t.drop i).reverse <+: t.drop i := by
  have h := lps_suf (t.drop i).reverse
  rw [← List.reverse_prefix, List.reverse_reverse, lps_rev] at h
  exact h
theorem hdN_max {t w : Tx} {i : Nat} (hm : mir w = true) (h : w <+: t.drop i) : w.length ≤ hdN t i := by
  refine lps_max (mem_ends.mpr ⟨hm, ?_⟩)
  rw [← List.reverse_suffix, mir_rev hm] at h
  exact h
/-! ## a letter put, a letter cut -/
theorem hdN_snoc {t : Tx} {c i : Nat} (h : i ≤ t.length) : hdN (t ++ [c]) i = if pal ((t ++ [c]).drop i) = true then t.length + 1 - i else hdN t i := by
  have e : (t ++ [c]).drop i = t.drop i ++ [c] := List.drop_append_of_le_length h
  unfold hdN
  rw [e, List.reverse_append, List.reverse_singleton, List.singleton_append, lps_cons]
  have e2 : pal (c :: (t.drop i).reverse) = pal (t.drop i ++ [c]) := by
    rw [← pal_rev (t.drop i ++ [c]), List.reverse_append, List.reverse_singleton, List.singleton_append]
  rw [e2]
  split
  · rw [List.length_cons, List.length_reverse, List.length_drop]; omega
  · rfl
theorem enN_snoc {t : Tx} {c i : Nat} (h : i < t.length) : enN (t ++ [c]) i = enN t i := by
  unfold enN
  rw [List.take_append_of_le_length (by omega)]
theorem enN_last (t : Tx) (c : Nat) : enN (t ++ [c]) t.length = (lps (t ++ [c])).length := by
  unfold enN
  rw [List.take_of_length_le (by rw [List.length_append]; exact Nat.le_refl _)]
theorem enN_cons {t : Tx} {c i : Nat} : enN (c :: t) i = if pal ((c :: t).take (i + 1)) = true then min (i + 1) (t.length + 1) else (lps (t.take i)).length := by
  unfold enN
  rw [List.take_succ_cons, lps_cons]
  split
  · rw [List.length_cons, List.length_take]; omega
  · rfl
theorem hdN_cons (t : Tx) (c i : Nat) : hdN (c :: t) (i + 1) = hdN t i := rfl
theorem hdN_first (t : Tx) (c : Nat) : hdN (c :: t) 0 = (lps (t.reverse ++ [c])).length := by
  unfold hdN
  rw [List.drop_zero, List.reverse_cons]
/-- which places the words of a chain reach -/
theorem ends_at {u : Tx} {i : Nat} (hi : i < u.length) : ((endsT u).any fun w => decide (u.length - w.length = i)) = pal (u.drop i) := by
  rw [Bool.eq_iff_iff, List.any_eq_true]
  constructor
  · rintro ⟨w, hw, e⟩
    obtain ⟨h1, h2⟩ := mem_ends.mp hw
    have e := of_decide_eq_true e
    rw [← e, ← List.suffix_iff_eq_drop.mp h2]
    exact (mir_iff.mp h1).1
  · intro h
    refine ⟨u.drop i, mem_ends.mpr ⟨mir_iff.mpr ⟨h, ?_⟩, List.drop_suffix ..⟩, ?_⟩
    · rw [Ne, List.drop_eq_nil_iff]; omega
    · rw [List.length_drop]; exact decide_eq_true (by omega)
theorem ends_atR {u : Tx} {i : Nat} (hi : i < u.length) : ((endsT u.reverse).any fun w => decide (w.length - 1 = i)) = pal (u.take (i + 1)) := by
  have h := ends_at (u := u.reverse) (i := u.length - 1 - i) (by rw [List.length_reverse]; omega)
  rw [List.drop_reverse, pal_rev, show u.length - (u.length - 1 - i) = i + 1 by omega] at h
  rw [← h, Bool.eq_iff_iff, List.any_eq_true, List.any_eq_true]
  have key : ∀ w ∈ endsT u.reverse, (decide (w.length - 1 = i) = true ↔ decide (u.reverse.length - w.length = u.length - 1 - i) = true) := fun w hw => by
    obtain ⟨h1, h2⟩ := mem_ends.mp hw
    have a := h2.length_le
    have b := List.length_pos_iff.mpr (mir_iff.mp h1).2
    rw [List.length_reverse] at a ⊢
    rw [decide_eq_true_eq, decide_eq_true_eq]
    omega
  exact ⟨fun ⟨w, hw, e⟩ => ⟨w, hw, (key w hw).mp e⟩, fun ⟨w, hw, e⟩ => ⟨w, hw, (key w hw).mpr e⟩⟩
/-- what stands at the places behind a walk along a chain -/
def chF (pos : Tx → Nat) (g f : Nat → Nat) (E : List Tx) : Nat → Nat := fun i => if (E.any fun w => decide (pos w = i)) = true then g i else f i
theorem chF_nil (pos : Tx → Nat) (g f : Nat → Nat) : chF pos g f [] = f := rfl
theorem chF_snoc (pos : Tx → Nat) (g f : Nat → Nat) (E : List Tx) (w : Tx) : chF pos g f (E ++ [w]) = fun i => if i = pos w then g (pos w) else chF pos g f E i := by
  funext i
  unfold chF
  rw [List.any_append]
  by_cases h : i = pos w
  · subst h
    rw [if_pos rfl, if_pos]
    rw [Bool.or_eq_true]; right
    simp
  · rw [if_neg h]
    have e : ([w].any fun w => decide (pos w = i)) = false := by
      simp only [List.any_cons, List.any_nil, Bool.or_false]
      exact decide_eq_false fun z => h z.symm
    rw [e, Bool.or_false]
theorem hd_put {t : Tx} {c i : Nat} (hi : i < t.length + 1) : chF (fun w => (t ++ [c]).length - w.length) (fun i => t.length + 1 - i) (fun i => if i = t.length then 1 else hdN t i) (endsT (t ++ [c])) i = hdN (t ++ [c]) i := by
  unfold chF
  rw [ends_at (by rw [List.length_append]; exact hi), hdN_snoc (by omega)]
  by_cases h : i = t.length
  · subst h
    have e : (t ++ [c]).drop t.length = [c] := by rw [List.drop_append_of_le_length (Nat.le_refl _), List.drop_length]; rfl
    rw [e, if_pos (mir_iff.mp (pal_one1 c)).1, if_pos (mir_iff.mp (pal_one1 c)).1]
  · dsimp only
    rw [if_neg h]
theorem tail_snoc {v : Tx} {c i : Nat} (hi : i ≤ v.length) (hp : pal ((v ++ [c]).drop i) = true) : tailF ((v ++ [c]).drop i) = lps (v.drop i).reverse := by
  rw [← rev_of_pal hp, List.drop_append_of_le_length hi, List.reverse_append]
  rfl
theorem hd_cut {v : Tx} {c i : Nat} (hi : i < v.length) : chF (fun w => (v ++ [c]).length - w.length) (fun i => (tailF ((v ++ [c]).drop i)).length) (hdN (v ++ [c])) (endsT (v ++ [c])) i = hdN v i := by
  unfold chF
  rw [ends_at (by rw [List.length_append]; exact Nat.lt_succ_of_lt hi), hdN_snoc (by omega)]
  by_cases h : pal ((v ++ [c]).drop i) = true
  · rw [if_pos h]
    dsimp only
    rw [tail_snoc (by omega) h]; rfl
  · rw [if_neg h, if_neg h]
theorem en_put {t : Tx} {c i : Nat} (hi : i < t.length + 1) : chF (fun w => w.length - 1) (fun i => i + 1) (fun i => if i = 0 then 1 else enN t (i - 1)) (endsT (t.reverse ++ [c])) i = enN (c :: t) i := by
  unfold chF
  rw [← List.reverse_cons, ends_atR (by exact hi), enN_cons]
  split
  · dsimp only
    omega
  · cases i with
    | zero => next h => exact absurd (mir_iff.mp (pal_one1 c)).1 h
    | succ i => rfl
theorem en_cut {r : Tx} {c i : Nat} (hi : i < r.length) : chF (fun w => w.length - 1) (fun i => (tailF ((c :: r).take (i + 1))).length) (enN (c :: r)) (endsT (c :: r).reverse) (i + 1) = enN r i := by
  unfold chF
  rw [ends_atR (by exact Nat.succ_lt_succ hi), enN_cons]
  split
  · rfl
  · rfl
/-! ## unlike mirror words: never more than letters -/
theorem some_new {v w : Tx} {c : Nat} (h : 0 < cntD (v ++ [c]) w) (hne : w ≠ lps (v ++ [c])) : 0 < cntD v w := by
  rw [cntD_snoc] at h
  by_cases hm : w ∈ endsT (v ++ [c])
  · exact only_new hm hne
  · rw [if_neg hm] at h; exact h
theorem cntD_le (u w : Tx) : cntD u w ≤ u.length := by
  have := cnt_le w u
  unfold cntD
  split <;> omega
theorem words_le : ∀ (n : Nat) (t : Tx) (W : List Tx), t.length = n → W.Nodup → (∀ w ∈ W, 0 < cntD t w) → W.length ≤ n
  | 0, t, W, ht, _, hW => by
    cases W with
    | nil => exact Nat.le_refl _
    | cons w r =>
      have h := hW w (List.mem_cons_self ..)
      rw [List.eq_nil_of_length_eq_zero ht, cntD_nil] at h
      exact absurd h (Nat.lt_irrefl 0)
  | n + 1, t, W, ht, nd, hW => by
    have h0 : t ≠ [] := by rintro rfl; simp at ht
    obtain ⟨v, c, rfl⟩ : ∃ v c, t = v ++ [c] := ⟨_, _, (List.dropLast_concat_getLast h0).symm⟩
    have hv : v.length = n := by rw [List.length_append] at ht; simpa using ht
    have ih := words_le n v (W.filter fun w => decide (w ≠ lps (v ++ [c]))) hv (nd.sublist List.filter_sublist) fun w hw => by
      obtain ⟨a, b⟩ := List.mem_filter.mp hw
      exact some_new (hW w a) (of_decide_eq_true b)
    have key : ∀ (x : Tx) (l : List Tx), l.Nodup → l.length ≤ (l.filter fun w => decide (w ≠ x)).length + 1 := by
      intro x l
      induction l with
      | nil => intro _; exact Nat.zero_le _
      | cons y l ih =>
        intro nd
        obtain ⟨n1, n2⟩ := List.nodup_cons.mp nd
        by_cases e : y = x
        · subst e
          have e2 : l.filter (fun w => decide (w ≠ y)) = l := List.filter_eq_self.mpr fun z hz => decide_eq_true fun q => n1 (q ▸ hz)
          rw [List.filter_cons_of_neg (by simp), e2]; exact Nat.le_refl _
        · have := ih n2
          rw [List.filter_cons_of_pos (by exact decide_eq_true e), List.length_cons, List.length_cons]; omega
    have := key (lps (v ++ [c])) W nd
    omega
theorem new_word {v : Tx} {c : Nat} {ks : List Tx} (nd : ks.Nodup) (hk : ∀ w, w ∈ ks ↔ 0 < cntD (v ++ [c]) w) : ks.filter (fun w => decide (cntD v w = 0)) = if cntD v (lps (v ++ [c])) = 0 then [lps (v ++ [c])] else [] := by
  have hmem : ∀ w, w ∈ ks.filter (fun w => decide (cntD v w = 0)) ↔ w = lps (v ++ [c]) ∧ cntD v w = 0 := fun w => by
    rw [List.mem_filter, decide_eq_true_eq, hk]
    constructor
    · rintro ⟨a, b⟩
      refine ⟨?_, b⟩
      by_cases e : w = lps (v ++ [c])
      · exact e
      · have := some_new a e; omega
    · rintro ⟨rfl, b⟩
      refine ⟨?_, b⟩
      rw [cntD_snoc, if_pos (lps_snoc v c)]; omega
  have nd2 := nd.sublist (List.filter_sublist (p := fun w => decide (cntD v w = 0)) (l := ks))
  generalize ks.filter (fun w => decide (cntD v w = 0)) = fs at hmem nd2
  by_cases h : cntD v (lps (v ++ [c])) = 0
  · rw [if_pos h]
    cases fs with
    | nil => exact absurd ((hmem _).mpr ⟨rfl, h⟩) (by simp)
    | cons x r =>
      have hx := ((hmem x).mp (List.mem_cons_self ..)).1
      cases r with
      | nil => rw [hx]
      | cons y r =>
        have hy := ((hmem y).mp (List.mem_cons_of_mem _ (List.mem_cons_self ..))).1
        exact absurd (by rw [hx, hy]; exact List.mem_cons_self ..) (List.nodup_cons.mp nd2).1
  · rw [if_neg h]
    cases fs with
    | nil => rfl
    | cons x r =>
      obtain ⟨a, b⟩ := (hmem x).mp (List.mem_cons_self ..)
      rw [a] at b; exact absurd b h
/-! ## the mirror words in order -/
def leW (a b : Tx) : Bool := decide (a.length < b.length) || (decide (a.length = b.length) && decide (a ≤ b))
theorem leW_iff {a b : Tx} : leW a b = true ↔ a.length < b.length ∨ (a.length = b.length ∧ a ≤ b) := by
  unfold leW
  rw [Bool.or_eq_true, Bool.and_eq_true, decide_eq_true_eq, decide_eq_true_eq, decide_eq_true_eq]
theorem leW_anti {a b : Tx} (h1 : leW a b = true) (h2 : leW b a = true) : a = b := by
  rw [leW_iff] at h1 h2
  rcases h1 with h1 | ⟨h1, h3⟩
  · rcases h2 with h2 | ⟨h2, _⟩ <;> omega
  · rcases h2 with h2 | ⟨_, h4⟩
    · omega
    · exact List.le_antisymm h3 h4
theorem leW_trans (a b c : Tx) (h1 : leW a b = true) (h2 : leW b c = true) : leW a c = true := by
  rw [leW_iff] at h1 h2 ⊢
  rcases h1 with h1 | ⟨h1, h3⟩
  · rcases h2 with h2 | ⟨h2, _⟩ <;> (left; omega)
  · rcases h2 with h2 | ⟨h2, h4⟩
    · left; omega
    · right; exact ⟨by omega, List.le_trans h3 h4⟩
theorem leW_total (a b : Tx) : (leW a b || leW b a) = true := by
  rw [Bool.or_eq_true, leW_iff, leW_iff]
  rcases Nat.lt_trichotomy a.length b.length with h | h | h
  · exact .inl (.inl h)
  · rcases List.le_total a b with c | c
    · exact .inl (.inr ⟨h, c⟩)
    · exact .inr (.inr ⟨h.symm, c⟩)
  · exact .inr (.inl h)
theorem sorted_one {α : Type} {le : α → α → Bool} (anti : ∀ {a b}, le a b = true → le b a = true → a = b) : ∀ {l m : List α}, l.Perm m → l.Pairwise (fun a b => le a b = true) → m.Pairwise (fun a b => le a b = true) → l = m
  | [], m, p, _, _ => (List.Perm.eq_nil p.symm).symm
  | x :: l, [], p, _, _ => absurd p.length_eq (by simp)
  | x :: l, y :: m, p, h1, h2 => by
    obtain ⟨a1, a2⟩ := List.pairwise_cons.mp h1
    obtain ⟨b1, b2⟩ := List.pairwise_cons.mp h2
    have e : x = y := by
      rcases List.mem_cons.mp (p.mem_iff.mp (List.mem_cons_self ..) : x ∈ y :: m) with e | hx
      · exact e
      · rcases List.mem_cons.mp (p.mem_iff.mpr (List.mem_cons_self ..) : y ∈ x :: l) with e | hy
        · exact e.symm
        · exact anti (a1 y hy) (b1 x hx)
    subst e
    rw [sorted_one anti p.cons_inv a2 b2]
structure RowsOf (f : Tx → Nat) (ws : List Tx) : Prop where
  nd : ws.Nodup
  up : ws.Pairwise fun a b => leW a b = true
  mem : ∀ w, w ∈ ws ↔ 0 < f w
theorem rows_one {f : Tx → Nat} {a b : List Tx} (h1 : RowsOf f a) (h2 : RowsOf f b) : a = b :=
  sorted_one leW_anti ((List.perm_ext_iff_of_nodup h1.nd h2.nd).mpr fun w => (h1.mem w).trans (h2.mem w).symm) h1.up h2.up
theorem rows_of {f : Tx → Nat} {ks ws : List Tx} (nd : ks.Nodup) (hk : ∀ w, w ∈ ks ↔ 0 < f w) (p : ws.Perm ks) (up : ws.Pairwise fun a b => leW a b = true) : RowsOf f ws :=
  ⟨p.nodup_iff.mpr nd, up, fun w => p.mem_iff.trans (hk w)⟩
def dedT : List Tx → List Tx
  | [] => []
  | x :: r => if x ∈ dedT r then dedT r else x :: dedT r
theorem dedT_spec : ∀ l : List Tx, (dedT l).Nodup ∧ ∀ w, w ∈ dedT l ↔ w ∈ l
  | [] => ⟨List.Pairwise.nil, fun _ => Iff.rfl⟩
  | x :: r => by
    obtain ⟨a, b⟩ := dedT_spec r
    rw [dedT]
    split
    · next h => exact ⟨a, fun w => by rw [b, List.mem_cons]; exact ⟨.inr, fun z => z.elim (fun z => by rw [z]; exact (b x).mp h) id⟩⟩
    · next h => exact ⟨List.nodup_cons.mpr ⟨h, a⟩, fun w => by rw [List.mem_cons, List.mem_cons, b]⟩
def subsT (t : Tx) : List Tx := (List.range t.length).flatMap fun i => (List.range (t.length + 1)).map fun k => (t.drop i).take k
def wordsL (t : Tx) : List Tx := (dedT ((subsT t).filter fun w => decide (0 < cntD t w))).mergeSort leW
theorem words_rows (t : Tx) : RowsOf (cntD t) (wordsL t) := by
  obtain ⟨a, b⟩ := dedT_spec ((subsT t).filter fun w => decide (0 < cntD t w))
  refine rows_of a (fun w => ?_) (List.mergeSort_perm ..) (List.pairwise_mergeSort leW_trans leW_total _)
  rw [b, List.mem_filter, decide_eq_true_eq]
  refine ⟨fun z => z.2, fun z => ⟨?_, z⟩⟩
  obtain ⟨hm, x, y, e⟩ := cntD_pos.mp z
  have hl := List.length_pos_iff.mpr (mir_iff.mp hm).2
  refine List.mem_flatMap.mpr ⟨x.length, List.mem_range.mpr ?_, List.mem_map.mpr ⟨w.length, List.mem_range.mpr ?_, ?_⟩⟩
  · rw [← e]; simp only [List.length_append]; omega
  · rw [← e]; simp only [List.length_append]; omega
  · rw [← e, List.append_assoc, List.drop_left, List.take_left]
theorem words_eq {t : Tx} {ks ws : List Tx} (nd : ks.Nodup) (hk : ∀ w, w ∈ ks ↔ 0 < cntD t w) (p : ws.Perm ks) (up : ws.Pairwise fun a b => leW a b = true) : ws = wordsL t := rows_one (rows_of nd hk p up) (words_rows t)
theorem len_words (t : Tx) : (wordsL t).length ≤ t.length := words_le _ t _ rfl (words_rows t).nd fun w h => ((words_rows t).mem w).mp h
theorem mem_words {t w : Tx} : w ∈ wordsL t ↔ mir w = true ∧ w <:+: t := ((words_rows t).mem w).trans cntD_pos
theorem infix_at {t w : Tx} (hw : w ≠ []) : w <:+: t ↔ ∃ i, i < t.length ∧ w <+: t.drop i := by
  constructor
  · rintro ⟨x, y, e⟩
    have hl := List.length_pos_iff.mpr hw
    refine ⟨x.length, by rw [← e]; simp only [List.length_append]; omega, y, ?_⟩
    rw [← e, List.append_assoc, List.drop_left]
  · rintro ⟨i, _, h⟩
    exact h.isInfix.trans (List.drop_suffix i t).isInfix
/-! ## the longest one -/
def mostF (t : Tx) : Nat := ((List.range t.length).map (hdN t)).foldr max 0
theorem foldr_max : ∀ l : List Nat, (∀ y ∈ l, y ≤ l.foldr max 0) ∧ (l ≠ [] → l.foldr max 0 ∈ l)
  | [] => ⟨fun _ h => (by cases h), fun h => absurd rfl h⟩
  | x :: r => by
    obtain ⟨a, b⟩ := foldr_max r
    rw [List.foldr_cons]
    refine ⟨fun y hy => ?_, fun _ => ?_⟩
    · rcases List.mem_cons.mp hy with rfl | hy
      · exact Nat.le_max_left ..
      · exact Nat.le_trans (a y hy) (Nat.le_max_right ..)
    · rcases Nat.le_total x (r.foldr max 0) with c | c
      · rw [Nat.max_eq_right c]
        cases r with
        | nil =>
          have : x = 0 := by simpa using c
          rw [this]; exact List.mem_cons_self ..
        | cons z s => exact List.mem_cons_of_mem _ (b (by simp))
      · rw [Nat.max_eq_left c]; exact List.mem_cons_self ..
theorem most_ge {t : Tx} {i : Nat} (h : i < t.length) : hdN t i ≤ mostF t := (foldr_max _).1 _ (List.mem_map.mpr ⟨i, List.mem_range.mpr h, rfl⟩)
theorem most_at {t : Tx} (h : t ≠ []) : ∃ i, i < t.length ∧ hdN t i = mostF t := by
  obtain ⟨i, hi, e⟩ := List.mem_map.mp ((foldr_max ((List.range t.length).map (hdN t))).2 (by
    rw [Ne, List.map_eq_nil_iff, List.range_eq_nil]
    exact fun z => h (List.eq_nil_of_length_eq_zero z)))
  exact ⟨i, List.mem_range.mp hi, e⟩
theorem most_pos {t : Tx} (h : t ≠ []) : 0 < mostF t := by
  obtain ⟨i, hi, e⟩ := most_at h
  rw [← e]; exact hdN_pos hi
def firstF (t : Tx) : Nat := (List.range t.length).findIdx fun i => decide (hdN t i = mostF t)
theorem first_spec {t : Tx} (h : t ≠ []) : firstF t < t.length ∧ hdN t (firstF t) = mostF t ∧ ∀ j, j < firstF t → hdN t j ≠ mostF t := by
  obtain ⟨i, hi, e⟩ := most_at h
  have hl : firstF t < (List.range t.length).length := List.findIdx_lt_length_of_exists ⟨i, List.mem_range.mpr hi, decide_eq_true e⟩
  have h1 := List.findIdx_getElem (p := fun i => decide (hdN t i = mostF t)) (w := hl)
  have h1 := of_decide_eq_true h1
  have h3 : (List.range t.length)[(List.range t.length).findIdx fun i => decide (hdN t i = mostF t)]'hl = firstF t := List.getElem_range hl
  rw [h3] at h1
  refine ⟨by simpa using hl, h1, fun j hj z => ?_⟩
  have h2 := List.not_of_lt_findIdx (p := fun i => decide (hdN t i = mostF t)) (xs := List.range t.length) (i := j) hj
  rw [List.getElem_range] at h2
  exact absurd z (of_decide_eq_false h2)
def longF (t : Tx) : Tx := if t = [] then [] else lps (t.drop (firstF t)).reverse
theorem long_cut {t : Tx} : (t.drop (if t = [] then 0 else firstF t)).take (mostF t) = longF t := by
  unfold longF
  by_cases h : t = []
  · rw [if_pos h, h]; rfl
  · rw [if_neg h, if_neg h, ← (first_spec h).2.1, begin_cut]
theorem len_long (t : Tx) : (longF t).length = mostF t := by
  unfold longF
  by_cases h : t = []
  · rw [if_pos h, h]; rfl
  · rw [if_neg h, ← (first_spec h).2.1]; rfl
theorem word_most {t w : Tx} (h : w ∈ wordsL t) : w.length ≤ mostF t := by
  obtain ⟨hm, hi⟩ := mem_words.mp h
  obtain ⟨i, hi, hp⟩ := (infix_at (mir_iff.mp hm).2).mp hi
  exact Nat.le_trans (hdN_max hm hp) (most_ge hi)
theorem begin_word {t : Tx} {i : Nat} (hi : i < t.length) : lps (t.drop i).reverse ∈ wordsL t := by
  have h0 : (t.drop i).reverse ≠ [] := by rw [Ne, List.reverse_eq_nil_iff, List.drop_eq_nil_iff]; omega
  refine mem_words.mpr ⟨lps_mir' h0, (begin_pre t i).isInfix.trans (List.drop_suffix i t).isInfix⟩
theorem words_nil {t : Tx} : wordsL t = [] ↔ t = [] := by
  constructor
  · intro h
    cases t with
    | nil => rfl
    | cons c r =>
      have := begin_word (t := c :: r) (i := 0) (Nat.succ_pos _)
      rw [h] at this; cases this
  · rintro rfl
    exact List.eq_nil_of_length_eq_zero (Nat.le_zero.mp (len_words []))
theorem last_long {t : Tx} (h : wordsL t ≠ []) : ((wordsL t).getLast h).length = mostF t := by
  have ht : t ≠ [] := fun z => h (words_nil.mpr z)
  refine Nat.le_antisymm (word_most (List.getLast_mem h)) ?_
  obtain ⟨i, hi, e⟩ := most_at ht
  have hm := begin_word hi
  have up := (words_rows t).up
  rw [← e]
  show (lps (t.drop i).reverse).length ≤ _
  generalize lps (t.drop i).reverse = w at hm
  have key : ∀ {l : List Tx} (h : l ≠ []), l.Pairwise (fun a b => leW a b = true) → ∀ w ∈ l, w.length ≤ (l.getLast h).length := by
    intro l h up w hw
    rw [← List.dropLast_concat_getLast h] at hw up
    rcases List.mem_append.mp hw with hw | hw
    · have := (List.pairwise_append.mp up).2.2 w hw _ (List.mem_singleton.mpr rfl)
      rw [leW_iff] at this
      omega
    · rw [List.mem_singleton.mp hw]; exact Nat.le_refl _
  exact key h up w hm

end Mw
namespace Mw
open PySem PySem.Spec PyProof.Rows L2 Evl
/-! ## chains -/
theorem chain_next : ∀ {u : Tx} {pre r : List Tx} {w : Tx}, endsT u = pre ++ w :: r → tailF w = r.headD []
  | [], pre, r, w, h => by
    have := congrArg List.length h
    simp [endsT] at this
  | c :: s, pre, r, w, h => by
    rw [endsT] at h
    by_cases hp : pal (c :: s) = true
    · rw [if_pos hp] at h
      cases pre with
      | nil =>
        obtain ⟨h1, h2⟩ := List.cons.inj h
        rw [← h1, ← h2]; rfl
      | cons x pre => exact chain_next (List.cons.inj h).2
    · rw [if_neg hp] at h
      exact chain_next h
theorem ends_down : ∀ u : Tx, (endsT u).Pairwise fun a b => b.length < a.length
  | [] => List.Pairwise.nil
  | c :: s => by
    rw [endsT]
    split
    · refine List.pairwise_cons.mpr ⟨fun w hw => ?_, ends_down s⟩
      have := (mem_ends.mp hw).2.length_le
      rw [List.length_cons]; omega
    · exact ends_down s
theorem ends_notin {u : Tx} {pre r : List Tx} {w : Tx} (h : endsT u = pre ++ w :: r) : w ∉ pre := fun hm => by
  have hd := ends_down u
  rw [h] at hd
  have := (List.pairwise_append.mp hd).2.2 w hm w (List.mem_cons_self ..)
  exact Nat.lt_irrefl _ this
theorem pos_put {t w : Tx} {c : Nat} : 0 < cntD (t ++ [c]) w ↔ 0 < cntD t w ∨ w = lps (t ++ [c]) := by
  constructor
  · intro h
    by_cases e : w = lps (t ++ [c])
    · exact .inr e
    · exact .inl (some_new h e)
  · rintro (h | h)
    · rw [cntD_snoc]; omega
    · rw [h, cntD_snoc, if_pos (lps_snoc t c)]; omega
theorem inL_wrap (c d : Nat) (s : Tx) : inL (c :: (s ++ [d])) = s := by
  unfold inL
  rw [List.tail_cons, List.dropLast_concat]
/-- the tail of the word that a letter makes, by its length -/
theorem tail_word (t : Tx) (c : Nat) : ((lps (t ++ [c])).length = 1 ∧ tailF (lps (t ++ [c])) = []) ∨ ((lps (t ++ [c])).length = 2 ∧ tailF (lps (t ++ [c])) = [c]) ∨
    (2 < (lps (t ++ [c])).length ∧ ∃ s, s <:+ t ∧ mir s = true ∧ inL (lps (t ++ [c])) = s ∧ grow t c (endsT (tailF s)) = tailF (lps (t ++ [c]))) := by
  rcases lps_form t c with h | h | ⟨s, h1, h2, h⟩
  · left; rw [h]; exact ⟨rfl, rfl⟩
  · right; left; rw [h]
    refine ⟨rfl, ?_⟩
    show lps [c] = [c]
    rw [lps_cons, if_pos (mir_iff.mp (pal_one1 c)).1]
  · right; right
    refine ⟨?_, s, h1, h2, by rw [h, inL_wrap], by rw [h]; exact grow_tail h1 h2⟩
    have := List.length_pos_iff.mpr (mir_iff.mp h2).2
    rw [h, List.length_cons, List.length_append, List.length_singleton]; omega
theorem ends_len {u w : Tx} (h : w ∈ endsT u) : 0 < w.length ∧ w.length ≤ u.length := by
  obtain ⟨h1, h2⟩ := mem_ends.mp h
  exact ⟨List.length_pos_iff.mpr (mir_iff.mp h1).2, h2.length_le⟩
theorem tail_mem {t s w : Tx} (hs : s <:+ t) (h : w ∈ endsT (tailF s)) : 0 < cntD t w := by
  rw [tailF_eq, endsT_lps] at h
  obtain ⟨h1, h2⟩ := mem_ends.mp h
  exact cntD_pos.mpr ⟨h1, (h2.trans ((List.tail_suffix s).trans hs)).isInfix⟩
theorem ends_pos {t w : Tx} (h : w ∈ endsT t) : 0 < cntD t w := by
  obtain ⟨h1, h2⟩ := mem_ends.mp h
  exact cntD_pos.mpr ⟨h1, h2.isInfix⟩
/-! ## where a word stands first -/
def idxF (t w : Tx) : Nat := (List.range t.length).findIdx fun i => decide (w <+: t.drop i)
theorem idx_spec {t w : Tx} (hw : w ∈ wordsL t) : idxF t w < t.length ∧ w <+: t.drop (idxF t w) ∧ ∀ k, k < idxF t w → ¬ w <+: t.drop k := by
  obtain ⟨hm, hi⟩ := mem_words.mp hw
  obtain ⟨i, hi, hp⟩ := (infix_at (mir_iff.mp hm).2).mp hi
  have hl : idxF t w < (List.range t.length).length := List.findIdx_lt_length_of_exists ⟨i, List.mem_range.mpr hi, decide_eq_true hp⟩
  have h1 := of_decide_eq_true (List.findIdx_getElem (p := fun i => decide (w <+: t.drop i)) (w := hl))
  have h3 : (List.range t.length)[(List.range t.length).findIdx fun i => decide (w <+: t.drop i)]'hl = idxF t w := List.getElem_range hl
  rw [h3] at h1
  refine ⟨by simpa using hl, h1, fun k hk z => ?_⟩
  have h2 := List.not_of_lt_findIdx (p := fun i => decide (w <+: t.drop i)) (xs := List.range t.length) (i := k) hk
  rw [List.getElem_range] at h2
  exact absurd z (of_decide_eq_false h2)
theorem first_idx {t w : Tx} (hw : w ∈ wordsL t) (hl : w.length = mostF t) : firstF t ≤ idxF t w := by
  obtain ⟨h1, h2, _⟩ := idx_spec hw
  have ht : t ≠ [] := fun z => by subst z; exact absurd h1 (Nat.not_lt_zero _)
  obtain ⟨_, _, f3⟩ := first_spec ht
  rcases Nat.lt_or_ge (idxF t w) (firstF t) with c | c
  · have a := hdN_max (mem_words.mp hw).1 h2
    have b := most_ge h1
    exact absurd (by omega : hdN t (idxF t w) = mostF t) (f3 _ c)
  · exact c
theorem first_is {t : Tx} (ht : t ≠ []) : ∃ w, w ∈ wordsL t ∧ w.length = mostF t ∧ idxF t w = firstF t := by
  obtain ⟨f1, f2, _⟩ := first_spec ht
  have hw := begin_word f1
  refine ⟨_, hw, f2, Nat.le_antisymm ?_ (first_idx hw f2)⟩
  obtain ⟨_, _, h3⟩ := idx_spec hw
  rcases Nat.lt_or_ge (firstF t) (idxF t (lps (t.drop (firstF t)).reverse)) with c | c
  · exact absurd (begin_pre t (firstF t)) (h3 _ c)
  · exact c
/-! ## words that read alike by their make -/
theorem pal_app_rev (h : Tx) : pal (h ++ h.reverse) = true := by
  unfold pal
  rw [List.reverse_append, List.reverse_reverse]
  exact decide_eq_true rfl
theorem pal_app_but (h : Tx) : pal (h ++ h.dropLast.reverse) = true := by
  cases e : h with
  | nil => rfl
  | cons a r =>
    obtain ⟨x, c, hx⟩ : ∃ x c, a :: r = x ++ [c] := ⟨_, _, (List.dropLast_concat_getLast (by simp)).symm⟩
    rw [hx, List.dropLast_concat]
    unfold pal
    refine decide_eq_true ?_
    simp
theorem pal_rep (c n : Nat) : pal (List.replicate n c) = true := by
  unfold pal
  rw [List.reverse_replicate]
  exact decide_eq_true rfl
theorem filter_last {P : Nat → Bool} {N m : Nat} (hm : m < N) (hp : P m = true) (hn : ∀ k, m < k → k < N → P k = false) : (List.range N).filter P = (List.range m).filter P ++ [m] := by
  have key : ∀ d, m + 1 + d ≤ N → (List.range (m + 1 + d)).filter P = (List.range m).filter P ++ [m] := by
    intro d
    induction d with
    | zero => intro _; rw [Nat.add_zero, List.range_succ, List.filter_append, List.filter_cons_of_pos hp]; rfl
    | succ d ih =>
      intro h
      rw [← Nat.add_assoc, List.range_succ, List.filter_append, ih (by omega), List.filter_cons_of_neg (by rw [hn _ (by omega) (by omega)]; exact Bool.false_ne_true)]
      simp
  have := key (N - (m + 1)) (by omega)
  rwa [show m + 1 + (N - (m + 1)) = N by omega] at this
/-- the mirror words that begin at a place: the longest is the last one -/
theorem begins_last {t : Tx} {p : Nat} (hp : p < t.length) : ((List.range (t.length - p)).filter fun k => pal ((t.drop p).take (k + 1))).map (fun k => (t.drop p).take (k + 1)) =
    ((List.range (hdN t p - 1)).filter fun k => pal ((t.drop p).take (k + 1))).map (fun k => (t.drop p).take (k + 1)) ++ [lps (t.drop p).reverse] := by
  have h1 := hdN_pos hp
  have h2 := hdN_le t p
  have hc := begin_cut t p
  have e : hdN t p - 1 + 1 = hdN t p := by omega
  rw [filter_last (m := hdN t p - 1) (by omega) (by rw [e, hc]; exact lps_pal _) fun k hk hk2 => ?_, List.map_append, List.map_singleton, e, hc]
  rw [← Bool.not_eq_true]
  intro hpal
  have hl : ((t.drop p).take (k + 1)).length = k + 1 := by rw [List.length_take, List.length_drop]; omega
  have := hdN_max (t := t) (w := (t.drop p).take (k + 1)) (i := p) (mir_iff.mpr ⟨hpal, fun z => by rw [z] at hl; cases hl⟩) (List.take_prefix ..)
  omega
/-- those that end there: the longest is the first one -/
theorem ends_first {t : Tx} {p : Nat} (hp : p < t.length) : ((List.range (p + 1)).filter fun k => pal ((t.drop k).take (p + 1 - k))).map (fun k => (t.drop k).take (p + 1 - k)) = endsT (t.take (p + 1)) := by
  have e := endsT_range (t.take (p + 1))
  rw [List.length_take, Nat.min_eq_left (by omega)] at e
  rw [← e]
  simp only [List.drop_take]

end Mw
namespace Mw
open PySem PySem.Spec PyProof.Rows L2 Evl
/-! # mathematics: how many mirror words of each length -/
def palL (t : Tx) (L i : Nat) : Bool := decide (0 < L) && decide (i + L ≤ t.length) && pal ((t.drop i).take L)
/-- how many places begin a mirror word of that length -/
def nP (t : Tx) (L : Nat) : Nat := ((List.range t.length).filter (palL t L)).length
def longK (m s : Nat) : Nat := 2 * s + 1 + m % 2
def lenM (t : Tx) (m : Nat) : List Nat := (List.range (1 - m % 2 + armN t m)).map (longK m)
/-- the lengths that the arms tell -/
def lenK (t : Tx) : List Nat := (List.range (2 * t.length - 1)).flatMap (lenM t)
/-- the lengths that a book's words tell -/
def toldK (t : Tx) (ws : List Tx) : List Nat := ws.flatMap fun w => List.replicate (cntD t w) w.length
theorem count_step (c L : Nat) : ∀ K, ((List.range K).map fun s => 2 * s + c).count L = if c ≤ L ∧ (L - c) % 2 = 0 ∧ (L - c) / 2 < K then 1 else 0
  | 0 => by simp
  | K + 1 => by
    rw [List.range_succ, List.map_append, List.count_append, count_step c L K, List.map_cons, List.map_nil, List.count_singleton]
    by_cases e : 2 * K + c = L
    · have e2 : (2 * K + c == L) = true := by rw [beq_iff_eq]; exact e
      rw [e2, if_neg (by omega), if_pos rfl, if_pos (by omega)]
    · have e2 : (2 * K + c == L) = false := by rw [beq_eq_false_iff_ne]; exact e
      rw [e2, if_neg Bool.false_ne_true, Nat.add_zero]
      split <;> split <;> omega
theorem sum_ind (p : Nat → Bool) : ∀ l : List Nat, (l.map fun m => if p m = true then 1 else 0).sum = (l.filter p).length
  | [] => rfl
  | m :: l => by
    rw [List.map_cons, List.sum_cons, sum_ind p l, List.filter_cons]
    split
    · rw [List.length_cons]; omega
    · omega
def condM (t : Tx) (L m : Nat) : Bool := decide (1 + m % 2 ≤ L ∧ (L - (1 + m % 2)) % 2 = 0 ∧ (L - (1 + m % 2)) / 2 < 1 - m % 2 + armN t m)
theorem count_lenM (t : Tx) (L m : Nat) : (lenM t m).count L = if condM t L m = true then 1 else 0 := by
  have e : lenM t m = (List.range (1 - m % 2 + armN t m)).map fun s => 2 * s + (1 + m % 2) := by
    unfold lenM longK
    refine List.map_congr_left fun s _ => by omega
  rw [e, count_step]
  unfold condM
  simp only [decide_eq_true_eq]
theorem condM_iff {t : Tx} {L m : Nat} (hm : m < 2 * t.length - 1) : condM t L m = true ↔ ∃ i, i < t.length ∧ palL t L i = true ∧ m = 2 * i + L - 1 := by
  have a1 := arm_le t m
  have a2 := arm_in (l := t) (m := m) (by omega)
  unfold condM palL
  rw [decide_eq_true_eq]
  simp only [Bool.and_eq_true, decide_eq_true_eq]
  constructor
  · rintro ⟨h1, h2, h3⟩
    have hL : L ≤ m + 1 := by omega
    refine ⟨(m + 1 - L) / 2, by omega, ⟨⟨by omega, by omega⟩, ?_⟩, by omega⟩
    have z := (reach_arm (l := t) (p := (m + 1 - L) / 2) (e := (m + 1 - L) / 2 + L) (by omega) (by omega)).mpr (by
      rw [show (m + 1 - L) / 2 + ((m + 1 - L) / 2 + L) - 1 = m by omega]
      omega)
    unfold sub at z
    rw [show (m + 1 - L) / 2 + L - (m + 1 - L) / 2 = L by omega] at z
    exact z
  · rintro ⟨i, hi, ⟨⟨h1, h2⟩, h3⟩, rfl⟩
    have z := (reach_arm (l := t) (p := i) (e := i + L) (by omega) h2).mp (by
      unfold sub
      rw [show i + L - i = L by omega]
      exact h3)
    rw [show i + (i + L) - 1 = 2 * i + L - 1 by omega] at z
    refine ⟨by omega, by omega, by omega⟩
theorem count_lenK (t : Tx) (L : Nat) : (lenK t).count L = nP t L := by
  have e : (lenK t).count L = ((List.range (2 * t.length - 1)).filter (condM t L)).length := by
    unfold lenK
    rw [List.count_flatMap, ← sum_ind]
    congr 1
    refine List.map_congr_left fun m _ => count_lenM t L m
  rw [e]
  unfold nP
  refine Nat.le_antisymm ?_ ?_
  · have z := nodup_le (l := (List.range (2 * t.length - 1)).filter (condM t L)) (m := ((List.range t.length).filter (palL t L)).map fun i => 2 * i + L - 1) (List.nodup_range.filter _) fun m hm => by
      obtain ⟨h1, h2⟩ := List.mem_filter.mp hm
      obtain ⟨i, hi, hp, e⟩ := (condM_iff (List.mem_range.mp h1)).mp h2
      exact List.mem_map.mpr ⟨i, List.mem_filter.mpr ⟨List.mem_range.mpr hi, hp⟩, e.symm⟩
    rw [List.length_map] at z
    exact z
  · have z := nodup_le (l := ((List.range t.length).filter (palL t L)).map fun i => 2 * i + L - 1) (m := (List.range (2 * t.length - 1)).filter (condM t L)) ?_ fun m hm => by
      obtain ⟨i, hi, rfl⟩ := List.mem_map.mp hm
      obtain ⟨h1, h2⟩ := List.mem_filter.mp hi
      have h3 := h2
      unfold palL at h3
      simp only [Bool.and_eq_true, decide_eq_true_eq] at h3
      have hlt : 2 * i + L - 1 < 2 * t.length - 1 := by omega
      exact List.mem_filter.mpr ⟨List.mem_range.mpr hlt, (condM_iff hlt).mpr ⟨i, List.mem_range.mp h1, h2, rfl⟩⟩
    · rw [List.length_map] at z
      exact z
    · rcases Nat.eq_zero_or_pos L with c | c
      · subst c
        have : (List.range t.length).filter (palL t 0) = [] := List.filter_eq_nil_iff.mpr fun i _ => by unfold palL; simp
        rw [this]
        exact List.Pairwise.nil
      · refine List.pairwise_map.mpr ((List.nodup_range.filter _).imp fun {a b} h => ?_)
        omega
/-! ## told by words -/
theorem pre_take {w u : Tx} {L : Nat} (hw : w.length = L) : w <+: u ↔ L ≤ u.length ∧ w = u.take L := by
  constructor
  · intro h
    have := h.length_le
    have e := List.prefix_iff_eq_take.mp h
    exact ⟨by omega, by rw [hw] at e; exact e⟩
  · rintro ⟨_, h⟩
    rw [h]
    exact List.take_prefix ..
theorem sum_pre {L : Nat} (hL : 0 < L) (u : Tx) : ∀ W : List Tx, W.Nodup → (W.map fun w => if w.length = L then (if w <+: u then 1 else 0) else 0).sum = if L ≤ u.length ∧ u.take L ∈ W then 1 else 0
  | [], _ => by simp
  | w :: W, hn => by
    obtain ⟨n1, n2⟩ := List.nodup_cons.mp hn
    rw [List.map_cons, List.sum_cons, sum_pre hL u W n2]
    by_cases e : L ≤ u.length ∧ w = u.take L
    · have hl : w.length = L := by rw [e.2, List.length_take]; omega
      rw [if_pos hl, if_pos ((pre_take hl).mpr e), if_neg (fun z => n1 (by rw [e.2]; exact z.2)), if_pos ⟨e.1, by rw [e.2]; exact List.mem_cons_self ..⟩]
    · have h0 : (if w.length = L then (if w <+: u then 1 else 0) else 0) = 0 := by
        split
        · next hl => rw [if_neg fun z => e ((pre_take hl).mp z)]
        · rfl
      rw [h0, Nat.zero_add]
      by_cases c : L ≤ u.length ∧ u.take L ∈ W
      · rw [if_pos c, if_pos ⟨c.1, List.mem_cons_of_mem _ c.2⟩]
      · rw [if_neg c, if_neg]
        rintro ⟨z1, z2⟩
        rcases List.mem_cons.mp z2 with z2 | z2
        · exact e ⟨z1, z2.symm⟩
        · exact c ⟨z1, z2⟩
def nR (L : Nat) (p : Tx → Bool) : Tx → Nat
  | [] => 0
  | c :: r => (if L ≤ (c :: r).length ∧ p ((c :: r).take L) = true then 1 else 0) + nR L p r
theorem sum_add {α : Type} (f g : α → Nat) : ∀ l : List α, (l.map fun x => f x + g x).sum = (l.map f).sum + (l.map g).sum
  | [] => rfl
  | x :: l => by rw [List.map_cons, List.map_cons, List.map_cons, List.sum_cons, List.sum_cons, List.sum_cons, sum_add f g l]; omega
theorem sum_cnt {L : Nat} (hL : 0 < L) (W : List Tx) (hn : W.Nodup) : ∀ u : Tx, (W.map fun w => if w.length = L then cnt u w else 0).sum = nR L (fun v => decide (v ∈ W)) u
  | [] => by
    have : ∀ W : List Tx, (W.map fun w => if w.length = L then cnt [] w else 0).sum = 0 := fun W => by
      induction W with
      | nil => rfl
      | cons w W ih =>
        rw [List.map_cons, List.sum_cons, ih]
        split <;> rfl
    exact this W
  | c :: r => by
    have e : (W.map fun w => if w.length = L then cnt (c :: r) w else 0) = W.map fun w => (if w.length = L then (if w <+: c :: r then 1 else 0) else 0) + (if w.length = L then cnt r w else 0) := by
      refine List.map_congr_left fun w _ => ?_
      split
      · rfl
      · rfl
    rw [e, sum_add, sum_pre hL _ W hn, sum_cnt hL W hn r]
    show _ = (if L ≤ (c :: r).length ∧ decide ((c :: r).take L ∈ W) = true then 1 else 0) + _
    simp only [decide_eq_true_eq]
theorem nR_congr {L : Nat} {p q : Tx → Bool} : ∀ {u t : Tx}, u <:+ t → (∀ v, v.length = L → v <:+: t → p v = q v) → nR L p u = nR L q u
  | [], _, _, _ => rfl
  | c :: r, t, hs, h => by
    have ih := nR_congr (u := r) (t := t) ((List.suffix_cons c r).trans hs) h
    show (if _ then 1 else 0) + _ = (if _ then 1 else 0) + _
    rw [ih]
    congr 1
    by_cases d : L ≤ (c :: r).length
    · have z := h ((c :: r).take L) (by rw [List.length_take]; omega) ((List.take_prefix L _).isInfix.trans hs.isInfix)
      rw [z]
    · rw [if_neg fun z => d z.1, if_neg fun z => d z.1]
theorem nR_range (L : Nat) (p : Tx → Bool) : ∀ u : Tx, nR L p u = ((List.range u.length).filter fun i => decide (i + L ≤ u.length) && p ((u.drop i).take L)).length
  | [] => rfl
  | c :: r => by
    rw [List.length_cons, List.range_succ_eq_map, List.filter_cons, List.filter_map, nR, nR_range L p r]
    have e : ((List.range r.length).filter ((fun i => decide (i + L ≤ r.length + 1) && p (((c :: r).drop i).take L)) ∘ Nat.succ)) = (List.range r.length).filter fun i => decide (i + L ≤ r.length) && p ((r.drop i).take L) := by
      refine List.filter_congr fun i _ => ?_
      show (decide (i + 1 + L ≤ r.length + 1) && p ((r.drop i).take L)) = _
      congr 1
      rw [decide_eq_decide]
      omega
    rw [e]
    by_cases d : L ≤ (c :: r).length ∧ p ((c :: r).take L) = true
    · rw [if_pos d, if_pos (by
        rw [Bool.and_eq_true, decide_eq_true_eq]
        exact ⟨by have := d.1; rw [List.length_cons] at this; omega, d.2⟩), List.length_cons, List.length_map]
      omega
    · rw [if_neg d, if_neg (by
        rw [Bool.and_eq_true, decide_eq_true_eq]
        rintro ⟨z1, z2⟩
        exact d ⟨by rw [List.length_cons]; omega, z2⟩), List.length_map]
      omega
theorem count_toldK (t : Tx) (L : Nat) : (toldK t (wordsL t)).count L = nP t L := by
  have e : (toldK t (wordsL t)).count L = ((wordsL t).map fun w => if w.length = L then cnt t w else 0).sum := by
    unfold toldK
    rw [List.count_flatMap]
    congr 1
    refine List.map_congr_left fun w hw => ?_
    have hm := (mem_words.mp hw).1
    show (List.replicate (cntD t w) w.length).count L = _
    rw [List.count_replicate]
    unfold cntD
    rw [if_pos hm]
    by_cases c : w.length = L
    · rw [if_pos c, if_pos (by simpa using c)]
    · rw [if_neg c, if_neg (by simpa using c)]
  rw [e]
  rcases Nat.eq_zero_or_pos L with c | c
  · subst c
    have h1 : nP t 0 = 0 := by
      unfold nP
      rw [List.length_eq_zero_iff]
      exact List.filter_eq_nil_iff.mpr fun i _ => by unfold palL; simp
    rw [h1]
    have h2 : ((wordsL t).map fun w => if w.length = 0 then cnt t w else 0) = (wordsL t).map fun _ => 0 := List.map_congr_left fun w hw => by
      have := (mir_iff.mp (mem_words.mp hw).1).2
      rw [if_neg fun z => this (List.eq_nil_of_length_eq_zero z)]
    rw [h2]
    have : ∀ l : List Tx, (l.map fun _ => 0).sum = 0 := fun l => by
      induction l with
      | nil => rfl
      | cons x l ih => rw [List.map_cons, List.sum_cons, ih]
    exact this _
  · rw [sum_cnt c _ (words_rows t).nd, nR_congr (q := pal) (t := t) (List.suffix_refl t), nR_range]
    · unfold nP
      congr 1
      refine List.filter_congr fun i _ => ?_
      unfold palL
      rw [decide_eq_true c, Bool.true_and]
    · intro v hv hi
      rw [Bool.eq_iff_iff, decide_eq_true_eq, mem_words, mir_iff]
      exact ⟨fun h => h.1.1, fun h => ⟨⟨h, fun z => by rw [z] at hv; simp at hv; omega⟩, hi⟩⟩
theorem told_same (t : Tx) (L : Nat) : (toldK t (wordsL t)).count L = (lenK t).count L := (count_toldK t L).trans (count_lenK t L).symm
theorem len_same {t u : Tx} (hl : u.length = t.length) (h : ∀ m, m < 2 * t.length - 1 → armN u m = armN t m) : lenK u = lenK t := by
  unfold lenK
  rw [hl, List.flatMap_def, List.flatMap_def]
  congr 1
  refine List.map_congr_left fun m hm => ?_
  unfold lenM
  rw [h m (List.mem_range.mp hm)]
/-! ## parts -/
theorem part_word {t w : Tx} (h : w ∈ bst t t.length) : w ∈ wordsL t := by
  have z := mem_bst t t.length 0 (by omega) w (by rw [Nat.sub_zero]; exact h)
  obtain ⟨a, e, h1, h2, h3, rfl⟩ := z
  have hl := sub_len (l := t) (p := a) (e := e) h2
  refine mem_words.mpr ⟨mir_iff.mpr ⟨h3, fun z => by rw [z] at hl; simp at hl; omega⟩, ?_⟩
  unfold sub
  exact (List.take_prefix ..).isInfix.trans (List.drop_suffix ..).isInfix

end Mw
namespace Mw
open PySem PySem.Spec PyProof.Rows L2 Evl
/-! # mathematics: a letter is always left -/
def PalAt (t : Tx) (x y : Nat) : Prop := ∀ k, x ≤ k → k ≤ y → t.getD k 0 = t.getD (x + y - k) 0
theorem palAt_in {t : Tx} {x y k : Nat} (h : PalAt t x y) (hk : x ≤ k) : PalAt t k (x + y - k) := fun j h1 h2 => by
  rw [h j (by omega) (by omega)]
  congr 1
  omega
theorem tie_of {t : Tx} {x y : Nat} (hxy : x < y) (hy : y < t.length) (hp : PalAt t x y) : (x, y) ∈ tiesN (armN t) (2 * t.length - 1) := by
  refine mem_ties.mpr ⟨x + y, y - (x + y) / 2 - 1, by omega, ?_, by rw [Prod.mk.injEq]; omega⟩
  apply Classical.byContradiction
  intro hn
  refine arm_not t (x + y) ⟨by omega, by omega, ?_⟩
  rw [hp _ (by omega) (by omega)]
  congr 1
  omega
theorem pal_tie {t : Tx} {p : Nat × Nat} (h : p ∈ tiesN (armN t) (2 * t.length - 1)) : p.1 < p.2 ∧ p.2 < t.length ∧ PalAt t p.1 p.2 := by
  obtain ⟨m, s, hm, hs, rfl⟩ := mem_ties.mp h
  obtain ⟨h1, h2, _⟩ := arm_lt hs
  refine ⟨by show (m + 1) / 2 - 1 - s < m / 2 + 1 + s; omega, h2, fun k k1 k2 => ?_⟩
  dsimp only at k1 k2 ⊢
  exact arm_pal (a := m) (by omega) (by omega) (by omega)
structure Mis (t : Tx) (L R : Nat) : Prop where
  lt : L < R
  inn : R < t.length
  pal : PalAt t (L + 1) (R - 1)
  ne : t.getD L 0 ≠ t.getD R 0
theorem mis_of {t : Tx} {m : Nat} (hv : vE t.length (armN t) m = true) : Mis t (Lf (armN t) m) (Rt (armN t) m) := by
  unfold vE at hv
  rw [Bool.and_eq_true, decide_eq_true_eq, decide_eq_true_eq] at hv
  obtain ⟨h1, h2⟩ := hv
  unfold Lf Rt
  refine ⟨by omega, h2, fun k k1 k2 => arm_pal (a := m) (by omega) (by omega) (by omega), fun e => arm_not t m ⟨h1, h2, e⟩⟩
theorem pal_swap {t : Tx} {g : Nat → Nat} {N x y k : Nat} (hg : ∀ x y, x < y → y < N → PalAt t x y → g x = g y) (h : PalAt t x y) (hk : x ≤ k) (hk2 : k ≤ y) (h1 : k < N) (h2 : x + y - k < N) : g k = g (x + y - k) := by
  rcases Nat.lt_trichotomy k (x + y - k) with c | c | c
  · exact hg _ _ c h2 (palAt_in h hk)
  · rw [← c]
  · have z := palAt_in h (k := x + y - k) (by omega)
    rw [show x + y - (x + y - k) = k by omega] at z
    exact (hg _ _ c h1 z).symm
/-- two mirror words that end alike tie their begins already ahead of that end -/
theorem two_begins {t : Tx} {g : Nat → Nat} {N x1 x2 : Nat} (hg : ∀ x y, x < y → y < N → PalAt t x y → g x = g y) (h1 : PalAt t x1 N) (h2 : PalAt t x2 N) (hx : x1 < x2) (hN : x2 < N) : g x1 = g x2 := by
  have e1 : g x1 = g (x1 + N - x2) := hg _ _ (by omega) (by omega) fun k k1 k2 => by
    rw [h1 k k1 (by omega), h2 (x1 + N - k) (by omega) (by omega), h1 (x1 + (x1 + N - x2) - k) (by omega) (by omega)]
    congr 1
    omega
  rw [e1, pal_swap hg h1 (k := x1 + N - x2) (by omega) (by omega) (by omega) (by omega)]
  congr 1
  omega
theorem marks_upto (t : Tx) : ∀ N, ∃ g : Nat → Nat, (∀ x, g x ≤ x) ∧ (∀ x y, x < y → y < N → PalAt t x y → g x = g y) ∧ ∀ R, (∀ x, x < R → ¬ PalAt t x R) → g R = R
  | 0 => ⟨id, fun _ => Nat.le_refl _, fun _ _ _ h => absurd h (Nat.not_lt_zero _), fun _ _ => rfl⟩
  | N + 1 => by
    obtain ⟨g, g1, g2, g3⟩ := marks_upto t N
    by_cases hx : ∃ x, x < N ∧ PalAt t x N
    · obtain ⟨x1, hx1, hp1⟩ := hx
      refine ⟨fun y => if y = N then g x1 else g y, fun x => ?_, fun x y hxy hy hp => ?_, fun R hR => ?_⟩
      · dsimp only
        split
        · have := g1 x1; omega
        · exact g1 x
      · dsimp only
        rw [if_neg (by omega : ¬ x = N)]
        by_cases c : y = N
        · subst c
          rw [if_pos rfl]
          rcases Nat.lt_trichotomy x x1 with d | d | d
          · exact two_begins g2 hp hp1 d hx1
          · rw [d]
          · exact (two_begins g2 hp1 hp d hxy).symm
        · rw [if_neg c]
          exact g2 x y hxy (by omega) hp
      · dsimp only
        rw [if_neg (fun e => by subst e; exact hR x1 hx1 hp1)]
        exact g3 R hR
    · refine ⟨g, g1, fun x y hxy hy hp => ?_, g3⟩
      by_cases c : y = N
      · subst c
        exact absurd ⟨x, hxy, hp⟩ hx
      · exact g2 x y hxy (by omega) hp
theorem root_new {t : Tx} {r : Nat → Nat} (h : Fine (tiesN (armN t) (2 * t.length - 1)) r) {R : Nat} (hR : ∀ x, x < R → ¬ PalAt t x R) : r R = R := by
  obtain ⟨g, g1, g2, g3⟩ := marks_upto t t.length
  have e := h.sound g (fun p hp => by
    obtain ⟨h1, h2, h3⟩ := pal_tie hp
    exact g2 _ _ h1 h2 h3) R
  rw [g3 R hR] at e
  have := g1 (r R)
  have := h.le R
  omega
theorem pal_root {t : Tx} {r : Nat → Nat} (h : Fine (tiesN (armN t) (2 * t.length - 1)) r) {x y k : Nat} (hp : PalAt t x y) (hy : y < t.length) (h1 : x ≤ k) (h2 : k ≤ y) : r k = r (x + y - k) :=
  pal_swap (N := t.length) (fun x y hxy hy hp => h.edge (x, y) (tie_of hxy hy hp)) hp h1 h2 (by omega) (by omega)
/-- a foe that stands ahead of a first place stands ahead of a mirror word that ends just ahead of that place -/
theorem foe_right {t : Tx} {r : Nat → Nat} (h : Fine (tiesN (armN t) (2 * t.length - 1)) r) {p q : Nat} (hqp : q < p) : ∀ R L, Mis t L R → (r L = p ∧ r R = q ∨ r R = p ∧ r L = q) → ∃ L', Mis t L' p ∧ r L' = q := by
  intro R
  induction R using Nat.strongRecOn with
  | _ R ih =>
    intro L hm hc
    obtain ⟨m1, m2, m3, m4⟩ := hm
    by_cases hx : ∃ x, x < R ∧ PalAt t x R
    · obtain ⟨x, hxR, hp⟩ := hx
      have exR : r x = r R := h.edge (x, R) (tie_of hxR m2 hp)
      have txR : t.getD x 0 = t.getD R 0 := by
        have z := hp x (by omega) (by omega)
        rw [show x + R - x = R by omega] at z
        exact z
      rcases Nat.lt_trichotomy x L with c | c | c
      · have eL : t.getD (x + R - L) 0 = t.getD L 0 := (hp L (by omega) (by omega)).symm
        have rL : r (x + R - L) = r L := (pal_root h hp m2 (by omega) (by omega)).symm
        refine ih (x + R - L) (by omega) x ⟨by omega, by omega, fun k k1 k2 => ?_, fun e => m4 (by rw [← eL, ← e, txR])⟩ (by rw [rL, exR]; exact hc.symm.imp (fun z => ⟨z.1, z.2⟩) fun z => ⟨z.1, z.2⟩)
        rw [hp k (by omega) (by omega), m3 (x + R - k) (by omega) (by omega), hp (x + 1 + (x + R - L - 1) - k) (by omega) (by omega)]
        congr 1
        omega
      · exact absurd (by rw [← c]; exact txR) m4
      · have ex : t.getD (L + R - x) 0 = t.getD x 0 := by
          have z := m3 x (by omega) (by omega)
          rw [show L + 1 + (R - 1) - x = L + R - x by omega] at z
          exact z.symm
        have rx : r (L + R - x) = r R := by
          have z := pal_root h m3 (by omega) (k := x) (by omega) (by omega)
          rw [show L + 1 + (R - 1) - x = L + R - x by omega] at z
          rw [← z, exR]
        refine ih (L + R - x) (by omega) L ⟨by omega, by omega, fun k k1 k2 => ?_, fun e => m4 (by rw [e, ex, txR])⟩ (by rw [rx]; exact hc)
        rw [m3 k (by omega) (by omega), hp (L + 1 + (R - 1) - k) (by omega) (by omega), m3 (L + 1 + (L + R - x - 1) - k) (by omega) (by omega)]
        congr 1
        omega
    · have eR := root_new h (R := R) fun x hx1 hx2 => hx ⟨x, hx1, hx2⟩
      have lL := h.le L
      rcases hc with ⟨c1, c2⟩ | ⟨c1, c2⟩
      · omega
      · have : R = p := by omega
        subst this
        exact ⟨L, ⟨m1, m2, m3, m4⟩, c2⟩
/-! ## mirror words at one end, followed by unlike letters -/
def PP (f : Nat → Nat) (n : Nat) : Prop := ∀ k, k < n → f k = f (n - 1 - k)
theorem least_one {P : Nat → Prop} : ∀ n, P n → ∃ m, m ≤ n ∧ P m ∧ ∀ j, j < m → ¬ P j := by
  intro n
  induction n using Nat.strongRecOn with
  | _ n ih =>
    intro h
    by_cases c : ∃ j, j < n ∧ P j
    · obtain ⟨j, hj, hp⟩ := c
      obtain ⟨m, h1, h2, h3⟩ := ih j hj hp
      exact ⟨m, by omega, h2, h3⟩
    · exact ⟨n, Nat.le_refl _, h, fun j hj hp => c ⟨j, hj, hp⟩⟩
theorem twice {f : Nat → Nat} {y z : Nat} (hy : PP f y) (hf : ∀ j, j < y → PP f j → f j ≠ f y) (hz : PP f z) (h : y < z) : 2 * y < z := by
  apply Classical.byContradiction
  intro hn
  have per : ∀ k, k < y → f (k + (z - y)) = f k := fun k hk => by
    rw [hz (k + (z - y)) (by omega), hy k hk]
    congr 1
    omega
  have e : f (y - (z - y)) = f y := by
    have := per (y - (z - y)) (by omega)
    rw [show y - (z - y) + (z - y) = y by omega] at this
    exact this.symm
  refine hf (y - (z - y)) (by omega) (fun k hk => ?_) e
  rw [← per k (by omega), hy (k + (z - y)) (by omega)]
  congr 1
  omega
theorem twice_len {p : Nat} : ∀ (l : List Nat) (b : Nat), l.Pairwise (fun y z => 2 * y < z) → (∀ x ∈ l, b ≤ x ∧ x < p) → l ≠ [] → 2 ^ l.length * (b + 1) ≤ 2 * p
  | [], _, _, _, h => absurd rfl h
  | [x], b, _, hb, _ => by
    have := hb x (List.mem_cons_self ..)
    show 2 ^ 1 * (b + 1) ≤ _
    omega
  | x :: y :: l, b, hp, hb, _ => by
    obtain ⟨h1, h2⟩ := List.pairwise_cons.mp hp
    have hx := hb x (List.mem_cons_self ..)
    have z := twice_len (y :: l) (2 * b + 1) h2 (fun v hv => ⟨by have := h1 v hv; omega, (hb v (List.mem_cons_of_mem _ hv)).2⟩) (List.cons_ne_nil _ _)
    rw [List.length_cons, Nat.pow_succ]
    rw [show 2 ^ (y :: l).length * (2 * b + 1 + 1) = 2 ^ (y :: l).length * 2 * (b + 1) by rw [Nat.mul_assoc]; congr 1] at z
    exact z
theorem few_letters {f : Nat → Nat} {p : Nat} (hp : p ≤ 1000) (h : ∀ c ∈ letters, ∃ n, n < p ∧ PP f n ∧ f n = c) : False := by
  classical
  have hs : ∀ c ∈ letters, c ∈ ((List.range p).filter fun n => decide (PP f n ∧ ∀ j, j < n → PP f j → f j ≠ f n)).map f := fun c hc => by
    obtain ⟨n, hn, hP, e⟩ := h c hc
    obtain ⟨m, h1, ⟨h2, h3⟩, h4⟩ := least_one (P := fun n => PP f n ∧ f n = c) n ⟨hP, e⟩
    exact List.mem_map.mpr ⟨m, List.mem_filter.mpr ⟨List.mem_range.mpr (by omega), decide_eq_true ⟨h2, fun j hj hPj ej => h4 j hj ⟨hPj, ej.trans h3⟩⟩⟩, h3⟩
  have hlen := nodup_le letters_nd hs
  rw [List.length_map] at hlen
  have h26 : letters.length = 26 := rfl
  have hpw : ((List.range p).filter fun n => decide (PP f n ∧ ∀ j, j < n → PP f j → f j ≠ f n)).Pairwise (fun y z => 2 * y < z) :=
    (List.Pairwise.filter _ List.pairwise_lt_range).imp_of_mem fun {y z} hy hz hlt => by
      have h1 := of_decide_eq_true (List.mem_filter.mp hy).2
      have h2 := of_decide_eq_true (List.mem_filter.mp hz).2
      exact twice h1.1 h1.2 h2.1 hlt
  have z := twice_len _ 0 hpw (fun x hx => ⟨Nat.zero_le _, List.mem_range.mp (List.mem_filter.mp hx).1⟩) (fun e => by rw [e] at hlen; have hlen : letters.length ≤ 0 := hlen; omega)
  have : 2 ^ 26 ≤ 2 ^ ((List.range p).filter fun n => decide (PP f n ∧ ∀ j, j < n → PP f j → f j ≠ f n)).length := Nat.pow_le_pow_right (by decide) (by omega)
  omega
/-- for the arms of a text a letter is left at each new place -/
theorem free_text {t : Tx} {r : Nat → Nat} (h : Fine (tiesN (armN t) (2 * t.length - 1)) r) (hl : t.length ≤ 1000) : Free t.length (armN t) r := fun p hp hr => by
  apply Classical.byContradiction
  intro hn
  refine few_letters (f := fun i => wF t.length (armN t) r (p - 1 - i)) (p := p) (by omega) fun c hc => ?_
  have h1 : ((List.range p).any fun q => foeB t.length (armN t) r p q && decide (wF t.length (armN t) r q = c)) = true := by
    cases hx : (List.range p).any fun q => foeB t.length (armN t) r p q && decide (wF t.length (armN t) r q = c) with
    | true => rfl
    | false => exact absurd ⟨c, hc, hx⟩ hn
  obtain ⟨q, hq, hx⟩ := List.any_eq_true.mp h1
  rw [Bool.and_eq_true, decide_eq_true_eq] at hx
  obtain ⟨hfo, hw⟩ := hx
  obtain ⟨m, hm, hfm⟩ := List.any_eq_true.mp hfo
  unfold foeM at hfm
  simp only [Bool.and_eq_true, Bool.or_eq_true, decide_eq_true_eq] at hfm
  obtain ⟨hv, hc2⟩ := hfm
  obtain ⟨L, hM, hL⟩ := foe_right h (List.mem_range.mp hq) _ _ (mis_of hv) hc2
  have hlt := hM.lt
  refine ⟨p - 1 - L, by omega, fun k hk => ?_, ?_⟩
  · show wF _ _ _ (p - 1 - k) = wF _ _ _ (p - 1 - (p - 1 - L - 1 - k))
    rw [← wF_r h (p - 1 - k), pal_root h hM.pal (by omega) (k := p - 1 - k) (by omega) (by omega), wF_r h]
    congr 1
    omega
  · show wF _ _ _ (p - 1 - (p - 1 - L)) = c
    rw [show p - 1 - (p - 1 - L) = L by omega, ← wF_r h, hL, hw]

end Mw
/-! lists of lists, enumerate, walks downwards, min, max, sorted -/
namespace Mw
open PySem PySem.Spec PyProof.Rows L2 Evl

section
variable {K : PySem.W.Frag} {S : List Addr} {H0 H H1 : Hp} {L L' : List (Addr × HO)} {σ : L2.St} {ta : TA} {te tl : TE} {D : Ends} {tu tz : TS}
theorem Am.perm (am : Am S H0 L H) (h : L'.Perm L) : Am S H0 L' H :=
  ⟨am.old, fun p hp => am.own p (h.mem_iff.mp hp), fun p hp => am.new p (h.mem_iff.mp hp), (h.map _).nodup_iff.mpr am.nd⟩
theorem Am.drop1 {p : Addr × HO} (am : Am S H0 (p :: L) H) : Am S H0 L H := am.sub (List.sublist_cons_self _ _)
/-- a new list that meets P -/
def EvLP (te : TE) (σ : L2.St) (H : Hp) (P : List V → Prop) : Prop := ∀ H1, Ex H H1 → ∀ Q : VK, (∀ p xs H2, P xs → H1 p = none → Ex H1 H2 → H2 p = some (.lst xs) → Q (.ref p) H2) → te σ H1 Q
theorem EvL.toP {xs : List V} {P : List V → Prop} (h : EvL te σ H xs) (hp : P xs) : EvLP te σ H P := fun H1 e Q q => h H1 e Q fun p H2 a b c => q p xs H2 hp a b c
theorem EvLP.mono {P : List V → Prop} (e : Ex H H1) (h : EvLP te σ H P) : EvLP te σ H1 P := fun H2 e2 Q q => h H2 (e.trans e2) Q q
/-- the ledger's part of a list of lists -/
def ledE (ents : List (Addr × List V)) : List (Addr × HO) := ents.map fun e => (e.1, HO.lst e.2)
def refE (ents : List (Addr × List V)) : List V := ents.map fun e => V.ref e.1
theorem ledE_set (ents : List (Addr × List V)) (i : Nat) (r : Addr) (xs : List V) : ledE (ents.set i (r, xs)) = (ledE ents).set i (r, .lst xs) := List.map_set
theorem refE_set {ents : List (Addr × List V)} {i : Nat} {r : Addr} {xs ys : List V} (h : ents[i]? = some (r, ys)) : refE (ents.set i (r, xs)) = refE ents := by
  unfold refE
  rw [List.map_set]
  apply List.ext_getElem?
  intro j
  by_cases e : i = j
  · subst e
    have hi := (List.getElem?_eq_some_iff.mp h).1
    rw [List.getElem?_set_self (by simpa using hi), List.getElem?_map, h]; rfl
  · rw [List.getElem?_set_ne e]
/-- a comprehension of new lists -/
theorem lc_lists {α : Type} {wi : TI} {P : Hp → Prop} {f : α → V} {ns : List α} {j : Nat} {vs : List Nat} (Pg : α → List V → Prop) (am : Am S H0 L H) (hw : Wk wi σ H P (ns.map f)) (hm : ∀ H H', Ex H H' → P H → P H') (hp : P H) (hz : ns.length ≤ 100000)
    (hv : ∀ x, wipe ((wipe σ vs).set j (some x)) vs = wipe σ vs) (he : ∀ n ∈ ns, EvLP te ((wipe σ vs).set j (some (f n))) H (Pg n)) {Q : VK}
    (k : ∀ p ents H2, Paired (fun n e => Pg n e.2) ns ents → Am S H0 ((p, .lst (refE ents)) :: (ledE ents ++ L)) H2 → Ex H H2 → Q (.ref p) H2) : tLc wi (gName j) tYes te vs σ H Q := by
  refine hw H (Ex.refl H) _ fun J H2 e2 sq => fun Dl hD => ?_
  refine ⟨fun i m H' => i + m = ns.length ∧ Ex H2 H' ∧ ∃ ents, Paired (fun n (e : Addr × List V) => Pg n e.2) (ns.take i) ents ∧ Am S H0 ((Dl, .lst (refE ents)) :: (ledE ents ++ L)) H',
    ⟨ns.length, by omega, Ex.new hD, [], .nil, (am.ex e2).new1 hD⟩, ?_⟩
  rintro i m H' ⟨im, e3, ents, pr, am⟩
  obtain ⟨q1, q2⟩ := sq H' (hm _ _ (e2.trans e3) hp)
  have hlen : ents.length = (ns.take i).length := (Paired.length pr).symm
  by_cases hi : i < ns.length
  · have g : (ns.map f)[i]? = some (f ns[i]) := by rw [List.getElem?_map, List.getElem?_eq_getElem hi]; rfl
    have hmem : ns[i] ∈ ns := List.getElem_mem hi
    have ht2 : ns.take (i + 1) = ns.take i ++ [ns[i]] := by rw [List.take_succ_eq_append_getElem hi]
    obtain ⟨g1, g2⟩ := q1 i _ g
    refine .inr ⟨g1, fun H'' => Ex H2 H'' ∧ ∃ ents, Paired (fun n (e : Addr × List V) => Pg n e.2) (ns.take (i + 1)) ents ∧ Am S H0 ((Dl, .lst (refE ents)) :: (ledE ents ++ L)) H'', fun H'' hN => ⟨m - 1, by omega, by omega, hN.1, hN.2⟩, fun y H'' hy => ?_⟩
    obtain ⟨e4, e5⟩ := g2 y H'' hy
    subst e4 e5
    refine ⟨hv _, ?_⟩
    show te ((wipe σ vs).set j (some (f ns[i]))) H'' _
    refine he _ hmem H'' (e2.trans e3) _ fun r xs H6 px hr e7 h6 => ?_
    have am6 := am.add hr e7 h6
    have am7 := am6.set (o' := .lst (refE ents ++ [.ref r])) 1 rfl
    refine ⟨_, am6.at 1 rfl, ?_, Ex.mut (e3.trans e7) hD, ents ++ [(r, xs)], ?_, am7.perm ?_⟩
    · refine szL6 ?_
      unfold refE
      rw [List.length_map, hlen, List.length_take]
      omega
    · rw [ht2]
      exact pr.snoc px
    · show List.Perm ((Dl, HO.lst (refE (ents ++ [(r, xs)]))) :: (ledE (ents ++ [(r, xs)]) ++ L)) ((r, HO.lst xs) :: (Dl, HO.lst (refE ents ++ [V.ref r])) :: (ledE ents ++ L))
      have e1 : refE (ents ++ [(r, xs)]) = refE ents ++ [V.ref r] := by unfold refE; rw [List.map_append]; rfl
      have e2 : ledE (ents ++ [(r, xs)]) = ledE ents ++ [(r, HO.lst xs)] := by unfold ledE; rw [List.map_append]; rfl
      rw [e1, e2, List.append_assoc]
      refine List.Perm.trans (List.Perm.cons _ ?_) (List.Perm.swap ..)
      exact List.perm_middle
  · have ei : i = ns.length := by omega
    subst ei
    rw [List.take_length] at pr
    rw [List.length_map] at q2
    exact .inl ⟨q2, k Dl ents H' pr am (e2.trans e3)⟩
theorem aq_asgLL {α : Type} {wi : TI} {P : Hp → Prop} {f : α → V} {ns : List α} {i j : Nat} {vs : List Nat} (Pg : α → List V → Prop) (am : Am S H0 L H) (hw : Wk wi σ H P (ns.map f)) (hm : ∀ H H', Ex H H' → P H → P H') (hp : P H) (hz : ns.length ≤ 100000)
    (hv : ∀ x, wipe ((wipe σ vs).set j (some x)) vs = wipe σ vs) (he : ∀ n ∈ ns, EvLP te ((wipe σ vs).set j (some (f n))) H (Pg n))
    (k : ∀ p ents H2, Paired (fun n e => Pg n e.2) ns ents → Am S H0 ((p, .lst (refE ents)) :: (ledE ents ++ L)) H2 → tz D (σ.set i (some (.ref p))) H2) : tSeq (tAsg (tLc wi (gName j) tYes te vs) (gName i)) tz D σ H :=
  lc_lists Pg am hw hm hp hz hv he (Q := fun x H1 => tz D (σ.set i (some x)) H1) fun p ents H2 h1 h2 _ => k p ents H2 h1 h2
theorem a_retLL {α : Type} {wi : TI} {P : Hp → Prop} {f : α → V} {ns : List α} {j : Nat} {vs : List Nat} (Pg : α → List V → Prop) (am : Am S H0 L H) (hw : Wk wi σ H P (ns.map f)) (hm : ∀ H H', Ex H H' → P H → P H') (hp : P H) (hz : ns.length ≤ 100000)
    (hv : ∀ x, wipe ((wipe σ vs).set j (some x)) vs = wipe σ vs) (he : ∀ n ∈ ns, EvLP te ((wipe σ vs).set j (some (f n))) H (Pg n))
    (k : ∀ p ents H2, Paired (fun n e => Pg n e.2) ns ents → Am S H0 ((p, .lst (refE ents)) :: (ledE ents ++ L)) H2 → D.rt (.ref p) H2) : tRet (tLc wi (gName j) tYes te vs) D σ H :=
  lc_lists Pg am hw hm hp hz hv he (Q := fun x H1 => D.rt x H1) fun p ents H2 h1 h2 _ => k p ents H2 h1 h2
theorem paired_at {α β : Type} {F : α → β → Prop} : ∀ {xs : List α} {ys : List β} {i : Nat} {x : α}, Paired F xs ys → xs[i]? = some x → ∃ y, ys[i]? = some y ∧ F x y
  | _, _, _, _, .nil, h => by cases h
  | _, _, 0, _, .cons (b := b) f _, h => ⟨b, rfl, by rw [← Option.some.inj h]; exact f⟩
  | _, _, i + 1, _, .cons _ r, h => paired_at (i := i) r h
/-- enumerate of a list -/
theorem a_forE {α : Type} {f : α → V} {ns : List α} {i j : Nat} {a : Addr} (Iv : List α → L2.St → Hp → Prop) (am : Am S H0 L H) (h : EvA ta σ H [.ref a]) (hq : SqL K H a (ns.map f)) (h0 : ∀ H, Am S H0 L H → Iv [] σ H)
    (hP : ∀ pre σ' H', Iv pre σ' H' → SqL K H' a (ns.map f))
    (hs : ∀ pre n post σ' H' H'', ns = pre ++ n :: post → Iv pre σ' H' → Ex H' H'' → tu { D with nx := Iv (pre ++ [n]), ct := Iv (pre ++ [n]), bk := D.nx } ((σ'.set i (some (.int (pre.length : Nat)))).set j (some (f n))) H'')
    (hd : ∀ σ' H', Iv ns σ' H' → D.nx σ' H') : tFor (iEnum K ta) (gTup K 2 (gCons (gName i) (gCons (gName j) gNil))) tu D σ H := by
  refine h H (Ex.refl H) _ fun H2 e => ⟨a, _, rfl, ex_l e hq, ?_⟩
  refine ⟨fun i m σ' H' => i + m = ns.length ∧ Iv (ns.take i) σ' H', ⟨ns.length, by omega, h0 H2 (am.ex e)⟩, ?_⟩
  rintro i' m σ' H' ⟨im, hI⟩
  have hq' := hP _ _ _ hI
  by_cases hi : i' < ns.length
  · have g : (ns.map f)[i']? = some (f ns[i']) := by rw [List.getElem?_map, List.getElem?_eq_getElem hi]; rfl
    have hsp : ns = ns.take i' ++ ns[i'] :: ns.drop (i' + 1) := by
      rw [← List.drop_eq_getElem_cons hi, List.take_append_drop]
    have ht : ns.take (i' + 1) = ns.take i' ++ [ns[i']] := by rw [List.take_succ_eq_append_getElem hi]
    refine .inr ⟨⟨_, _, hq', g⟩, Iv (ns.take i' ++ [ns[i']]), fun σ2 H2 hN => ⟨m - 1, by omega, by omega, by rw [ht]; exact hN⟩, fun y H'' hy => ?_⟩
    obtain ⟨T, x, rfl, hT, rfl, hx⟩ := hy
    have e1 : f ns[i'] = x := Option.some.inj (g.symm.trans (hx _ hq'))
    subst e1
    have z := hs _ _ _ σ' H' _ hsp hI (Ex.new (o := .tup [.int (i' : Nat), f ns[i']]) hT)
    rw [show (ns.take i').length = i' by rw [List.length_take]; omega] at z
    exact ⟨T, [.int (i' : Nat), f ns[i']], rfl, st_of upd_same, rfl, _, _, rfl, _, _, rfl, rfl, z⟩
  · have ei : i' = ns.length := by omega
    subst ei
    rw [List.take_length] at hI
    exact .inl ⟨⟨_, hq', by rw [List.length_map]; exact Nat.le_refl _⟩, hd σ' H' hI⟩
theorem aq_forE {α : Type} {f : α → V} {ns : List α} {i j : Nat} {a : Addr} (Iv : List α → L2.St → Hp → Prop) (am : Am S H0 L H) (h : EvA ta σ H [.ref a]) (hq : SqL K H a (ns.map f)) (h0 : ∀ H, Am S H0 L H → Iv [] σ H)
    (hP : ∀ pre σ' H', Iv pre σ' H' → SqL K H' a (ns.map f))
    (hs : ∀ pre n post σ' H' H'', ns = pre ++ n :: post → Iv pre σ' H' → Ex H' H'' → tu { D with nx := Iv (pre ++ [n]), ct := Iv (pre ++ [n]), bk := tz D } ((σ'.set i (some (.int (pre.length : Nat)))).set j (some (f n))) H'')
    (hd : ∀ σ' H', Iv ns σ' H' → tz D σ' H') : tSeq (tFor (iEnum K ta) (gTup K 2 (gCons (gName i) (gCons (gName j) gNil))) tu) tz D σ H := a_forE (D := { D with nx := tz D }) Iv am h hq h0 hP hs hd
/-- .. of a new list, which stays at the ledger's head -/
theorem aq_forEN {α : Type} {f : α → V} {ns : List α} {i j : Nat} (Iv : Addr → List α → L2.St → Hp → Prop) (am : Am S H0 L H) (h : EvL te σ H (ns.map f)) (h0 : ∀ p H, Am S H0 ((p, .lst (ns.map f)) :: L) H → Iv p [] σ H)
    (hP : ∀ p pre σ' H', Iv p pre σ' H' → H' p = some (.lst (ns.map f)))
    (hs : ∀ p pre n post σ' H' H'', ns = pre ++ n :: post → Iv p pre σ' H' → Ex H' H'' → tu { D with nx := Iv p (pre ++ [n]), ct := Iv p (pre ++ [n]), bk := tz D } ((σ'.set i (some (.int (pre.length : Nat)))).set j (some (f n))) H'')
    (hd : ∀ p σ' H', Iv p ns σ' H' → tz D σ' H') : tSeq (tFor (iEnum K (tCons te tNil)) (gTup K 2 (gCons (gName i) (gCons (gName j) gNil))) tu) tz D σ H :=
  h H (Ex.refl H) _ fun p H2 hp e2 h2 => by
    have z := aq_forE (σ := σ) (D := D) (i := i) (j := j) (tu := tu) (tz := tz) (ta := tCons (tC (.ref p)) tNil) (f := f) (ns := ns) (Iv p) (am.add hp e2 h2) (ea_cons ev_c ea_nil) (sq_of h2 : SqL K H2 p _) (h0 p) (fun pre σ' H' hi => sq_of (hP _ _ _ _ hi)) (hs p) (hd p)
    exact z
theorem a_forEN {α : Type} {f : α → V} {ns : List α} {i j : Nat} (Iv : Addr → List α → L2.St → Hp → Prop) (am : Am S H0 L H) (h : EvL te σ H (ns.map f)) (h0 : ∀ p H, Am S H0 ((p, .lst (ns.map f)) :: L) H → Iv p [] σ H)
    (hP : ∀ p pre σ' H', Iv p pre σ' H' → H' p = some (.lst (ns.map f)))
    (hs : ∀ p pre n post σ' H' H'', ns = pre ++ n :: post → Iv p pre σ' H' → Ex H' H'' → tu { D with nx := Iv p (pre ++ [n]), ct := Iv p (pre ++ [n]), bk := D.nx } ((σ'.set i (some (.int (pre.length : Nat)))).set j (some (f n))) H'')
    (hd : ∀ p σ' H', Iv p ns σ' H' → D.nx σ' H') : tFor (iEnum K (tCons te tNil)) (gTup K 2 (gCons (gName i) (gCons (gName j) gNil))) tu D σ H :=
  h H (Ex.refl H) _ fun p H2 hp e2 h2 => by
    have z := a_forE (σ := σ) (D := D) (i := i) (j := j) (tu := tu) (ta := tCons (tC (.ref p)) tNil) (f := f) (ns := ns) (Iv p) (am.add hp e2 h2) (ea_cons ev_c ea_nil) (sq_of h2 : SqL K H2 p _) (h0 p) (fun pre σ' H' hi => sq_of (hP _ _ _ _ hi)) (hs p) (hd p)
    exact z
/-- downwards -/
theorem wk_rev {n : Int} (h : Ev te σ H (.int n)) (hn : 0 ≤ n ∧ n ≤ 1000000) : Wk (iRevR (tRg1 te)) σ H (fun _ => True) ((List.range n.toNat).map fun i => .int (n - 1 - (i : Nat))) := fun H1 e R q =>
  h H1 e _ fun H2 e2 => by
    refine ⟨n, rfl, by decide, by decide, by omega, by omega, q _ H2 e2 ?_⟩
    have z := sq_rangeC (lo := 0 + (((n - 0).toNat : Nat) : Int) - 1) (c := -1) (n := (n - 0).toNat)
    have e3 : ((List.range n.toNat).map fun i => V.int (n - 1 - (i : Nat))) = (List.range (n - 0).toNat).map fun i => V.int (0 + (((n - 0).toNat : Nat) : Int) - 1 + (i : Nat) * -1) := by
      rw [Int.sub_zero]
      refine List.map_congr_left fun i _ => ?_
      congr 1
      omega
    rw [e3]
    exact z
theorem wk_range3m {lo n : Int} (h : EvA ta σ H [.int lo, .int n, .int (-1)]) (hn : -1000000 ≤ lo ∧ lo ≤ 1000000 ∧ -1000000 ≤ n ∧ n ≤ 1000000) :
    Wk (iRng3 ta) σ H (fun _ => True) ((List.range (lo - n).toNat).map fun i => .int (lo - (i : Nat))) := fun H1 e R q =>
  h H1 e _ fun H2 e2 => by
    refine ⟨lo, n, -1, _, rfl, RgC.neg (by omega) (by omega) (by omega) (by omega), q _ H2 e2 ?_⟩
    have z := sq_rangeC (lo := lo) (c := -1) (n := (lo - n).toNat)
    have e3 : ((List.range (lo - n).toNat).map fun i => V.int (lo - (i : Nat))) = (List.range (lo - n).toNat).map fun i => V.int (lo + (i : Nat) * -1) := by
      refine List.map_congr_left fun i _ => ?_
      congr 1
      omega
    rw [e3]
    exact z
theorem rc_min {p : Addr} {ns : List Int} {m : Int} (h : SqL K H p (ns.map V.int)) (hm : m ∈ ns) (hl : ∀ y ∈ ns, m ≤ y) : RC (rMin K) [.ref p] H (.int m) := fun H1 e Q q =>
  ⟨p, ns, rfl, ex_l e h, List.length_pos_of_mem hm, fun m' h1 h2 => by
    have e3 : m' = m := Int.le_antisymm (h2 m hm) (hl m' h1)
    rw [e3]
    exact q H1 (Ex.refl H1)⟩
theorem rc_max {p : Addr} {ns : List Int} {m : Int} (h : SqL K H p (ns.map V.int)) (hm : m ∈ ns) (hl : ∀ y ∈ ns, y ≤ m) : RC (rMax K) [.ref p] H (.int m) := fun H1 e Q q =>
  ⟨p, ns, rfl, ex_l e h, List.length_pos_of_mem hm, fun m' h1 h2 => by
    have e3 : m' = m := Int.le_antisymm (hl m' h1) (h2 m hm)
    rw [e3]
    exact q H1 (Ex.refl H1)⟩
/-- [x] * n -/
theorem el_rep {x : V} {n : Int} {tb : TE} (h : EvL tl σ H [x]) (hb : Ev tb σ H (.int n)) (h0 : 0 ≤ n ∧ n ≤ 1000000) : EvL (tOp rRep tl tb) σ H (List.replicate n.toNat x) := fun H1 e Q q =>
  h H1 e _ fun p H2 hp e2 h2 => hb H2 (e.trans e2) _ fun H3 e3 => by
    refine ⟨p, n, [x], rfl, rfl, e3 _ _ h2, by omega, by omega, ?_, fun r hr => ?_⟩
    · show 1 * n.toNat ≤ sizeLine
      rw [Nat.one_mul]
      exact sz6 (by omega)
    · have e4 : (List.replicate n.toNat [x]).flatten = List.replicate n.toNat x := by
        induction n.toNat with
        | zero => rfl
        | succ k ih => rw [List.replicate_succ, List.flatten_cons, ih]; rfl
      rw [e4]
      exact q r _ (fresh_back (e2.trans e3) hr) ((e2.trans e3).trans (Ex.new hr)) upd_same
/-- sorted of ints -/
theorem elp_sortI {p : Addr} {ns : List Int} (h : Ev te σ H (.ref p)) (hs : SqL K H p (ns.map V.int)) : EvLP (tCB (rSortedI K) (tCons te tNil)) σ H fun xs => ∃ ns' : List Int, xs = ns'.map V.int ∧ ns'.Perm ns ∧ ns'.Pairwise (· ≤ ·) := fun H1 e Q q =>
  h H1 e _ fun H2 e2 => ⟨p, ns, rfl, ex_l (e.trans e2) hs, fun ns' r h1 h2 hr => q r _ _ ⟨ns', rfl, h1, h2⟩ (fresh_back e2 hr) (e2.trans (Ex.new hr)) upd_same⟩
end
end Mw
/-! own classes: making, methods, attributes; dicts; what a callee may change -/
namespace Mw
open PySem PySem.Spec PyProof.Rows L2 Evl

/-! ### calls of methods, making -/
structure Mcal (P : Program) (w : World) (K : PySem.W.Frag) (mg : Str → Option Value) (base : Heap) (CX : CXT) (k : Nat) (C : Addr) (m : Str) (ps : List Str) (sp : Sp) : Prop where
  ex : ∃ f fd, FnOk P w K mg base CX k f fd ps sp ∧ Meth K C m f ∧ Binds K fd ps []
structure Mkc (P : Program) (w : World) (K : PySem.W.Frag) (mg : Str → Option Value) (base : Heap) (CX : CXT) (k : Nat) (x : Str) (ps : List Str) (C : Addr) (sp : Sp) : Prop where
  ex : ∃ f fd, FnOk P w K mg base CX k f fd ps sp ∧ mg x = some (.ref C) ∧ Mk K C f ∧ Binds K fd ps []
section
variable {X : Cx} {CX : CXT} {k : Nat} {C : Addr} {x m : Str} {ps : List Str} {sp : Sp} {E : XK} {e o : Expr} {es : List Expr} {ta : TE} {t : TA} {p pos apos : Pos}
theorem pe_mcal {pl : Sem Bool} (c : Mcal X.prog X.w X.K X.mg X.base CX k C m ps sp) (cl : Cls X.K C) (hr : Room k X.A) (hx : Passes CX X E) (he : PE X o ta) (ha : PA X (e :: es) t)
    (hst : starEach (e :: es) X.env = (false, eval e X.env) :: starEach es X.env := by rfl) (hpl : (backTo pos (starEach es X.env)).any (·.1) = false := by rfl)
    (ht : eval (.Call (.Attribute o m apos) (e :: es) [] pos) X.env = (do
      let ov ← eval o X.env
      standAt apos.atName
      let (f, first) ← holding [ov] (getMethod ov m pl)
      callWith pos f first (backTo pos (starEach (e :: es) X.env)) (backToKw pos (keywordEach [] X.env))) := by rfl) :
    PE X (.Call (.Attribute o m apos) (e :: es) [] pos) (tMeth C m sp [] E ta t) := by
  obtain ⟨f, fd, F, hm, hb⟩ := c.ex
  exact pe_meth he cl hm F hr hb .nil hx ha hst hpl ht
theorem pe_mcal0 {pl : Sem Bool} (c : Mcal X.prog X.w X.K X.mg X.base CX k C m ps sp) (cl : Cls X.K C) (hr : Room k X.A) (hx : Passes CX X E) (he : PE X o ta)
    (ht : eval (.Call (.Attribute o m apos) [] [] pos) X.env = (do
      let ov ← eval o X.env
      standAt apos.atName
      let (f, first) ← holding [ov] (getMethod ov m pl)
      callWith pos f first (backTo pos (starEach [] X.env)) (backToKw pos (keywordEach [] X.env))) := by rfl) :
    PE X (.Call (.Attribute o m apos) [] [] pos) (tMeth C m sp [] E ta tNil) := by
  obtain ⟨f, fd, F, hm, hb⟩ := c.ex
  exact pe_meth0 he cl hm F hr hb .nil hx ht
theorem pe_mk (c : Mkc X.prog X.w X.K X.mg X.base CX k x ps C sp) (hr : Room (k + 1) X.A) (hg : Gl X x) (hx : Passes CX X E) (ha : PA X (e :: es) t)
    (hdb : (x == ("__debug__" : Str)) = false := by decide) (he : starEach (e :: es) X.env = (false, eval e X.env) :: starEach es X.env := by rfl) (hpl : (backTo pos (starEach es X.env)).any (·.1) = false := by rfl) :
    PE X (.Call (.Name x p) (e :: es) [] pos) (tMake C sp [] E t) := by
  obtain ⟨f, fd, F, hm, M, hb⟩ := c.ex
  exact pe_make M F hr hg hm hb .nil hx ha hdb he hpl
end

/-! ### what a callee may change -/
/-- these objects stand -/
def Has (H : Hp) (L : List (Addr × HO)) : Prop := (∀ p ∈ L, H p.1 = some p.2) ∧ (L.map (·.1)).Nodup
section
variable {K : PySem.W.Frag} {S : List Addr} {H0 H H' : Hp} {L La Lb : List (Addr × HO)} {σ : L2.St} {ta te tv tl : TE} {t : TA} {D : Ends} {tz : TS} {C dx g : Addr} {fs : List (Str × V)} {m f : Str} {sp : Sp} {E : XK} {vs : List V} {v : V} {o : HO} {Q : VK}
theorem Has.ex (h : Has H L) (e : Ex H H') : Has H' L := ⟨fun p hp => e _ _ (h.1 p hp), h.2⟩
theorem Has.at (i : Nat) {p : Addr} (h : Has H L) (hi : L[i]? = some (p, o)) : H p = some o := h.1 _ (List.mem_of_getElem? hi)
theorem Has.am (h : Has H L) : Am (L.map (·.1)) H L H := ⟨fun a o h _ => h, h.1, fun p hp => .inr (List.mem_map.mpr ⟨p, hp, rfl⟩), h.2⟩
theorem Am.has (am : Am S H0 (La ++ L) H) : Has H La := ⟨fun p hp => am.own p (List.mem_append_left _ hp), by
  have z := am.nd
  rw [List.map_append] at z
  exact (List.nodup_append.mp z).1⟩
theorem Am.hasAll (am : Am S H0 L H) : Has H L := ⟨am.own, am.nd⟩
theorem Am.call (am : Am S H0 (La ++ L) H) (am2 : Am (La.map (·.1)) H Lb H') : Am S H0 (Lb ++ L) H' := by
  have nd := am.nd
  rw [List.map_append, List.nodup_append] at nd
  obtain ⟨n1, n2, n3⟩ := nd
  have notin : ∀ q ∈ L, q.1 ∉ La.map (·.1) := fun q hq hm => n3 _ hm _ (List.mem_map.mpr ⟨q, hq, rfl⟩) rfl
  refine ⟨fun a u ha hn => ?_, fun p hp => ?_, fun p hp => ?_, ?_⟩
  · refine am2.old a u (am.old a u ha hn) fun hm => ?_
    obtain ⟨q, hq, e⟩ := List.mem_map.mp hm
    rcases am.new q (List.mem_append_left _ hq) with z | z
    · rw [e, ha] at z; cases z
    · rw [e] at z; exact hn z
  · rcases List.mem_append.mp hp with hp | hp
    · exact am2.own p hp
    · exact am2.old _ _ (am.own p (List.mem_append_right _ hp)) (notin p hp)
  · rcases List.mem_append.mp hp with hp | hp
    · rcases am2.new p hp with z | z
      · by_cases hs : p.1 ∈ S
        · exact .inr hs
        · refine .inl ?_
          cases w : H0 p.1 with
          | none => rfl
          | some u => rw [am.old _ _ w hs] at z; cases z
      · obtain ⟨q, hq, e⟩ := List.mem_map.mp z
        have z2 := am.new q (List.mem_append_left _ hq)
        rw [e] at z2
        exact z2
    · exact am.new p (List.mem_append_right _ hp)
  · rw [List.map_append, List.nodup_append]
    refine ⟨am2.nd, n2, fun x hx y hy e => ?_⟩
    subst e
    obtain ⟨p, hp, e1⟩ := List.mem_map.mp hx
    obtain ⟨q, hq, e2⟩ := List.mem_map.mp hy
    rcases am2.new p hp with z | z
    · have z2 := am.own q (List.mem_append_right _ hq)
      rw [e2, ← e1, z] at z2
      cases z2
    · exact notin q hq (by rw [e2, ← e1]; exact z)
/-- a callee that only looks -/
theorem Am.call0 (am : Am S H0 L H) (am2 : Am [] H Lb H') : Am S H0 (Lb ++ L) H' := Am.call (La := []) am am2

/-! ### attributes, methods -/
theorem e_fld (h : Ev ta σ H (.ref g)) (hg : H g = some (.ins C dx fs)) (c : Cls K C) (n : NoAttr K C f) (hl : fs.lookup f = some v) : Ev (tFld K ta f) σ H v := fun H1 e Q q =>
  h H1 e _ fun H2 e2 => ⟨g, C, dx, fs, v, rfl, (e.trans e2) _ _ hg, c, n, hl, q H2 e2⟩
theorem t_meth (h : Ev ta σ H (.ref g)) (hg : H g = some (.ins C dx fs)) (hl : fs.lookup m = none) (ht : EvA t σ H vs) (k : ∀ H1, Ex H H1 → sp (.ref g :: vs) H1 Q E) : tMeth C m sp [] E ta t σ H Q :=
  h H (Ex.refl H) _ fun H2 e2 => ⟨g, dx, fs, rfl, e2 _ _ hg, hl, ht H2 e2 _ fun H3 e3 => by rw [List.append_nil]; exact k H3 (e2.trans e3)⟩
theorem e_methV {R : List V → Hp → V → Prop} (h : Ev ta σ H (.ref g)) (hg : H g = some (.ins C dx fs)) (hl : fs.lookup m = none) (ht : EvA t σ H vs) (hR : ∀ H1, Ex H H1 → R (.ref g :: vs) H1 v) : Ev (tMeth C m (spV R) [] E ta t) σ H v := fun H1 e Q q =>
  t_meth (h.mono e) (e _ _ hg) hl (ht.mono e) fun H2 e2 => ⟨v, hR H2 (e.trans e2), fun H3 e3 => q H3 (e2.trans e3)⟩
theorem e_methVX {R : List V → Hp → V → Prop} {B : List V → Hp → Addr → Prop} (h : Ev ta σ H (.ref g)) (hg : H g = some (.ins C dx fs)) (hl : fs.lookup m = none) (ht : EvA t σ H vs) (hR : ∀ H1, Ex H H1 → R (.ref g :: vs) H1 v) : Ev (tMeth C m (spVX R B) [] E ta t) σ H v := fun H1 e Q q =>
  t_meth (h.mono e) (e _ _ hg) hl (ht.mono e) fun H2 e2 => .inl ⟨v, hR H2 (e.trans e2), fun H3 e3 => q H3 (e2.trans e3)⟩
theorem e_methL {R : List V → Hp → List V → Prop} {xs : List V} (h : Ev ta σ H (.ref g)) (hg : H g = some (.ins C dx fs)) (hl : fs.lookup m = none) (ht : EvA t σ H vs) (hR : ∀ H1, Ex H H1 → R (.ref g :: vs) H1 xs) : EvL (tMeth C m (spL R) [] E ta t) σ H xs := fun H1 e Q q =>
  t_meth (h.mono e) (e _ _ hg) hl (ht.mono e) fun H2 e2 => ⟨xs, hR H2 (e.trans e2), fun p H3 a b c => q p H3 (fresh_back e2 a) (e2.trans b) c⟩
theorem aq_methD (am : Am S H0 L H) (h : Ev ta σ H (.ref g)) (hg : H g = some (.ins C dx fs)) (hl : fs.lookup m = none) (ht : EvA t σ H vs) (k : ∀ H1, Am S H0 L H1 → sp (.ref g :: vs) H1 (fun _ H2 => tz D σ H2) E) :
    tSeq (tDrop (tMeth C m sp [] E ta t)) tz D σ H := t_meth (Q := fun _ H2 => tz D σ H2) h hg hl ht fun H1 e => k H1 (am.ex e)
theorem a_methD (am : Am S H0 L H) (h : Ev ta σ H (.ref g)) (hg : H g = some (.ins C dx fs)) (hl : fs.lookup m = none) (ht : EvA t σ H vs) (k : ∀ H1, Am S H0 L H1 → sp (.ref g :: vs) H1 (fun _ H2 => D.nx σ H2) E) :
    tDrop (tMeth C m sp [] E ta t) D σ H := t_meth (Q := fun _ H2 => D.nx σ H2) h hg hl ht fun H1 e => k H1 (am.ex e)
theorem aq_methA {i : Nat} (am : Am S H0 L H) (h : Ev ta σ H (.ref g)) (hg : H g = some (.ins C dx fs)) (hl : fs.lookup m = none) (ht : EvA t σ H vs) (k : ∀ H1, Am S H0 L H1 → sp (.ref g :: vs) H1 (fun v H2 => tz D (σ.set i (some v)) H2) E) :
    tSeq (tAsg (tMeth C m sp [] E ta t) (gName i)) tz D σ H := t_meth (Q := fun v H2 => tz D (σ.set i (some v)) H2) h hg hl ht fun H1 e => k H1 (am.ex e)
theorem aq_make {i : Nat} (am : Am S H0 L H) (ht : EvA t σ H vs) (k : ∀ g dx H1, Am S H0 ((g, .ins C dx []) :: (dx, .own g) :: L) H1 → sp (.ref g :: vs) H1 (fun v H2 => v = .non ∧ tz D (σ.set i (some (.ref g))) H2) E) :
    tSeq (tAsg (tMake C sp [] E t) (gName i)) tz D σ H := ht H (Ex.refl H) _ fun H1 e => fun x dx hx hdx ne => by
  rw [List.append_nil]
  refine k x dx _ (((am.ex e).new1 hdx).new1 ?_)
  rw [upd_ne (Ne.symm ne)]
  exact hx
theorem aq_callA {i : Nat} (am : Am S H0 L H) (ht : EvA t σ H vs) (k : ∀ H1, Am S H0 L H1 → sp vs H1 (fun v H2 => tz D (σ.set i (some v)) H2) E) : tSeq (tAsg (tCall sp [] E t) (gName i)) tz D σ H :=
  ht H (Ex.refl H) _ fun H1 e => by rw [List.append_nil]; exact k H1 (am.ex e)
theorem aq_callD (am : Am S H0 L H) (ht : EvA t σ H vs) (k : ∀ H1, Am S H0 L H1 → sp vs H1 (fun _ H2 => tz D σ H2) E) : tSeq (tDrop (tCall sp [] E t)) tz D σ H :=
  ht H (Ex.refl H) _ fun H1 e => by rw [List.append_nil]; exact k H1 (am.ex e)
/-- a comprehension over enumerate -/
theorem el_lcE {α : Type} {f : α → V} {ns : List α} {i j : Nat} {wl : List Nat} {a : Addr} (w : Nat → V) (h : EvA t σ H [.ref a]) (hq : SqL K H a (ns.map f)) (hz : ns.length ≤ 100000)
    (hv : ∀ x y, wipe (((wipe σ wl).set i (some x)).set j (some y)) wl = wipe σ wl)
    (he : ∀ (k : Nat) (n : α), ns[k]? = some n → Ev te (((wipe σ wl).set i (some (.int k))).set j (some (f n))) H (w k)) :
    EvL (tLc (iEnum K t) (gTup K 2 (gCons (gName i) (gCons (gName j) gNil))) tYes te wl) σ H ((List.range ns.length).map w) := fun H1 e Q q => by
  refine h H1 e _ fun H2 e2 => ⟨a, _, rfl, ex_l (e.trans e2) hq, fun Dl hD => ?_⟩
  refine ⟨fun i' m H' => i' + m = ns.length ∧ Ex H2 H' ∧ H' Dl = some (.lst ((List.range i').map w)), ⟨ns.length, by omega, Ex.new hD, upd_same⟩, ?_⟩
  rintro i' m H' ⟨im, e3, hl⟩
  have hq' : SqL K H' a (ns.map f) := ex_l ((e.trans e2).trans e3) hq
  by_cases hi : i' < ns.length
  · have g0 : ns[i']? = some ns[i'] := List.getElem?_eq_getElem hi
    have g : (ns.map f)[i']? = some (f ns[i']) := by rw [List.getElem?_map, g0]; rfl
    refine .inr ⟨⟨_, _, hq', g⟩, fun H'' => Ex H2 H'' ∧ H'' Dl = some (.lst ((List.range (i' + 1)).map w)), fun H'' hN => ⟨m - 1, by omega, by omega, hN.1, hN.2⟩, fun y H'' hy => ?_⟩
    obtain ⟨T, x, rfl, hT, rfl, hx⟩ := hy
    have e1 : f ns[i'] = x := Option.some.inj (g.symm.trans (hx _ hq'))
    subst e1
    have e4 : Ex H' (upd H' T (.tup [.int (i' : Nat), f ns[i']])) := Ex.new hT
    refine ⟨T, [.int (i' : Nat), f ns[i']], rfl, st_of upd_same, rfl, _, _, rfl, _, _, rfl, rfl, hv _ _, ?_⟩
    show te _ _ _
    refine he i' _ g0 _ (((e.trans e2).trans e3).trans e4) _ fun H6 e7 => ?_
    refine ⟨_, e7 _ _ (e4 _ _ hl), ?_, Ex.mut ((e3.trans e4).trans e7) hD, ?_⟩
    · rw [List.length_map, List.length_range]
      exact szL6 (by omega)
    · rw [upd_same, List.range_succ, List.map_append]; rfl
  · have ei : i' = ns.length := by omega
    subst ei
    exact .inl ⟨⟨_, hq', by rw [List.length_map]; exact Nat.le_refl _⟩, q Dl H' (fresh_back e2 hD) (e2.trans e3) hl⟩
/-- a < b < c and the like -/
theorem e_chain {r r' : R2} {tb tc : TE} {x y z : V} {b c : Bool} (h1 : Ev ta σ H x) (h2 : Ev tb σ H y) (hr : RV r x y H (.bl b)) (h3 : b = true → Ev tc σ H z) (hr2 : b = true → RV r' y z H (.bl c)) : Ev (tChain r r' ta tb tc) σ H (.bl (b && c)) := fun H1 e Q q =>
  h1 H1 e _ fun H2 e2 => h2 H2 (e.trans e2) _ fun H3 e3 => hr H3 ((e.trans e2).trans e3) _ fun H4 e4 => ⟨b, rfl, by
    have e14 := ((e.trans e2).trans e3).trans e4
    cases b with
    | false => exact q H4 ((e2.trans e3).trans e4)
    | true =>
      rw [if_pos rfl]
      exact h3 rfl H4 e14 _ fun H5 e5 => hr2 rfl H5 (e14.trans e5) _ fun H6 e6 => q H6 ((((e2.trans e3).trans e4).trans e5).trans e6)⟩
/-- a new object -/
def EvN (te : TE) (σ : L2.St) (H : Hp) (o : HO) : Prop := ∀ H1, Ex H H1 → ∀ Q : VK, (∀ p H2, H1 p = none → Ex H1 H2 → H2 p = some o → Q (.ref p) H2) → te σ H1 Q
theorem en_dnew : EvN tDNewK σ H (.dK []) := fun H1 e Q q p hp => q p _ hp (Ex.new hp) upd_same
theorem aq_asgN {i : Nat} (am : Am S H0 L H) (h : EvN te σ H o) (k : ∀ p H, Am S H0 ((p, o) :: L) H → tz D (σ.set i (some (.ref p))) H) : tSeq (tAsg te (gName i)) tz D σ H :=
  h H (Ex.refl H) _ fun p H1 hp e h1 => k p H1 (am.add hp e h1)
theorem a_fldN (i : Nat) (am : Am S H0 L H) (hi : L[i]? = some (g, .ins C dx fs)) (hv : EvN tv σ H o) (ho : ∀ H1, Ex H H1 → Ev ta σ H1 (.ref g)) (c : Cls K C) (n : NoAttr K C f) (hz : fs.length < 1000)
    (k : ∀ p H, Am S H0 ((p, o) :: L.set i (g, .ins C dx (putF f (.ref p) fs))) H → D.nx σ H) : sFld K ta tv f D σ H :=
  hv H (Ex.refl H) _ fun p H1 hp e h1 => ho H1 e H1 (Ex.refl H1) _ fun H2 e2 => by
    have am2 := (am.add hp e h1).ex e2
    exact ⟨g, C, dx, fs, rfl, am2.at (i + 1) hi, c, n, hz, k p _ (am2.set (i + 1) hi)⟩
theorem aq_fldN (i : Nat) (am : Am S H0 L H) (hi : L[i]? = some (g, .ins C dx fs)) (hv : EvN tv σ H o) (ho : ∀ H1, Ex H H1 → Ev ta σ H1 (.ref g)) (c : Cls K C) (n : NoAttr K C f) (hz : fs.length < 1000)
    (k : ∀ p H, Am S H0 ((p, o) :: L.set i (g, .ins C dx (putF f (.ref p) fs))) H → tz D σ H) : tSeq (sFld K ta tv f) tz D σ H := a_fldN (D := { D with nx := tz D }) i am hi hv ho c n hz k
theorem aq_par {i j : Nat} {x y : V} (am : Am S H0 L H) (h : EvA t σ H [x, y]) (k : ∀ H, Am S H0 L H → tz D ((σ.set i (some x)).set j (some y)) H) : tSeq (tPar i j t) tz D σ H :=
  h H (Ex.refl H) _ fun H1 e => ⟨x, y, rfl, k H1 (am.ex e)⟩
/-- list(range(n)) -/
theorem el_lrg {n : Nat} (h : Ev te σ H (.int n)) (hn : n ≤ 1000000) : EvL (tLstRg (tRg1 te)) σ H ((List.range n).map fun i => .int (i : Nat)) := fun H1 e Q q =>
  h H1 e _ fun H2 e2 => ⟨n, rfl, RgOk.of_le (by omega) (by omega) (by omega) (by omega), fun r hr => by
    have e3 : rgV 0 (n : Int) = (List.range n).map fun i => V.int (i : Nat) := by
      unfold rgV
      rw [Int.sub_zero, Int.toNat_natCast]
      refine List.map_congr_left fun i _ => ?_
      rw [Int.zero_add]
    rw [e3]
    exact q r _ (fresh_back e2 hr) (e2.trans (Ex.new hr)) upd_same⟩

/-! ### dicts -/
theorem e_dget {a : Addr} {kvs : List (Key × V)} {k : Key} (hd : Ev ta σ H (.ref a)) (hk : Ev te σ H (kV k)) (h : H a = some (.dK kvs)) (hv : valV kvs k = some v) : Ev (tDGet ta te) σ H v := fun H1 e Q q =>
  hd H1 e _ fun H2 e2 => hk H2 (e.trans e2) _ fun H3 e3 => ⟨a, v, rfl, by rw [← hv]; exact DGet.k (((e.trans e2).trans e3) _ _ h), q H3 (e2.trans e3)⟩
theorem e_din {a : Addr} {kvs : List (Key × V)} {k : Key} (hk : Ev te σ H (kV k)) (hd : Ev ta σ H (.ref a)) (h : H a = some (.dK kvs)) : Ev (tDIn te ta) σ H (.bl (valV kvs k).isSome) := fun H1 e Q q =>
  hk H1 e _ fun H2 e2 => hd H2 (e.trans e2) _ fun H3 e3 => ⟨a, _, rfl, DGet.k (((e.trans e2).trans e3) _ _ h), q H3 (e2.trans e3)⟩
theorem e_dnin {a : Addr} {kvs : List (Key × V)} {k : Key} (hk : Ev te σ H (kV k)) (hd : Ev ta σ H (.ref a)) (h : H a = some (.dK kvs)) : Ev (tDNotIn te ta) σ H (.bl (!(valV kvs k).isSome)) := fun H1 e Q q =>
  hk H1 e _ fun H2 e2 => hd H2 (e.trans e2) _ fun H3 e3 => ⟨a, _, rfl, DGet.k (((e.trans e2).trans e3) _ _ h), q H3 (e2.trans e3)⟩
theorem e_dget2 {tx : TE} {a : Addr} {kvs : List (Key × V)} {k : Key} {z : V} (hd : Ev ta σ H (.ref a)) (hk : Ev te σ H (kV k)) (hz : Ev tx σ H z) (h : H a = some (.dK kvs)) : Ev (tDGet2 ta te tx) σ H ((valV kvs k).getD z) := fun H1 e Q q =>
  hd H1 e _ fun H2 e2 => ⟨a, rfl, .inl ⟨kvs, .inl ((e.trans e2) _ _ h)⟩, hk H2 (e.trans e2) _ fun H3 e3 => hz H3 ((e.trans e2).trans e3) _ fun H4 e4 => ⟨_, DGet.k ((((e.trans e2).trans e3).trans e4) _ _ h), q H4 ((e2.trans e3).trans e4)⟩⟩
theorem a_dput (i : Nat) {a : Addr} {kvs : List (Key × V)} {k : Key} (am : Am S H0 L H) (hi : L[i]? = some (a, .dK kvs)) (hd : Ev ta σ H (.ref a)) (hk : Ev te σ H (kV k)) (hv : Ev tv σ H v) (hz : kvs.length < 100000)
    (kk : ∀ H, Am S H0 (L.set i (a, .dK (putK kvs k v))) H → D.nx σ H) : sDPut ta te tv D σ H :=
  hv H (Ex.refl H) _ fun H1 e1 => hd H1 e1 _ fun H2 e2 => hk H2 (e1.trans e2) _ fun H3 e3 => by
    have am3 := am.ex ((e1.trans e2).trans e3)
    exact ⟨a, _, rfl, DPut.k (am3.at i hi) (szL6 (by omega)), kk _ (am3.set i hi)⟩
theorem aq_dput (i : Nat) {a : Addr} {kvs : List (Key × V)} {k : Key} (am : Am S H0 L H) (hi : L[i]? = some (a, .dK kvs)) (hd : Ev ta σ H (.ref a)) (hk : Ev te σ H (kV k)) (hv : Ev tv σ H v) (hz : kvs.length < 100000)
    (kk : ∀ H, Am S H0 (L.set i (a, .dK (putK kvs k v))) H → tz D σ H) : tSeq (sDPut ta te tv) tz D σ H := a_dput (D := { D with nx := tz D }) i am hi hd hk hv hz kk
theorem aq_dpop (i : Nat) {a : Addr} {kvs : List (Key × V)} {k : Key} (am : Am S H0 L H) (hi : L[i]? = some (a, .dK kvs)) (hd : Ev ta σ H (.ref a)) (hk : Ev te σ H (kV k)) (hv : valV kvs k = some v)
    (kk : ∀ H, Am S H0 (L.set i (a, .dK (dropK kvs k))) H → tz D σ H) : tSeq (tDrop (tDPop1 ta te)) tz D σ H :=
  hd H (Ex.refl H) _ fun H1 e1 => by
    have am1 := am.ex e1
    exact ⟨a, rfl, .inl ⟨kvs, .inl (am1.at i hi)⟩, hk H1 e1 _ fun H2 e2 => by
      have am2 := am1.ex e2
      exact ⟨kvs, k, v, am2.at i hi, rfl, hv, kk _ (am2.set i hi)⟩⟩
end
end Mw
/-! values that are told by what they meet (EvQ), tuples, != of many kinds -/
namespace Mw
open PySem PySem.Spec PyProof.Rows L2 Evl
abbrev rTupS (K : PySem.W.Frag) : List V → Hp → VK → Prop := fun xs H Q => ∃ p ys, xs = [.ref p] ∧ ((SqL K H p ys ∧ ∀ l, H l = none → Q (.ref l) (upd H l (.tup ys))) ∨ (SqT K H p ys ∧ Q (.ref p) H))
/-- != of data, or of two dicts that are equal -/
def rNeX (K : PySem.W.Frag) : R2 := fun x y H Q => rNeD K x y H Q ∨ rNeDA x y H Q
theorem op_neX {X : Cx} (hu : X.A.units + 64 < cLine) : OpR X (compareOp .NotEq) (rNeX X.K) := by
  intro pins s σ H x y v u Q I rx ry h
  rcases h with h | h
  · exact op_neD hu pins s σ H x y v u Q I rx ry h
  · exact op_ne_dictA (by omega) pins s σ H x y v u Q I rx ry h
section
variable {K : PySem.W.Frag} {S : List Addr} {H0 H H1 : Hp} {L : List (Addr × HO)} {σ : L2.St} {ta : TA} {te tl ti tb : TE} {t : TT} {D : Ends} {tz : TS} {P : V → Hp → Prop}
theorem aq_asgE {i : Nat} (am : Am S H0 L H) (h : EvQ te σ H P) (k : ∀ v H, P v H → Am S H0 L H → tz D (σ.set i (some v)) H) : tSeq (tAsg te (gName i)) tz D σ H := h H (Ex.refl H) _ fun v H1 e p => k v H1 p (am.ex e)
theorem a_retE (am : Am S H0 L H) (h : EvQ te σ H P) (k : ∀ v H, P v H → Am S H0 L H → D.rt v H) : tRet te D σ H := h H (Ex.refl H) _ fun v H1 e p => k v H1 p (am.ex e)
theorem eq_if {b : Bool} (h : EvT t σ H b) (h1 : b = true → EvQ te σ H P) (h2 : b = false → EvQ tl σ H P) : EvQ (tIf t te tl) σ H P := fun H1 e Q q => h H1 e _ fun H2 e2 => by
  cases b with
  | true =>
    rw [if_pos rfl]
    exact h1 rfl H2 (e.trans e2) Q fun v H3 e3 => q v H3 (e2.trans e3)
  | false =>
    rw [if_neg Bool.false_ne_true]
    exact h2 rfl H2 (e.trans e2) Q fun v H3 e3 => q v H3 (e2.trans e3)
/-- an item of a display of many kinds -/
theorem eq_ixL {n j : Nat} (hm : ∀ v H H', Ex H H' → P v H → P v H') (h : EvQA ta σ H n P) (hi : Ev ti σ H (.int (j : Nat))) (hj : j < n) (hn : n ≤ 1000) : EvQ (tOp (rIxL K) (tLst ta) ti) σ H P := fun H1 e Q q =>
  h H1 e _ fun vs H2 e2 hl hv => ⟨sz6 (by omega), fun p hp => hi _ ((e.trans e2).trans (Ex.new hp)) _ fun H3 e3 => by
    have hh : H3 p = some (.lst vs) := e3 _ _ upd_same
    have hjl : j < vs.length := by omega
    exact ⟨p, vs, j, _, rfl, rfl, sq_of hh, atI_nat (List.getElem?_eq_getElem hjl), q _ H3 ((e2.trans (Ex.new hp)).trans e3) (hm _ _ _ ((Ex.new hp).trans e3) (hv _ (List.getElem_mem hjl)))⟩⟩
/-- [xs], xs new -/
theorem eq_nest {xs : List V} (h : EvL te σ H xs) (hp : ∀ p q H1, Ex H H1 → H1 p = some (.lst [.ref q]) → H1 q = some (.lst xs) → P (.ref p) H1) : EvQ (tLst (tCons te tNil)) σ H P := fun H1 e Q q =>
  h H1 e _ fun r H2 hr e2 h2 => ⟨sz6 (by show 1 ≤ _; decide), fun p hpn => q _ _ (e2.trans (Ex.new hpn)) (hp p r _ ((e.trans e2).trans (Ex.new hpn)) upd_same (Ex.new hpn _ _ h2))⟩
theorem eq_N {o : HO} (h : EvN te σ H o) (hp : ∀ p H1, Ex H H1 → H1 p = some o → P (.ref p) H1) : EvQ te σ H P := fun H1 e Q q => h H1 e Q fun p H2 _ e2 h2 => q _ H2 e2 (hp p H2 (e.trans e2) h2)
theorem en_disp1 {k : Int} {v : V} : EvN (tDisp [((tC (.int k)), (tC v))]) σ H (.dK [(.inl k, v)]) := fun H1 e Q q => fun p hp => ⟨upd_same, [(.inl k, v)], rfl, (by show 1 ≤ 15; decide), q p _ hp (Ex.mut (Ex.new hp) hp) upd_same⟩
theorem en_tup {p : Addr} {xs : List V} (h : Ev te σ H (.ref p)) (hs : SqL K H p xs) : EvN (tCB (rTupS K) (tCons te tNil)) σ H (.tup xs) := fun H1 e Q q =>
  h H1 e _ fun H2 e2 => ⟨p, xs, rfl, .inl ⟨ex_l (e.trans e2) hs, fun l hl => q l _ (fresh_back e2 hl) (e2.trans (Ex.new hl)) upd_same⟩⟩
theorem r_notB {a b : Bool} : RV rNotB (.bl a) (.bl b) H (.bl (!decide (a = b))) := fun H1 _ _ q => ⟨a, b, rfl, rfl, q H1 (Ex.refl H1)⟩
theorem r_isB {a b : Bool} : RV rIsB (.bl a) (.bl b) H (.bl (decide (a = b))) := fun H1 _ _ q => ⟨a, b, rfl, rfl, q H1 (Ex.refl H1)⟩
/-- xs + ys, the second one there -/
theorem el_catW {xs ys : List V} {p : Addr} (ha : EvL te σ H xs) (hb : Ev tb σ H (.ref p)) (h : H p = some (.lst ys)) (hz : xs.length + ys.length ≤ 1000000) : EvL (tOp rCat te tb) σ H (xs ++ ys) := fun H1 e Q q =>
  ha H1 e _ fun r H2 hr e2 h2 => hb H2 (e.trans e2) _ fun H3 e3 => ⟨r, p, xs, ys, rfl, rfl, e3 r _ h2, ((e.trans e2).trans e3) p _ h, sz6 hz, fun l hl => q l _ (fresh_back (e2.trans e3) hl) ((e2.trans e3).trans (Ex.new hl)) upd_same⟩
end
end Mw
/-! max and min with default= -/
namespace Mw
open PySem PySem.Spec PyProof.Rows L2 Evl
theorem foldl_min_spec : ∀ (ns : List Int) (n : Int), ns.foldl min n ∈ n :: ns ∧ ∀ y ∈ n :: ns, ns.foldl min n ≤ y
  | [], n => ⟨List.mem_cons_self .., fun y hy => by rw [List.mem_singleton.mp hy]; exact Int.le_refl _⟩
  | k :: r, n => by
    obtain ⟨h1, h2⟩ := foldl_min_spec r (min n k)
    rw [List.foldl_cons]
    refine ⟨?_, fun y hy => ?_⟩
    · rcases List.mem_cons.mp h1 with h | h
      · rw [h]
        rcases Int.le_total n k with c | c
        · rw [Int.min_eq_left c]; exact List.mem_cons_self ..
        · rw [Int.min_eq_right c]; exact List.mem_cons_of_mem _ (List.mem_cons_self ..)
      · exact List.mem_cons_of_mem _ (List.mem_cons_of_mem _ h)
    · have h0 := h2 _ (List.mem_cons_self ..)
      rcases List.mem_cons.mp hy with rfl | hy
      · omega
      · rcases List.mem_cons.mp hy with rfl | hy
        · omega
        · exact h2 y (List.mem_cons_of_mem _ hy)
theorem foldl_max_spec : ∀ (ns : List Int) (n : Int), ns.foldl max n ∈ n :: ns ∧ ∀ y ∈ n :: ns, y ≤ ns.foldl max n
  | [], n => ⟨List.mem_cons_self .., fun y hy => by rw [List.mem_singleton.mp hy]; exact Int.le_refl _⟩
  | k :: r, n => by
    obtain ⟨h1, h2⟩ := foldl_max_spec r (max n k)
    rw [List.foldl_cons]
    refine ⟨?_, fun y hy => ?_⟩
    · rcases List.mem_cons.mp h1 with h | h
      · rw [h]
        rcases Int.le_total n k with c | c
        · rw [Int.max_eq_right c]; exact List.mem_cons_of_mem _ (List.mem_cons_self ..)
        · rw [Int.max_eq_left c]; exact List.mem_cons_self ..
      · exact List.mem_cons_of_mem _ (List.mem_cons_of_mem _ h)
    · have h0 := h2 _ (List.mem_cons_self ..)
      rcases List.mem_cons.mp hy with rfl | hy
      · omega
      · rcases List.mem_cons.mp hy with rfl | hy
        · omega
        · exact h2 y (List.mem_cons_of_mem _ hy)
/-- max(xs, default=z), min(xs, default=z) of ints -/
def rMaxDI (K : PySem.W.Frag) : List V → List V → Hp → VK → Prop := fun xs zs H Q => ∃ (p : Addr) (ns : List Int) (z : V), xs = [.ref p] ∧ zs = [z] ∧ SqL K H p (ns.map V.int) ∧ (ns = [] → Q z H) ∧ ∀ m, m ∈ ns → (∀ y ∈ ns, y ≤ m) → Q (.int m) H
def rMinDI (K : PySem.W.Frag) : List V → List V → Hp → VK → Prop := fun xs zs H Q => ∃ (p : Addr) (ns : List Int) (z : V), xs = [.ref p] ∧ zs = [z] ∧ SqL K H p (ns.map V.int) ∧ (ns = [] → Q z H) ∧ ∀ m, m ∈ ns → (∀ y ∈ ns, m ≤ y) → Q (.int m) H
theorem alike_ints (ns : List Int) : PySem.W.AlikeAll (ns.map PyData.int) := ⟨fun x hx y hy => by
  obtain ⟨a, _, rfl⟩ := List.mem_map.mp hx
  obtain ⟨b, _, rfl⟩ := List.mem_map.mp hy
  rfl, fun x hx => by
  obtain ⟨a, _, rfl⟩ := List.mem_map.mp hx
  exact fun z => by cases z⟩
theorem cr_maxDI {X : Cx} (hc : X.calm = true) (hu : X.A.units + 64 < cLine) : CallRK X (.builtin "max") [Str.ofString "default"] (rMaxDI X.K) := by
  intro pins s σ H xs zs us ws Q I rx rz h
  obtain ⟨p, ns, z, rfl, rfl, hs, h0, h1⟩ := h
  obtain ⟨u, rfl, ru⟩ := vals1 rz
  obtain ⟨its, rv, hl, _⟩ := I.list hs
  rw [Vals.ref1 rx]
  obtain ⟨as, hr⟩ := Dp.readsAll I _ _ _ (dpAll_ints ns) rv
  refine PySem.W.max_list_default (I.ok.hd hc) hl.isList (by simpa using hr) (alike_ints ns) (by rw [depth_ints]; omega) (fun hn h' tk hk => ?_) fun y ys i v h' tk bs hxs hv hrd hk => ?_
  · exact ⟨z, H, I.kept hk, ru, h0 (List.map_eq_nil_iff.mp hn)⟩
  · cases ns with
    | nil => cases hxs
    | cons n r =>
      rw [List.map_cons] at hxs
      obtain ⟨rfl, rfl⟩ := List.cons.inj hxs
      rw [PySem.W.maxD_ints] at hrd
      cases hrd with
      | int j t =>
        obtain ⟨m1, m2⟩ := foldl_max_spec r n
        exact ⟨.int _, H, I.kept hk, ⟨t, rfl⟩, h1 _ m1 m2⟩
theorem cr_minDI {X : Cx} (hc : X.calm = true) (hu : X.A.units + 64 < cLine) : CallRK X (.builtin "min") [Str.ofString "default"] (rMinDI X.K) := by
  intro pins s σ H xs zs us ws Q I rx rz h
  obtain ⟨p, ns, z, rfl, rfl, hs, h0, h1⟩ := h
  obtain ⟨u, rfl, ru⟩ := vals1 rz
  obtain ⟨its, rv, hl, _⟩ := I.list hs
  rw [Vals.ref1 rx]
  obtain ⟨as, hr⟩ := Dp.readsAll I _ _ _ (dpAll_ints ns) rv
  refine PySem.W.min_list_default (I.ok.hd hc) hl.isList (by simpa using hr) (alike_ints ns) (by rw [depth_ints]; omega) (fun hn h' tk hk => ?_) fun y ys i v h' tk bs hxs hv hrd hk => ?_
  · exact ⟨z, H, I.kept hk, ru, h0 (List.map_eq_nil_iff.mp hn)⟩
  · cases ns with
    | nil => cases hxs
    | cons n r =>
      rw [List.map_cons] at hxs
      obtain ⟨rfl, rfl⟩ := List.cons.inj hxs
      rw [PySem.W.minD_ints] at hrd
      cases hrd with
      | int j t =>
        obtain ⟨m1, m2⟩ := foldl_min_spec r n
        exact ⟨.int _, H, I.kept hk, ⟨t, rfl⟩, h1 _ m1 m2⟩
/-- min(xs, default=z) of texts -/
def rMinDS (K : PySem.W.Frag) : List V → List V → Hp → VK → Prop := fun xs zs H Q => ∃ (p : Addr) (ls : List Tx) (z : V), xs = [.ref p] ∧ zs = [z] ∧ SqL K H p (ls.map tS) ∧ (ls = [] → Q z H) ∧ ∀ w, w ∈ ls → (∀ y ∈ ls, ¬ y < w) → Q (tS w) H
theorem alike_texts (ls : List Tx) : PySem.W.AlikeAll (ls.map fun l => PyData.str (T l)) := ⟨fun x hx y hy => by
  obtain ⟨a, _, rfl⟩ := List.mem_map.mp hx
  obtain ⟨b, _, rfl⟩ := List.mem_map.mp hy
  rfl, fun x hx => by
  obtain ⟨a, _, rfl⟩ := List.mem_map.mp hx
  exact fun z => by cases z⟩
theorem minD_texts : ∀ (ls : List Tx) (l : Tx), ∃ w, PySem.W.minD (.str (T l)) (ls.map fun l => PyData.str (T l)) = .str (T w) ∧ w ∈ l :: ls ∧ ∀ y ∈ l :: ls, ¬ y < w
  | [], l => ⟨l, rfl, List.mem_cons_self .., fun y hy => by rw [List.mem_singleton.mp hy]; exact List.lt_irrefl _⟩
  | k :: r, l => by
    by_cases c : k < l
    · obtain ⟨w, h1, h2, h3⟩ := minD_texts r k
      refine ⟨w, ?_, List.mem_cons_of_mem _ h2, fun y hy => ?_⟩
      · rw [← h1]
        unfold PySem.W.minD
        rw [List.map_cons, List.foldl_cons]
        rw [show PySem.W.dataLt (.str (T k)) (.str (T l)) = true by rw [PySem.W.dataLt_str, T_cps, T_cps]; exact decide_eq_true c, if_pos rfl]
      · rcases List.mem_cons.mp hy with rfl | hy
        · exact fun z => h3 k (List.mem_cons_self ..) (List.lt_trans c z)
        · exact h3 y hy
    · obtain ⟨w, h1, h2, h3⟩ := minD_texts r l
      refine ⟨w, ?_, ?_, fun y hy => ?_⟩
      · rw [← h1]
        unfold PySem.W.minD
        rw [List.map_cons, List.foldl_cons]
        rw [show PySem.W.dataLt (.str (T k)) (.str (T l)) = false by rw [PySem.W.dataLt_str, T_cps, T_cps]; exact decide_eq_false c, if_neg Bool.false_ne_true]
      · rcases List.mem_cons.mp h2 with h | h
        · rw [h]; exact List.mem_cons_self ..
        · exact List.mem_cons_of_mem _ (List.mem_cons_of_mem _ h)
      · rcases List.mem_cons.mp hy with rfl | hy
        · exact h3 y (List.mem_cons_self ..)
        · rcases List.mem_cons.mp hy with rfl | hy
          · have hw := h3 l (List.mem_cons_self ..)
            intro z
            have c' := List.not_lt.mp c
            have hw' := List.not_lt.mp hw
            exact absurd z (List.not_lt.mpr (List.le_trans hw' c'))
          · exact h3 y (List.mem_cons_of_mem _ hy)
theorem cr_minDS {X : Cx} (hc : X.calm = true) (hu : X.A.units + 64 < cLine) : CallRK X (.builtin "min") [Str.ofString "default"] (rMinDS X.K) := by
  intro pins s σ H xs zs us ws Q I rx rz h
  obtain ⟨p, ls, z, rfl, rfl, hs, h0, h1⟩ := h
  obtain ⟨u, rfl, ru⟩ := vals1 rz
  obtain ⟨its, rv, hl, _⟩ := I.list hs
  rw [Vals.ref1 rx]
  obtain ⟨as, hr⟩ := Dp.readsAll I _ _ _ (dpAll_texts ls) rv
  refine PySem.W.min_list_default (I.ok.hd hc) hl.isList (by simpa using hr) (alike_texts ls) (by rw [depth_texts]; omega) (fun hn h' tk hk => ?_) fun y ys i v h' tk bs hxs hv hrd hk => ?_
  · exact ⟨z, H, I.kept hk, ru, h0 (List.map_eq_nil_iff.mp hn)⟩
  · cases ls with
    | nil => cases hxs
    | cons l r =>
      rw [List.map_cons] at hxs
      obtain ⟨rfl, rfl⟩ := List.cons.inj hxs
      obtain ⟨w, e, m1, m2⟩ := minD_texts r l
      rw [e] at hrd
      cases hrd with
      | str j t => exact ⟨tS w, H, I.kept hk, ⟨t, rfl⟩, h1 _ m1 m2⟩
section
variable {K : PySem.W.Frag} {σ : L2.St} {H : Hp} {te tz : TE} {z : V}
theorem e_maxDI {p : Addr} {ns : List Int} {v : V} (h : Ev te σ H (.ref p)) (hs : SqL K H p (ns.map V.int)) (hz : Ev tz σ H z) (h0 : ns = [] → z = v) (h1 : ∀ m, m ∈ ns → (∀ y ∈ ns, y ≤ m) → V.int m = v) : Ev (tCKw (rMaxDI K) (tCons te tNil) (tCons tz tNil)) σ H v := fun H1 e Q q =>
  h H1 e _ fun H2 e2 => hz H2 (e.trans e2) _ fun H3 e3 => ⟨p, ns, z, rfl, rfl, ex_l ((e.trans e2).trans e3) hs, fun c => by rw [h0 c]; exact q H3 (e2.trans e3), fun m m1 m2 => by rw [h1 m m1 m2]; exact q H3 (e2.trans e3)⟩
theorem e_minDIN {ns : List Int} {v : V} (h : EvL te σ H (ns.map V.int)) (hz : Ev tz σ H z) (h0 : ns = [] → z = v) (h1 : ∀ m, m ∈ ns → (∀ y ∈ ns, m ≤ y) → V.int m = v) : Ev (tCKw (rMinDI K) (tCons te tNil) (tCons tz tNil)) σ H v := fun H1 e Q q =>
  h H1 e _ fun p H2 _ e2 h2 => hz H2 (e.trans e2) _ fun H3 e3 => ⟨p, ns, z, rfl, rfl, sq_of (e3 _ _ h2), fun c => by rw [h0 c]; exact q H3 (e2.trans e3), fun m m1 m2 => by rw [h1 m m1 m2]; exact q H3 (e2.trans e3)⟩
theorem e_minDS {p : Addr} {ls : List Tx} {v : V} (h : Ev te σ H (.ref p)) (hs : SqL K H p (ls.map tS)) (hz : Ev tz σ H z) (h0 : ls = [] → z = v) (h1 : ∀ w, w ∈ ls → (∀ y ∈ ls, ¬ y < w) → tS w = v) : Ev (tCKw (rMinDS K) (tCons te tNil) (tCons tz tNil)) σ H v := fun H1 e Q q =>
  h H1 e _ fun H2 e2 => hz H2 (e.trans e2) _ fun H3 e3 => ⟨p, ls, z, rfl, rfl, ex_l ((e.trans e2).trans e3) hs, fun c => by rw [h0 c]; exact q H3 (e2.trans e3), fun m m1 m2 => by rw [h1 m m1 m2]; exact q H3 (e2.trans e3)⟩
end
end Mw
/-! len(set(text)) -/
namespace Mw
open PySem PySem.Spec PyProof.Rows L2 Evl
/-- the unlike signs, by their first places -/
def stepM (σ : List Nat) (c : Nat) : List Nat := if σ.any (· == c) then σ else σ ++ [c]
def metN (cs : List Nat) : List Nat := cs.foldl stepM []
def sg (c : Nat) : Str := ⟨#[c]⟩
theorem sg_inj {a b : Nat} (h : sg a = sg b) : a = b := by
  have q2 : [a] = [b] := congrArg (fun y : Str => y.cps.toList) h
  exact (List.cons.inj q2).1
def inM (σ : List Nat) (k : Str) : Bool := σ.any fun c => decide (sg c = k)
theorem inM_sg (σ : List Nat) (c : Nat) : inM σ (sg c) = σ.any (· == c) := by
  unfold inM
  rw [Bool.eq_iff_iff, List.any_eq_true, List.any_eq_true]
  exact ⟨fun ⟨x, hx, h⟩ => ⟨x, hx, by rw [sg_inj (of_decide_eq_true h)]; exact beq_self_eq_true _⟩, fun ⟨x, hx, h⟩ => ⟨x, hx, by rw [eq_of_beq h]; exact decide_eq_true rfl⟩⟩
theorem stepM_any (σ : List Nat) (c : Nat) (k : Str) : inM (stepM σ c) k = (inM σ k || decide (k = sg c)) := by
  unfold stepM
  by_cases h : σ.any (· == c) = true
  · rw [if_pos h]
    by_cases e : k = sg c
    · subst e
      rw [inM_sg, h]; rfl
    · rw [decide_eq_false e, Bool.or_false]
  · rw [if_neg h]
    unfold inM
    rw [List.any_append]
    congr 1
    show (decide (sg c = k) || false) = decide (k = sg c)
    rw [Bool.or_false]
    exact decide_eq_decide.mpr eq_comm
theorem stepM_length (σ : List Nat) (c : Nat) : (stepM σ c).length = if inM σ (sg c) then σ.length else σ.length + 1 := by
  rw [inM_sg]
  unfold stepM
  split <;> simp
theorem metN_take (cs : List Nat) {i : Nat} (h : i < cs.length) : metN (cs.take (i + 1)) = stepM (metN (cs.take i)) cs[i] := by
  unfold metN
  rw [List.take_succ_eq_append_getElem h, List.foldl_append]; rfl
theorem metN_le (cs : List Nat) : (metN cs).length ≤ cs.length := by
  have : ∀ (cs σ : List Nat), (cs.foldl stepM σ).length ≤ σ.length + cs.length := by
    intro cs
    induction cs with
    | nil => intro σ; exact Nat.le_refl _
    | cons c r ih =>
      intro σ
      have h1 := ih (stepM σ c)
      have h2 := stepM_length σ c
      rw [List.foldl_cons, List.length_cons]
      split at h2 <;> omega
  have h := this cs []
  unfold metN
  simpa using h
section
variable {prog : Program} {w : World} {A : Around} {R : Result → Shared → Prop} {I : Addr} {fp wr : List Addr} {G : Array GenState → Array GenState → Prop} {n : Nat} {P : Nat → Value → Prop} {St : Nat → Shared → Prop}
theorem loopTx (W : WalksS prog w A.in1 I fp wr G n P St) (S : Addr) (hSf : S ∉ fp) (cs : List Nat) (hsz : cs.length = n) (hb : n + 1 < scanBound)
    (hval : ∀ i v, P i v → ∃ t, v = .str (sg (cs.getD i 0)) t) :
    ∀ (k i : Nat) (s : Shared), n - i = k → i ≤ n → St i s →
      s.heap.SetOf (PySem.strKind prog w) S (inM (metN (cs.take i))) (metN (cs.take i)).length →
      (∀ s', Moved (S :: wr) G s s' → s'.heap.SetOf (PySem.strKind prog w) S (inM (metN (cs.take n))) (metN (cs.take n)).length → R (.ok (.ret .none)) s') →
      codeAny (model prog w) A (.builtin "set.update.loop" ⟨[.ref S, .ref I], []⟩) R s := by
  have hSw : S ∉ wr := fun h => hSf (W.sub _ h)
  have hsub : ∀ b ∈ wr, b ∈ S :: wr := fun b hb => List.mem_cons_of_mem _ hb
  intro k
  induction k with
  | zero =>
    intro i s hk hi hst hS hR
    have hin : i = n := by omega
    subst hin
    refine codeAny_builtin PyProof.Rows.F.entry_set_update_loop ?_
    rw [Around.under_plainId PyProof.Rows.F.plain_set_update_loop _]
    show wpAny _ A.in1 (pyNext (.ref I) >>= _) _ _ s
    refine wpAny_bind (W.done s _ _ hst fun s' hm => ?_)
    show wpAny _ A.in1 (ret Value.none) _ _ s'
    exact wpAny_pure (hR s' (hm.mono hsub) (by
      obtain ⟨o, es, ep, t, ho, rest⟩ := hS
      exact ⟨o, es, ep, t, hm.heap S _ hSw ho, rest⟩))
  | succ k ih =>
    intro i s hk hi hst hS hR
    have hlt : i < n := by omega
    refine codeAny_builtin PyProof.Rows.F.entry_set_update_loop ?_
    rw [Around.under_plainId PyProof.Rows.F.plain_set_update_loop _]
    show wpAny _ A.in1 (pyNext (.ref I) >>= _) _ _ s
    refine wpAny_bind (W.item i s _ _ hlt hst fun v s' hP hst' hm => ?_)
    obtain ⟨t, rfl⟩ := hval i v hP
    have hS' : s'.heap.SetOf (PySem.strKind prog w) S (inM (metN (cs.take i))) (metN (cs.take i)).length := by
      obtain ⟨o, es, ep, tb, ho, rest⟩ := hS
      exact ⟨o, es, ep, tb, hm.heap S _ hSw ho, rest⟩
    show wpAny _ A.in1 (holding [Value.str (sg (cs.getD i 0)) t] (setAdd S (.str (sg (cs.getD i 0)) t)) >>= _) _ _ s'
    refine wpAny_bind (wpAny_holding ?_)
    unfold setAdd
    refine wpAny_holding ?_
    refine wpAny_bind ((PySem.strKind prog w).pyHash (k := sg (cs.getD i 0)) (strKind_is _ _ _ _) ?_)
    have hroom : (metN (cs.take i)).length + 1 < scanBound := by
      have h1 := metN_le (cs.take i)
      rw [List.length_take] at h1
      omega
    refine wpAny_setAddHashed_of (knd := PySem.strKind prog w) (s := { s' with toks := s'.toks + 1 }) (strKind_is _ _ _ _) rfl hS' hroom fun h' hsb hS2 => ?_
    have hget : cs.getD i 0 = cs[i]'(by omega) := by
      rw [List.getD_eq_getElem?_getD, List.getElem?_eq_getElem (by omega)]; rfl
    have hSi : h'.SetOf (PySem.strKind prog w) S (inM (metN (cs.take (i + 1)))) (metN (cs.take (i + 1))).length := by
      rw [metN_take cs (by omega), ← hget]
      exact SetOf_congr hS2 (fun k' => (stepM_any _ _ k').symm) (stepM_length _ _).symm
    refine wpAny_pure ⟨plainId_quiet PyProof.Rows.F.plain_set_update_loop _, ih (i + 1) _ (by omega) hlt (W.frame _ s' _ _ hst' (Nat.le_succ _) fun b hb o e => ?_) hSi fun s'' hm'' hS'' => ?_⟩
    · rw [hsb.2 b (fun h : b = S => hSf (by rw [← h]; exact hb))]; exact e
    · refine hR s'' (Moved.trans W.gtrans ((hm.mono hsub).then_heap (Nat.le_succ _) fun b o hb e => ?_) hm'') hS''
      rw [hsb.2 b (fun h : b = S => hb (by rw [h]; exact List.mem_cons_self))]; exact e
end
section
variable {prog : Program} {w : World} {A : Around} {E : Value → Shared → Prop} {s : Shared}
set_option maxHeartbeats 6400000 in
theorem call_set_text {x : Str} {t : Tok} {Q : Value → Shared → Prop} (hh : A.handled = none) (hb : x.cps.size + 1 < scanBound)
    (h : ∀ (h' : Heap) (tk : Nat), h'.SetOf (PySem.strKind prog w) s.heap.objs.size (inM (metN x.cps.toList)) (metN x.cps.toList).length →
      (∀ b o, b < s.heap.objs.size → s.heap.get? b = some o → h'.get? b = some o) → Q (.ref s.heap.objs.size) { s with heap := h', toks := tk }) :
    wpAny (model prog w) A (call (.type "set") [.str x t]) Q E s := by
  obtain ⟨c, tl, hmro⟩ := PySem.F.called_set.mro
  have hmade := PySem.F.called_set.made
  have hsub := PySem.F.called_set.sub
  refine wpAny_call (codeAny_of_tree ?_)
  show wpAny _ _ (callAny (.type "set") _) _ _ _
  refine wpAny_pure ⟨Code.quiet_builtin _ (by decide +kernel), codeAny_builtin PySem.F.entry_type_call ?_⟩
  rw [Around.under_plain (weight_type_call_type "set" [.str x t] []) rfl]
  have h1 := PySem.F.called_set.notType
  have h2 := PySem.F.called_set.canCreate
  have hct := PySem.F.typeCall_set_1 (.str x t)
  repeat (any_goals (first | assumption | wp_step))
  refine codeAny_mono (code_set_new_1 (.str x t) (E := E) (Q₁ := fun obj s₁ => ∃ led : Bool, obj = .ref s.heap.objs.size ∧ s₁ = { s with heap := s.heap.push { cls := .type "set", dict := none, data := .set #[] 0 (.fresh 0 0 led) } }) fun led => ⟨led, rfl, rfl⟩) fun r s₁ hr => ?_
  cases r with
  | error e => exact hr
  | ok fl =>
    cases fl with
    | ret obj =>
      obtain ⟨led, rfl, rfl⟩ := hr
      have hS : (s.heap.push { cls := .type "set", dict := none, data := .set #[] 0 (.fresh 0 0 led) }).get? s.heap.objs.size = some { cls := .type "set", dict := none, data := .set #[] 0 (.fresh 0 0 led) } := Heap.get?_push_size _ rfl
      have hT : Shared.TypeIs { s with heap := s.heap.push { cls := .type "set", dict := none, data := .set #[] 0 (.fresh 0 0 led) } } (.ref s.heap.objs.size) "set" := ⟨_, hS, rfl⟩
      have hli := PySem.F.called_set.init.lookup
      have hbi := PySem.F.called_set.init.bind (.ref s.heap.objs.size)
      repeat (any_goals (first | assumption | wp_step))
      refine codeAny_mono (codeAny_call_builtin (R := wants (fun r s₂ => r = .none ∧ ∃ h' tk, s₂ = { s with heap := h', toks := tk } ∧
          h'.SetOf (PySem.strKind prog w) s.heap.objs.size (inM (metN x.cps.toList)) (metN x.cps.toList).length ∧
          (∀ b o, b < s.heap.objs.size → s.heap.get? b = some o → h'.get? b = some o)) E) PySem.F.called_set.init.plain PySem.F.entry_set_init (check_set_init_1 hT ?_)) fun r₂ s₂ hr₂ => ?_
      · have hsls := PySem.F.sub_str_set
        have hslf := PySem.F.sub_str_frozenset
        unfold Builtin.«set.__init__» noKeywords Builtin.Frozenset.updateFrom
        generalize hPI : pyIter = PI
        wp_walk
        subst hPI
        refine wpAny_pyIter_str fun o St hW hSt => ?_
        refine wpAny_bind (wpAny_runValue ?_)
        have hh3 : A.in1.in1.in1.handled = none := by simp [hh]
        have hsz0 : (s.heap.push { cls := .type "set", dict := none, data := .set #[] 0 (.fresh 0 0 led) }).objs.size = s.heap.objs.size + 1 := Heap.size_push _ _
        have hSf : s.heap.objs.size ∉ [(s.heap.push { cls := .type "set", dict := none, data := .set #[] 0 (.fresh 0 0 led) }).objs.size] := by
          rw [hsz0]; simp only [List.mem_singleton]
          exact Nat.ne_of_lt (Nat.lt_succ_self _)
        have hlen : x.cps.toList.length = x.cps.size := Array.length_toList
        have hval : ∀ (i : Nat) (v : Value), SignAt x i v → ∃ t, v = .str (sg (x.cps.toList.getD i 0)) t := fun i v hv => by
          obtain ⟨c, u, hc, rfl⟩ := hv
          refine ⟨u, ?_⟩
          rw [List.getD_eq_getElem?_getD, Array.getElem?_toList, hc]; rfl
        refine loopTx ((hW _ hh3).toS) s.heap.objs.size hSf x.cps.toList hlen hb hval (x.cps.size - 0) 0 _ (by omega) (Nat.zero_le _) hSt ?hS0 ?hR
        case hS0 =>
          have hget : ((s.heap.push { cls := .type "set", dict := none, data := .set #[] 0 (.fresh 0 0 led) }).push o).get? s.heap.objs.size
              = some { cls := .type "set", dict := none, data := .set #[] 0 (.fresh 0 0 led) } := Heap.get?_push_of_some _ hS
          exact PyProof.Rows.SetOf_congr ((PyProof.Rows.setObjOf_fresh (knd := PySem.strKind prog w) led).setOf hget (by unfold scanBound; omega)) (fun _ => rfl) rfl
        case hR =>
          intro s' hm hS'
          rw [← hlen, List.take_length] at hS'
          obtain ⟨h', g', d', tk', os'⟩ := s'
          have eg : g' = s.gens := hm.gens
          have ed : d' = s.drawn := hm.drawn
          have eo : os' = s.os := hm.os
          subst eg; subst ed; subst eo
          show wpAny _ _ _ _ _ _
          refine wpAny_pure ?_
          show wpAny _ _ (ret Value.none) _ _ _
          refine wpAny_pure ⟨rfl, h', tk', rfl, hS', fun b ob hb e => ?_⟩
          have hb1 : b ≠ s.heap.objs.size := Nat.ne_of_lt hb
          have hb2 : b ≠ (s.heap.push { cls := .type "set", dict := none, data := .set #[] 0 (.fresh 0 0 led) }).objs.size := by
            rw [hsz0]; exact Nat.ne_of_lt (Nat.lt_succ_of_lt hb)
          exact hm.heap b ob (by simp only [List.mem_cons, List.mem_singleton, List.not_mem_nil, or_false, not_or]; exact ⟨hb1, hb2⟩) (Heap.get?_push_of_some _ (Heap.get?_push_of_some _ e))
      · cases r₂ with
        | error e => exact hr₂
        | ok fl₂ =>
          cases fl₂ with
          | ret r =>
            obtain ⟨rfl, h', tk, rfl, hS', hk'⟩ := hr₂
            repeat (any_goals (first | assumption | wp_step))
            exact h _ _ hS' hk'
          | _ => exact hr₂.elim
    | _ => exact hr.elim
end
end Mw
/-! len(set(text)): the rule -/
namespace Mw
open PySem PySem.Spec PyProof.Rows L2 Evl
def tLenSetT (ta : TE) : TE := fun σ H Q => ta σ H fun x H1 => ∃ l : Tx, x = tS l ∧ l.length ≤ 1000 ∧ Q (.int ((metN l).length : Nat)) H1
theorem pe_lenSetT {X : Cx} {a : Expr} {ta : TE} {p p2 q pos : Pos} (hg : Gl X "len") (hm : X.mg "len" = none) (hg2 : Gl X "set") (hm2 : X.mg "set" = none) (ha : PE X a ta) (hc : X.calm = true := by rfl)
    (na : starEach [a] X.env = (false, eval a X.env) :: starEach [] X.env := by rfl) : PE X (.Call (.Name "len" p) [.Call (.Name "set" p2) [a] [] q] [] pos) (tLenSetT ta) := by
  refine ⟨fun pins s σ H Q I h => ?_⟩
  refine Call_ (ld_blt I hg hm boot_len ?_)
  refine PyProof.Rows.callWith_builtin1 (PyProof.Rows.args_cons ?_ rfl) rfl rfl
  refine Call_ (ld_blt I hg2 hm2 boot_set ?_)
  refine PyProof.Rows.callWith_type1 (PyProof.Rows.args_cons (thn (ha.run pins s σ H _ I h) fun v s1 ⟨x, H1, I1, r1, q1⟩ => PyProof.Rows.args_nil ?_) na) na rfl
  obtain ⟨l, rfl, hl, q1⟩ := q1
  obtain ⟨t, rfl⟩ := (show ∃ t, v = Value.str (T l) t from r1)
  have hsz : (T l).cps.size = l.length := by simp [T]
  refine call_set_text (I1.ok.hd hc) (by rw [hsz]; unfold scanBound; omega) fun h' tk hS hk => ?_
  refine PyProof.Rows.args_nil ?_
  rw [T_cps] at hS
  have hle := metN_le l
  obtain ⟨o, es, ep, tb, ho, hex, hd, _, _, _, hf, hn⟩ := hS
  have I2 : Inv X pins σ H1 { s1 with heap := h', toks := tk } := I1.kept fun b o e => hk b o (Heap.lt_size e) e
  exact call_len_set ho hex hd hf (by rw [hn] <;> omega) ⟨.int ((metN l).length : Nat), H1, I2.tok _, ⟨_, by rw [hn]⟩, q1⟩
theorem e_lenSetT {σ : L2.St} {H : Hp} {te : TE} {l : Tx} (h : Ev te σ H (tS l)) (hl : l.length ≤ 1000) : Ev (tLenSetT te) σ H (.int ((metN l).length : Nat)) := fun H1 e Q q =>
  h H1 e _ fun H2 e2 => ⟨l, rfl, hl, q H2 e2⟩
end Mw
/-! loops over new lists, calls within a try, keys of dicts, sorted pairs, lists that shrink -/
namespace Mw
open PySem PySem.Spec PyProof.Rows L2 Evl

section
variable {K : PySem.W.Frag} {S : List Addr} {H0 H H1 : Hp} {L : List (Addr × HO)} {σ : L2.St} {ta : TA} {te tl tb to ti tx : TE} {t : TT} {D : Ends} {tu tz : TS} {v x y z : V} {vs : List V}
/-- over a new list, which stays at the ledger's head -/
theorem a_forN2 {α : Type} {f : α → V} {ns : List α} {j : Nat} (Iv : Addr → List α → L2.St → Hp → Prop) (am : Am S H0 L H) (h : EvL te σ H (ns.map f)) (h0 : ∀ p H, Am S H0 ((p, .lst (ns.map f)) :: L) H → Iv p [] σ H)
    (hP : ∀ p pre σ' H', Iv p pre σ' H' → H' p = some (.lst (ns.map f)))
    (hs : ∀ p pre n post σ' H', ns = pre ++ n :: post → Iv p pre σ' H' → tu { D with nx := Iv p (pre ++ [n]), ct := Iv p (pre ++ [n]), bk := D.nx } (σ'.set j (some (f n))) H')
    (hd : ∀ p σ' H', Iv p ns σ' H' → D.nx σ' H') : tFor (iList K te) (gName j) tu D σ H :=
  h H (Ex.refl H) _ fun p H2 hp e2 h2 => by
    have z := a_for (σ := σ) (H := H2) (D := D) (j := j) (tu := tu) (wi := iList K (tC (.ref p))) (f := f) (ns := ns) (Iv p) (am.add hp e2 h2) (wk_list (K := K) ev_c (sq_of h2)) (h0 p) (fun pre σ' H' hi => sq_of (hP _ _ _ _ hi)) (hs p) (hd p)
    exact z
theorem aq_forN2 {α : Type} {f : α → V} {ns : List α} {j : Nat} (Iv : Addr → List α → L2.St → Hp → Prop) (am : Am S H0 L H) (h : EvL te σ H (ns.map f)) (h0 : ∀ p H, Am S H0 ((p, .lst (ns.map f)) :: L) H → Iv p [] σ H)
    (hP : ∀ p pre σ' H', Iv p pre σ' H' → H' p = some (.lst (ns.map f)))
    (hs : ∀ p pre n post σ' H', ns = pre ++ n :: post → Iv p pre σ' H' → tu { D with nx := Iv p (pre ++ [n]), ct := Iv p (pre ++ [n]), bk := tz D } (σ'.set j (some (f n))) H')
    (hd : ∀ p σ' H', Iv p ns σ' H' → tz D σ' H') : tSeq (tFor (iList K te) (gName j) tu) tz D σ H := a_forN2 (D := { D with nx := tz D }) Iv am h h0 hP hs hd
/-- a call within a try -/
theorem e_callSVX {R : List V → Hp → V → Prop} {B : List V → Hp → Addr → Prop} {E : L2.St → XK} (h : EvA ta σ H vs) (hR : ∀ H1, Ex H H1 → R vs H1 z) : Ev (tCallS (spVX R B) E ta) σ H z := fun H1 e Q q =>
  h H1 e _ fun H2 e2 => .inl ⟨z, hR H2 (e.trans e2), fun H3 e3 => q H3 (e2.trans e3)⟩
theorem aq_tryA {C ME : Addr} {sp : Sp} {i j l : Nat} (am : Am S H0 L H) (h : EvA ta σ H vs) (hs : SpX sp vs H C) (xm : PySem.W.exmOne K (.ref C) (.ref ME) = some true)
    (k : ∀ a H, Am S H0 ((a, ExK C a) :: L) H → tz D ((σ.set j (some (.ref a))).set i none) H) : tSeq (tTryK K ME i j fun W => tAsg (tCallS sp (WE W) ta) (gName l)) tz D σ H :=
  h H (Ex.refl H) _ fun H1 e1 => hs H1 e1 _ _ fun H2 e2 => ⟨C, rfl, rfl, xm, fun a ha => k a _ ((am.ex (e1.trans e2)).new1 ha)⟩

/-! ### the keys of a dict -/
theorem wk_frz {d : Addr} {o : Obj} {kvs : List (Key × V)} (h : H d = some (.frz o (.dK kvs))) {te : TE} (he : Ev te σ H (.ref d)) : Wk (iKeys te) σ H (fun H => H d = some (.frz o (.dK kvs))) (kvs.map fun e => kV e.1) := fun H1 e R q =>
  he H1 e _ fun H2 e2 => ⟨d, o, rfl, .inl ⟨kvs, (e.trans e2) _ _ h, q _ H2 e2 fun H' h' => ⟨fun i x hx => by
    rw [List.getElem?_map] at hx
    cases hi : kvs[i]? with
    | none => rw [hi] at hx; cases hx
    | some p =>
      rw [hi] at hx
      refine ⟨⟨h', (List.getElem?_eq_some_iff.mp hi).1⟩, fun y H'' hy => ⟨hy.1, ?_⟩⟩
      obtain ⟨k, w, e1, e2⟩ := hy.2
      rw [hi] at e1
      cases e1
      exact e2.trans (Option.some.inj hx), h', by rw [List.length_map]; exact Nat.le_refl _⟩⟩⟩
/-- the expression looks at a dict that is locked meanwhile -/
theorem el_lock {d : Addr} {kvs : List (Key × V)} {xs : List V} (h : H d = some (.dK kvs)) (he : ∀ H1, Ex H H1 → ∀ o, EvL te σ (upd H1 d (.frz o (.dK kvs))) xs) : EvL (tLockE te) σ H xs := fun H1 e Q q => by
  have hd := e _ _ h
  refine ⟨d, .dK kvs, hd, trivial, fun od => he H1 e od _ (Ex.refl _) _ fun p H2 hp e2 h2 => ⟨e2 _ _ upd_same, ?_⟩⟩
  have hne : p ≠ d := fun z => by rw [z, upd_same] at hp; cases hp
  rw [upd_ne hne] at hp
  refine q p _ hp (fun a o ha => ?_) (by rw [upd_ne hne]; exact h2)
  by_cases c : a = d
  · subst c; rw [hd] at ha; cases ha; exact upd_same
  · rw [upd_ne c]
    exact e2 a o (by rw [upd_ne c]; exact ha)
end

/-! ### for x in a new dict -/
def iKeysN (td : TE) : TI := fun σ H R => td σ H fun x H1 => ∃ d kvs, x = .ref d ∧ H1 d = some (.dK kvs) ∧ ∀ o, R (Itk d o kvs) (upd H1 d (.frz o (.dK kvs)))
theorem pi_keysN {X : Cx} {tg e : Expr} {td : TE} (he : PE X e td) : PI X tg e (iKeysN td) := by
  refine ⟨fun pins s σ H R I h => ?_⟩
  refine thn (he.run pins s σ H _ I h) fun u s1 ⟨x, H1, I1, rx, d, kvs, ex, hd0, q⟩ => ?_
  subst ex
  obtain rfl : u = Value.ref d := rx
  obtain ⟨o, I2⟩ := I1.lock hd0 trivial
  have hd : upd H1 d (.frz o (.dK kvs)) d = some (.frz o (.dK kvs)) := upd_same
  obtain ⟨hs, hgd, hx, es, ep, vs, hdt, hsz, kv, hm⟩ := I2.frzK hd
  refine iter_keys hs hgd hx hdt (pi_one (tk := s1.toks) I2 _ (turn_keys _ hdt) ⟨_, Heap.get?_push_size _ rfl, rfl, ?_⟩ (q o))
  rw [hsz] <;> rfl
section
variable {K : PySem.W.Frag} {S : List Addr} {H0 H H1 : Hp} {L : List (Addr × HO)} {σ : L2.St} {te tl td : TE} {t : TT} {D : Ends} {tu tz : TS}
/-- a comprehension over the keys of a new dict -/
theorem el_lcK {α : Type} {f : α → V} {ns : List α} {kvs : List (Key × V)} {j : Nat} {vs : List Nat} (b : α → Bool) (v : α → V) (h : EvN td σ H (.dK kvs)) (hk : (kvs.map fun e => kV e.1) = ns.map f) (hz : ns.length ≤ 100000)
    (hv : ∀ x, wipe ((wipe σ vs).set j (some x)) vs = wipe σ vs)
    (ht : ∀ n ∈ ns, EvT t ((wipe σ vs).set j (some (f n))) H (b n)) (he : ∀ n ∈ ns, b n = true → Ev te ((wipe σ vs).set j (some (f n))) H (v n)) :
    EvL (tLc (iKeysN td) (gName j) t te vs) σ H ((ns.filter b).map v) := fun H1 e Q q =>
  h H1 e _ fun d H2 hd e2 h2 => ⟨d, kvs, rfl, h2, fun o => by
    have e3 : Ex H1 (upd H2 d (.frz o (.dK kvs))) := e2.mut hd
    have z := el_lc (σ := σ) (H := upd H2 d (.frz o (.dK kvs))) (wi := iKeys (tC (.ref d))) (f := f) (ns := ns) (j := j) (vs := vs) (t := t) (te := te) b v
      (by rw [← hk]; exact wk_frz upd_same ev_c) (fun _ _ ex s => ex _ _ s) upd_same hz hv (fun n hn => (ht n hn).mono (e.trans e3)) (fun n hn hb => (he n hn hb).mono (e.trans e3))
    have z2 := z _ (Ex.refl _) Q fun p H3 hp e4 h3 => q p H3 (fresh_back e3 hp) (e3.trans e4) h3
    obtain ⟨d', o', e5, z3⟩ := z2
    cases e5
    rcases z3 with ⟨kvs', hk', z3⟩ | ⟨kvs', hk', _⟩
    · rw [upd_same] at hk'
      cases hk'
      exact z3
    · rw [upd_same] at hk'; cases hk'⟩
end
end Mw
/-! sorted words; dicts by texts; lists that shrink -/
namespace Mw
open PySem PySem.Spec PyProof.Rows L2 Evl

/-! ### sorted([(len(word), word) ..]) -/
def encW (e : Addr × Tx) : PyData := .tuple [.int (e.2.length : Nat), .str (T e.2)]
def rSortW (K : PySem.W.Frag) : List V → Hp → VK → Prop := fun xs H Q => ∃ (a : Addr) (es : List (Addr × Tx)), xs = [.ref a] ∧ SqL K H a (es.map fun e => V.ref e.1) ∧ (∀ e ∈ es, H e.1 = some (.tup [.int (e.2.length : Nat), tS e.2])) ∧
  ∀ (fs : List (Addr × Tx)) p, fs.Perm es → fs.Pairwise (fun a b => leW a.2 b.2 = true) → H p = none → Q (.ref p) (upd H p (.lst (fs.map fun e => V.ref e.1)))
theorem ltW_eq (a b : Tx) : PySem.W.dataLt (.tuple [.int (a.length : Nat), .str (T a)]) (.tuple [.int (b.length : Nat), .str (T b)]) = !leW b a := by
  rw [PySem.W.dataLt_pair (by simp [PySem.W.alike]) (by simp [PySem.W.alike]), PySem.W.dataLt_int, PySem.W.dataLt_str, T_cps, T_cps]
  simp only [PyData.eqv]
  unfold leW
  by_cases h1 : a.length = b.length
  · have e1 : ((a.length : Nat) : Int) = ((b.length : Nat) : Int) := by omega
    by_cases h2 : a = b
    · subst h2
      simp [List.le_refl]
    · have h3 : ¬ T a = T b := fun z => h2 (T_inj z)
      have e2 : decide (b ≤ a) = !decide (a < b) := by
        by_cases h : a < b
        · rw [decide_eq_true h, decide_eq_false (List.not_le.mpr h)]; rfl
        · rw [decide_eq_false h, decide_eq_true (List.not_lt.mp h)]; rfl
      simp [h1, h3, e2]
  · have e1 : ¬ ((a.length : Nat) : Int) = ((b.length : Nat) : Int) := by omega
    by_cases h2 : a.length < b.length
    · have h4 : ¬ b.length < a.length := by omega
      have h5 : ¬ b.length = a.length := by omega
      simp [e1, h2, h4, h5]
    · have h4 : b.length < a.length := by omega
      simp [e1, h2, h4]
theorem leW_data (e f : Addr × Tx) : PySem.W.dataLe false encW e f = leW e.2 f.2 := by
  rw [PySem.W.dataLe_eq]
  show (!PySem.W.dataLt (encW f) (encW e)) = _
  unfold encW
  rw [ltW_eq, Bool.not_not]
theorem each_refs : ∀ {es : List (Addr × Tx)} {us : List Value}, Vals (es.map fun e => V.ref e.1) us → PySem.W.EachIs (fun (v : Value) (e : Addr × Tx) => v = Value.ref e.1) us es
  | [], _, h => by
    have h' : Vals [] _ := h
    cases h'; exact .nil
  | e :: es, _, h => by
    have h' : Vals (V.ref e.1 :: es.map fun e => V.ref e.1) _ := h
    cases h' with
    | cons r t => exact .cons r (each_refs t)
theorem refs_each : ∀ {es : List (Addr × Tx)} {us : List Value}, PySem.W.EachIs (fun (v : Value) (e : Addr × Tx) => v = Value.ref e.1) us es → Vals (es.map fun e => V.ref e.1) us
  | [], _, .nil => .nil
  | _ :: _, _, .cons r t => .cons r (refs_each t)
theorem dpAll_W {K : PySem.W.Frag} {H : Hp} : ∀ {es : List (Addr × Tx)}, (∀ e ∈ es, H e.1 = some (.tup [.int (e.2.length : Nat), tS e.2])) → DpAll K H (es.map fun e => V.ref e.1) (es.map encW)
  | [], _ => .nil
  | e :: es, h => .cons (.tup (st_of (h e (List.mem_cons_self ..))) (.cons (.int _) (.cons (.str _) .nil))) (dpAll_W fun x hx => h x (List.mem_cons_of_mem _ hx))
theorem cr_sortW {X : Cx} (hu : X.A.units + 64 < cLine) : CallR X (.builtin "sorted") (rSortW X.K) := by
  intro pins s σ H vs us Q I r h
  obtain ⟨a, es, rfl, hs, hx, q⟩ := h
  obtain ⟨its, rv, hl, hz⟩ := I.list hs
  obtain ⟨u, rfl, ru⟩ := vals1 r
  obtain rfl : u = Value.ref a := ru
  have e := each_refs rv
  obtain ⟨as, hr⟩ := Dp.readsAll I _ _ _ (dpAll_W hx) rv
  have er := PySem.W.readsAll_each encW hr
  refine PySem.W.sorted_data (R := fun (v : Value) (e : Addr × Tx) => v = Value.ref e.1) (enc := encW) hl.isList e er (fun d hd d' hd' => ?_) (.inl fun d hd => ?_) ?_ (fun b hb => ?_) fun out ho eo => ?_
  · obtain ⟨x, _, rfl⟩ := List.mem_map.mp hd
    obtain ⟨y, _, rfl⟩ := List.mem_map.mp hd'
    unfold encW
    simp [PySem.W.alike, PySem.W.alikeAll]
  · obtain ⟨x, _, rfl⟩ := List.mem_map.mp hd
    exact ⟨_, _, rfl⟩
  · rw [List.length_map] at hz; exact hz
  · have : (encW b).depth ≤ 2 := by
      unfold encW
      simp [PyData.depth, PyData.depthAll]
    omega
  · obtain ⟨n, hn⟩ := sortedAll_at s.heap its out.toArray
    have hp : (es.mergeSort (PySem.W.dataLe false encW)).Perm es := List.mergeSort_perm ..
    have e1 : es.mergeSort (PySem.W.dataLe false encW) = es.mergeSort (fun a b => leW a.2 b.2) := by
      congr 1
      funext a b
      exact leW_data a b
    have hup : (es.mergeSort (PySem.W.dataLe false encW)).Pairwise (fun a b => leW a.2 b.2 = true) := by
      rw [e1]
      exact List.pairwise_mergeSort (le := fun (a b : Addr × Tx) => leW a.2 b.2) (fun a b c h1 h2 => leW_trans _ _ _ h1 h2) (fun a b => leW_total _ _) es
    refine ⟨.ref (s.heap.objs.size + 1), upd H (s.heap.objs.size + 1) (.lst ((es.mergeSort (PySem.W.dataLe false encW)).map fun e => V.ref e.1)), I.laid (t' := s.toks) (fun b u hb => sortedAll_old hb) (Nat.le_succ _) ⟨?_, out, n, refs_each eo, hn⟩, rfl, q _ _ hp hup (I.hok.fresh (Nat.le_succ _))⟩
    rw [List.length_map, hp.length_eq]
    rw [List.length_map] at hz
    exact hz
end Mw
/-! dicts by texts; rules of lists and texts; walks along a chain -/
namespace Mw
open PySem PySem.Spec PyProof.Rows L2 Evl

/-! ### dicts by texts -/
abbrev kW (w : Tx) : Key := .inr (T w)
theorem kW_eq {a b : Tx} : kW a = kW b ↔ a = b := ⟨fun h => T_inj (Sum.inr.inj h), fun h => by rw [h]⟩
def keyT : Key → Tx
  | .inr s => s.cps.toList
  | .inl _ => []
theorem keyT_W (w : Tx) : keyT (kW w) = w := T_cps w
structure DF (g : Tx → Bool) (f : Tx → V) (kvs : List (Key × V)) : Prop where
  nd : (kvs.map (·.1)).Nodup
  ks : ∀ p ∈ kvs, ∃ w, p.1 = kW w
  vl : ∀ w, valV kvs (kW w) = if g w = true then some (f w) else none
theorem val_drop (k j : Key) : ∀ kvs : List (Key × V), valV (dropK kvs k) j = if j = k then none else valV kvs j
  | [] => by
    show none = _
    split <;> rfl
  | p :: r => by
    have ih := val_drop k j r
    by_cases h : p.1 = k
    · rw [dropK_pos h, ih]
      by_cases e : j = k
      · rw [if_pos e, if_pos e]
      · rw [if_neg e, if_neg e, valV_neg (fun z => e (z.symm.trans h))]
    · rw [dropK_neg h]
      by_cases e : p.1 = j
      · rw [valV_pos e, valV_pos e, if_neg fun z => h (e.trans z)]
      · rw [valV_neg e, valV_neg e, ih]
theorem mem_putK {kvs : List (Key × V)} {k : Key} {v : V} {p : Key × V} (h : p ∈ putK kvs k v) : p.1 = k ∨ ∃ q ∈ kvs, q.1 = p.1 := by
  unfold putK at h
  split at h
  · obtain ⟨q, hq, e⟩ := List.mem_map.mp h
    refine .inr ⟨q, hq, ?_⟩
    rw [← e]
    split <;> rfl
  · rcases List.mem_append.mp h with h | h
    · exact .inr ⟨p, h, rfl⟩
    · rw [List.mem_singleton.mp h]; exact .inl rfl
theorem nd_put {kvs : List (Key × V)} (k : Key) (v : V) (h : (kvs.map (·.1)).Nodup) : ((putK kvs k v).map (·.1)).Nodup := by
  cases hv : valV kvs k with
  | none => exact nd_putK v h hv
  | some x =>
    have e : (putK kvs k v).map (·.1) = kvs.map (·.1) := by
      unfold putK
      rw [if_pos (by rw [valV_any, hv]; rfl), List.map_map]
      refine List.map_congr_left fun p _ => ?_
      show (if p.1 = k then (p.1, v) else p).1 = p.1
      split <;> rfl
    rw [e]; exact h
section
variable {g g' : Tx → Bool} {f f' : Tx → V} {kvs : List (Key × V)}
theorem DF.put (d : DF g f kvs) (w : Tx) (v : V) : DF (fun x => decide (x = w) || g x) (fun x => if x = w then v else f x) (putK kvs (kW w) v) := by
  refine ⟨nd_put _ _ d.nd, fun p hp => ?_, fun x => ?_⟩
  · rcases mem_putK hp with e | ⟨q, hq, e⟩
    · exact ⟨w, e⟩
    · obtain ⟨y, hy⟩ := d.ks q hq
      exact ⟨y, e.symm.trans hy⟩
  · rw [valV_put]
    by_cases h : x = w
    · subst h
      rw [if_pos rfl, decide_eq_true rfl, Bool.true_or, if_pos rfl, if_pos rfl]
    · rw [if_neg (fun z => h (kW_eq.mp z)), d.vl, decide_eq_false h, Bool.false_or, if_neg h]
theorem DF.drop (d : DF g f kvs) (w : Tx) : DF (fun x => !decide (x = w) && g x) f (dropK kvs (kW w)) := by
  refine ⟨nd_dropK d.nd, fun p hp => d.ks p (dropK_mem hp), fun x => ?_⟩
  rw [val_drop]
  by_cases h : x = w
  · subst h
    rw [if_pos rfl, decide_eq_true rfl]; rfl
  · rw [if_neg (fun z => h (kW_eq.mp z)), d.vl, decide_eq_false h]; rfl
theorem DF.congr (d : DF g f kvs) (hg : ∀ w, g w = g' w) (hf : ∀ w, g' w = true → f w = f' w) : DF g' f' kvs := by
  refine ⟨d.nd, d.ks, fun w => ?_⟩
  rw [d.vl, hg]
  by_cases h : g' w = true
  · rw [if_pos h, if_pos h, hf w h]
  · rw [if_neg h, if_neg h]
def keysT (kvs : List (Key × V)) : List Tx := kvs.map fun p => keyT p.1
theorem DF.mem (d : DF g f kvs) (w : Tx) : w ∈ keysT kvs ↔ g w = true := by
  have e := d.vl w
  constructor
  · intro h
    obtain ⟨p, hp, rfl⟩ := List.mem_map.mp h
    obtain ⟨x, hx⟩ := d.ks p hp
    have hv := val_nodup d.nd p hp
    rw [hx, d.vl] at hv
    rw [hx, keyT_W]
    by_cases c : g x = true
    · exact c
    · rw [if_neg c] at hv; cases hv
  · intro h
    rw [if_pos h] at e
    obtain ⟨p, hp, hk⟩ := List.mem_map.mp (valV_in e)
    refine List.mem_map.mpr ⟨p, hp, ?_⟩
    have hk : p.1 = kW w := hk
    rw [hk, keyT_W]
theorem DF.ndT (d : DF g f kvs) : (keysT kvs).Nodup := by
  have e : keysT kvs = (kvs.map (·.1)).map keyT := by unfold keysT; rw [List.map_map]; rfl
  rw [e]
  have nd := d.nd
  have hk : ∀ k ∈ kvs.map (·.1), ∃ w, k = kW w := fun k hk => by
    obtain ⟨p, hp, rfl⟩ := List.mem_map.mp hk
    exact d.ks p hp
  generalize kvs.map (·.1) = l at nd hk
  induction l with
  | nil => exact List.Pairwise.nil
  | cons k r ih =>
    obtain ⟨n1, n2⟩ := List.nodup_cons.mp nd
    rw [List.map_cons]
    refine List.nodup_cons.mpr ⟨fun h => ?_, ih n2 fun k hk' => hk k (List.mem_cons_of_mem _ hk')⟩
    obtain ⟨k2, h2, e2⟩ := List.mem_map.mp h
    obtain ⟨w, rfl⟩ := hk k (List.mem_cons_self ..)
    obtain ⟨w2, rfl⟩ := hk k2 (List.mem_cons_of_mem _ h2)
    rw [keyT_W, keyT_W] at e2
    subst e2
    exact n1 h2
theorem DF.vals (d : DF g f kvs) : (kvs.map fun e => kV e.1) = (keysT kvs).map tS := by
  unfold keysT
  rw [List.map_map]
  refine List.map_congr_left fun p hp => ?_
  obtain ⟨w, hw⟩ := d.ks p hp
  show kV p.1 = tS (keyT p.1)
  rw [hw, keyT_W]; rfl
theorem len_keysT (kvs : List (Key × V)) : (keysT kvs).length = kvs.length := by unfold keysT; rw [List.length_map]
theorem DF.nil : DF (fun _ => false) f [] := ⟨List.Pairwise.nil, fun _ h => (by cases h), fun _ => rfl⟩
end

/-! ### lists and texts -/
abbrev rInsert : V → List V → Hp → VK → Prop := fun x vs H Q => ∃ (l : Addr) (xs : List V) (i : Int) (y : V), x = .ref l ∧ vs = [.int i, y] ∧ H l = some (.lst xs) ∧ xs.length < sizeLine ∧ 0 ≤ i ∧ i < 2 ^ 63 ∧
    Q .non (upd H l (.lst (xs.take i.toNat ++ [y] ++ xs.drop i.toNat)))
abbrev rLenD : List V → Hp → VK → Prop := fun xs H Q => ∃ a kvs, xs = [V.ref a] ∧ H a = some (.dK kvs) ∧ Q (.int kvs.length) H
abbrev rIndexT : V → List V → Hp → VK → Prop := fun x xs H Q => ∃ a b i rest, x = .str a ∧ xs = [.str b] ∧ Builtin.Str.occurrences a b 0 a.length 1 = i :: rest ∧ Q (.int (i : Nat)) H
section
variable {K : PySem.W.Frag} {S : List Addr} {H0 H H1 : Hp} {L : List (Addr × HO)} {σ : L2.St} {ta te tl tb to ti tx td : TE} {t : TT} {D : Ends} {tu tz : TS} {v x y z : V} {vs : List V}
theorem a_ins0 (i : Nat) {l : Addr} {xs : List V} (am : Am S H0 L H) (hi : L[i]? = some (l, .lst xs)) (ha : Ev ta σ H (.ref l)) (h : Ev te σ H v) (hz : xs.length < 100000)
    (k : ∀ H, Am S H0 (L.set i (l, .lst (v :: xs))) H → D.nx σ H) : tDrop (tBM K "list" rInsert ta (tCons (tC (.int 0)) (tCons te tNil))) D σ H :=
  ha H (Ex.refl H) _ fun H1 e1 => ⟨Or.inl ⟨rfl, xs, sq_of (e1 l _ (am.at i hi))⟩, h H1 e1 _ fun H2 e2 => ⟨l, xs, 0, v, rfl, rfl, (e1.trans e2) l _ (am.at i hi), sz_lt hz, by decide, by decide, k _ ((am.ex (e1.trans e2)).set i hi)⟩⟩
theorem aq_ins0 (i : Nat) {l : Addr} {xs : List V} (am : Am S H0 L H) (hi : L[i]? = some (l, .lst xs)) (ha : Ev ta σ H (.ref l)) (h : Ev te σ H v) (hz : xs.length < 100000)
    (k : ∀ H, Am S H0 (L.set i (l, .lst (v :: xs))) H → tz D σ H) : tSeq (tDrop (tBM K "list" rInsert ta (tCons (tC (.int 0)) (tCons te tNil)))) tz D σ H := a_ins0 (D := { D with nx := tz D }) i am hi ha h hz k
theorem a_pop (i : Nat) {l : Addr} {xs : List V} (am : Am S H0 L H) (hi : L[i]? = some (l, .lst (xs ++ [v]))) (ha : Ev ta σ H (.ref l))
    (k : ∀ H, Am S H0 (L.set i (l, .lst xs)) H → D.nx σ H) : tDrop (tBM0 K "list" rPop ta) D σ H :=
  ha H (Ex.refl H) _ fun H1 e1 => ⟨Or.inl ⟨rfl, _, sq_of (e1 l _ (am.at i hi))⟩, l, xs ++ [v], v, rfl, rfl, e1 l _ (am.at i hi), by simp, by
    rw [List.dropLast_concat]
    exact k _ ((am.ex e1).set i hi)⟩
theorem a_pop0 (i : Nat) {l : Addr} {xs : List V} (am : Am S H0 L H) (hi : L[i]? = some (l, .lst (v :: xs))) (ha : Ev ta σ H (.ref l))
    (k : ∀ H, Am S H0 (L.set i (l, .lst xs)) H → D.nx σ H) : tDrop (tBM K "list" rPopAt ta (tCons (tC (.int 0)) tNil)) D σ H :=
  ha H (Ex.refl H) _ fun H1 e1 => ⟨Or.inl ⟨rfl, _, sq_of (e1 l _ (am.at i hi))⟩, l, v :: xs, 0, 0, v, rfl, rfl, e1 l _ (am.at i hi), by decide, by decide, by simp [seqIndex?], rfl, by
    exact k _ ((am.ex e1).set i hi)⟩
theorem e_lenD {a : Addr} {kvs : List (Key × V)} (h : Ev te σ H (.ref a)) (hd : H a = some (.dK kvs)) : Ev (tCB rLenD (tCons te tNil)) σ H (.int kvs.length) := fun H1 e Q q =>
  h H1 e _ fun H2 e2 => ⟨a, kvs, rfl, (e.trans e2) _ _ hd, q H2 e2⟩
/-- the place of the first item that is m -/
theorem e_indexI {a : Addr} {F : Nat → Int} {n j : Nat} {m : Int} (h : Ev te σ H (.ref a)) (hs : SqL K H a ((List.range n).map fun i => .int (F i))) (hm : Ev ti σ H (.int m)) (hj : j < n) (h1 : F j = m) (h2 : ∀ k, k < j → F k ≠ m) :
    Ev (tBM K "list" (rIndex K) te (tCons ti tNil)) σ H (.int (j : Nat)) := fun H1 e Q q =>
  h H1 e _ fun H2 e2 => ⟨Or.inl ⟨rfl, _, ex_l (e.trans e2) hs⟩, hm H2 (e.trans e2) _ fun H3 e3 => by
    have eqI : ∀ a b : Int, eqV (.int a) (.int b) = decide (a = b) := fun a b => by
      show (a == b) = decide (a = b)
      exact Bool.eq_iff_iff.mpr (by rw [beq_iff_eq, decide_eq_true_eq])
    refine ⟨a, _, .int m, j, .int (F j), rfl, rfl, ex_l ((e.trans e2).trans e3) hs, rfl, ?_, at_range _ hj, by rw [eqI]; exact decide_eq_true h1, fun k z' hk hz => ?_, q H3 (e2.trans e3)⟩
    · rw [List.all_eq_true]
      intro x hx
      obtain ⟨i, _, rfl⟩ := List.mem_map.mp hx
      rfl
    · rw [at_range _ (by omega : k < n)] at hz
      cases hz
      rw [eqI]
      exact decide_eq_false (h2 k hk)⟩
theorem sub_at {t w : Tx} {i : Nat} : Builtin.Str.subAt (T t) (T w) i = true ↔ (t.drop i).take w.length = w := by
  unfold Builtin.Str.subAt
  rw [beq_iff_eq, T_len]
  constructor
  · intro h
    have := congrArg Array.toList h
    simpa [T] using this
  · intro h
    apply Array.toList_inj.mp
    simpa [T] using h
theorem e_sindex {t w : Tx} {j : Nat} (h : Ev to σ H (tS t)) (hw : Ev te σ H (tS w)) (h1 : w <+: t.drop j) (hj : j < t.length) (h2 : ∀ k, k < j → ¬ w <+: t.drop k) : Ev (tM1 rIndexT to te) σ H (.int (j : Nat)) := fun H1 e Q q =>
  h H1 e _ fun H2 e2 => ⟨⟨_, rfl⟩, hw H2 (e.trans e2) _ fun H3 e3 => by
    have key : ∀ i, StrLaws.At (T t) (T w) (T t).length i ↔ w <+: t.drop i ∧ i + w.length ≤ t.length := fun i => by
      unfold StrLaws.At
      rw [sub_at, T_len, T_len, List.prefix_iff_eq_take]
      exact ⟨fun z => ⟨z.2.symm, z.1⟩, fun z => ⟨z.2, z.1.symm⟩⟩
    have hl : ∀ i, w <+: t.drop i → i < t.length → i + w.length ≤ t.length := fun i hp hi => by
      have := hp.length_le
      rw [List.length_drop] at this
      omega
    rcases StrLaws.occ_head (T t) (T w) 1 (Nat.le_refl _) with ⟨_, hn⟩ | ⟨i, r, ho, hi, hb⟩
    · exact absurd ((key j).mpr ⟨h1, hl j h1 hj⟩) (hn j)
    · have e4 : i = j := by
        rcases Nat.lt_trichotomy i j with c | c | c
        · exact absurd ((key i).mp hi).1 (h2 i c)
        · exact c
        · exact absurd ((key j).mpr ⟨h1, hl j h1 hj⟩) (hb j c)
      subst e4
      exact ⟨T t, T w, i, r, rfl, rfl, ho, q H3 (e2.trans e3)⟩⟩
/-- d.setdefault(w, 0), the dict in the ledger -/
theorem a_setd (i : Nat) {a : Addr} {kvs : List (Key × V)} {k : Key} (am : Am S H0 L H) (hi : L[i]? = some (a, .dK kvs)) (hd : Ev td σ H (.ref a)) (hk : Ev te σ H (kV k)) (hv : Ev tx σ H v) (hz : kvs.length < 100000)
    (k1 : ∀ x H, valV kvs k = some x → Am S H0 L H → D.nx σ H) (k2 : ∀ H, valV kvs k = none → Am S H0 (L.set i (a, .dK (putK kvs k v))) H → D.nx σ H) : tDrop (tDSetd td te tx) D σ H :=
  hd H (Ex.refl H) _ fun H1 e1 => ⟨a, rfl, .inl ⟨kvs, .inl (e1 _ _ (am.at i hi))⟩, hk H1 e1 _ fun H2 e2 => hv H2 (e1.trans e2) _ fun H3 e3 => by
    have am3 := am.ex ((e1.trans e2).trans e3)
    exact ⟨kvs, k, am3.at i hi, rfl, szL6 (by omega), fun x hx => k1 x _ hx am3, fun hn => k2 _ hn (am3.set i hi)⟩⟩

/-! ### while one != "": .. one = tails[one] -/
theorem aq_chain {j : Nat} {tb : TS} (E : List Tx) (Iv : List Tx → Hp → Prop) (hj : σ[j]? = some (some (tS (E.headD [])))) (hE : ∀ w ∈ E, w ≠ []) (h0 : Iv [] H) (hex : ∀ pre H H', Ex H H' → Iv pre H → Iv pre H')
    (hs : ∀ pre w post H', E = pre ++ w :: post → Iv pre H' → ∀ D' : Ends, (∀ H2, Iv (pre ++ [w]) H2 → D'.nx (σ.set j (some (tS w))) H2) → tb D' (σ.set j (some (tS w))) H')
    (ht : ∀ pre w post H', E = pre ++ w :: post → Iv (pre ++ [w]) H' → Ev (tDGet td (tVar j)) (σ.set j (some (tS w))) H' (tS (post.headD [])))
    (hd : ∀ H', Iv E H' → tz D (σ.set j (some (tS []))) H') : tSeq (tWhile (tTest (tOp rNe (tVar j) (tC (tS [])))) (tSeq tb (tAsg (tDGet td (tVar j)) (gName j)))) tz D σ H := by
  have hlt : j < σ.length := (List.getElem?_eq_some_iff.mp hj).1
  refine aq_while (fun m σ' H' => ∃ pre post, E = pre ++ post ∧ m = post.length ∧ σ' = σ.set j (some (tS (post.headD []))) ∧ Iv pre H') E.length ⟨[], E, rfl, rfl, ?_, h0⟩ ?_
  · refine List.ext_getElem? fun i => ?_
    by_cases c : j = i
    · subst c; rw [List.getElem?_set_self hlt, hj]
    · rw [List.getElem?_set_ne c]
  · rintro m σ' H' ⟨pre, post, hEq, rfl, rfl, hI⟩
    refine ⟨!decide (post.headD [] = []), et_test (ev_op (ev_var (List.getElem?_set_self hlt)) ev_c r_neS), fun c H1 ex N hN => ?_, fun c H1 ex => ?_⟩
    · cases post with
      | nil => exact absurd c (by decide)
      | cons w post =>
        refine hs pre w post H1 hEq (hex _ _ _ ex hI) _ fun H2 hI2 => ?_
        show (tAsg (tDGet td (tVar j)) (gName j)) _ _ _
        refine s_asg (ht pre w post H2 hEq hI2) fun H3 e3 => ?_
        rw [List.set_set]
        exact hN post.length _ _ (Nat.lt_succ_self _) ⟨pre ++ [w], post, by rw [hEq, List.append_assoc]; rfl, rfl, rfl, hex _ _ _ e3 hI2⟩
    · have e : post = [] := by
        cases post with
        | nil => rfl
        | cons w post =>
          have hw := hE w (by rw [hEq]; simp)
          rw [List.headD_cons, decide_eq_false hw] at c
          cases c
      subst e
      rw [List.append_nil] at hEq
      subst hEq
      exact hd H1 (hex _ _ _ ex hI)
end
theorem three_split {α : Type} {a b c n : α} {pre post : List α} (h : [a, b, c] = pre ++ n :: post) : (pre = [] ∧ n = a) ∨ (pre = [a] ∧ n = b) ∨ (pre = [a, b] ∧ n = c) := by
  match pre, h with
  | [], h => exact .inl ⟨rfl, (List.cons.inj h).1.symm⟩
  | [x], h =>
    obtain ⟨e1, h⟩ := List.cons.inj h
    exact .inr (.inl ⟨by rw [e1], (List.cons.inj h).1.symm⟩)
  | [x, y], h =>
    obtain ⟨e1, h⟩ := List.cons.inj h
    obtain ⟨e2, h⟩ := List.cons.inj h
    exact .inr (.inr ⟨by rw [e1, e2], (List.cons.inj h).1.symm⟩)
  | x :: y :: z :: r, h =>
    have := congrArg List.length h
    simp at this
end Mw
/-! the sorted words of a dict; new dicts that are told by what they hold -/
namespace Mw
open PySem PySem.Spec PyProof.Rows L2 Evl

section
variable {K : PySem.W.Frag} {S : List Addr} {H0 H H1 : Hp} {L : List (Addr × HO)} {σ : L2.St} {te tl td tx : TE} {ta : TA} {t : TT} {D : Ends} {tu tz : TS}
/-- a comprehension of new tuples -/
theorem lc_tups {α : Type} {wi : TI} {P : Hp → Prop} {f : α → V} {g : α → List V} {ns : List α} {j : Nat} {vs : List Nat} (hw : Wk wi σ H P (ns.map f)) (hm : ∀ H H', Ex H H' → P H → P H') (hp : P H) (hz : ns.length ≤ 100000)
    (hv : ∀ x, wipe ((wipe σ vs).set j (some x)) vs = wipe σ vs) (he : ∀ n ∈ ns, EvU te ((wipe σ vs).set j (some (f n))) H (g n)) {Q : VK} (e : Ex H H1)
    (k : ∀ p (es : List (Addr × α)) H2, es.map (·.2) = ns → H1 p = none → Ex H1 H2 → H2 p = some (.lst (es.map fun e => V.ref e.1)) → (∀ e ∈ es, H2 e.1 = some (.tup (g e.2))) → Q (.ref p) H2) : tLc wi (gName j) tYes te vs σ H1 Q := by
  refine hw H1 e _ fun J H2 e2 sq => fun Dl hD => ?_
  refine ⟨fun i m H' => i + m = ns.length ∧ Ex H2 H' ∧ ∃ es : List (Addr × α), es.map (·.2) = ns.take i ∧ H' Dl = some (.lst (es.map fun e => V.ref e.1)) ∧ ∀ e ∈ es, H' e.1 = some (.tup (g e.2)),
    ⟨ns.length, by omega, Ex.new hD, [], rfl, upd_same, fun _ h => (by cases h)⟩, ?_⟩
  rintro i m H' ⟨im, e3, es, hes, hl, ht⟩
  obtain ⟨q1, q2⟩ := sq H' (hm _ _ ((e.trans e2).trans e3) hp)
  by_cases hi : i < ns.length
  · have gg : (ns.map f)[i]? = some (f ns[i]) := by rw [List.getElem?_map, List.getElem?_eq_getElem hi]; rfl
    have hmem : ns[i] ∈ ns := List.getElem_mem hi
    have ht2 : ns.take (i + 1) = ns.take i ++ [ns[i]] := by rw [List.take_succ_eq_append_getElem hi]
    have hlen : es.length = (ns.take i).length := by rw [← hes, List.length_map]
    obtain ⟨g1, g2⟩ := q1 i _ gg
    refine .inr ⟨g1, fun H'' => Ex H2 H'' ∧ ∃ es : List (Addr × α), es.map (·.2) = ns.take (i + 1) ∧ H'' Dl = some (.lst (es.map fun e => V.ref e.1)) ∧ ∀ e ∈ es, H'' e.1 = some (.tup (g e.2)), fun H'' hN => ⟨m - 1, by omega, by omega, hN.1, hN.2⟩, fun y H'' hy => ?_⟩
    obtain ⟨e4, e5⟩ := g2 y H'' hy
    subst e4 e5
    refine ⟨hv _, ?_⟩
    show te ((wipe σ vs).set j (some (f ns[i]))) H'' _
    refine he _ hmem H'' ((e.trans e2).trans e3) _ fun r H6 hr e7 h6 => ?_
    have hD6 := e7 _ _ hl
    have hne : ∀ a u, H6 a = some (.tup u) → a ≠ Dl := fun a u h z => by rw [z, hD6] at h; cases h
    refine ⟨_, hD6, ?_, Ex.mut (e3.trans e7) hD, es ++ [(r, ns[i])], ?_, ?_, fun x hx => ?_⟩
    · refine szL6 ?_
      rw [List.length_map, hlen, List.length_take]
      omega
    · rw [ht2, List.map_append, hes]; rfl
    · rw [upd_same, List.map_append]; rfl
    · have hx6 : H6 x.1 = some (.tup (g x.2)) := by
        rcases List.mem_append.mp hx with hx | hx
        · exact e7 _ _ (ht x hx)
        · rw [List.mem_singleton.mp hx]; exact h6
      rw [upd_ne (hne _ _ hx6)]; exact hx6
  · have ei : i = ns.length := by omega
    subst ei
    rw [List.take_length] at hes
    rw [List.length_map] at q2
    exact .inl ⟨q2, k Dl es H' hes (fresh_back e2 hD) (e2.trans e3) hl ht⟩
/-- [pair[1] for pair in sorted([(len(word), word) for word in d])] -/
theorem el_words {d : Addr} {kvs : List (Key × V)} {g : Tx → Bool} {f : Tx → V} {ws : List Tx} {i j : Nat} (hd : H d = some (.dK kvs)) (df : DF g f kvs) (hn : kvs.length ≤ 100000) (hlen : ∀ w ∈ keysT kvs, w.length ≤ 1000000)
    (he : ∀ H1 o, Ex H H1 → Ev td (wipe σ [i]) (upd H1 d (.frz o (.dK kvs))) (.ref d)) (he' : ∀ H1 o, Ex H H1 → Ev td σ (upd H1 d (.frz o (.dK kvs))) (.ref d))
    (hw : ∀ us : List Tx, us.Perm (keysT kvs) → us.Pairwise (fun a b => leW a b = true) → us = ws)
    (hvj : ∀ x, wipe ((wipe σ [j]).set j (some x)) [j] = wipe σ [j]) (hj : ∀ x, ((wipe σ [j]).set j (some x))[j]? = some (some x))
    (hvi : ∀ x, wipe ((wipe σ [i]).set i (some x)) [i] = wipe σ [i]) (hi : ∀ x, ((wipe σ [i]).set i (some x))[i]? = some (some x)) :
    EvL (tLc (iList K (tCB (rSortW K) (tCons (tLockE (tLc (iKeys td) (gName j) tYes (tTup (tCons (tCB rLenT (tCons (tVar j) tNil)) (tCons (tVar j) tNil))) [j])) tNil))) (gName i) tYes (tOp (rIxT K) (tVar i) (tC (.int 1))) [i]) σ H (ws.map tS) := fun H1 e Q q => by
  have hd1 := e _ _ hd
  show (tLockE (tLc (iKeys td) (gName j) tYes (tTup (tCons (tCB rLenT (tCons (tVar j) tNil)) (tCons (tVar j) tNil))) [j])) σ H1 _
  refine ⟨d, .dK kvs, hd1, trivial, fun od => ?_⟩
  refine lc_tups (H := upd H1 d (.frz od (.dK kvs))) (f := tS) (g := fun w => [.int (w.length : Nat), tS w]) (ns := keysT kvs) (by
    have z := wk_frz (σ := σ) (H := upd H1 d (.frz od (.dK kvs))) (o := od) (kvs := kvs) upd_same (he' H1 od e)
    rw [df.vals] at z
    exact z) (fun _ _ ex s => ex _ _ s) upd_same (by rw [len_keysT]; exact hn) hvj
    (fun w hw => eu_tup (ea_cons (ev_cb (ea_cons (ev_var (hj _)) ea_nil) (rc_lenT (hlen w hw))) (ea_cons (ev_var (hj _)) ea_nil)) (by show 2 ≤ 100000; decide)) (Ex.refl _) fun p es H2 hes hp e2 h2 ht => ?_
  refine ⟨e2 _ _ upd_same, ?_⟩
  have hpd : p ≠ d := fun z => by rw [z, upd_same] at hp; cases hp
  have h2d : H2 d = some (.frz od (.dK kvs)) := e2 _ _ upd_same
  have hp1 : H1 p = none := by rw [upd_ne hpd] at hp; exact hp
  have e12 : Ex H1 (upd H2 d (.dK kvs)) := fun a o ha => by
    by_cases c : a = d
    · subst c; rw [hd1] at ha; cases ha; exact upd_same
    · rw [upd_ne c]; exact e2 a o (by rw [upd_ne c]; exact ha)
  have h2' : upd H2 d (.dK kvs) p = some (.lst (es.map fun e => V.ref e.1)) := by rw [upd_ne hpd]; exact h2
  have ht' : ∀ e ∈ es, upd H2 d (.dK kvs) e.1 = some (.tup [.int (e.2.length : Nat), tS e.2]) := fun x hx => by
    have := ht x hx
    have hne : x.1 ≠ d := fun z => by rw [z, h2d] at this; cases this
    rw [upd_ne hne]; exact this
  refine ⟨p, es, rfl, sq_of h2', ht', fun fs r hperm hup hr => ?_⟩
  have e13 : Ex H1 (upd (upd H2 d (.dK kvs)) r (.lst (fs.map fun e => V.ref e.1))) := e12.trans (Ex.new hr)
  have hfs : ∀ e ∈ fs, upd (upd H2 d (.dK kvs)) r (.lst (fs.map fun e => V.ref e.1)) e.1 = some (.tup [.int (e.2.length : Nat), tS e.2]) := fun x hx => Ex.new hr _ _ (ht' x (hperm.mem_iff.mp hx))
  have ews : fs.map (·.2) = ws := by
    refine hw _ ?_ (List.pairwise_map.mpr hup)
    rw [← hes]
    exact hperm.map _
  have hfl : fs.length ≤ 100000 := by
    have a := congrArg List.length hes
    rw [List.length_map, len_keysT] at a
    rw [hperm.length_eq]; omega
  have z := el_lcY (σ := σ) (H := upd (upd H2 d (.dK kvs)) r (.lst (fs.map fun e => V.ref e.1))) (wi := iList K (tC (.ref r))) (f := fun e : Addr × Tx => V.ref e.1) (ns := fs) (j := i) (vs := [i]) (te := tOp (rIxT K) (tVar i) (tC (.int 1))) (fun e => tS e.2)
    (wk_list (K := K) ev_c (sq_of upd_same)) (fun _ _ ex s => ex_l ex s) (sq_of upd_same) hfl hvi (fun x hx => ev_op (ev_var (hi _)) ev_c (rv_ixT (K := K) (st_of (hfs x hx)) rfl))
  have z2 := z _ (Ex.refl _) Q fun p' H3 hp' e3 h3 => q p' H3 (fresh_back e13 hp') (e13.trans e3) (by rw [← ews, List.map_map]; exact h3)
  obtain ⟨p'', e5, z3⟩ := z2
  cases e5
  exact ⟨_, rfl, z3⟩
/-- a new dict that meets P -/
def EvD (te : TE) (σ : L2.St) (H : Hp) (P : List (Key × V) → Prop) : Prop := ∀ H1, Ex H H1 → ∀ Q : VK, (∀ p kvs H2, P kvs → H1 p = none → Ex H1 H2 → H2 p = some (.dK kvs) → Q (.ref p) H2) → te σ H1 Q
theorem EvD.mono {P : List (Key × V) → Prop} (e : Ex H H1) (h : EvD te σ H P) : EvD te σ H1 P := fun H2 e2 Q q => h H2 (e.trans e2) Q q
theorem aq_asgD {i : Nat} {P : List (Key × V) → Prop} (am : Am S H0 L H) (h : EvD te σ H P) (k : ∀ p kvs H, P kvs → Am S H0 ((p, .dK kvs) :: L) H → tz D (σ.set i (some (.ref p))) H) : tSeq (tAsg te (gName i)) tz D σ H :=
  h H (Ex.refl H) _ fun p kvs H1 hP hp e h1 => k p kvs H1 hP (am.add hp e h1)
/-- a comprehension over its keys -/
theorem el_lcKP {g : Tx → Bool} {f : Tx → V} {P : List (Key × V) → Prop} {j : Nat} {vs : List Nat} (b : Tx → Bool) (v : Tx → V) {xs : List V} (h : EvD td σ H P) (hP : ∀ kvs, P kvs → DF g f kvs ∧ kvs.length ≤ 100000 ∧ ((keysT kvs).filter b).map v = xs)
    (hv : ∀ x, wipe ((wipe σ vs).set j (some x)) vs = wipe σ vs)
    (ht : ∀ w, g w = true → EvT t ((wipe σ vs).set j (some (tS w))) H (b w)) (he : ∀ w, g w = true → b w = true → Ev te ((wipe σ vs).set j (some (tS w))) H (v w)) :
    EvL (tLc (iKeysN td) (gName j) t te vs) σ H xs := fun H1 e Q q =>
  h H1 e _ fun d kvs H2 hk hd e2 h2 => by
    obtain ⟨df, hn, hx⟩ := hP kvs hk
    rw [← hx] at q
    have z := el_lcK (σ := σ) (H := H2) (td := tC (.ref d)) (f := tS) (ns := keysT kvs) (kvs := kvs) (j := j) (vs := vs) (t := t) (te := te) b v
    refine ⟨d, kvs, rfl, h2, fun o => ?_⟩
    have e3 : Ex H1 (upd H2 d (.frz o (.dK kvs))) := e2.mut hd
    have z := el_lc (σ := σ) (H := upd H2 d (.frz o (.dK kvs))) (wi := iKeys (tC (.ref d))) (f := tS) (ns := keysT kvs) (j := j) (vs := vs) (t := t) (te := te) b v
      (by rw [← df.vals]; exact wk_frz upd_same ev_c) (fun _ _ ex s => ex _ _ s) upd_same (by rw [len_keysT]; exact hn) hv (fun n hn => (ht n ((df.mem n).mp hn)).mono (e.trans e3)) (fun n hn hb => (he n ((df.mem n).mp hn) hb).mono (e.trans e3))
    have z2 := z _ (Ex.refl _) Q fun p H3 hp e4 h3 => q p H3 (fresh_back e3 hp) (e3.trans e4) h3
    obtain ⟨d', o', e5, z3⟩ := z2
    cases e5
    rcases z3 with ⟨kvs', hk', z3⟩ | ⟨kvs', hk', _⟩
    · rw [upd_same] at hk'
      cases hk'
      exact z3
    · rw [upd_same] at hk'; cases hk'
/-- w not in a new dict -/
theorem e_dninN {g : Tx → Bool} {f : Tx → V} {P : List (Key × V) → Prop} {w : Tx} (hk : Ev te σ H (tS w)) (h : EvD td σ H P) (hP : ∀ kvs, P kvs → DF g f kvs) : Ev (tDNotIn te td) σ H (.bl (!g w)) := fun H1 e Q q =>
  hk H1 e _ fun H2 e2 => h H2 (e.trans e2) _ fun a kvs H3 hp _ e3 h3 => ⟨a, _, rfl, DGet.k (k := kW w) h3, by
    rw [(hP kvs hp).vl w]
    have q' := q H3 (e2.trans e3)
    by_cases c : g w = true
    · rw [if_pos c]; rw [c] at q'; exact q'
    · rw [if_neg c]
      have c : g w = false := by simpa using c
      rw [c] at q'; exact q'⟩
/-- a new dict's get -/
theorem e_dget2N {g : Tx → Bool} {f : Tx → V} {P : List (Key × V) → Prop} {w : Tx} {z : V} (h : EvD td σ H P) (hP : ∀ kvs, P kvs → DF g f kvs) (hk : Ev te σ H (tS w)) (hz : Ev tx σ H z) : Ev (tDGet2 td te tx) σ H (if g w = true then f w else z) := fun H1 e Q q =>
  h H1 e _ fun a kvs H2 hp _ e2 h2 => ⟨a, rfl, .inl ⟨kvs, .inl h2⟩, hk H2 (e.trans e2) _ fun H3 e3 => hz H3 ((e.trans e2).trans e3) _ fun H4 e4 => ⟨_, DGet.k (k := kW w) ((e3.trans e4) _ _ h2), by
    rw [(hP kvs hp).vl w]
    have q' := q H4 ((e2.trans e3).trans e4)
    by_cases c : g w = true
    · rw [if_pos c] at q' ⊢; exact q'
    · rw [if_neg c] at q' ⊢; exact q'⟩⟩
theorem en_dispT : EvN (tDisp [((tC (tS [])), (tC (tS [])))]) σ H (.dK [(kW [], tS [])]) := fun H1 e Q q => fun p hp => ⟨upd_same, [(kW [], tS [])], rfl, (by show 1 ≤ 15; decide), q p _ hp (Ex.mut (Ex.new hp) hp) upd_same⟩
theorem en_lst {vs : List V} (h : EvA ta σ H vs) (hl : vs.length ≤ 100000) : EvN (tLst ta) σ H (.lst vs) := fun H1 e Q q => el_lst h hl H1 e Q q
end
end Mw
/-! making an object where a parameter has a default -/
namespace Mw
open PySem PySem.Spec PyProof.Rows L2 Evl
structure Mkc0 (P : Program) (w : World) (K : PySem.W.Frag) (mg : Str → Option Value) (base : Heap) (CX : CXT) (k : Nat) (x : Str) (ps : List Str) (C : Addr) (sp : Sp) (dvs : List V) : Prop where
  ex : ∃ f fd ds, FnOk P w K mg base CX k f fd ps sp ∧ mg x = some (.ref C) ∧ Mk K C f ∧ Vals dvs ds ∧ Binds K fd ps ds
structure MkcD (P : Program) (w : World) (K : PySem.W.Frag) (mg : Str → Option Value) (base : Heap) (CX : CXT) (k : Nat) (x : Str) (ps : List Str) (C : Addr) (sp : Sp) (dvs : List V) : Prop where
  to : Mkc P w K mg base CX k x ps C sp
  dflt : Mkc0 P w K mg base CX k x ps C sp dvs
theorem pe_mk0 {X : Cx} {CX : CXT} {k : Nat} {C : Addr} {x : Str} {ps : List Str} {sp : Sp} {E : XK} {dvs : List V} {p pos : Pos} (c : Mkc0 X.prog X.w X.K X.mg X.base CX k x ps C sp dvs) (hr : Room (k + 1) X.A) (hg : Gl X x) (hx : Passes CX X E)
    (hdb : (x == ("__debug__" : Str)) = false := by decide) : PE X (.Call (.Name x p) [] [] pos) (tMake C sp dvs E tNil) := by
  obtain ⟨f, fd, ds, F, hm, M, hd, hb⟩ := c.ex
  exact pe_make0 M F hr hg hm hb hd hx hdb
section
variable {K : PySem.W.Frag}
theorem fund_mk {x qual : Str} {st : Stmt} {f T1 : Addr} {oc : Value} {od an : Option Addr} {osl : Array (Option Value)} {kV doc pm cdv ct : Value} {tc : Value} {td : Option Addr} {tn : Nat} {ts : Array (Option Value)} {tt : Tok}
    (l : K.lookup f = some ⟨oc, od, .func (PySem.W.fnOf x qual (defArgs st) (defBody st) (defScope st) (.ref T1) kV doc pm an cdv ct), osl⟩)
    (c : PySem.W.codeIn K cdv qual = true) (k : PySem.W.keepIn K (.ref f) = true) (lt : K.lookup T1 = some ⟨tc, td, .seq #[.str (PySem.Str.ofString "") tt] tn, ts⟩) :
    FunD K x qual (defArgs st) (defBody st) (defScope st) [tS []] [] f (PySem.W.fnOf x qual (defArgs st) (defBody st) (defScope st) (.ref T1) kV doc pm an cdv ct) :=
  ⟨⟨oc, od, .ref T1, kV, doc, pm, an, cdv, ct, osl, rfl, l, c, .inr ⟨by simp, T1, _, [.str (PySem.Str.ofString "") tt], tn, rfl, lt, rfl, .cons ⟨tt, rfl⟩ .nil⟩, .inl rfl⟩, k⟩
theorem binds_nil {fd : FuncData} {ps : List Str} (h : ∃ ds, Vals [] ds ∧ Binds K fd ps ds) : Binds K fd ps [] := by
  obtain ⟨ds, h1, h2⟩ := h
  cases h1
  exact h2
end
end Mw
namespace Mw
open PySem PySem.Spec PyProof.Rows L2 Evl
local macro_rules | `(tactic| walk_at "sd") => `(tactic| (first
  | assumption
  | omega
  | decide
  | (simp only [List.length_append, List.length_cons, List.length_nil, List.length_reverse, List.length_take, List.length_drop, List.length_map, List.length_range] at *; omega)
  | skip))
local macro_rules | `(tactic| walk_at "ev") => `(tactic| (first
  | ((with_reducible apply ev_var); rfl)
  | (with_reducible exact ev_c)
  | ((with_reducible apply ev_op) <;> walk_at "ev")
  | ((with_reducible apply e_negI) <;> walk_at "ev")
  | ((with_reducible apply et_test) <;> walk_at "ev")
  | ((with_reducible apply et_B) <;> walk_at "ev")
  | ((with_reducible apply et_and); (focus walk_at "ev"); intro hq; (try simp only [Bool.and_eq_true, Bool.or_eq_true, decide_eq_true_eq, Bool.not_eq_true', decide_eq_false_iff_not, Bool.and_eq_false_iff, Bool.or_eq_false_iff, Bool.not_eq_false'] at hq); walk_at "ev")
  | ((with_reducible apply et_or); (focus walk_at "ev"); intro hq; (try simp only [Bool.and_eq_true, Bool.or_eq_true, decide_eq_true_eq, Bool.not_eq_true', decide_eq_false_iff_not, Bool.and_eq_false_iff, Bool.or_eq_false_iff, Bool.not_eq_false'] at hq); walk_at "ev")
  | ((with_reducible apply ev_andV); (focus walk_at "ev"); intro hq; (try simp only [Bool.and_eq_true, Bool.or_eq_true, decide_eq_true_eq, Bool.not_eq_true', decide_eq_false_iff_not, Bool.and_eq_false_iff, Bool.or_eq_false_iff, Bool.not_eq_false'] at hq); walk_at "ev")
  | ((with_reducible apply ev_orV); (focus walk_at "ev"); intro hq; (try simp only [Bool.and_eq_true, Bool.or_eq_true, decide_eq_true_eq, Bool.not_eq_true', decide_eq_false_iff_not, Bool.and_eq_false_iff, Bool.or_eq_false_iff, Bool.not_eq_false'] at hq); walk_at "ev")
  | ((with_reducible apply e_if); (focus walk_at "ev"); (focus (intro hq; (try simp only [Bool.and_eq_true, Bool.or_eq_true, decide_eq_true_eq, Bool.not_eq_true', decide_eq_false_iff_not, Bool.and_eq_false_iff, Bool.or_eq_false_iff, Bool.not_eq_false'] at hq); walk_at "ev")); (intro hq; (try simp only [Bool.and_eq_true, Bool.or_eq_true, decide_eq_true_eq, Bool.not_eq_true', decide_eq_false_iff_not, Bool.and_eq_false_iff, Bool.or_eq_false_iff, Bool.not_eq_false'] at hq); walk_at "ev"))
  | ((with_reducible apply et_not) <;> walk_at "ev")
  | ((with_reducible apply ev_notV) <;> walk_at "ev")
  | (with_reducible exact et_yes)
  | (with_reducible exact ea_nil)
  | ((with_reducible apply ea_cons) <;> walk_at "ev")
  | (with_reducible exact eo_none)
  | ((with_reducible apply eo_some) <;> walk_at "ev")
  | ((with_reducible apply e_slBut) <;> walk_at "ev")
  | ((with_reducible apply e_slIn) <;> walk_at "ev")
  | ((with_reducible apply e_slTo) <;> walk_at "ev")
  | ((with_reducible apply e_slFrom) <;> walk_at "ev")
  | ((with_reducible apply e_slMid) <;> walk_at "ev")
  | ((with_reducible apply e_rev) <;> walk_at "ev")
  | (with_reducible exact rv_I0)
  | (with_reducible exact r_eqI) | (with_reducible exact r_neI) | (with_reducible exact r_eqS) | (with_reducible exact r_neS)
  | (with_reducible exact r_inC) | (with_reducible exact r_ninC) | (with_reducible exact r_isN) | (with_reducible exact r_notN)
  | (with_reducible exact r_ltT) | (with_reducible exact r_gtT)
  | (with_reducible exact rc_max2) | (with_reducible exact rc_min2)
  | ((with_reducible apply r_divI) <;> walk_at "sd") | ((with_reducible apply r_modI) <;> walk_at "sd") | ((with_reducible apply r_mulI) <;> walk_at "sd")
  | ((with_reducible apply r_ixS) <;> walk_at "sd")
  | ((with_reducible apply r_addT) <;> walk_at "sd")
  | ((with_reducible apply r_mulT) <;> walk_at "sd")
  | ((with_reducible apply rc_lenT) <;> walk_at "sd")
  | ((with_reducible apply rc_lenL) <;> walk_at "sd")
  | ((with_reducible apply ev_cb) <;> walk_at "ev")
  | walk_at "evc"
  | walk_at "sd"))

/-! ## is_text, need_text -/
def isTx (l : Tx) : Bool := decide (l.length ≤ 200) && l.all fun c => decide (c ∈ letters)
/-- what a def that asks for a text is handed: a text, or no text at all -/
def Thing (K : PySem.W.Frag) (H : Hp) (v : V) (o : Option Tx) : Prop := (∃ l, v = tS l ∧ l.length ≤ 1000 ∧ o = some l) ∨ (Odd K H v ∧ o = none)
theorem Thing.ex {K : PySem.W.Frag} {H H1 : Hp} {v : V} {o : Option Tx} (e : Ex H H1) (h : Thing K H v o) : Thing K H1 v o := by
  rcases h with h | ⟨h, r⟩
  · exact .inl h
  · exact .inr ⟨h.ex e, r⟩
def oTx (o : Option Tx) : Bool := match o with
  | some l => isTx l
  | none => false
def sp_is_text (A : Ad) : Sp := spV fun vs H v => ∃ x o, vs = [x] ∧ Thing A.K H x o ∧ v = .bl (oTx o)
def t_is_text (A : Ad) : TS :=
  (tRet (tAndV (tCB (rIsi A.K) (tCons (tVar 0) (tCons (tC (.ty "str")) tNil))) (tAndV (tOp rLeI (tCB rLenT (tCons (tVar 0) tNil)) (tC (.int 200))) (tCB (rAll A.K) (tCons (tLc (iStr (tVar 0)) (gName 1) tYes (tOp rInC (tVar 1) (tC (tS letters))) [1]) tNil)))))

theorem len_is_text (A : Ad) : ∀ vs H Q E, sp_is_text A vs H Q E → vs.length = 1 := fun vs H Q E h => by
  obtain ⟨v, ⟨x, o, rfl, _⟩, _⟩ := h
  rfl
theorem pu_is_text (A : Ad) (vs : List V) (H : Hp) (Q : VK) (E : XK) (h : sp_is_text A vs H Q E) : t_is_text A { nx := fun _ H' => Q .non H', rt := Q } (start ["thing", "sign"] vs) H := by
  obtain ⟨v, ⟨x, o, rfl, ho, rfl⟩, k⟩ := h
  show t_is_text A _ [some x, none] H
  unfold t_is_text
  have am := Am.start H
  rcases ho with ⟨l, rfl, hl, rfl⟩ | ⟨ho, rfl⟩
  · refine a_ret (v := .bl (oTx (some l))) am ?_ fun H1 am => k H1 am.toEx
    refine ev_is (ev_andV (a := true) (b := decide ((l.length : Int) ≤ 200) && (l.map fun c => decide (c ∈ letters)).all id) (ev_cb (ea_cons (ev_var rfl) (ea_cons ev_c ea_nil)) (rc_isi (t := .type "str") (fun _ _ => .base (.str _)) (.ty "str") (kit_ty (by decide +kernel)))) fun _ =>
      ev_andV (by walk_at "ev") fun _ => e_cbN (xs := (l.map fun c => decide (c ∈ letters)).map V.bl) ?_ fun p H1 e h1 => rc_all (sq_of h1)) ?_
    · rw [List.map_map]
      exact el_lcY (v := V.bl ∘ fun c => decide (c ∈ letters)) (wk_text (ev_var rfl)) (fun _ _ => pm_true) trivial (by omega) (fun _ => rfl) fun n _ => ev_op (ev_var rfl) ev_c r_inC
    · show V.bl (true && (decide ((l.length : Int) ≤ 200) && (l.map fun c => decide (c ∈ letters)).all id)) = V.bl (isTx l)
      congr 1
      rw [Bool.true_and, List.all_map]
      unfold isTx
      congr 1
      exact decide_eq_decide.mpr (by omega)
  · obtain ⟨n, ty, hn⟩ := ho
    refine a_ret (v := .bl false) am ?_ fun H1 am => k H1 am.toEx
    exact ev_andV (a := false) (b := false) (ev_cb (ea_cons (ev_var rfl) (ea_cons ev_c ea_nil)) (rc_isi (t := .type n) (fun _ e => tyX_ex e ty) (.ty "str") (odd_str hn))) fun z => Bool.noConfusion z
theorem c_is_text_ {A : Ad} {σ : L2.St} {H : Hp} {te : TE} {x : V} {o : Option Tx} (h : Ev te σ H x) (hx : Thing A.K H x o) : Ev (tCall (sp_is_text A) [] E0 (tCons te tNil)) σ H (.bl (oTx o)) :=
  e_callV (ea_cons h ea_nil) fun _ e => ⟨x, o, rfl, hx.ex e, rfl⟩

def sp_need_text (A : Ad) : Sp := spVX (fun vs H v => ∃ x o, vs = [x] ∧ Thing A.K H x o ∧ oTx o = true ∧ v = .non) fun vs H C => ∃ x o, vs = [x] ∧ Thing A.K H x o ∧ oTx o = false ∧ C = A.cBT
def t_need_text (A : Ad) (E : XK) : TS :=
  (tIfS (tNot (tB (tCall (sp_is_text A) [] E0 (tCons (tVar 0) tNil)))) (tRz E A.cBT) tNext)

theorem len_need_text (A : Ad) : ∀ vs H Q E, sp_need_text A vs H Q E → vs.length = 1 := fun vs H Q E h => by
  rcases h with ⟨v, ⟨x, o, rfl, _⟩, _⟩ | ⟨C, ⟨x, o, rfl, _⟩, _⟩ <;> rfl
theorem pu_need_text (A : Ad) (vs : List V) (H : Hp) (Q : VK) (E : XK) (h : sp_need_text A vs H Q E) : t_need_text A E { nx := fun _ H' => Q .non H', rt := Q } (start ["thing"] vs) H := by
  rcases h with ⟨v, ⟨x, o, rfl, ho, hb, rfl⟩, k⟩ | ⟨C, ⟨x, o, rfl, ho, hb, rfl⟩, k⟩
  · show t_need_text A E _ [some x] H
    unfold t_need_text
    refine a_if (Am.start H) (et_not (et_B (c_is_text_ (ev_var rfl) ho))) (fun z => ?_) fun _ H1 am => k H1 am.toEx
    rw [hb] at z; cases z
  · show t_need_text A E _ [some x] H
    unfold t_need_text
    refine a_if (Am.start H) (et_not (et_B (c_is_text_ (ev_var rfl) ho))) (fun _ H1 am => k H1 am.toEx) fun z => ?_
    rw [hb] at z; cases z
/-! ### a statement that only asks -/
section
variable {A : Ad} {S : List Addr} {H0 H : Hp} {L : List (Addr × HO)} {σ : L2.St} {te : TE} {D : Ends} {tz : TS} {x : V} {o : Option Tx} {E : XK}
theorem aq_need_text (am : Am S H0 L H) (h : Ev te σ H x) (hx : Thing A.K H x o) (hb : oTx o = true) (k : ∀ H, Am S H0 L H → tz D σ H) : tSeq (tDrop (tCall (sp_need_text A) [] E (tCons te tNil))) tz D σ H :=
  aq_drop am (v := .non) (e_callVX (ea_cons h ea_nil) fun _ e => ⟨x, o, rfl, hx.ex e, hb, rfl⟩) k
theorem xq_need_text (am : Am S H0 L H) (h : Ev te σ H x) (hx : Thing A.K H x o) (hb : oTx o = false) (k : ∀ H, Am S H0 L H → E (.ref A.cBT) none H) : tSeq (tDrop (tCall (sp_need_text A) [] E (tCons te tNil))) tz D σ H :=
  h H (Ex.refl H) _ fun H1 e1 => .inr ⟨A.cBT, ⟨x, o, rfl, hx.ex e1, hb, rfl⟩, fun H2 e2 => k H2 (am.ex (e1.trans e2))⟩
end

/-! ## arm_at -/
def t_arm_at (A : Ad) : TS :=
  (tSeq (tAsg (tOp rDivI (tOp rSubI (tVar 1) (tC (.int 1))) (tC (.int 2))) (gName 2))
  (tSeq (tAsg (tOp rAddI (tOp rDivI (tVar 1) (tC (.int 2))) (tC (.int 1))) (gName 3))
  (tSeq (tAsg (tC (.int 0)) (gName 4))
  (tSeq (tWhile (tAnd (tTest (tOp rGeI (tVar 2) (tC (.int 0)))) (tAnd (tTest (tOp rLtI (tVar 3) (tCB rLenT (tCons (tVar 0) tNil)))) (tTest (tOp rEq (tOp rIxS (tVar 0) (tVar 2)) (tOp rIxS (tVar 0) (tVar 3))))))
  (tSeq (tAsg (tOp rAddI (tVar 4) (tC (.int 1))) (gName 4))
  (tSeq (tAsg (tOp rSubI (tVar 2) (tC (.int 1))) (gName 2))
  (tAsg (tOp rAddI (tVar 3) (tC (.int 1))) (gName 3)))))
  (tRet (tVar 4))))))

theorem rd_arm_at (A : Ad) {l : Tx} {m : Nat} {H : Hp} {D : Ends} (hl : l.length ≤ 1000) (k_ : ∀ H', Ex H H' → D.rt (.int (armN l m)) H') :
    t_arm_at A D [some (tS l), some (.int m), none, none, none] H := by
  unfold t_arm_at
  have am := Am.start H
  refine aq_asg am (by walk_at "ev") fun H1 am => ?_
  refine aq_asg am (by walk_at "ev") fun H2 am => ?_
  refine aq_asg am (by walk_at "ev") fun H3 am => ?_
  dsimp only [List.set]
  refine aq_while (fun k σ' H' => ∃ b c : Nat, σ' = [some (tS l), some (.int m), some (.int ((k : Int) - 1)), some (.int b), some (.int c)] ∧ Am [] H [] H' ∧ k ≤ b ∧ c + ext l k b = armN l m) ((m + 1) / 2)
    ⟨m / 2 + 1, 0, ?_, am, by omega, by unfold armN; omega⟩ fun k σ' H' hw => ?_
  · rw [show ((m : Int) - 1) / 2 = (((m + 1) / 2 : Nat) : Int) - 1 by omega]
    rfl
  · obtain ⟨b, c, rfl, am, hkb, hx⟩ := hw
    refine ⟨_, by walk_at "ev", fun h H1 e N hN => ?_, fun h H1 e => ?_⟩
    · have am := am.ex e
      simp only [Bool.and_eq_true, decide_eq_true_eq, List.cons.injEq, and_true] at h
      obtain ⟨h1, h2, h3⟩ := h
      obtain ⟨k, rfl⟩ : ∃ k', k = k' + 1 := ⟨k - 1, by omega⟩
      have hh : b < l.length ∧ l.getD k 0 = l.getD b 0 := ⟨by omega, by
        have e1 : ((k + 1 : Nat) : Int) - 1 = (k : Int) := by omega
        rw [e1] at h3
        simpa [at0] using h3⟩
      refine aq_asg am (by walk_at "ev") fun H1 am => ?_
      refine aq_asg am (by walk_at "ev") fun H1 am => ?_
      refine a_asg am (by walk_at "ev") fun H1 am => ?_
      dsimp only [List.set]
      refine hN k _ _ (Nat.lt_succ_self k) ⟨b + 1, c + 1, ?_, am, by omega, ?_⟩
      · rw [show ((k + 1 : Nat) : Int) - 1 - 1 = (k : Int) - 1 by omega]
        rfl
      · rw [ext, if_pos hh] at hx
        omega
    · have am := am.ex e
      refine a_ret am (by walk_at "ev") fun H1 am => ?_
      have e0 : ext l k b = 0 := by
        cases k with
        | zero => rfl
        | succ k =>
          rw [ext, if_neg]
          intro hh
          have e1 : ((k + 1 : Nat) : Int) - 1 = (k : Int) := by omega
          rw [e1] at h
          simp only [Bool.and_eq_false_iff, decide_eq_false_iff_not, List.cons.injEq, and_true] at h
          have h5 := hh.2
          rcases h with h | h | h
          · omega
          · omega
          · exact h (by simpa [at0] using h5)
      rw [e0, Nat.add_zero] at hx
      rw [hx]
      exact k_ _ am.toEx

def sp_arm_at (A : Ad) : Sp := spV fun vs H v => ∃ (l : Tx) (m : Nat), vs = [tS l, .int m] ∧ l.length ≤ 1000 ∧ v = .int (armN l m)
theorem len_arm_at (A : Ad) : ∀ vs H Q E, sp_arm_at A vs H Q E → vs.length = 2 := fun vs H Q E h => by
  obtain ⟨v, ⟨l, m, rfl, _⟩, _⟩ := h
  rfl
theorem pu_arm_at (A : Ad) (vs : List V) (H : Hp) (Q : VK) (E : XK) (h : sp_arm_at A vs H Q E) : t_arm_at A { nx := fun _ H' => Q .non H', rt := Q } (start ["text", "middle", "left", "right", "found"] vs) H := by
  obtain ⟨v, ⟨l, m, rfl, hl, rfl⟩, k⟩ := h
  exact rd_arm_at A hl k

theorem c_arm_at_ {A : Ad} {σ : L2.St} {H : Hp} {te tm : TE} {l : Tx} {m : Nat} (h : Ev te σ H (tS l)) (hm : Ev tm σ H (.int m)) (hl : l.length ≤ 1000) : Ev (tCall (sp_arm_at A) [] E0 (tCons te (tCons tm tNil))) σ H (.int (armN l m)) :=
  e_callV (ea_cons h (ea_cons hm ea_nil)) fun _ e => ⟨l, m, rfl, hl, rfl⟩

/-! ## arms_of, arms -/
def armsN (l : Tx) : List Nat := (List.range (2 * l.length - 1)).map (armN l)
def vN (n : Nat) : V := .int n
theorem range_split {N : Nat} {pre post : List Nat} {n : Nat} (h : List.range N = pre ++ n :: post) : pre = List.range n ∧ n < N := by
  have hl : (List.range N)[pre.length]? = some n := by rw [h]; simp
  have hp : pre.length < N := by
    have := (List.getElem?_eq_some_iff.mp hl).1
    simpa using this
  rw [List.getElem?_range hp] at hl
  have e : pre.length = n := Option.some.inj hl
  refine ⟨?_, by omega⟩
  have t : (List.range N).take pre.length = pre := by rw [h]; simp
  rw [List.take_range, Nat.min_eq_left (by omega), e] at t
  exact t.symm
theorem range_at {n i : Nat} (h : i < n) : (List.range n)[((i : Nat) : Int).toNat]? = some i := by
  rw [Int.toNat_natCast]
  exact List.getElem?_range h
def sp_arms_of (A : Ad) : Sp := spL fun vs H xs => ∃ l : Tx, vs = [tS l] ∧ l.length ≤ 1000 ∧ xs = (armsN l).map vN
def t_arms_of (A : Ad) : TS :=
  (tSeq (tAsg (tLst tNil) (gName 1))
  (tSeq (tAsg (tC (.int 0)) (gName 2))
  (tSeq (tAsg (tC (.int 0)) (gName 3))
  (tSeq (tFor (iRng1 (tCons (tOp rSubI (tOp rMulI (tC (.int 2)) (tCB rLenT (tCons (tVar 0) tNil))) (tC (.int 1))) tNil)) (gName 4)
  (tSeq (tAsg (tOp rSubI (tOp rMulI (tC (.int 2)) (tVar 2)) (tVar 4)) (gName 5))
  (tSeq (tIfS (tAnd (tTest (tOp rLtI (tVar 4) (tOp rMulI (tC (.int 2)) (tVar 3)))) (tAnd (tTest (tOp rGeI (tVar 5) (tC (.int 0)))) (tTest (tOp rLtI (tOp rAddI (tOp rDivI (tOp rAddI (tVar 4) (tC (.int 1))) (tC (.int 2))) (tOp (rIxL A.K) (tVar 1) (tVar 5))) (tVar 3))))) (tDrop (tBM A.K "list" rAppend (tVar 1) (tCons (tOp (rIxL A.K) (tVar 1) (tVar 5)) tNil))) (tDrop (tBM A.K "list" rAppend (tVar 1) (tCons (tCall (sp_arm_at A) [] E0 (tCons (tVar 0) (tCons (tVar 4) tNil))) tNil))))
  (tIfS (tTest (tOp rGtI (tOp rAddI (tOp rDivI (tVar 4) (tC (.int 2))) (tOp (rIxL A.K) (tVar 1) (tVar 4))) (tVar 3))) (tSeq (tAsg (tVar 4) (gName 2))
  (tAsg (tOp rAddI (tOp rDivI (tVar 4) (tC (.int 2))) (tOp (rIxL A.K) (tVar 1) (tVar 4))) (gName 3))) tNext))))
  (tRet (tVar 1))))))

theorem len_arms_of (A : Ad) : ∀ vs H Q E, sp_arms_of A vs H Q E → vs.length = 1 := fun vs H Q E h => by
  obtain ⟨v, ⟨l, rfl, _⟩, _⟩ := h
  rfl
theorem pu_arms_of (A : Ad) (vs : List V) (H : Hp) (Q : VK) (E : XK) (h : sp_arms_of A vs H Q E) : t_arms_of A { nx := fun _ H' => Q .non H', rt := Q } (start ["text", "found", "about", "end", "middle", "other"] vs) H := by
  obtain ⟨v, ⟨l, rfl, hl, rfl⟩, k⟩ := h
  show t_arms_of A _ [some (tS l), none, none, none, none, none] H
  unfold t_arms_of
  have am := Am.start H
  refine aq_asgL am (el_lst ea_nil (by decide)) fun p H1 am => ?_
  refine aq_asg am (by walk_at "ev") fun H1 am => ?_
  refine aq_asg am (by walk_at "ev") fun H1 am => ?_
  dsimp only [List.set]
  refine aq_for (ns := List.range (2 * (l.length : Int) - 1).toNat) (f := fun i => .int (i : Nat)) (fun pre σ' H' => ∃ (a : Nat) (v4 v5 : Option V), σ' = [some (tS l), some (.ref p), some (.int a), some (.int (a / 2 + armN l a : Nat)), v4, v5] ∧
    Am [] H [(p, .lst ((pre.map (armN l)).map vN))] H' ∧ (a < pre.length ∨ (a = 0 ∧ pre = []))) am (wk_range1 (by walk_at "ev") (by omega)) (fun H1 am => ⟨0, none, none, ?_, am, .inr ⟨rfl, rfl⟩⟩) (fun _ _ _ _ => trivial) ?_ ?_
  · rw [show (0 / 2 + armN l 0 : Nat) = 0 from rfl]
    rfl
  · rintro pre n post σ' H' hs ⟨a, v4, v5, rfl, am, ha⟩
    obtain ⟨rfl, hn⟩ := range_split hs
    rw [List.length_range] at ha
    have hn' : n < 2 * l.length - 1 := by omega
    have han : a ≤ n := by
      rcases ha with c | ⟨c, _⟩
      · omega
      · omega
    have hin : a / 2 + armN l a < l.length := arm_in (by omega)
    dsimp only [List.set]
    refine aq_asg am (by walk_at "ev") fun H1 am => ?_
    dsimp only [List.set]
    have at_ : ∀ {H1 : Hp}, Am [] H [(p, .lst (((List.range n).map (armN l)).map vN))] H1 → ∀ o : Nat, o < n → ∀ {te : TE} {σ : L2.St}, Ev te σ H1 (.int (o : Nat)) → σ[1]? = some (some (.ref p)) → Ev (tOp (rIxL A.K) (tVar 1) te) σ H1 (.int (armN l o)) := fun {H1} am o ho {te σ} h1 h2 =>
      ev_op (ev_var h2) h1 (rv_ixL (K := A.K) (sq_of (am.at 0 rfl)) (by
        rw [List.map_map]
        exact atI_map (f := vN ∘ armN l) (by omega) (range_at ho)))
    -- the tail of a turn: found[middle] is there
    have last : ∀ {H1 : Hp} {v5 : Option V}, Am [] H [(p, .lst (((List.range (n + 1)).map (armN l)).map vN))] H1 →
        (tIfS (tTest (tOp rGtI (tOp rAddI (tOp rDivI (tVar 4) (tC (.int 2))) (tOp (rIxL A.K) (tVar 1) (tVar 4))) (tVar 3))) (tSeq (tAsg (tVar 4) (gName 2)) (tAsg (tOp rAddI (tOp rDivI (tVar 4) (tC (.int 2))) (tOp (rIxL A.K) (tVar 1) (tVar 4))) (gName 3))) tNext)
        { nx := fun σ' H' => ∃ (a : Nat) (v4 v5 : Option V), σ' = [some (tS l), some (.ref p), some (.int a), some (.int (a / 2 + armN l a : Nat)), v4, v5] ∧ Am [] H [(p, .lst (((List.range n ++ [n]).map (armN l)).map vN))] H' ∧ (a < (List.range n ++ [n]).length ∨ (a = 0 ∧ List.range n ++ [n] = [])),
          rt := Q, bk := fun σ' H' => tRet (tVar 1) { nx := fun _ H' => Q .non H', rt := Q } σ' H', ct := fun σ' H' => ∃ (a : Nat) (v4 v5 : Option V), σ' = [some (tS l), some (.ref p), some (.int a), some (.int (a / 2 + armN l a : Nat)), v4, v5] ∧ Am [] H [(p, .lst (((List.range n ++ [n]).map (armN l)).map vN))] H' ∧ (a < (List.range n ++ [n]).length ∨ (a = 0 ∧ List.range n ++ [n] = [])) }
        [some (tS l), some (.ref p), some (.int a), some (.int (a / 2 + armN l a : Nat)), some (.int n), v5] H1 := fun {H1 v5} am => by
      have it : ∀ {H1 : Hp} {σ : L2.St}, Am [] H [(p, .lst (((List.range (n + 1)).map (armN l)).map vN))] H1 → σ[1]? = some (some (.ref p)) → σ[4]? = some (some (.int n)) → Ev (tOp rAddI (tOp rDivI (tVar 4) (tC (.int 2))) (tOp (rIxL A.K) (tVar 1) (tVar 4))) σ H1 (.int (((n : Nat) : Int) / 2 + (armN l n : Nat))) := fun {H1 σ} am h1 h4 =>
        ev_op (ev_op (ev_var h4) ev_c (r_divI ⟨by decide, by decide⟩)) (ev_op (ev_var h1) (ev_var h4) (rv_ixL (K := A.K) (sq_of (am.at 0 rfl)) (by
          rw [List.map_map]
          exact atI_map (f := vN ∘ armN l) (by omega) (range_at (Nat.lt_succ_self n))))) rv_I0
      rw [← List.range_succ]
      refine a_if am (et_test (ev_op (it am rfl rfl) (ev_var rfl) rv_I0)) (fun c H1 am => ?_) fun c H1 am => ?_
      · refine aq_asg am (by walk_at "ev") fun H1 am => ?_
        refine a_asg am (it am rfl rfl) fun H1 am => ?_
        dsimp only [List.set]
        refine ⟨n, some (.int n), v5, ?_, am, .inl (by simp)⟩
        rw [show (((n / 2 + armN l n : Nat)) : Int) = ((n : Nat) : Int) / 2 + (armN l n : Nat) by omega]
      · refine ⟨a, some (.int n), v5, rfl, am, .inl ?_⟩
        simp only [List.length_range]
        omega
    refine aq_if am (b := decide ((n : Int) < 2 * ((a / 2 + armN l a : Nat) : Int)) && (decide ((0 : Int) ≤ 2 * (a : Int) - n) && decide (((n : Int) + 1) / 2 + (armN l (2 * a - n) : Nat) < ((a / 2 + armN l a : Nat) : Int)))) ?_ (fun c H1 am => ?_) fun c H1 am => ?_
    · refine et_and (by walk_at "ev") fun c1 => et_and (by walk_at "ev") fun c2 => ?_
      have c1 := of_decide_eq_true c1
      have c2 := of_decide_eq_true c2
      have ho : 2 * a - n < n := by
        rcases ha with c | ⟨rfl, _⟩
        · omega
        · have : armN l 0 = 0 := rfl
          omega
      refine et_test (ev_op (ev_op (by walk_at "ev") (at_ am (2 * a - n) ho (ev_is (ev_var rfl) ?_) rfl) rv_I0) (by walk_at "ev") rv_I0)
      rw [show ((2 * a - n : Nat) : Int) = 2 * (a : Int) - n by omega]
    · simp only [Bool.and_eq_true, decide_eq_true_eq] at c
      obtain ⟨c1, c2, c3⟩ := c
      have ho : 2 * a - n < n := by
        rcases ha with c | ⟨rfl, _⟩
        · omega
        · have : armN l 0 = 0 := rfl
          omega
      have em : armN l n = armN l (2 * a - n) := arm_mirror han (by omega) hin (by omega)
      refine a_app 0 am rfl (ev_var rfl) (at_ am (2 * a - n) ho (ev_is (ev_var rfl) ?_) rfl) (by simp; omega) fun H1 am => last ?_
      · rw [show ((2 * a - n : Nat) : Int) = 2 * (a : Int) - n by omega]
      · rw [List.range_succ, List.map_append, List.map_append]
        rw [← em] at am
        exact am
    · refine a_app 0 am rfl (ev_var rfl) (c_arm_at_ (ev_var rfl) (ev_var rfl) hl) (by simp; omega) fun H1 am => last ?_
      rw [List.range_succ, List.map_append, List.map_append]
      exact am
  · rintro σ' H' ⟨a, v4, v5, rfl, am, ha⟩
    refine a_ret am (ev_var rfl) fun H1 am => k p H1 (am.free 0 rfl) am.toEx ?_
    have e : (2 * (l.length : Int) - 1).toNat = 2 * l.length - 1 := by omega
    rw [e] at am
    exact am.at 0 rfl
theorem c_arms_of_ {A : Ad} {σ : L2.St} {H : Hp} {te : TE} {l : Tx} (h : Ev te σ H (tS l)) (hl : l.length ≤ 1000) : EvL (tCall (sp_arms_of A) [] E0 (tCons te tNil)) σ H ((armsN l).map vN) :=
  e_callL (ea_cons h ea_nil) fun _ e => ⟨l, rfl, hl, rfl⟩

def sp_arms (A : Ad) : Sp := spLX (fun vs H xs => ∃ x l, vs = [x] ∧ Thing A.K H x (some l) ∧ isTx l = true ∧ xs = (armsN l).map vN) fun vs H C => ∃ x o, vs = [x] ∧ Thing A.K H x o ∧ oTx o = false ∧ C = A.cBT
def t_arms (A : Ad) (E : XK) : TS :=
  (tSeq (tDrop (tCall (sp_need_text A) [] E (tCons (tVar 0) tNil)))
  (tRet (tCall (sp_arms_of A) [] E0 (tCons (tVar 0) tNil))))

theorem len_arms (A : Ad) : ∀ vs H Q E, sp_arms A vs H Q E → vs.length = 1 := fun vs H Q E h => by
  rcases h with ⟨v, ⟨x, o, rfl, _⟩, _⟩ | ⟨C, ⟨x, o, rfl, _⟩, _⟩ <;> rfl
theorem thing_tx {K : PySem.W.Frag} {H : Hp} {x : V} {l : Tx} (h : Thing K H x (some l)) : x = tS l ∧ l.length ≤ 1000 := by
  rcases h with ⟨l', rfl, h, e⟩ | ⟨_, e⟩
  · cases e
    exact ⟨rfl, h⟩
  · cases e
theorem pu_arms (A : Ad) (vs : List V) (H : Hp) (Q : VK) (E : XK) (h : sp_arms A vs H Q E) : t_arms A E { nx := fun _ H' => Q .non H', rt := Q } (start ["text"] vs) H := by
  rcases h with ⟨xs, ⟨x, l, rfl, hx, hb, rfl⟩, k⟩ | ⟨C, ⟨x, o, rfl, hx, hb, rfl⟩, k⟩
  · show t_arms A E _ [some x] H
    unfold t_arms
    obtain ⟨rfl, hl⟩ := thing_tx hx
    refine aq_need_text (Am.start H) (ev_var rfl) hx hb fun H1 am => ?_
    exact a_retL am (c_arms_of_ (ev_var rfl) hl) fun p H2 am => k p H2 (am.free 0 rfl) am.toEx (am.at 0 rfl)
  · show t_arms A E _ [some x] H
    unfold t_arms
    exact xq_need_text (Am.start H) (ev_var rfl) hx hb fun H1 am => k H1 am.toEx
theorem c_arms_ {A : Ad} {σ : L2.St} {H : Hp} {te : TE} {l : Tx} {E : XK} (h : Ev te σ H (tS l)) (hb : isTx l = true) (hl : l.length ≤ 1000) : EvL (tCall (sp_arms A) [] E (tCons te tNil)) σ H ((armsN l).map vN) :=
  e_callLX (ea_cons h ea_nil) fun _ e => ⟨tS l, l, rfl, .inl ⟨l, rfl, hl, rfl⟩, hb, rfl⟩

end Mw
namespace Mw
open PySem PySem.Spec PyProof.Rows L2 Evl
local macro_rules | `(tactic| walk_at "sd") => `(tactic| (first
  | assumption
  | omega
  | decide
  | (simp only [List.length_append, List.length_cons, List.length_nil, List.length_reverse, List.length_take, List.length_drop, List.length_map, List.length_range] at *; omega)
  | skip))
local macro_rules | `(tactic| walk_at "ev") => `(tactic| (first
  | ((with_reducible apply ev_var); rfl)
  | (with_reducible exact ev_c)
  | ((with_reducible apply ev_op) <;> walk_at "ev")
  | ((with_reducible apply e_negI) <;> walk_at "ev")
  | ((with_reducible apply et_test) <;> walk_at "ev")
  | ((with_reducible apply et_B) <;> walk_at "ev")
  | ((with_reducible apply et_and); (focus walk_at "ev"); intro hq; (try simp only [Bool.and_eq_true, Bool.or_eq_true, decide_eq_true_eq, Bool.not_eq_true', decide_eq_false_iff_not, Bool.and_eq_false_iff, Bool.or_eq_false_iff, Bool.not_eq_false'] at hq); walk_at "ev")
  | ((with_reducible apply et_or); (focus walk_at "ev"); intro hq; (try simp only [Bool.and_eq_true, Bool.or_eq_true, decide_eq_true_eq, Bool.not_eq_true', decide_eq_false_iff_not, Bool.and_eq_false_iff, Bool.or_eq_false_iff, Bool.not_eq_false'] at hq); walk_at "ev")
  | ((with_reducible apply ev_andV); (focus walk_at "ev"); intro hq; (try simp only [Bool.and_eq_true, Bool.or_eq_true, decide_eq_true_eq, Bool.not_eq_true', decide_eq_false_iff_not, Bool.and_eq_false_iff, Bool.or_eq_false_iff, Bool.not_eq_false'] at hq); walk_at "ev")
  | ((with_reducible apply ev_orV); (focus walk_at "ev"); intro hq; (try simp only [Bool.and_eq_true, Bool.or_eq_true, decide_eq_true_eq, Bool.not_eq_true', decide_eq_false_iff_not, Bool.and_eq_false_iff, Bool.or_eq_false_iff, Bool.not_eq_false'] at hq); walk_at "ev")
  | ((with_reducible apply e_if); (focus walk_at "ev"); (focus (intro hq; (try simp only [Bool.and_eq_true, Bool.or_eq_true, decide_eq_true_eq, Bool.not_eq_true', decide_eq_false_iff_not, Bool.and_eq_false_iff, Bool.or_eq_false_iff, Bool.not_eq_false'] at hq); walk_at "ev")); (intro hq; (try simp only [Bool.and_eq_true, Bool.or_eq_true, decide_eq_true_eq, Bool.not_eq_true', decide_eq_false_iff_not, Bool.and_eq_false_iff, Bool.or_eq_false_iff, Bool.not_eq_false'] at hq); walk_at "ev"))
  | ((with_reducible apply et_not) <;> walk_at "ev")
  | ((with_reducible apply ev_notV) <;> walk_at "ev")
  | (with_reducible exact et_yes)
  | (with_reducible exact ea_nil)
  | ((with_reducible apply ea_cons) <;> walk_at "ev")
  | (with_reducible exact eo_none)
  | ((with_reducible apply eo_some) <;> walk_at "ev")
  | ((with_reducible apply e_slBut) <;> walk_at "ev")
  | ((with_reducible apply e_slIn) <;> walk_at "ev")
  | ((with_reducible apply e_slTo) <;> walk_at "ev")
  | ((with_reducible apply e_slFrom) <;> walk_at "ev")
  | ((with_reducible apply e_slMid) <;> walk_at "ev")
  | ((with_reducible apply e_rev) <;> walk_at "ev")
  | (with_reducible exact rv_I0)
  | (with_reducible exact r_eqI) | (with_reducible exact r_neI) | (with_reducible exact r_eqS) | (with_reducible exact r_neS)
  | (with_reducible exact r_inC) | (with_reducible exact r_ninC) | (with_reducible exact r_isN) | (with_reducible exact r_notN)
  | (with_reducible exact r_ltT) | (with_reducible exact r_gtT)
  | (with_reducible exact rc_max2) | (with_reducible exact rc_min2)
  | ((with_reducible apply r_divI) <;> walk_at "sd") | ((with_reducible apply r_modI) <;> walk_at "sd") | ((with_reducible apply r_mulI) <;> walk_at "sd")
  | ((with_reducible apply r_ixS) <;> walk_at "sd")
  | ((with_reducible apply r_addT) <;> walk_at "sd")
  | ((with_reducible apply r_mulT) <;> walk_at "sd")
  | ((with_reducible apply rc_lenT) <;> walk_at "sd")
  | ((with_reducible apply rc_lenL) <;> walk_at "sd")
  | ((with_reducible apply ev_cb) <;> walk_at "ev")
  | walk_at "evc"
  | walk_at "sd"))

/-! ## is_whole -/
def kinds : List String := ["NoneType", "int", "bool", "list", "tuple", "dict", "str"]
def sp_is_whole (A : Ad) : Sp := spV fun vs H v => ∃ (x : V) (t : String), vs = [x] ∧ TyX A.K H x (.type t) ∧ t ∈ kinds ∧ v = .bl (decide (t = "int"))
def t_is_whole (A : Ad) : TS :=
  (tRet (tAndV (tCB (rIsi A.K) (tCons (tVar 0) (tCons (tC (.ty "int")) tNil))) (tNotV (tCB (rIsi A.K) (tCons (tVar 0) (tCons (tC (.ty "bool")) tNil))))))

theorem len_is_whole (A : Ad) : ∀ vs H Q E, sp_is_whole A vs H Q E → vs.length = 1 := fun vs H Q E h => by
  obtain ⟨v, ⟨x, t, rfl, _⟩, _⟩ := h
  rfl
theorem kit_int {K : PySem.W.Frag} {t : String} (h : t ∈ kinds) : PySem.W.kitOne K (.type t) (.type "int") = some (decide (t = "int") || decide (t = "bool")) := by
  simp only [kinds, List.mem_cons, List.not_mem_nil, or_false] at h
  rcases h with rfl | rfl | rfl | rfl | rfl | rfl | rfl <;> exact kit_ty (by decide +kernel)
theorem kit_bool {K : PySem.W.Frag} {t : String} (h : t ∈ kinds) : PySem.W.kitOne K (.type t) (.type "bool") = some (decide (t = "bool")) := by
  simp only [kinds, List.mem_cons, List.not_mem_nil, or_false] at h
  rcases h with rfl | rfl | rfl | rfl | rfl | rfl | rfl <;> exact kit_ty (by decide +kernel)
theorem kit_list {K : PySem.W.Frag} {t : String} (h : t ∈ kinds) : PySem.W.kitOne K (.type t) (.type "list") = some (decide (t = "list")) := by
  simp only [kinds, List.mem_cons, List.not_mem_nil, or_false] at h
  rcases h with rfl | rfl | rfl | rfl | rfl | rfl | rfl <;> exact kit_ty (by decide +kernel)
theorem pu_is_whole (A : Ad) (vs : List V) (H : Hp) (Q : VK) (E : XK) (h : sp_is_whole A vs H Q E) : t_is_whole A { nx := fun _ H' => Q .non H', rt := Q } (start ["thing"] vs) H := by
  obtain ⟨v, ⟨x, t, rfl, ty, ht, rfl⟩, k⟩ := h
  show t_is_whole A _ [some x] H
  unfold t_is_whole
  refine a_ret (v := .bl (decide (t = "int"))) (Am.start H) (ev_is (ev_andV (a := decide (t = "int") || decide (t = "bool")) (b := !decide (t = "bool")) (ev_cb (ea_cons (ev_var rfl) (ea_cons ev_c ea_nil)) (rc_isi (t := .type t) (fun _ e => tyX_ex e ty) (.ty "int") (kit_int ht))) fun _ =>
    ev_notV (ev_cb (ea_cons (ev_var rfl) (ea_cons ev_c ea_nil)) (rc_isi (t := .type t) (fun _ e => tyX_ex e ty) (.ty "bool") (kit_bool ht)))) ?_) fun H1 am => k H1 am.toEx
  congr 1
  by_cases c : t = "int"
  · subst c; rfl
  · by_cases d : t = "bool"
    · subst d; rfl
    · rw [decide_eq_false c, decide_eq_false d]; rfl
theorem c_is_whole_ {A : Ad} {σ : L2.St} {H : Hp} {te : TE} {x : V} {t : String} (h : Ev te σ H x) (ty : TyX A.K H x (.type t)) (ht : t ∈ kinds) : Ev (tCall (sp_is_whole A) [] E0 (tCons te tNil)) σ H (.bl (decide (t = "int"))) :=
  e_callV (ea_cons h ea_nil) fun _ e => ⟨x, t, rfl, tyX_ex e ty, ht, rfl⟩
theorem range_atM {N : Nat} {pre post : List Nat} {n : Nat} (h : List.range N = pre ++ n :: post) : pre.length = n ∧ n < N := by
  obtain ⟨h1, h2⟩ := range_split h
  rw [h1, List.length_range]
  exact ⟨rfl, h2⟩

end Mw
namespace Mw
open PySem PySem.Spec PyProof.Rows L2 Evl
local macro_rules | `(tactic| walk_at "sd") => `(tactic| (first
  | assumption
  | omega
  | decide
  | (simp only [List.length_append, List.length_cons, List.length_nil, List.length_reverse, List.length_take, List.length_drop, List.length_map, List.length_range] at *; omega)
  | skip))
local macro_rules | `(tactic| walk_at "ev") => `(tactic| (first
  | ((with_reducible apply ev_var); rfl)
  | (with_reducible exact ev_c)
  | ((with_reducible apply ev_op) <;> walk_at "ev")
  | ((with_reducible apply e_negI) <;> walk_at "ev")
  | ((with_reducible apply et_test) <;> walk_at "ev")
  | ((with_reducible apply et_B) <;> walk_at "ev")
  | ((with_reducible apply et_and); (focus walk_at "ev"); intro hq; (try simp only [Bool.and_eq_true, Bool.or_eq_true, decide_eq_true_eq, Bool.not_eq_true', decide_eq_false_iff_not, Bool.and_eq_false_iff, Bool.or_eq_false_iff, Bool.not_eq_false'] at hq); walk_at "ev")
  | ((with_reducible apply et_or); (focus walk_at "ev"); intro hq; (try simp only [Bool.and_eq_true, Bool.or_eq_true, decide_eq_true_eq, Bool.not_eq_true', decide_eq_false_iff_not, Bool.and_eq_false_iff, Bool.or_eq_false_iff, Bool.not_eq_false'] at hq); walk_at "ev")
  | ((with_reducible apply ev_andV); (focus walk_at "ev"); intro hq; (try simp only [Bool.and_eq_true, Bool.or_eq_true, decide_eq_true_eq, Bool.not_eq_true', decide_eq_false_iff_not, Bool.and_eq_false_iff, Bool.or_eq_false_iff, Bool.not_eq_false'] at hq); walk_at "ev")
  | ((with_reducible apply ev_orV); (focus walk_at "ev"); intro hq; (try simp only [Bool.and_eq_true, Bool.or_eq_true, decide_eq_true_eq, Bool.not_eq_true', decide_eq_false_iff_not, Bool.and_eq_false_iff, Bool.or_eq_false_iff, Bool.not_eq_false'] at hq); walk_at "ev")
  | ((with_reducible apply e_if); (focus walk_at "ev"); (focus (intro hq; (try simp only [Bool.and_eq_true, Bool.or_eq_true, decide_eq_true_eq, Bool.not_eq_true', decide_eq_false_iff_not, Bool.and_eq_false_iff, Bool.or_eq_false_iff, Bool.not_eq_false'] at hq); walk_at "ev")); (intro hq; (try simp only [Bool.and_eq_true, Bool.or_eq_true, decide_eq_true_eq, Bool.not_eq_true', decide_eq_false_iff_not, Bool.and_eq_false_iff, Bool.or_eq_false_iff, Bool.not_eq_false'] at hq); walk_at "ev"))
  | ((with_reducible apply et_not) <;> walk_at "ev")
  | ((with_reducible apply ev_notV) <;> walk_at "ev")
  | (with_reducible exact et_yes)
  | (with_reducible exact ea_nil)
  | ((with_reducible apply ea_cons) <;> walk_at "ev")
  | (with_reducible exact eo_none)
  | ((with_reducible apply eo_some) <;> walk_at "ev")
  | ((with_reducible apply e_slBut) <;> walk_at "ev")
  | ((with_reducible apply e_slIn) <;> walk_at "ev")
  | ((with_reducible apply e_slTo) <;> walk_at "ev")
  | ((with_reducible apply e_slFrom) <;> walk_at "ev")
  | ((with_reducible apply e_slMid) <;> walk_at "ev")
  | ((with_reducible apply e_rev) <;> walk_at "ev")
  | (with_reducible exact rv_I0)
  | (with_reducible exact r_eqI) | (with_reducible exact r_neI) | (with_reducible exact r_eqS) | (with_reducible exact r_neS)
  | (with_reducible exact r_inC) | (with_reducible exact r_ninC) | (with_reducible exact r_isN) | (with_reducible exact r_notN)
  | (with_reducible exact r_ltT) | (with_reducible exact r_gtT)
  | (with_reducible exact rc_max2) | (with_reducible exact rc_min2)
  | ((with_reducible apply r_divI) <;> walk_at "sd") | ((with_reducible apply r_modI) <;> walk_at "sd") | ((with_reducible apply r_mulI) <;> walk_at "sd")
  | ((with_reducible apply r_ixS) <;> walk_at "sd")
  | ((with_reducible apply r_addT) <;> walk_at "sd")
  | ((with_reducible apply r_mulT) <;> walk_at "sd")
  | ((with_reducible apply rc_lenT) <;> walk_at "sd")
  | ((with_reducible apply rc_lenL) <;> walk_at "sd")
  | ((with_reducible apply ev_cb) <;> walk_at "ev")
  | walk_at "evc"
  | walk_at "sd"))

/-! ## most_arm, is_arms -/
def mostI (m n : Int) : Int := min ((m + 1) / 2) (n - 1 - m / 2)
def sp_most_arm (A : Ad) : Sp := spV fun vs H v => ∃ m n : Int, vs = [.int m, .int n] ∧ v = .int (mostI m n)
def t_most_arm (A : Ad) : TS :=
  (tRet (tCB rMin2I (tCons (tOp rDivI (tOp rAddI (tVar 0) (tC (.int 1))) (tC (.int 2))) (tCons (tOp rSubI (tOp rSubI (tVar 1) (tC (.int 1))) (tOp rDivI (tVar 0) (tC (.int 2)))) tNil))))

theorem len_most_arm (A : Ad) : ∀ vs H Q E, sp_most_arm A vs H Q E → vs.length = 2 := fun vs H Q E h => by
  obtain ⟨v, ⟨m, n, rfl, _⟩, _⟩ := h
  rfl
theorem pu_most_arm (A : Ad) (vs : List V) (H : Hp) (Q : VK) (E : XK) (h : sp_most_arm A vs H Q E) : t_most_arm A { nx := fun _ H' => Q .non H', rt := Q } (start ["middle", "many"] vs) H := by
  obtain ⟨v, ⟨m, n, rfl, rfl⟩, k⟩ := h
  show t_most_arm A _ [some (.int m), some (.int n)] H
  unfold t_most_arm
  exact a_ret (v := .int (min ((m + 1) / 2) (n - 1 - m / 2))) (Am.start H) (by walk_at "ev") fun H1 am => k H1 am.toEx
theorem c_most_arm_ {A : Ad} {σ : L2.St} {H : Hp} {tm tn : TE} {m n : Int} (h : Ev tm σ H (.int m)) (h2 : Ev tn σ H (.int n)) : Ev (tCall (sp_most_arm A) [] E0 (tCons tm (tCons tn tNil))) σ H (.int (mostI m n)) :=
  e_callV (ea_cons h (ea_cons h2 ea_nil)) fun _ e => ⟨m, n, rfl, rfl⟩
/-- what may stand in a list of arms -/
inductive Elt where
  | i (x : Int)
  | b (x : Bool)
  | s (x : Tx)
  | n
  | l (q : Addr) (xs : List Int)
def eV : Elt → V
  | .i x => .int x
  | .b x => .bl x
  | .s x => tS x
  | .n => .non
  | .l q _ => .ref q
def eD : Elt → PyData
  | .i x => .int x
  | .b x => .bool x
  | .s x => .str (T x)
  | .n => .none
  | .l _ xs => .list (xs.map PyData.int)
def eT : Elt → String
  | .i _ => "int"
  | .b _ => "bool"
  | .s _ => "str"
  | .n => "NoneType"
  | .l _ _ => "list"
def holdE (H : Hp) : Elt → Prop
  | .l q xs => H q = some (.lst (xs.map V.int))
  | _ => True
theorem holdE.ex {H H' : Hp} (e : Ex H H') {x : Elt} (h : holdE H x) : holdE H' x := by
  cases x with
  | l q xs => exact e _ _ h
  | i _ => trivial
  | b _ => trivial
  | s _ => trivial
  | n => trivial
def okE : Elt → Bool
  | .s x => okT x
  | _ => true
def goodE (m n : Int) : Elt → Bool
  | .i x => decide (0 ≤ x) && decide (x ≤ mostI m n)
  | _ => false
theorem eT_kind (e : Elt) : eT e ∈ kinds := by
  cases e
  · exact (by decide : "int" ∈ kinds)
  · exact (by decide : "bool" ∈ kinds)
  · exact (by decide : "str" ∈ kinds)
  · exact (by decide : "NoneType" ∈ kinds)
  · exact (by decide : "list" ∈ kinds)
def goodAt (es : List Elt) (m : Nat) : Bool := match es[m]? with
  | some e => goodE m (((es.length + 1) / 2 : Nat) : Int) e
  | none => true
def arB (es : List Elt) : Bool := decide (es.length ≤ 399) && (decide (es = []) || decide (es.length % 2 = 1)) && (List.range es.length).all (goodAt es)
theorem eT_ty {K : PySem.W.Frag} {H : Hp} (e : Elt) (h : holdE H e) : TyX K H (eV e) (.type (eT e)) := by
  cases e
  · exact .base (.int _)
  · exact .base (.bl _)
  · exact .base (.str _)
  · exact .base .non
  · exact .base (.lst h)
theorem dpAll_elts {K : PySem.W.Frag} {H : Hp} : ∀ es : List Elt, (∀ e ∈ es, holdE H e) → DpAll K H (es.map eV) (es.map eD)
  | [], _ => .nil
  | e :: r, h => .cons (by
      have h0 := h e (List.mem_cons_self ..)
      cases e
      · exact .int _
      · exact .bl _
      · exact .str _
      · exact .non
      · exact dp_ints (sq_of h0)) (dpAll_elts r fun x hx => h x (List.mem_cons_of_mem _ hx))
theorem layAll_elts : ∀ es : List Elt, (∀ e ∈ es, okE e = true) → PyData.canLayAll0 (es.map eD) = true
  | [], _ => rfl
  | e :: r, h => by
    rw [List.map_cons]
    unfold PyData.canLayAll0
    rw [layAll_elts r fun x hx => h x (List.mem_cons_of_mem _ hx)]
    have z := h e (List.mem_cons_self ..)
    cases e with
    | i x => rfl
    | b x => rfl
    | s x => rw [Bool.and_true]; exact z
    | n => rfl
    | l q xs => rw [Bool.and_true]; exact layAll_ints xs
theorem depth_elts : ∀ es : List Elt, PyData.depthAll (es.map eD) ≤ 1
  | [] => Nat.zero_le _
  | e :: r => by
    rw [List.map_cons]
    unfold PyData.depthAll
    have := depth_elts r
    have h2 : (eD e).depth ≤ 1 := by
      cases e with
      | i x => exact Nat.zero_le _
      | b x => exact Nat.zero_le _
      | s x => exact Nat.zero_le _
      | n => exact Nat.zero_le _
      | l q xs =>
        show PyData.depthAll (xs.map PyData.int) + 1 ≤ 1
        rw [depth_ints]
        exact Nat.le_refl _
    omega
theorem shaped_elts {es : List Elt} (h : ∀ e ∈ es, okE e = true) : SeqAt.shaped (.list (es.map eD)) = true := by
  unfold SeqAt.shaped
  rw [Bool.and_eq_true]
  refine ⟨layAll_elts es h, decide_eq_true ?_⟩
  have := depth_elts es
  show PyData.depthAll (es.map eD) + 1 ≤ 64
  omega
theorem eqv_elts_nil (es : List Elt) : PyData.eqv (.list (es.map eD)) (.list []) = decide (es = []) := by
  cases es with
  | nil => rfl
  | cons e r => rfl
/-- a thing, and whether it is a list of arms -/
def IsA (K : PySem.W.Frag) (H : Hp) (x : V) (b : Bool) : Prop := (∃ p es, x = .ref p ∧ SqL K H p (es.map eV) ∧ TyX K H x (.type "list") ∧ es.length ≤ 1000 ∧ (∀ e ∈ es, okE e = true) ∧ (∀ e ∈ es, holdE H e) ∧ b = arB es) ∨ ∃ t, TyX K H x (.type t) ∧ t ∈ kinds ∧ t ≠ "list" ∧ b = false
theorem IsA.ex {K : PySem.W.Frag} {H H' : Hp} {x : V} {b : Bool} (e : Ex H H') (h : IsA K H x b) : IsA K H' x b := by
  rcases h with ⟨p, es, a, b, c, d⟩ | ⟨t, a, b⟩
  · exact .inl ⟨p, es, a, ex_l e b, tyX_ex e c, d.1, d.2.1, fun x hx => (d.2.2.1 x hx).ex e, d.2.2.2⟩
  · exact .inr ⟨t, tyX_ex e a, b⟩
def sp_is_arms (A : Ad) : Sp := spV fun vs H v => ∃ x b, vs = [x] ∧ IsA A.K H x b ∧ v = .bl b
def t_is_arms (A : Ad) : TS :=
  (tSeq (tIfS (tOr (tNot (tB (tCB (rIsi A.K) (tCons (tVar 0) (tCons (tC (.ty "list")) tNil))))) (tOr (tTest (tOp rGtI (tCB (rLenS A.K) (tCons (tVar 0) tNil)) (tOp rSubI (tOp rMulI (tC (.int 2)) (tC (.int 200))) (tC (.int 1))))) (tAnd (tTest (tOp (rNeD A.K) (tVar 0) (tLst tNil))) (tTest (tOp rEq (tOp rModI (tCB (rLenS A.K) (tCons (tVar 0) tNil)) (tC (.int 2))) (tC (.int 0))))))) (tRet (tC (.bl false))) tNext)
  (tSeq (tAsg (tOp rDivI (tOp rAddI (tCB (rLenS A.K) (tCons (tVar 0) tNil)) (tC (.int 1))) (tC (.int 2))) (gName 1))
  (tRet (tCB (rAll A.K) (tCons (tLc (iEnum A.K (tCons (tVar 0) tNil)) (gTup A.K 2 (gCons (gName 2) (gCons (gName 3) gNil))) tYes (tAndV (tCall (sp_is_whole A) [] E0 (tCons (tVar 3) tNil)) (tChain rLeI rLeI (tC (.int 0)) (tVar 3) (tCall (sp_most_arm A) [] E0 (tCons (tVar 2) (tCons (tVar 1) tNil))))) [2, 3]) tNil)))))

theorem len_is_arms (A : Ad) : ∀ vs H Q E, sp_is_arms A vs H Q E → vs.length = 1 := fun vs H Q E h => by
  obtain ⟨v, ⟨x, b, rfl, _⟩, _⟩ := h
  rfl
theorem pu_is_arms (A : Ad) (vs : List V) (H : Hp) (Q : VK) (E : XK) (h : sp_is_arms A vs H Q E) : t_is_arms A { nx := fun _ H' => Q .non H', rt := Q } (start ["thing", "many", "middle", "arm"] vs) H := by
  obtain ⟨v, ⟨x, b, rfl, hx, rfl⟩, k⟩ := h
  show t_is_arms A _ [some x, none, none, none] H
  unfold t_is_arms
  have am := Am.start H
  rcases hx with ⟨p, es, rfl, hs, ty, hz, hok, hho, rfl⟩ | ⟨t, ty, ht, hne, rfl⟩
  · have hlen : ∀ {H1 : Hp} {σ : L2.St}, Ex H H1 → σ[0]? = some (some (.ref p)) → Ev (tCB (rLenS A.K) (tCons (tVar 0) tNil)) σ H1 (.int (es.length : Nat)) := fun {H1 σ} e s0 => ev_is (ev_cb (ea_cons (ev_var s0) ea_nil) (rc_lenL (K := A.K) (ex_l e hs))) (by rw [List.length_map])
    refine aq_when (b := false || (decide ((399 : Int) < (es.length : Nat)) || (!decide (es = []) && decide (((es.length : Nat) : Int) % 2 = 0)))) am ?_ (fun c H1 am => ?_) fun c H1 am => ?_
    · refine et_or (et_not (et_B (ev_cb (ea_cons (ev_var rfl) (ea_cons ev_c ea_nil)) (rc_isi (t := .type "list") (b := true) (fun _ e => tyX_ex e ty) (.ty "list") (kit_ty (by decide +kernel)))))) fun _ =>
        et_or (et_test (ev_op (hlen (Ex.refl H) rfl) (ev_is (v := .int (2 * 200 - 1)) (ev_op (ev_op ev_c ev_c (r_mulI (by decide))) ev_c rv_I0) rfl) rv_I0)) fun _ => et_and (et_test (ev_opL (ev_var rfl) (el_lst ea_nil (by decide)) fun q H1 h1 e1 => rv_neD (.lst (ex_l e1 hs) (dpAll_elts es fun x hx => (hho x hx).ex e1)) (.lst (sq_of h1) .nil) (shaped_elts hok) (by decide +kernel) (eqv_elts_nil es))) fun _ =>
        et_test (ev_op (ev_op (hlen (Ex.refl H) rfl) ev_c (r_modI (by decide))) ev_c r_eqI)
    · have e0 : arB es = false := by
        unfold arB
        simp only [Bool.false_or, Bool.or_eq_true, Bool.and_eq_true, decide_eq_true_eq, Bool.not_eq_true', decide_eq_false_iff_not] at c
        rcases c with c | ⟨c, d⟩
        · rw [decide_eq_false (by omega : ¬ es.length ≤ 399)]; rfl
        · rw [decide_eq_false c, decide_eq_false (by omega : ¬ es.length % 2 = 1)]
          simp
      rw [e0] at k
      exact a_ret am ev_c fun H2 am => k H2 am.toEx
    · have e0 : arB es = (List.range es.length).all (goodAt es) := by
        unfold arB
        simp only [Bool.false_or, Bool.or_eq_false_iff, Bool.and_eq_false_iff, decide_eq_false_iff_not, Bool.not_eq_false', decide_eq_true_eq] at c
        obtain ⟨c1, c2⟩ := c
        rw [decide_eq_true (by omega : es.length ≤ 399)]
        by_cases d : es = []
        · rw [decide_eq_true d]; rfl
        · rw [decide_eq_false d, decide_eq_true (by rcases c2 with c2 | c2; exact absurd c2 d; omega : es.length % 2 = 1)]; rfl
      rw [e0] at k
      refine aq_asg (v := .int (((es.length + 1) / 2 : Nat) : Int)) am (ev_is (ev_op (ev_op (hlen am.toEx rfl) ev_c rv_I0) ev_c (r_divI (by decide))) (by congr 1)) fun H2 am => ?_
      dsimp only [List.set]
      refine a_ret (v := .bl (((List.range es.length).map (goodAt es)).all id)) am (e_cbN (xs := ((List.range es.length).map (goodAt es)).map V.bl) ?_ fun q H3 e h3 => rc_all (sq_of h3)) fun H3 am => ?_
      · rw [List.map_map]
        refine el_lcE (f := eV) (ns := es) (V.bl ∘ goodAt es) (ea_cons (ev_var rfl) ea_nil) (ex_l am.toEx hs) (by omega) (fun _ _ => rfl) fun m e hm => ?_
        dsimp only [List.set, wipe]
        refine ev_is (ev_andV (a := decide (eT e = "int")) (b := goodE m (((es.length + 1) / 2 : Nat) : Int) e) (c_is_whole_ (ev_var rfl) (eT_ty e ((hho e (List.mem_of_getElem? hm)).ex am.toEx)) (eT_kind e)) fun hi => ?_) ?_
        · cases e with
          | i x => exact e_chain ev_c (ev_var rfl) rv_I0 (fun _ => c_most_arm_ (ev_var rfl) (ev_var rfl)) fun _ => rv_I0
          | b x => exact absurd hi (by show ¬ decide ("bool" = "int") = true; decide)
          | s x => exact absurd hi (by show ¬ decide ("str" = "int") = true; decide)
          | n => exact absurd hi (by show ¬ decide ("NoneType" = "int") = true; decide)
          | l q xs => exact absurd hi (by show ¬ decide ("list" = "int") = true; decide)
        · show V.bl _ = V.bl (goodAt es m)
          unfold goodAt
          rw [hm]
          cases e <;> rfl
      · rw [List.all_map] at *
        exact k H3 am.toEx
  · refine aq_when (b := true || false) am (et_or (et_is (et_not (et_B (ev_cb (ea_cons (ev_var rfl) (ea_cons ev_c ea_nil)) (rc_isi (t := .type t) (b := decide (t = "list")) (fun _ e => tyX_ex e ty) (.ty "list") (kit_list ht))))) (by rw [decide_eq_false hne]; rfl)) fun z => Bool.noConfusion z) (fun _ H1 am => a_ret am ev_c fun H2 am => k H2 am.toEx) fun c => Bool.noConfusion c
theorem c_is_arms_ {A : Ad} {σ : L2.St} {H : Hp} {te : TE} {x : V} {b : Bool} (h : Ev te σ H x) (hx : IsA A.K H x b) : Ev (tCall (sp_is_arms A) [] E0 (tCons te tNil)) σ H (.bl b) :=
  e_callV (ea_cons h ea_nil) fun _ e => ⟨x, b, rfl, hx.ex e, rfl⟩
/-! ## Groups -/
structure GC (A : Ad) : Prop where
  cls : Cls A.K A.cGroups
  nf : NoAttr A.K A.cGroups "first"
def insG (A : Ad) (dx f : Addr) : HO := .ins A.cGroups dx [(("first" : Str), V.ref f)]
def nats (F : Nat → Nat) (n : Nat) : List V := (List.range n).map fun x => V.int (F x : Nat)
def grpL (A : Ad) (g dx f : Addr) (F : Nat → Nat) (n : Nat) : List (Addr × HO) := [(f, .lst (nats F n)), (g, insG A dx f)]
def RepF (n : Nat) (F r : Nat → Nat) : Prop := ∀ x, x < n → F x ≤ x ∧ (F x = x → r x = x) ∧ r (F x) = r x ∧ F (r x) = r x
theorem rep_id (n : Nat) : RepF n id (rootL []) := fun x _ => ⟨Nat.le_refl _, fun _ => rfl, rfl, rfl⟩
def tieF (F r : Nat → Nat) (a b : Nat) : Nat → Nat := fun x => if x = max (r a) (r b) then min (r a) (r b) else F x
theorem rep_step {E : List (Nat × Nat)} {n : Nat} {F r : Nat → Nat} {a b : Nat} (h : Fine E r) (hr : RepF n F r) (ha : a < n) (hb : b < n) : RepF n (tieF F r a b) (tieR r (a, b)) := by
  have ia := h.idem a
  have ib := h.idem b
  have la := h.le a
  have lb := h.le b
  have rmin : r (min (r a) (r b)) = min (r a) (r b) := by
    rcases Nat.le_total (r a) (r b) with c | c
    · rw [Nat.min_eq_left c, ia]
    · rw [Nat.min_eq_right c, ib]
  have rmax : r (max (r a) (r b)) = max (r a) (r b) := by
    rcases Nat.le_total (r a) (r b) with c | c
    · rw [Nat.max_eq_right c, ib]
    · rw [Nat.max_eq_left c, ia]
  have Fmin : F (min (r a) (r b)) = min (r a) (r b) := by
    have := (hr (min (r a) (r b)) (by omega)).2.2.2
    rwa [rmin] at this
  intro x hx
  obtain ⟨h1, h2, h3, h4⟩ := hr x hx
  unfold tieF tieR
  dsimp only
  by_cases c : x = max (r a) (r b)
  · subst c
    simp only [if_true, rmax, rmin]
    refine ⟨by omega, fun z => z, ?_, ?_⟩
    · split <;> rfl
    · by_cases d : min (r a) (r b) = max (r a) (r b)
      · rw [if_pos d]
      · rw [if_neg d, Fmin]
  · simp only [if_neg c, h3]
    refine ⟨h1, fun z => ?_, trivial, ?_⟩
    · have z2 := h2 z
      rw [z2, if_neg c]
    · by_cases d : r x = max (r a) (r b)
      · rw [if_pos d]
        by_cases e : min (r a) (r b) = max (r a) (r b)
        · rw [if_pos e]
        · rw [if_neg e, Fmin]
      · rw [if_neg d, if_neg d, h4]
def sp_Groups_init (A : Ad) : Sp := fun vs H Q _ => ∃ g dx n, vs = [.ref g, .int (n : Nat)] ∧ Has H [(g, .ins A.cGroups dx [])] ∧ n ≤ 1000 ∧ ∀ f H', Am [g] H (grpL A g dx f id n) H' → Q .non H'
def t_Groups_init (A : Ad) : TS :=
  (sFld A.K (tVar 0) (tLstRg (tRg1 (tVar 1))) "first")

theorem len_Groups_init (A : Ad) : ∀ vs H Q E, sp_Groups_init A vs H Q E → vs.length = 2 := fun vs H Q E h => by
  obtain ⟨g, dx, n, rfl, _⟩ := h
  rfl
theorem pu_Groups_init (A : Ad) (gc : GC A) (vs : List V) (H : Hp) (Q : VK) (E : XK) (h : sp_Groups_init A vs H Q E) : t_Groups_init A { nx := fun _ H' => Q .non H', rt := Q } (start ["self", "many"] vs) H := by
  obtain ⟨g, dx, n, rfl, hh, hn, k⟩ := h
  show t_Groups_init A _ [some (.ref g), some (.int (n : Nat))] H
  unfold t_Groups_init
  exact a_fldN 0 hh.am rfl (el_lrg (ev_var rfl) (by omega)) (fun H1 e => ev_var rfl) gc.cls gc.nf (by decide) fun f H1 am => k f H1 am
def sp_Groups_root (A : Ad) : Sp := spV fun vs H v => ∃ (g dx f : Addr) (F r : Nat → Nat) (n x : Nat), vs = [.ref g, .int x] ∧ Has H (grpL A g dx f F n) ∧ RepF n F r ∧ x < n ∧ v = .int (r x : Nat)
def t_Groups_root (A : Ad) : TS :=
  (tSeq (tWhile (tTest (tOp rNe (tOp (rIxL A.K) (tFld A.K (tVar 0) "first") (tVar 1)) (tVar 1)))
  (tAsg (tOp (rIxL A.K) (tFld A.K (tVar 0) "first") (tVar 1)) (gName 1)))
  (tRet (tVar 1)))

theorem len_Groups_root (A : Ad) : ∀ vs H Q E, sp_Groups_root A vs H Q E → vs.length = 2 := fun vs H Q E h => by
  obtain ⟨v, ⟨g, dx, f, F, r, n, x, rfl, _⟩, _⟩ := h
  rfl
theorem e_first {A : Ad} {σ : L2.St} {H : Hp} {te : TE} {g dx f : Addr} {F : Nat → Nat} {n : Nat} (gc : GC A) (h : Ev te σ H (.ref g)) (hh : Has H (grpL A g dx f F n)) : Ev (tFld A.K te "first") σ H (.ref f) :=
  e_fld h (hh.at 1 rfl) gc.cls gc.nf rfl
theorem e_firstAt {A : Ad} {σ : L2.St} {H : Hp} {te ti : TE} {g dx f : Addr} {F : Nat → Nat} {n x : Nat} (gc : GC A) (h : Ev te σ H (.ref g)) (hh : Has H (grpL A g dx f F n)) (hi : Ev ti σ H (.int (x : Nat))) (hx : x < n) : Ev (tOp (rIxL A.K) (tFld A.K te "first") ti) σ H (.int (F x : Nat)) :=
  ev_op (e_first gc h hh) hi (rv_ixL (sq_of (hh.at 0 rfl)) (atI_nat (at_range (fun x => V.int (F x : Nat)) hx)))
theorem pu_Groups_root (A : Ad) (gc : GC A) (vs : List V) (H : Hp) (Q : VK) (E : XK) (h : sp_Groups_root A vs H Q E) : t_Groups_root A { nx := fun _ H' => Q .non H', rt := Q } (start ["self", "place"] vs) H := by
  obtain ⟨v, ⟨g, dx, f, F, r, n, x, rfl, hh, hr, hx, rfl⟩, k⟩ := h
  show t_Groups_root A _ [some (.ref g), some (.int (x : Nat))] H
  unfold t_Groups_root
  refine aq_while (fun m σ' H' => ∃ y : Nat, σ' = [some (.ref g), some (.int (y : Nat))] ∧ Am [] H [] H' ∧ m = y ∧ y < n ∧ r y = r x) x ⟨x, rfl, Am.start H, rfl, hx, rfl⟩ fun m σ' H' hw => ?_
  obtain ⟨y, rfl, am, rfl, hy, hry⟩ := hw
  obtain ⟨h1, h2, h3, h4⟩ := hr m hy
  refine ⟨_, et_test (ev_op (e_firstAt gc (ev_var rfl) (hh.ex am.toEx) (ev_var rfl) hy) (ev_var rfl) r_neI), fun c H1 e N hN => ?_, fun c H1 e => ?_⟩
  · have am := am.ex e
    rw [Bool.not_eq_true', decide_eq_false_iff_not] at c
    refine a_asg am (e_firstAt gc (ev_var rfl) (hh.ex am.toEx) (ev_var rfl) hy) fun H2 am => ?_
    exact hN (F m) _ _ (by omega) ⟨F m, rfl, am, rfl, by omega, by rw [h3, hry]⟩
  · have am := am.ex e
    rw [Bool.not_eq_false', decide_eq_true_eq] at c
    have e2 : r x = m := by rw [← hry]; exact h2 (by omega)
    rw [e2] at k
    exact a_ret am (ev_var rfl) fun H2 am => k H2 am.toEx
theorem c_root {A : Ad} {σ : L2.St} {H : Hp} {to te : TE} {g dx f : Addr} {F r : Nat → Nat} {n x : Nat} (ho : Ev to σ H (.ref g)) (hh : Has H (grpL A g dx f F n)) (hr : RepF n F r) (h : Ev te σ H (.int (x : Nat))) (hx : x < n) : Ev (tMeth A.cGroups "root" (sp_Groups_root A) [] E0 to (tCons te tNil)) σ H (.int (r x : Nat)) :=
  e_methV ho (hh.at 1 rfl) rfl (ea_cons h ea_nil) fun H1 e => ⟨g, dx, f, F, r, n, x, rfl, hh.ex e, hr, hx, rfl⟩
def sp_Groups_tie (A : Ad) : Sp := fun vs H Q _ => ∃ (g dx f : Addr) (F r : Nat → Nat) (n a b : Nat), vs = [.ref g, .int a, .int b] ∧ Has H (grpL A g dx f F n) ∧ RepF n F r ∧ (∀ x, r x ≤ x) ∧ a < n ∧ b < n ∧
  ∀ H', Am ((grpL A g dx f F n).map (·.1)) H (grpL A g dx f (tieF F r a b) n) H' → Q .non H'
def t_Groups_tie (A : Ad) : TS :=
  (tSeq (tPar 1 2 (tCons (tMeth A.cGroups "root" (sp_Groups_root A) [] E0 (tVar 0) (tCons (tVar 1) tNil)) (tCons (tMeth A.cGroups "root" (sp_Groups_root A) [] E0 (tVar 0) (tCons (tVar 2) tNil)) tNil)))
  (tAsg (tCB rMin2I (tCons (tVar 1) (tCons (tVar 2) tNil))) (gSub (tFld A.K (tVar 0) "first") (tCB rMax2I (tCons (tVar 1) (tCons (tVar 2) tNil))) rSetL)))

theorem len_Groups_tie (A : Ad) : ∀ vs H Q E, sp_Groups_tie A vs H Q E → vs.length = 3 := fun vs H Q E h => by
  obtain ⟨g, dx, f, F, r, n, a, b, rfl, _⟩ := h
  rfl
theorem pu_Groups_tie (A : Ad) (gc : GC A) (vs : List V) (H : Hp) (Q : VK) (E : XK) (h : sp_Groups_tie A vs H Q E) : t_Groups_tie A { nx := fun _ H' => Q .non H', rt := Q } (start ["self", "one", "other"] vs) H := by
  obtain ⟨g, dx, f, F, r, n, a, b, rfl, hh, hr, hle, ha, hb, k⟩ := h
  show t_Groups_tie A _ [some (.ref g), some (.int (a : Nat)), some (.int (b : Nat))] H
  unfold t_Groups_tie
  have la := hle a
  have lb := hle b
  refine aq_par hh.am (ea_cons (c_root (ev_var rfl) hh hr (ev_var rfl) ha) (ea_cons (c_root (ev_var rfl) hh hr (ev_var rfl) hb) ea_nil)) fun H1 am => ?_
  dsimp only [List.set]
  refine a_setL 0 (j := max (r a) (r b)) (v := .int ((min (r a) (r b) : Nat) : Int)) am rfl (ev_is (ev_cb (ea_cons (ev_var rfl) (ea_cons (ev_var rfl) ea_nil)) rc_min2) (by congr 1; omega)) (e_first gc (ev_var rfl) am.hasAll) (ev_is (ev_cb (ea_cons (ev_var rfl) (ea_cons (ev_var rfl) ea_nil)) rc_max2) (by congr 1; omega)) (by unfold nats; rw [List.length_map, List.length_range]; omega) fun H2 am => ?_
  refine k H2 ?_
  have e : (nats F n).set (max (r a) (r b)) (.int ((min (r a) (r b) : Nat) : Int)) = nats (tieF F r a b) n := by
    unfold nats
    rw [set_range]
    refine List.map_congr_left fun i _ => ?_
    unfold tieF
    split <;> rfl
  rw [e] at am
  exact am
/-! ## tied -/
def armL (n : Nat) (a : Nat → Nat) : List V := (List.range (2 * n - 1)).map fun m => vN (a m)
theorem ties_succ (a : Nat → Nat) (M : Nat) : tiesN a (M + 1) = tiesN a M ++ tiesM M (a M) := by
  unfold tiesN
  rw [List.range_succ, List.flatMap_append]
  simp
theorem tiesM_succ (m k : Nat) : tiesM m (k + 1) = tiesM m k ++ [((m + 1) / 2 - 1 - k, m / 2 + 1 + k)] := by
  unfold tiesM
  rw [List.range_succ, List.map_append]; rfl
theorem root_snoc (E : List (Nat × Nat)) (p : Nat × Nat) : rootL (E ++ [p]) = tieR (rootL E) p := by
  unfold rootL
  rw [List.foldl_append]; rfl
def sp_tied (A : Ad) : Sp := fun vs H Q _ => ∃ (p : Addr) (n : Nat) (a : Nat → Nat), vs = [.ref p, .int (n : Nat)] ∧ SqL A.K H p (armL n a) ∧ OkA n a ∧ n ≤ 200 ∧
  ∀ g dx f F H', Am [] H (grpL A g dx f F n) H' → RepF n F (rootL (tiesN a (2 * n - 1))) → Q (.ref g) H'
def t_tied (A : Ad) : TS :=
  (tSeq (tAsg (tMake A.cGroups (sp_Groups_init A) [] E0 (tCons (tVar 1) tNil)) (gName 2))
  (tSeq (tFor (iEnum A.K (tCons (tVar 0) tNil)) (gTup A.K 2 (gCons (gName 3) (gCons (gName 4) gNil)))
  (tFor (iRng1 (tCons (tVar 4) tNil)) (gName 5)
  (tDrop (tMeth A.cGroups "tie" (sp_Groups_tie A) [] E0 (tVar 2) (tCons (tOp rSubI (tOp rDivI (tOp rSubI (tVar 3) (tC (.int 1))) (tC (.int 2))) (tVar 5)) (tCons (tOp rAddI (tOp rAddI (tOp rDivI (tVar 3) (tC (.int 2))) (tC (.int 1))) (tVar 5)) tNil))))))
  (tRet (tVar 2))))

theorem len_tied (A : Ad) : ∀ vs H Q E, sp_tied A vs H Q E → vs.length = 2 := fun vs H Q E h => by
  obtain ⟨p, n, a, rfl, _⟩ := h
  rfl
theorem pu_tied (A : Ad) (vs : List V) (H : Hp) (Q : VK) (E : XK) (h : sp_tied A vs H Q E) : t_tied A { nx := fun _ H' => Q .non H', rt := Q } (start ["arms", "many", "groups", "middle", "arm", "step"] vs) H := by
  obtain ⟨p, n, a, rfl, hS, ok, hn, k⟩ := h
  show t_tied A _ [some (.ref p), some (.int (n : Nat)), none, none, none, none] H
  unfold t_tied
  refine aq_make (Am.start H) (ea_cons (ev_var rfl) ea_nil) fun g dx H1 am => ?_
  dsimp only [List.set]
  refine ⟨g, dx, n, rfl, Am.has (La := [(g, .ins A.cGroups dx [])]) (L := [(dx, .own g)]) am, by omega, fun f H2 am2 => ⟨rfl, ?_⟩⟩
  have am := Am.call (La := [(g, .ins A.cGroups dx [])]) (L := [(dx, .own g)]) am am2
  have am : Am [] H (grpL A g dx f id n) H2 := am.sub (List.sublist_append_left _ _)
  refine aq_forE (K := A.K) (f := fun m => vN (a m)) (ns := List.range (2 * n - 1)) (a := p) (fun pre σ' H' => ∃ (F : Nat → Nat) (v3 v4 v5 : Option V), σ' = [some (.ref p), some (.int (n : Nat)), some (.ref g), v3, v4, v5] ∧ Am [] H (grpL A g dx f F n) H' ∧ RepF n F (rootL (tiesN a pre.length))) am
    (ea_cons (ev_var rfl) ea_nil) (ex_l am.toEx hS) (fun H3 am => ⟨id, _, _, _, rfl, am, rep_id n⟩) ?_ ?_ ?_
  · rintro pre σ' H' ⟨F, v3, v4, v5, rfl, am, _⟩
    exact ex_l am.toEx hS
  · rintro pre M post σ' H3 H4 hs ⟨F, v3, v4, v5, rfl, am, hr⟩ e34
    have am := am.ex e34
    obtain ⟨hM, hMn⟩ := range_atM hs
    dsimp only [List.set]
    rw [hM] at hr ⊢
    rw [show (pre ++ [M]).length = M + 1 by rw [List.length_append, hM]; rfl]
    obtain ⟨o1, o2⟩ := ok M hMn
    refine a_for (ns := List.range ((a M : Nat) : Int).toNat) (f := fun i => .int (i : Nat)) (fun pre2 σ' H' => ∃ (F : Nat → Nat) (v5 : Option V), σ' = [some (.ref p), some (.int (n : Nat)), some (.ref g), some (.int (M : Nat)), some (vN (a M)), v5] ∧ Am [] H (grpL A g dx f F n) H' ∧ RepF n F (rootL (tiesN a M ++ tiesM M pre2.length))) am
      (wk_range1 (ea_cons (ev_var rfl) ea_nil) (by omega)) (fun H5 am => ⟨F, _, rfl, am, by rw [show tiesM M ([] : List Nat).length = [] from rfl, List.append_nil]; exact hr⟩) (fun _ _ _ _ => trivial) ?_ ?_
    · rintro pre2 s post2 σ' H5 hs2 ⟨F, v5, rfl, am, hr⟩
      obtain ⟨hs1, hsn⟩ := range_atM hs2
      rw [Int.toNat_natCast] at hsn
      dsimp only [List.set]
      rw [hs1] at hr
      rw [show (pre2 ++ [s]).length = s + 1 by rw [List.length_append, hs1]; rfl]
      refine a_methD am (ev_var rfl) (am.at 1 rfl) rfl (ea_cons (ev_is (ev_op (ev_op (ev_op (ev_var rfl) ev_c rv_I0) ev_c (r_divI (by decide))) (ev_var rfl) rv_I0) (w := .int (((M + 1) / 2 - 1 - s : Nat) : Int)) (by congr 1; omega))
        (ea_cons (ev_is (ev_op (ev_op (ev_op (ev_var rfl) ev_c (r_divI (by decide))) ev_c rv_I0) (ev_var rfl) rv_I0) (w := .int ((M / 2 + 1 + s : Nat) : Int)) (by congr 1)) ea_nil)) fun H6 am => ?_
      have fine := fine_root (tiesN a M ++ tiesM M s)
      refine ⟨g, dx, f, F, _, n, _, _, rfl, am.hasAll, hr, fine.le, by omega, by omega, fun H7 am7 => ?_⟩
      have am := Am.call (La := grpL A g dx f F n) (L := []) (by rw [List.append_nil]; exact am) am7
      rw [List.append_nil] at am
      refine ⟨_, _, rfl, am, ?_⟩
      rw [tiesM_succ, ← List.append_assoc, root_snoc]
      exact rep_step fine hr (by omega) (by omega)
    · rintro σ' H5 ⟨F, v5, rfl, am, hr⟩
      rw [List.length_range, Int.toNat_natCast, ← ties_succ] at hr
      exact ⟨F, _, _, _, rfl, am, hr⟩
  · rintro σ' H3 ⟨F, v3, v4, v5, rfl, am, hr⟩
    rw [List.length_range] at hr
    exact a_ret am (ev_var rfl) fun H4 am => k g dx f F H4 am hr
/-! ## foes_of -/
def FInv (n : Nat) (a r : Nat → Nat) (M : Nat) (X : Nat → List Int) : Prop := ∀ i, i < n → (X i).length ≤ 2 * M ∧ ∀ e : Int, e ∈ X i ↔ ∃ q : Nat, e = q ∧ q < n ∧ ∃ m, m < M ∧ foeM n a r i q m = true
theorem led_at {R : Nat → Addr} {X : Nat → List Int} {n i : Nat} {pf : Addr} {L : List (Addr × HO)} (h : i < n) : ((pf, HO.lst (refE (entF R X n))) :: (ledE (entF R X n) ++ L))[1 + i]? = some (R i, .lst ((X i).map V.int)) := by
  rw [Nat.add_comm 1]
  show (ledE (entF R X n) ++ L)[i]? = _
  rw [List.getElem?_append_left (by unfold ledE entF; simp; omega)]
  unfold ledE
  rw [List.getElem?_map, entF_at h]; rfl
theorem ref_at {R : Nat → Addr} {X : Nat → List Int} {n i : Nat} (h : i < n) : (refE (entF R X n))[i]? = some (.ref (R i)) := by
  unfold refE
  rw [List.getElem?_map, entF_at h]; rfl
theorem led_app {R : Nat → Addr} {X : Nat → List Int} {n i : Nat} {pf : Addr} {L : List (Addr × HO)} {v : Int} (h : i < n) : ((pf, HO.lst (refE (entF R X n))) :: (ledE (entF R X n) ++ L)).set (1 + i) (R i, .lst ((X i).map V.int ++ [V.int v])) =
    (pf, HO.lst (refE (entF R (fun j => if j = i then X i ++ [v] else X j) n))) :: (ledE (entF R (fun j => if j = i then X i ++ [v] else X j) n) ++ L) := by
  rw [← entF_set, refE_set (entF_at h), ledE_set, Nat.add_comm 1, List.map_append]
  show _ :: (ledE (entF R X n) ++ L).set i _ = _
  rw [List.set_append_left _ _ (by unfold ledE entF; simp; omega)]
  rfl
theorem finv_no {n : Nat} {a r : Nat → Nat} {M : Nat} {X : Nat → List Int} (h : FInv n a r M X) (hv : vE n a M = false) : FInv n a r (M + 1) X := fun i hi => by
  obtain ⟨h1, h2⟩ := h i hi
  refine ⟨by omega, fun e => ?_⟩
  rw [h2]
  constructor
  · rintro ⟨q, a1, a2, m, a3, a4⟩
    exact ⟨q, a1, a2, m, by omega, a4⟩
  · rintro ⟨q, a1, a2, m, a3, a4⟩
    rcases Nat.lt_or_ge m M with d | d
    · exact ⟨q, a1, a2, m, d, a4⟩
    · rw [show m = M by omega] at a4
      unfold foeM at a4
      rw [hv] at a4
      cases a4
theorem finv_yes {n : Nat} {a r : Nat → Nat} {M : Nat} {X : Nat → List Int} (h : FInv n a r M X) (hv : vE n a M = true) (hne : r (Lf a M) ≠ r (Rt a M)) (hL : r (Lf a M) < n) (hR : r (Rt a M) < n) :
    FInv n a r (M + 1) (fun j => if j = r (Rt a M) then (fun j => if j = r (Lf a M) then X (r (Lf a M)) ++ [((r (Rt a M) : Nat) : Int)] else X j) (r (Rt a M)) ++ [((r (Lf a M) : Nat) : Int)] else (fun j => if j = r (Lf a M) then X (r (Lf a M)) ++ [((r (Rt a M) : Nat) : Int)] else X j) j) := fun i hi => by
  obtain ⟨h1, h2⟩ := h i hi
  have hM : ∀ q, foeM n a r i q M = true ↔ (r (Lf a M) = i ∧ r (Rt a M) = q) ∨ (r (Rt a M) = i ∧ r (Lf a M) = q) := fun q => by
    unfold foeM
    rw [hv]
    simp
  have key : ∀ e : Int, (∃ q : Nat, e = q ∧ q < n ∧ ∃ m, m < M + 1 ∧ foeM n a r i q m = true) ↔ e ∈ X i ∨ (r (Lf a M) = i ∧ e = ((r (Rt a M) : Nat) : Int)) ∨ (r (Rt a M) = i ∧ e = ((r (Lf a M) : Nat) : Int)) := fun e => by
    rw [h2]
    constructor
    · rintro ⟨q, a1, a2, m, a3, a4⟩
      rcases Nat.lt_or_ge m M with d | d
      · exact .inl ⟨q, a1, a2, m, d, a4⟩
      · rw [show m = M by omega] at a4
        rcases (hM q).mp a4 with ⟨b1, b2⟩ | ⟨b1, b2⟩
        · exact .inr (.inl ⟨b1, by rw [a1, b2]⟩)
        · exact .inr (.inr ⟨b1, by rw [a1, b2]⟩)
    · rintro (⟨q, a1, a2, m, a3, a4⟩ | ⟨b1, b2⟩ | ⟨b1, b2⟩)
      · exact ⟨q, a1, a2, m, by omega, a4⟩
      · exact ⟨_, b2, hR, M, by omega, (hM _).mpr (.inl ⟨b1, rfl⟩)⟩
      · exact ⟨_, b2, hL, M, by omega, (hM _).mpr (.inr ⟨b1, rfl⟩)⟩
  dsimp only
  by_cases c : i = r (Rt a M)
  · subst c
    rw [if_pos rfl, if_neg (Ne.symm hne)]
    refine ⟨by rw [List.length_append, List.length_singleton]; omega, fun e => ?_⟩
    rw [key, List.mem_append, List.mem_singleton]
    constructor
    · rintro (h | h)
      · exact .inl h
      · exact .inr (.inr ⟨rfl, h⟩)
    · rintro (h | ⟨h, _⟩ | ⟨_, h⟩)
      · exact .inl h
      · exact absurd h hne
      · exact .inr h
  · rw [if_neg c]
    by_cases d : i = r (Lf a M)
    · subst d
      rw [if_pos rfl]
      refine ⟨by rw [List.length_append, List.length_singleton]; omega, fun e => ?_⟩
      rw [key, List.mem_append, List.mem_singleton]
      constructor
      · rintro (h | h)
        · exact .inl h
        · exact .inr (.inl ⟨rfl, h⟩)
      · rintro (h | ⟨_, h⟩ | ⟨h, _⟩)
        · exact .inl h
        · exact .inr h
        · exact absurd h.symm hne
    · rw [if_neg d]
      refine ⟨by omega, fun e => ?_⟩
      rw [key]
      constructor
      · intro h
        exact .inl h
      · rintro (h | ⟨h, _⟩ | ⟨h, _⟩)
        · exact h
        · exact absurd h.symm d
        · exact absurd h.symm c
def FoeAt (n : Nat) (a r : Nat → Nat) (i : Nat) (xs : List V) : Prop := ∃ ns : List Int, xs = ns.map V.int ∧ ns.length ≤ 100000 ∧ ∀ e : Int, e ∈ ns ↔ ∃ q : Nat, e = q ∧ q < n ∧ foeB n a r i q = true
def sp_foes_of (A : Ad) : Sp := fun vs H Q E => ∃ (p : Addr) (n : Nat) (a : Nat → Nat) (g dx f : Addr) (F r : Nat → Nat), vs = [.ref p, .int (n : Nat), .ref g] ∧ SqL A.K H p (armL n a) ∧ OkA n a ∧ n ≤ 200 ∧ Has H (grpL A g dx f F n) ∧ RepF n F r ∧ (∀ x, r x ≤ x) ∧
  (NoCl n a r → ∀ q ents H', Am [] H ((q, .lst (refE ents)) :: ledE ents) H' → ents.length = n → (∀ i e, ents[i]? = some e → FoeAt n a r i e.2) → Q (.ref q) H') ∧ (¬ NoCl n a r → ∀ H', Ex H H' → E (.ref A.cNT) none H')
def t_foes_of (A : Ad) (E : XK) : TS :=
  (tSeq (tAsg (tLc (iRng1 (tCons (tVar 1) tNil)) (gName 4) tYes (tLst tNil) [4]) (gName 3))
  (tSeq (tFor (iEnum A.K (tCons (tVar 0) tNil)) (gTup A.K 2 (gCons (gName 5) (gCons (gName 6) gNil)))
  (tSeq (tAsg (tOp rSubI (tOp rDivI (tOp rSubI (tVar 5) (tC (.int 1))) (tC (.int 2))) (tVar 6)) (gName 7))
  (tSeq (tAsg (tOp rAddI (tOp rAddI (tOp rDivI (tVar 5) (tC (.int 2))) (tC (.int 1))) (tVar 6)) (gName 8))
  (tIfS (tAnd (tTest (tOp rGeI (tVar 7) (tC (.int 0)))) (tTest (tOp rLtI (tVar 8) (tVar 1)))) (tSeq (tPar 9 10 (tCons (tMeth A.cGroups "root" (sp_Groups_root A) [] E0 (tVar 2) (tCons (tVar 7) tNil)) (tCons (tMeth A.cGroups "root" (sp_Groups_root A) [] E0 (tVar 2) (tCons (tVar 8) tNil)) tNil)))
  (tSeq (tIfS (tTest (tOp rEq (tVar 9) (tVar 10))) (tRz E A.cNT) tNext)
  (tSeq (tDrop (tBM A.K "list" rAppend (tOp (rIxL A.K) (tVar 3) (tVar 9)) (tCons (tVar 10) tNil)))
  (tDrop (tBM A.K "list" rAppend (tOp (rIxL A.K) (tVar 3) (tVar 10)) (tCons (tVar 9) tNil)))))) tNext))))
  (tRet (tVar 3))))

theorem len_foes_of (A : Ad) : ∀ vs H Q E, sp_foes_of A vs H Q E → vs.length = 3 := fun vs H Q E h => by
  obtain ⟨p, n, a, g, dx, f, F, r, rfl, _⟩ := h
  rfl
theorem pu_foes_of (A : Ad) (vs : List V) (H : Hp) (Q : VK) (E : XK) (h : sp_foes_of A vs H Q E) : t_foes_of A E { nx := fun _ H' => Q .non H', rt := Q } (start ["arms", "many", "groups", "foes", "place", "middle", "arm", "left", "right", "one", "other"] vs) H := by
  obtain ⟨p, n, a, g, dx, f, F, r, rfl, hS, ok, hn, hh, hr, hle, kQ, kE⟩ := h
  show t_foes_of A E _ [some (.ref p), some (.int (n : Nat)), some (.ref g), none, none, none, none, none, none, none, none] H
  unfold t_foes_of
  have hw : Wk (iRng1 (tCons (tVar 1) tNil)) [some (.ref p), some (.int (n : Nat)), some (.ref g), none, none, none, none, none, none, none, none] H (fun _ => True) ((List.range n).map fun i => .int (i : Nat)) := by
    have z := wk_range1 (ta := tCons (tVar 1) tNil) (n := ((n : Nat) : Int)) (σ := [some (.ref p), some (.int (n : Nat)), some (.ref g), none, none, none, none, none, none, none, none]) (H := H) (ea_cons (ev_var rfl) ea_nil) (by omega)
    rwa [Int.toNat_natCast] at z
  refine aq_asgLL (fun _ xs => xs = []) (Am.start H) hw (fun _ _ => pm_true) trivial (by rw [List.length_range]; omega) (fun _ => rfl) (fun n _ => Mw.EvL.toP (el_lst ea_nil (by decide)) rfl) fun pf ents H1 pr am => ?_
  dsimp only [List.set]
  have hlen : ents.length = n := by rw [← Paired.length pr, List.length_range]
  obtain ⟨R, hR⟩ : ∃ R : Nat → Addr, ents = entF R (fun _ => []) n := by
    refine ⟨fun i => (ents.getD i (pf, [])).1, ?_⟩
    apply List.ext_getElem?
    intro i
    by_cases c : i < n
    · rw [entF_at c]
      obtain ⟨y, hy, hy2⟩ := paired_at pr (List.getElem?_range c)
      rw [List.getD_eq_getElem?_getD, hy]
      show some y = some (y.1, [])
      rw [← hy2]
    · rw [List.getElem?_eq_none (by omega), List.getElem?_eq_none (by unfold entF; simp; omega)]
  subst hR
  clear pr hlen
  refine aq_forE (K := A.K) (f := fun m => vN (a m)) (ns := List.range (2 * n - 1)) (a := p) (fun pre σ' H' => ∃ (X : Nat → List Int) (v4 v5 v6 v7 v8 v9 v10 : Option V), σ' = [some (.ref p), some (.int (n : Nat)), some (.ref g), some (.ref pf), v4, v5, v6, v7, v8, v9, v10] ∧
    Am [] H ((pf, .lst (refE (entF R X n))) :: (ledE (entF R X n) ++ [])) H' ∧ FInv n a r pre.length X ∧ ∀ m, m < pre.length → vE n a m = true → r (Lf a m) ≠ r (Rt a m)) am
    (ea_cons (ev_var rfl) ea_nil) (ex_l am.toEx hS) (fun H3 am => ⟨fun _ => [], _, _, _, _, _, _, _, rfl, am, fun i hi => ⟨Nat.zero_le _, fun e => ⟨fun h => (by cases h), fun ⟨q, _, _, m, hm, _⟩ => absurd hm (Nat.not_lt_zero _)⟩⟩, fun m hm => absurd hm (Nat.not_lt_zero _)⟩) ?_ ?_ ?_
  · rintro pre σ' H' ⟨X, v4, v5, v6, v7, v8, v9, v10, rfl, am, _⟩
    exact ex_l am.toEx hS
  · rintro pre M post σ' H3 H4 hs ⟨X, v4, v5, v6, v7, v8, v9, v10, rfl, am, hX, hnc⟩ e34
    have am := am.ex e34
    obtain ⟨hM, hMn⟩ := range_atM hs
    dsimp only [List.set]
    rw [hM] at hX hnc ⊢
    rw [show (pre ++ [M]).length = M + 1 by rw [List.length_append, hM]; rfl]
    obtain ⟨o1, o2⟩ := ok M hMn
    refine aq_asg am (ev_op (ev_op (ev_op (ev_var rfl) ev_c rv_I0) ev_c (r_divI (by decide))) (ev_var rfl) rv_I0) fun H5 am => ?_
    dsimp only [List.set]
    refine aq_asg am (ev_op (ev_op (ev_op (ev_var rfl) ev_c (r_divI (by decide))) ev_c rv_I0) (ev_var rfl) rv_I0) fun H6 am => ?_
    dsimp only [List.set]
    have hve : (decide ((0 : Int) ≤ (((M : Nat) : Int) - 1) / 2 - ((a M : Nat) : Int)) && decide (((M : Nat) : Int) / 2 + 1 + ((a M : Nat) : Int) < ((n : Nat) : Int))) = vE n a M := by
      unfold vE
      congr 1
      · exact decide_eq_decide.mpr (by omega)
      · exact decide_eq_decide.mpr (by omega)
    refine a_when (b := vE n a M) am (et_is (et_and (et_test (ev_op (ev_var rfl) ev_c rv_I0)) fun _ => et_test (ev_op (ev_var rfl) (ev_var rfl) rv_I0)) hve) (fun hv H7 am => ?_) fun hv H7 am => ?_
    · have hv2 := hv
      unfold vE at hv2
      rw [Bool.and_eq_true, decide_eq_true_eq, decide_eq_true_eq] at hv2
      have lL := hle (Lf a M)
      have lR := hle (Rt a M)
      have hLn : Lf a M < n := by unfold Lf; omega
      have hRn : Rt a M < n := by unfold Rt; omega
      have hh7 : Has H7 (grpL A g dx f F n) := hh.ex am.toEx
      refine aq_par am (ea_cons (c_root (x := Lf a M) (ev_var rfl) hh7 hr (ev_is (ev_var rfl) (by congr 1; unfold Lf; omega)) hLn) (ea_cons (c_root (x := Rt a M) (ev_var rfl) hh7 hr (ev_is (ev_var rfl) (by congr 1)) hRn) ea_nil)) fun H8 am => ?_
      dsimp only [List.set]
      refine aq_when am (et_test (ev_op (ev_var rfl) (ev_var rfl) r_eqI)) (fun c H9 am => ?_) fun c H9 am => ?_
      · have c : r (Lf a M) = r (Rt a M) := by
          have := of_decide_eq_true c
          omega
        exact kE (fun hN => hN M hMn hv c) H9 am.toEx
      · have c : r (Lf a M) ≠ r (Rt a M) := fun e => by
          have := of_decide_eq_false c
          exact this (by rw [e])
        have hbig : 2 * M ≤ 1000 := by omega
        refine aq_app (1 + r (Lf a M)) (v := .int (r (Rt a M) : Nat)) am (led_at (by omega)) (ev_op (ev_var rfl) (ev_var rfl) (rv_ixL (K := A.K) (sq_of (am.at 0 rfl)) (atI_nat (ref_at (by omega))))) (ev_var rfl) (by rw [List.length_map]; have := (hX (r (Lf a M)) (by omega)).1; omega) fun H10 am => ?_
        rw [led_app (by omega)] at am
        refine a_app (1 + r (Rt a M)) (v := .int (r (Lf a M) : Nat)) am (led_at (by omega)) (ev_op (ev_var rfl) (ev_var rfl) (rv_ixL (K := A.K) (sq_of (am.at 0 rfl)) (atI_nat (ref_at (by omega))))) (ev_var rfl) ?_ fun H11 am => ?_
        · rw [List.length_map]
          have := (hX (r (Rt a M)) (by omega)).1
          show (if r (Rt a M) = r (Lf a M) then _ else X (r (Rt a M))).length < 100000
          rw [if_neg (Ne.symm c)]
          omega
        · rw [led_app (by omega)] at am
          refine ⟨_, _, _, _, _, _, _, _, rfl, am, finv_yes hX hv c (by omega) (by omega), fun m hm hvm => ?_⟩
          rcases Nat.lt_or_ge m M with d | d
          · exact hnc m d hvm
          · rw [show m = M by omega]; exact c
    · refine ⟨_, _, _, _, _, _, _, _, rfl, am, finv_no hX hv, fun m hm hvm => ?_⟩
      rcases Nat.lt_or_ge m M with d | d
      · exact hnc m d hvm
      · rw [show m = M by omega, hv] at hvm; cases hvm
  · rintro σ' H3 ⟨X, v4, v5, v6, v7, v8, v9, v10, rfl, am, hX, hnc⟩
    rw [List.length_range] at hX hnc
    rw [List.append_nil] at am
    refine a_ret am (ev_var rfl) fun H4 am => kQ hnc pf _ H4 am (by unfold entF; simp) fun i e he => ?_
    have hin : i < n := by
      have := (List.getElem?_eq_some_iff.mp he).1
      unfold entF at this
      simpa using this
    rw [entF_at hin] at he
    obtain ⟨z1, z2⟩ := hX i hin
    rw [← Option.some.inj he]
    refine ⟨X i, rfl, by omega, fun e' => ?_⟩
    rw [z2]
    constructor
    · rintro ⟨q, hq, hqn, m, hm, hf⟩
      exact ⟨q, hq, hqn, List.any_eq_true.mpr ⟨m, List.mem_range.mpr hm, hf⟩⟩
    · rintro ⟨q, hq, hqn, hf⟩
      obtain ⟨m, hm, hf⟩ := List.any_eq_true.mp hf
      exact ⟨q, hq, hqn, m, List.mem_range.mp hm, hf⟩
/-! ## least_text -/
theorem eqV_text (a b : Tx) : eqV (tS a) (tS b) = decide (a = b) := by
  show (T a == T b) = decide (a = b)
  rw [Bool.eq_iff_iff, beq_iff_eq, decide_eq_true_eq]
  exact T_eq a b
theorem inV_letters (c : Nat) (us : List Nat) : inV (tS [c]) (us.map fun d => tS [d]) = decide (c ∈ us) := by
  unfold inV
  rw [Bool.eq_iff_iff, List.any_eq_true, decide_eq_true_eq]
  constructor
  · rintro ⟨y, hy, e⟩
    obtain ⟨d, hd, rfl⟩ := List.mem_map.mp hy
    rw [eqV_text, decide_eq_true_eq] at e
    rw [← (List.cons.inj e).1]
    exact hd
  · intro h
    exact ⟨tS [c], List.mem_map.mpr ⟨c, h, rfl⟩, by rw [eqV_text, decide_eq_true rfl]⟩
theorem flat_letters (us : List Nat) : (us.map fun d => tS [d]).all flatV = true := by
  rw [List.all_eq_true]
  intro y hy
  obtain ⟨d, hd, rfl⟩ := List.mem_map.mp hy
  rfl
theorem e_free {K : PySem.W.Frag} {i j : Nat} {σ : L2.St} {H : Hp} {p : Addr} {us : List Nat} {u : Nat → Bool} (hw : ∀ x, wipe ((wipe σ [i]).set i (some x)) [i] = wipe σ [i]) (h1 : ∀ x, ((wipe σ [i]).set i (some x))[i]? = some (some x))
    (h2 : ∀ x, ((wipe σ [i]).set i (some x))[j]? = some (some (.ref p))) (hp : H p = some (.lst (us.map fun c => tS [c]))) (hu : ∀ c, u c = decide (c ∈ us)) (hf : ∃ c ∈ letters, u c = false) :
    Ev (tOp (rIxL K) (tLc (iStr (tC (tS letters))) (gName i) (tTest (tOp (rIn K true) (tVar i) (tVar j))) (tVar i) [i]) (tC (.int 0))) σ H (tS [freeL u]) := by
  refine e_ixN (xs := (letters.filter fun c => !u c).map fun c => tS [c]) (i := 0) ?_ ev_c (atI_map (f := fun c : Nat => tS [c]) (n := freeL u) (by decide) ?_)
  · refine el_lc (f := fun c => tS [c]) (ns := letters) (fun c => !u c) (fun c => tS [c]) (wk_text ev_c) (fun _ _ => pm_true) trivial (by decide) hw (fun c _ => ?_) fun c _ _ => ev_var (h1 _)
    refine et_test (ev_op (ev_var (h1 _)) (ev_var (h2 _)) ?_)
    have z := rv_niL (K := K) (x := tS [c]) (sq_of hp) rfl (flat_letters us)
    rw [inV_letters, ← hu] at z
    exact z
  · have hm := free_spec hf
    have hmem : freeL u ∈ letters.filter fun c => !u c := List.mem_filter.mpr ⟨hm.1, by rw [hm.2.1]; rfl⟩
    unfold freeL at hmem ⊢
    cases hl : letters.filter fun c => !u c with
    | nil => rw [hl] at hmem; cases hmem
    | cons d r => rfl
theorem isA_arm {K : PySem.W.Frag} {H : Hp} {p : Addr} {n : Nat} {a : Nat → Nat} (hs : SqL K H p (armL n a)) (ty : TyX K H (.ref p) (.type "list")) (ok : OkA n a) (hn : n ≤ 200) : IsA K H (.ref p) true := by
  refine .inl ⟨p, (List.range (2 * n - 1)).map fun m => Elt.i (a m : Nat), rfl, ?_, ty, by simp; omega, fun e he => ?_, fun e he => ?_, ?_⟩
  · rw [List.map_map]; exact hs
  · obtain ⟨m, _, rfl⟩ := List.mem_map.mp he
    rfl
  · obtain ⟨m, _, rfl⟩ := List.mem_map.mp he
    trivial
  · unfold arB
    rw [List.length_map, List.length_range, decide_eq_true (by omega : 2 * n - 1 ≤ 399)]
    have e1 : (decide ((List.range (2 * n - 1)).map (fun m => Elt.i (a m : Nat)) = []) || decide ((2 * n - 1) % 2 = 1)) = true := by
      rcases Nat.eq_zero_or_pos n with c | c
      · subst c; rfl
      · rw [decide_eq_true (by omega : (2 * n - 1) % 2 = 1), Bool.or_true]
    rw [e1]
    refine Eq.symm ?_
    rw [Bool.true_and, Bool.true_and, List.all_eq_true]
    intro m hm
    have hm := List.mem_range.mp hm
    unfold goodAt
    rw [at_range _ hm]
    obtain ⟨o1, o2⟩ := ok m hm
    show goodE _ _ (Elt.i (a m : Nat)) = true
    unfold goodE
    rw [Bool.and_eq_true, decide_eq_true_eq, decide_eq_true_eq]
    unfold mostI
    rw [List.length_map, List.length_range]
    omega
abbrev rA (n : Nat) (a : Nat → Nat) : Nat → Nat := rootL (tiesN a (2 * n - 1))
def sp_least_text (A : Ad) : Sp := spVX (fun vs H v => ∃ (p : Addr) (n : Nat) (a : Nat → Nat), vs = [.ref p] ∧ SqL A.K H p (armL n a) ∧ TyX A.K H (.ref p) (.type "list") ∧ n ≤ 200 ∧ OkA n a ∧ NoCl n a (rA n a) ∧ Free n a (rA n a) ∧ v = tS (gT n a (rA n a) n))
  fun vs H C => (∃ (p : Addr) (n : Nat) (a : Nat → Nat), vs = [.ref p] ∧ SqL A.K H p (armL n a) ∧ TyX A.K H (.ref p) (.type "list") ∧ n ≤ 200 ∧ OkA n a ∧ ¬ NoCl n a (rA n a) ∧ C = A.cNT) ∨ ∃ x, vs = [x] ∧ IsA A.K H x false ∧ C = A.cBA
def t_least_text (A : Ad) (E : XK) : TS :=
  (tSeq (tIfS (tNot (tB (tCall (sp_is_arms A) [] E0 (tCons (tVar 0) tNil)))) (tRz E A.cBA) tNext)
  (tSeq (tAsg (tOp rDivI (tOp rAddI (tCB (rLenS A.K) (tCons (tVar 0) tNil)) (tC (.int 1))) (tC (.int 2))) (gName 1))
  (tSeq (tAsg (tCall (sp_tied A) [] E0 (tCons (tVar 0) (tCons (tVar 1) tNil))) (gName 2))
  (tSeq (tAsg (tCall (sp_foes_of A) [] E (tCons (tVar 0) (tCons (tVar 1) (tCons (tVar 2) tNil)))) (gName 3))
  (tSeq (tAsg tDNewK (gName 4))
  (tSeq (tFor (iRng1 (tCons (tVar 1) tNil)) (gName 5)
  (tIfS (tTest (tOp rEq (tMeth A.cGroups "root" (sp_Groups_root A) [] E0 (tVar 2) (tCons (tVar 5) tNil)) (tVar 5))) (tSeq (tAsg (tLc (iList A.K (tOp (rIxL A.K) (tVar 3) (tVar 5))) (gName 7) (tB (tDIn (tVar 7) (tVar 4))) (tDGet (tVar 4) (tVar 7)) [7]) (gName 6))
  (sDPut (tVar 4) (tVar 5) (tOp (rIxL A.K) (tLc (iStr (tC (tS letters))) (gName 8) (tTest (tOp (rIn A.K true) (tVar 8) (tVar 6))) (tVar 8) [8]) (tC (.int 0))))) tNext))
  (tRet (tJoin A.K (tC (tS [])) (tLc (iRng1 (tCons (tVar 1) tNil)) (gName 5) tYes (tDGet (tVar 4) (tMeth A.cGroups "root" (sp_Groups_root A) [] E0 (tVar 2) (tCons (tVar 5) tNil))) [5])))))))))

theorem len_least_text (A : Ad) : ∀ vs H Q E, sp_least_text A vs H Q E → vs.length = 1 := fun vs H Q E h => by
  rcases h with ⟨v, ⟨p, n, a, rfl, _⟩, _⟩ | ⟨C, (⟨p, n, a, rfl, _⟩ | ⟨x, rfl, _⟩), _⟩ <;> rfl
theorem rd_least_text (A : Ad) {H : Hp} {Q : VK} {E : XK} {p : Addr} {n : Nat} {a : Nat → Nat} (hS : SqL A.K H p (armL n a)) (ty : TyX A.K H (.ref p) (.type "list")) (hn : n ≤ 200) (ok : OkA n a) (hfr : NoCl n a (rA n a) → Free n a (rA n a))
    (kQ : NoCl n a (rA n a) → ∀ H', Ex H H' → Q (tS (gT n a (rA n a) n)) H') (kE : ¬ NoCl n a (rA n a) → ∀ H', Ex H H' → E (.ref A.cNT) none H') :
    t_least_text A E { nx := fun _ H' => Q .non H', rt := Q } [some (.ref p), none, none, none, none, none, none, none, none] H := by
  unfold t_least_text
  have fine := fine_root (tiesN a (2 * n - 1))
  have hlen : (armL n a).length = 2 * n - 1 := by unfold armL; simp
  refine aq_when (b := false) (Am.start H) (et_is (et_not (et_B (c_is_arms_ (ev_var rfl) (isA_arm hS ty ok hn)))) rfl) (fun c => Bool.noConfusion c) fun _ H1 am => ?_
  refine aq_asg (v := .int (n : Nat)) am (ev_is (ev_op (ev_op (ev_cb (ea_cons (ev_var rfl) ea_nil) (rc_lenL (K := A.K) (ex_l am.toEx hS))) ev_c rv_I0) ev_c (r_divI (by decide))) (by congr 1; rw [hlen]; omega)) fun H2 am => ?_
  dsimp only [List.set]
  refine aq_callA am (ea_cons (ev_var rfl) (ea_cons (ev_var rfl) ea_nil)) fun H3 am => ?_
  refine ⟨p, n, a, rfl, ex_l am.toEx hS, ok, hn, fun g dx f F H4 am4 hr => ?_⟩
  have am := Am.call0 am am4
  rw [List.append_nil] at am
  dsimp only [List.set]
  refine aq_callA am (ea_cons (ev_var rfl) (ea_cons (ev_var rfl) (ea_cons (ev_var rfl) ea_nil))) fun H5 am => ?_
  refine ⟨p, n, a, g, dx, f, F, rA n a, rfl, ex_l am.toEx hS, ok, hn, am.hasAll, hr, fine.le, fun hN pq ents H6 am6 hel hfo => ?_, fun hN H6 e => kE hN H6 (am.toEx.trans e)⟩
  have am := Am.call0 am am6
  have hfree := hfr hN
  dsimp only [List.set]
  refine aq_asgN am en_dnew fun pd H7 am => ?_
  dsimp only [List.set]
  have hgrp : ∀ {H' : Hp} {o : HO}, Am [] H ((pd, o) :: (((pq, .lst (refE ents)) :: ledE ents) ++ grpL A g dx f F n)) H' → Has H' (grpL A g dx f F n) := fun {H' o} am => (am.drop1.sub (List.sublist_append_right _ _)).hasAll
  have hroot : ∀ {H' : Hp} {o : HO} {σ : L2.St} {x : Nat}, Am [] H ((pd, o) :: (((pq, .lst (refE ents)) :: ledE ents) ++ grpL A g dx f F n)) H' → x < n → σ[2]? = some (some (.ref g)) → σ[5]? = some (some (.int (x : Nat))) →
      Ev (tMeth A.cGroups "root" (sp_Groups_root A) [] E0 (tVar 2) (tCons (tVar 5) tNil)) σ H' (.int (rA n a x : Nat)) := fun {H' o σ x} am hx s2 s5 => c_root (ev_var s2) (hgrp am) hr (ev_var s5) hx
  refine aq_for (ns := List.range ((n : Nat) : Int).toNat) (f := fun i => .int (i : Nat)) (fun pre σ' H' => ∃ (kvs : List (Key × V)) (v5 v6 v7 v8 : Option V), σ' = [some (.ref p), some (.int (n : Nat)), some (.ref g), some (.ref pq), some (.ref pd), v5, v6, v7, v8] ∧
    Am [] H ((pd, .dK kvs) :: (((pq, .lst (refE ents)) :: ledE ents) ++ grpL A g dx f F n)) H' ∧ kvs.length ≤ pre.length ∧ ∀ j : Nat, valV kvs (.inl (j : Int)) = if j < pre.length ∧ rA n a j = j then some (tS [wF n a (rA n a) j]) else none) am
    (wk_range1 (ea_cons (ev_var rfl) ea_nil) (by omega)) (fun H8 am => ⟨[], _, _, _, _, rfl, am, Nat.le_refl _, fun j => by rw [if_neg (fun z => absurd z.1 (Nat.not_lt_zero _))]; rfl⟩) (fun _ _ _ _ => trivial) ?_ ?_
  · rintro pre P post σ' H8 hs ⟨kvs, v5, v6, v7, v8, rfl, am, hkl, hkv⟩
    obtain ⟨hP, hPn⟩ := range_atM hs
    rw [Int.toNat_natCast] at hPn
    rw [hP] at hkl hkv
    rw [show (pre ++ [P]).length = P + 1 by rw [List.length_append, hP]; rfl]
    dsimp only [List.set]
    refine a_when am (et_test (ev_op (hroot am hPn rfl rfl) (ev_var rfl) r_eqI)) (fun c H9 am => ?_) fun c H9 am => ?_
    · have c : rA n a P = P := by
        have := of_decide_eq_true c
        omega
      obtain ⟨en, hen⟩ : ∃ en, ents[P]? = some en := ⟨_, List.getElem?_eq_getElem (by omega)⟩
      obtain ⟨ns, hns, hnl, hnm⟩ := hfo P en hen
      have hpd9 := am.at 0 rfl
      have hpq9 := am.at 1 rfl
      have hen9 : SqL A.K H9 en.1 (ns.map V.int) := by
        have z := am.own (en.1, HO.lst en.2) (List.mem_cons_of_mem _ (List.mem_append_left _ (List.mem_cons_of_mem _ (List.mem_map.mpr ⟨en, List.mem_of_getElem? hen, rfl⟩))))
        rw [← hns]
        exact sq_of z
      have hrow : Ev (tOp (rIxL A.K) (tVar 3) (tVar 5)) [some (.ref p), some (.int (n : Nat)), some (.ref g), some (.ref pq), some (.ref pd), some (.int (P : Nat)), v6, none, v8] H9 (.ref en.1) :=
        ev_op (ev_var rfl) (ev_var rfl) (rv_ixL (K := A.K) (sq_of hpq9) (atI_nat (by unfold refE; rw [List.getElem?_map, hen]; rfl)))
      have hval : ∀ e ∈ ns, (decide (e.toNat < P) && decide (rA n a e.toNat = e.toNat)) = true → valV kvs (.inl e) = some (tS [wF n a (rA n a) e.toNat]) := fun e he hb => by
        obtain ⟨q, rfl, _⟩ := (hnm e).mp he
        rw [Int.toNat_natCast] at hb ⊢
        rw [Bool.and_eq_true, decide_eq_true_eq, decide_eq_true_eq] at hb
        rw [hkv, if_pos hb]
      have hvno : ∀ e ∈ ns, (valV kvs (.inl e)).isSome = (decide (e.toNat < P) && decide (rA n a e.toNat = e.toNat)) := fun e he => by
        obtain ⟨q, rfl, _⟩ := (hnm e).mp he
        rw [Int.toNat_natCast, hkv]
        by_cases d : q < P ∧ rA n a q = q
        · rw [if_pos d, decide_eq_true d.1, decide_eq_true d.2]; rfl
        · rw [if_neg d]
          refine Eq.symm ?_
          rw [show (none : Option V).isSome = false from rfl]
          cases h1 : decide (q < P) with
          | false => rfl
          | true =>
            cases h2 : decide (rA n a q = q) with
            | false => rfl
            | true => exact absurd ⟨of_decide_eq_true h1, of_decide_eq_true h2⟩ d
      let us := (ns.filter fun e => decide (e.toNat < P) && decide (rA n a e.toNat = e.toNat)).map fun e => wF n a (rA n a) e.toNat
      refine aq_asgL (xs := us.map fun c => tS [c]) am ?_ fun pu H10 am => ?_
      · show EvL _ _ _ (List.map _ (List.map _ _))
        rw [List.map_map]
        exact el_lc (f := V.int) (ns := ns) (fun e => decide (e.toNat < P) && decide (rA n a e.toNat = e.toNat)) _ (wk_list (K := A.K) hrow hen9) (fun _ _ e s => ex_l e s) hen9 hnl (fun _ => rfl)
          (fun e he => et_B (ev_is (e_din (k := .inl e) (ev_var rfl) (ev_var rfl) hpd9) (by rw [hvno e he]))) fun e he hb => e_dget (k := .inl e) (ev_var rfl) (ev_var rfl) hpd9 (hval e he hb)
      dsimp only [List.set]
      have hu : ∀ c', ((List.range P).any fun q => foeB n a (rA n a) P q && decide (wF n a (rA n a) q = c')) = decide (c' ∈ us) := fun c' => by
        rw [Bool.eq_iff_iff, List.any_eq_true, decide_eq_true_eq]
        constructor
        · rintro ⟨q, hq, hb⟩
          have hq := List.mem_range.mp hq
          rw [Bool.and_eq_true, decide_eq_true_eq] at hb
          refine List.mem_map.mpr ⟨(q : Int), List.mem_filter.mpr ⟨(hnm _).mpr ⟨q, rfl, by omega, hb.1⟩, ?_⟩, by rw [Int.toNat_natCast]; exact hb.2⟩
          rw [Int.toNat_natCast, decide_eq_true hq, Bool.true_and, decide_eq_true_eq]
          obtain ⟨m, _, hm⟩ := List.any_eq_true.mp hb.1
          unfold foeM at hm
          simp only [Bool.and_eq_true, Bool.or_eq_true, decide_eq_true_eq] at hm
          rcases hm.2 with ⟨_, z⟩ | ⟨_, z⟩ <;> rw [← z] <;> exact fine.idem _
        · intro h
          obtain ⟨e, he, rfl⟩ := List.mem_map.mp h
          obtain ⟨he1, he2⟩ := List.mem_filter.mp he
          obtain ⟨q, rfl, _, hq⟩ := (hnm e).mp he1
          rw [Int.toNat_natCast] at he2 ⊢
          rw [Bool.and_eq_true, decide_eq_true_eq] at he2
          exact ⟨q, List.mem_range.mpr he2.1, by rw [hq, decide_eq_true rfl]; rfl⟩
      have hw := wF_new (n := n) (a := a) c
      refine a_dput 1 (k := .inl ((P : Nat) : Int)) (v := tS [wF n a (rA n a) P]) am rfl (ev_var rfl) (ev_var rfl) (ev_is (e_free (K := A.K) (us := us) (fun _ => rfl) (fun _ => rfl) (fun _ => rfl) (am.at 0 rfl) hu (hfree P hPn c)) (by rw [hw])) (by omega) fun H11 am => ?_
      refine ⟨putK kvs (.inl ((P : Nat) : Int)) (tS [wF n a (rA n a) P]), _, _, _, _, rfl, am.drop1, ?_, fun j => ?_⟩
      · have := length_putK kvs (.inl ((P : Nat) : Int) : Key) (tS [wF n a (rA n a) P])
        omega
      · rw [valV_put, hkv]
        by_cases d : j = P
        · subst d
          rw [if_pos rfl, if_pos ⟨by omega, c⟩]
        · rw [if_neg (fun z => d (by have := Sum.inl.inj z; omega))]
          by_cases e : j < P ∧ rA n a j = j
          · rw [if_pos e, if_pos ⟨by omega, e.2⟩]
          · rw [if_neg e, if_neg fun z => e ⟨by omega, z.2⟩]
    · have c : rA n a P ≠ P := fun z => by
        have := of_decide_eq_false c
        exact this (by rw [z])
      refine ⟨kvs, _, _, _, _, rfl, am, by omega, fun j => ?_⟩
      rw [hkv]
      by_cases e : j < P ∧ rA n a j = j
      · rw [if_pos e, if_pos ⟨by omega, e.2⟩]
      · rw [if_neg e, if_neg fun z => e ⟨by
          have : j ≠ P := fun y => c (by rw [← y]; exact z.2)
          omega, z.2⟩]
  · rintro σ' H8 ⟨kvs, v5, v6, v7, v8, rfl, am, hkl, hkv⟩
    rw [List.length_range, Int.toNat_natCast] at hkv
    have hg : gT n a (rA n a) n = ((List.range n).map fun i => [wF n a (rA n a) i]).flatten := by
      have e : ((List.range n).map fun i => [wF n a (rA n a) i]).flatten = (List.range n).map (wF n a (rA n a)) := by
        induction List.range n with
        | nil => rfl
        | cons x r ih => rw [List.map_cons, List.flatten_cons, ih]; rfl
      rw [e]
      refine ext_getD (by rw [len_gT, List.length_map, List.length_range]) fun i hi => ?_
      rw [len_gT] at hi
      rw [gT_at n a (rA n a) hi, List.getD_eq_getElem?_getD, at_range _ hi]; rfl
    have hpd8 := am.at 0 rfl
    have hw : ∀ σ : L2.St, σ[1]? = some (some (.int (n : Nat))) → Wk (iRng1 (tCons (tVar 1) tNil)) σ H8 (fun _ => True) ((List.range n).map fun i => .int (i : Nat)) := fun σ s1 => by
      have z := wk_range1 (ta := tCons (tVar 1) tNil) (n := ((n : Nat) : Int)) (σ := σ) (H := H8) (ea_cons (ev_var s1) ea_nil) (by omega)
      rwa [Int.toNat_natCast] at z
    refine a_ret (v := tS (gT n a (rA n a) n)) am ?_ fun H9 am => kQ hN H9 am.toEx
    rw [hg]
    refine e_join (K := A.K) ev_c ?_ ?_
    · rw [List.map_map]
      exact el_lcY (f := fun i : Nat => V.int (i : Nat)) (ns := List.range n) _ (hw _ rfl) (fun _ _ => pm_true) trivial (by rw [List.length_range]; omega) (fun _ => rfl) fun i hi => by
        have hi := List.mem_range.mp hi
        have hri : rA n a i ≤ i := fine.le i
        refine ev_is (e_dget (k := .inl ((rA n a i : Nat) : Int)) (v := tS [wF n a (rA n a) (rA n a i)]) (ev_var rfl) (hroot am hi rfl rfl) hpd8 ?_) (by rw [wF_r fine]; rfl)
        rw [hkv, if_pos ⟨by omega, fine.idem i⟩]
    · rw [← hg, len_gT]
      omega
theorem pu_least_text (A : Ad) (vs : List V) (H : Hp) (Q : VK) (E : XK) (h : sp_least_text A vs H Q E) : t_least_text A E { nx := fun _ H' => Q .non H', rt := Q } (start ["arms", "many", "groups", "foes", "given", "place", "used", "foe", "letter"] vs) H := by
  rcases h with ⟨v, ⟨p, n, a, rfl, hS, ty, hn, ok, hN, hf, rfl⟩, k⟩ | ⟨C, (⟨p, n, a, rfl, hS, ty, hn, ok, hN, rfl⟩ | ⟨x, rfl, hx, rfl⟩), k⟩
  · exact rd_least_text A hS ty hn ok (fun _ => hf) (fun _ => k) fun z => absurd hN z
  · exact rd_least_text A hS ty hn ok (fun z => absurd z hN) (fun z => absurd z hN) fun _ => k
  · show t_least_text A E _ [some x, none, none, none, none, none, none, none, none] H
    unfold t_least_text
    exact aq_when (b := true) (Am.start H) (et_is (et_not (et_B (c_is_arms_ (ev_var rfl) hx))) rfl) (fun _ H1 am => k H1 am.toEx) fun c => Bool.noConfusion c
theorem c_least_text_ {A : Ad} {σ : L2.St} {H : Hp} {te : TE} {E : XK} {p : Addr} {n : Nat} {a : Nat → Nat} (h : Ev te σ H (.ref p)) (hS : SqL A.K H p (armL n a)) (ty : TyX A.K H (.ref p) (.type "list")) (hn : n ≤ 200) (ok : OkA n a) (hN : NoCl n a (rA n a)) (hf : Free n a (rA n a)) :
    Ev (tCall (sp_least_text A) [] E (tCons te tNil)) σ H (tS (gT n a (rA n a) n)) :=
  e_callVX (ea_cons h ea_nil) fun _ e => ⟨p, n, a, rfl, ex_l e hS, tyX_ex e ty, hn, ok, hN, hf, rfl⟩

end Mw
namespace Mw
open PySem PySem.Spec PyProof.Rows L2 Evl
local macro_rules | `(tactic| walk_at "sd") => `(tactic| (first
  | assumption
  | omega
  | decide
  | (simp only [List.length_append, List.length_cons, List.length_nil, List.length_reverse, List.length_take, List.length_drop, List.length_map, List.length_range] at *; omega)
  | skip))
local macro_rules | `(tactic| walk_at "ev") => `(tactic| (first
  | ((with_reducible apply ev_var); rfl)
  | (with_reducible exact ev_c)
  | ((with_reducible apply ev_op) <;> walk_at "ev")
  | ((with_reducible apply e_negI) <;> walk_at "ev")
  | ((with_reducible apply et_test) <;> walk_at "ev")
  | ((with_reducible apply et_B) <;> walk_at "ev")
  | ((with_reducible apply et_and); (focus walk_at "ev"); intro hq; (try simp only [Bool.and_eq_true, Bool.or_eq_true, decide_eq_true_eq, Bool.not_eq_true', decide_eq_false_iff_not, Bool.and_eq_false_iff, Bool.or_eq_false_iff, Bool.not_eq_false'] at hq); walk_at "ev")
  | ((with_reducible apply et_or); (focus walk_at "ev"); intro hq; (try simp only [Bool.and_eq_true, Bool.or_eq_true, decide_eq_true_eq, Bool.not_eq_true', decide_eq_false_iff_not, Bool.and_eq_false_iff, Bool.or_eq_false_iff, Bool.not_eq_false'] at hq); walk_at "ev")
  | ((with_reducible apply ev_andV); (focus walk_at "ev"); intro hq; (try simp only [Bool.and_eq_true, Bool.or_eq_true, decide_eq_true_eq, Bool.not_eq_true', decide_eq_false_iff_not, Bool.and_eq_false_iff, Bool.or_eq_false_iff, Bool.not_eq_false'] at hq); walk_at "ev")
  | ((with_reducible apply ev_orV); (focus walk_at "ev"); intro hq; (try simp only [Bool.and_eq_true, Bool.or_eq_true, decide_eq_true_eq, Bool.not_eq_true', decide_eq_false_iff_not, Bool.and_eq_false_iff, Bool.or_eq_false_iff, Bool.not_eq_false'] at hq); walk_at "ev")
  | ((with_reducible apply e_if); (focus walk_at "ev"); (focus (intro hq; (try simp only [Bool.and_eq_true, Bool.or_eq_true, decide_eq_true_eq, Bool.not_eq_true', decide_eq_false_iff_not, Bool.and_eq_false_iff, Bool.or_eq_false_iff, Bool.not_eq_false'] at hq); walk_at "ev")); (intro hq; (try simp only [Bool.and_eq_true, Bool.or_eq_true, decide_eq_true_eq, Bool.not_eq_true', decide_eq_false_iff_not, Bool.and_eq_false_iff, Bool.or_eq_false_iff, Bool.not_eq_false'] at hq); walk_at "ev"))
  | ((with_reducible apply et_not) <;> walk_at "ev")
  | ((with_reducible apply ev_notV) <;> walk_at "ev")
  | (with_reducible exact et_yes)
  | (with_reducible exact ea_nil)
  | ((with_reducible apply ea_cons) <;> walk_at "ev")
  | (with_reducible exact eo_none)
  | ((with_reducible apply eo_some) <;> walk_at "ev")
  | ((with_reducible apply e_slBut) <;> walk_at "ev")
  | ((with_reducible apply e_slIn) <;> walk_at "ev")
  | ((with_reducible apply e_slTo) <;> walk_at "ev")
  | ((with_reducible apply e_slFrom) <;> walk_at "ev")
  | ((with_reducible apply e_slMid) <;> walk_at "ev")
  | ((with_reducible apply e_rev) <;> walk_at "ev")
  | (with_reducible exact rv_I0)
  | (with_reducible exact r_eqI) | (with_reducible exact r_neI) | (with_reducible exact r_eqS) | (with_reducible exact r_neS)
  | (with_reducible exact r_inC) | (with_reducible exact r_ninC) | (with_reducible exact r_isN) | (with_reducible exact r_notN)
  | (with_reducible exact r_ltT) | (with_reducible exact r_gtT)
  | (with_reducible exact rc_max2) | (with_reducible exact rc_min2)
  | ((with_reducible apply r_divI) <;> walk_at "sd") | ((with_reducible apply r_modI) <;> walk_at "sd") | ((with_reducible apply r_mulI) <;> walk_at "sd")
  | ((with_reducible apply r_ixS) <;> walk_at "sd")
  | ((with_reducible apply r_addT) <;> walk_at "sd")
  | ((with_reducible apply r_mulT) <;> walk_at "sd")
  | ((with_reducible apply rc_lenT) <;> walk_at "sd")
  | ((with_reducible apply rc_lenL) <;> walk_at "sd")
  | ((with_reducible apply ev_cb) <;> walk_at "ev")
  | walk_at "evc"
  | walk_at "sd"))

/-! ## reaches, fewest -/
/-- the ends of the mirror words that begin at i, in some order -/
def EndsAt (l : Tx) (i : Nat) (xs : List V) : Prop := ∃ ns : List Int, xs = ns.map V.int ∧ ns.length ≤ 100000 ∧ ∀ e : Int, e ∈ ns ↔ ∃ j : Nat, e = j ∧ i < j ∧ j ≤ l.length ∧ pal (sub l i j) = true
def sp_reaches (A : Ad) : Sp := fun vs H Q _ => ∃ l : Tx, vs = [tS l] ∧ l.length ≤ 200 ∧ ∀ p ents H', Ex H H' → H' p = some (.lst (refE ents)) → (∀ e ∈ ents, H' e.1 = some (.lst e.2)) → ents.length = l.length → (∀ i e, ents[i]? = some e → EndsAt l i e.2) → Q (.ref p) H'
def t_reaches (A : Ad) : TS :=
  (tSeq (tAsg (tLc (iStr (tVar 0)) (gName 2) tYes (tLst tNil) [2]) (gName 1))
  (tSeq (tFor (iEnum A.K (tCons (tCall (sp_arms_of A) [] E0 (tCons (tVar 0) tNil)) tNil)) (gTup A.K 2 (gCons (gName 3) (gCons (gName 4) gNil)))
  (tFor (iRng1 (tCons (tOp rAddI (tVar 4) (tC (.int 1))) tNil)) (gName 5)
  (tSeq (tAsg (tOp rSubI (tOp rDivI (tOp rAddI (tVar 3) (tC (.int 1))) (tC (.int 2))) (tVar 5)) (gName 6))
  (tSeq (tAsg (tOp rAddI (tOp rDivI (tVar 3) (tC (.int 2))) (tVar 5)) (gName 7))
  (tIfS (tTest (tOp rLeI (tVar 6) (tVar 7))) (tDrop (tBM A.K "list" rAppend (tOp (rIxL A.K) (tVar 1) (tVar 6)) (tCons (tOp rAddI (tVar 7) (tC (.int 1))) tNil))) tNext)))))
  (tRet (tLc (iList A.K (tVar 1)) (gName 8) tYes (tCB (rSortedI A.K) (tCons (tVar 8) tNil)) [8]))))

theorem len_reaches (A : Ad) : ∀ vs H Q E, sp_reaches A vs H Q E → vs.length = 1 := fun vs H Q E h => by
  obtain ⟨l, rfl, _⟩ := h
  rfl
/-- the lists as they stand behind M middles and k steps of the next one -/
def RInv (l : Tx) (M k : Nat) (X : Nat → List Int) : Prop := ∀ i, i < l.length → (X i).length ≤ M * (l.length + 1) + k ∧
  ∀ e : Int, e ∈ X i ↔ ∃ m s : Nat, (m < M ∨ (m = M ∧ s < k)) ∧ s ≤ armN l m ∧ s ≤ (m + 1) / 2 ∧ (m + 1) / 2 - s = i ∧ e = ((m / 2 + s + 1 : Nat) : Int) ∧ i < m / 2 + s + 1
theorem pu_reaches (A : Ad) (vs : List V) (H : Hp) (Q : VK) (E : XK) (h : sp_reaches A vs H Q E) : t_reaches A { nx := fun _ H' => Q .non H', rt := Q } (start ["text", "found", "place", "middle", "arm", "step", "begin", "end", "ends"] vs) H := by
  obtain ⟨l, rfl, hl, k⟩ := h
  show t_reaches A _ [some (tS l), none, none, none, none, none, none, none, none] H
  unfold t_reaches
  have hl1 : l.length ≤ 1000 := by omega
  refine aq_asgLL (fun _ xs => xs = []) (Am.start H) (wk_text (ev_var rfl)) (fun _ _ => pm_true) trivial (by omega) (fun _ => rfl) (fun n _ => Mw.EvL.toP (el_lst ea_nil (by decide)) rfl) fun pf ents H1 pr am => ?_
  dsimp only [List.set]
  have hlen : ents.length = l.length := (Paired.length pr).symm
  obtain ⟨R, hR⟩ : ∃ R : Nat → Addr, ents = entF R (fun _ => []) l.length := by
    refine ⟨fun i => (ents.getD i (pf, [])).1, ?_⟩
    apply List.ext_getElem?
    intro i
    by_cases c : i < l.length
    · rw [entF_at c]
      obtain ⟨y, hy, hy2⟩ := paired_at pr (List.getElem?_eq_getElem c)
      rw [List.getD_eq_getElem?_getD, hy]
      show some y = some (y.1, [])
      rw [← hy2]
    · rw [List.getElem?_eq_none (by omega), List.getElem?_eq_none (by unfold entF; simp; omega)]
  subst hR
  clear pr hlen
  have aln : (armsN l).length = 2 * l.length - 1 := by unfold armsN; simp
  have arm_n : ∀ m, armN l m ≤ (m + 1) / 2 := arm_le l
  refine aq_forEN (K := A.K) (f := vN) (ns := armsN l) (fun p pre σ' H' => ∃ (X : Nat → List Int) (v2 v3 v4 v5 v6 v7 v8 : Option V), σ' = [some (tS l), some (.ref pf), v2, v3, v4, v5, v6, v7, v8] ∧
    Am [] H ((p, .lst ((armsN l).map vN)) :: (pf, .lst (refE (entF R X l.length))) :: (ledE (entF R X l.length) ++ [])) H' ∧ RInv l pre.length 0 X) am (c_arms_of_ (ev_var rfl) hl1) (fun p H2 am => ⟨fun _ => [], _, _, _, _, _, _, _, rfl, am, ?_⟩) ?_ ?_ ?_
  · intro i hi
    refine ⟨Nat.zero_le _, fun e => ⟨fun h => (by cases h), ?_⟩⟩
    rintro ⟨m, s, (h | ⟨_, h⟩), _⟩
    · exact absurd h (Nat.not_lt_zero _)
    · exact absurd h (Nat.not_lt_zero _)
  · rintro p pre σ' H' ⟨X, v2, v3, v4, v5, v6, v7, v8, rfl, am, _⟩
    exact am.at 0 rfl
  · rintro p pre n post σ' H2 H3 hs ⟨X, v2, v3, v4, v5, v6, v7, v8, rfl, am, hX⟩ e23
    have am := am.ex e23
    dsimp only [List.set]
    have hM : pre.length < 2 * l.length - 1 := by rw [← aln, hs]; simp
    have hn : n = armN l pre.length := by
      have z : (armsN l)[pre.length]? = some n := by rw [hs]; simp
      unfold armsN at z
      rw [at_range _ hM] at z
      exact (Option.some.inj z).symm
    subst hn
    generalize hMe : pre.length = M at hM hX ⊢
    refine a_for (ns := List.range (((armN l M : Nat) : Int) + 1).toNat) (f := fun i => .int (i : Nat)) (fun pre2 σ' H' => ∃ (X : Nat → List Int) (v2 v5 v6 v7 v8 : Option V), σ' = [some (tS l), some (.ref pf), v2, some (.int (M : Nat)), some (vN (armN l M)), v5, v6, v7, v8] ∧
      Am [] H ((p, .lst ((armsN l).map vN)) :: (pf, .lst (refE (entF R X l.length))) :: (ledE (entF R X l.length) ++ [])) H' ∧ RInv l M pre2.length X) am (wk_range1 (ea_cons (ev_op (ev_var rfl) ev_c rv_I0) ea_nil) (by have := arm_n M; omega)) (fun H4 am => ⟨X, _, _, _, _, _, rfl, am, hX⟩) (fun _ _ _ _ => trivial) ?_ ?_
    · rintro pre2 s post2 σ' H4 hs2 ⟨X, v2, v5, v6, v7, v8, rfl, am, hX⟩
      obtain ⟨rfl, hsl⟩ := range_split hs2
      rw [List.length_range] at hX
      dsimp only [List.set]
      have han := arm_n M
      have hsa : s ≤ armN l M := by omega
      have hin := arm_in (l := l) (m := M) (by omega)
      refine aq_asg (v := .int (((M + 1) / 2 - s : Nat) : Int)) am (ev_is (ev_op (ev_op (ev_op (ev_var rfl) ev_c rv_I0) ev_c (r_divI (by decide))) (ev_var rfl) rv_I0) (by congr 1; omega)) fun H5 am => ?_
      dsimp only [List.set]
      refine aq_asg (v := .int ((M / 2 + s : Nat) : Int)) am (ev_is (ev_op (ev_op (ev_var rfl) ev_c (r_divI (by decide))) (ev_var rfl) rv_I0) (by congr 1)) fun H6 am => ?_
      dsimp only [List.set]
      have fin : ∀ {X2 : Nat → List Int} {H7 : Hp}, Am [] H ((p, .lst ((armsN l).map vN)) :: (pf, .lst (refE (entF R X2 l.length))) :: (ledE (entF R X2 l.length) ++ [])) H7 → RInv l M (s + 1) X2 →
        ∃ (X : Nat → List Int) (v2' v5 v6 v7 v8' : Option V), [some (tS l), some (.ref pf), v2, some (.int (M : Nat)), some (vN (armN l M)), some (.int (s : Nat)), some (.int (((M + 1) / 2 - s : Nat) : Int)), some (.int ((M / 2 + s : Nat) : Int)), v8] = [some (tS l), some (.ref pf), v2', some (.int (M : Nat)), some (vN (armN l M)), v5, v6, v7, v8'] ∧
      Am [] H ((p, .lst ((armsN l).map vN)) :: (pf, .lst (refE (entF R X l.length))) :: (ledE (entF R X l.length) ++ [])) H7 ∧ RInv l M (List.range s ++ [s]).length X := fun {X2 H7} a b => ⟨X2, _, _, _, _, _, rfl, a, by rw [List.length_append, List.length_range]; exact b⟩
      refine a_when am (et_test (ev_op (ev_var rfl) (ev_var rfl) rv_I0)) (fun c H7 am => ?_) fun c H7 am => ?_
      · have c := of_decide_eq_true c
        have hi : (M + 1) / 2 - s < l.length := by omega
        have hXi := (hX _ hi).1
        have hbig : M * (l.length + 1) ≤ 2 * 200 * 201 := Nat.mul_le_mul (by omega) (by omega)
        have hat := entF_at (R := R) (X := X) hi
        refine a_app (2 + ((M + 1) / 2 - s)) (l := R ((M + 1) / 2 - s)) (xs := (X ((M + 1) / 2 - s)).map V.int) (v := .int ((M / 2 + s + 1 : Nat) : Int)) am ?_ ?_ (ev_is (ev_op (ev_var rfl) ev_c rv_I0) rfl) (by rw [List.length_map]; omega) fun H8 am => ?_
        · rw [Nat.add_comm 2]
          show (ledE (entF R X l.length) ++ [])[(M + 1) / 2 - s]? = _
          rw [List.append_nil]
          unfold ledE
          rw [List.getElem?_map, hat]; rfl
        · refine ev_op (ev_var rfl) (ev_var rfl) (rv_ixL (K := A.K) (sq_of (am.at 1 rfl)) (atI_nat ?_))
          unfold refE
          rw [List.getElem?_map, hat]; rfl
        · refine fin (X2 := fun j => if j = (M + 1) / 2 - s then X ((M + 1) / 2 - s) ++ [((M / 2 + s + 1 : Nat) : Int)] else X j) ?_ ?_
          · rw [← entF_set, refE_set hat, ledE_set]
            rw [Nat.add_comm 2] at am
            rw [List.append_nil] at am ⊢
            rw [List.map_append]
            exact am
          · intro i hi2
            obtain ⟨y1, y2⟩ := hX i hi2
            by_cases ei : i = (M + 1) / 2 - s
            · subst ei
              simp only [if_true]
              refine ⟨by rw [List.length_append]; show _ + 1 ≤ _; omega, fun e => ?_⟩
              rw [List.mem_append, y2, List.mem_singleton]
              constructor
              · rintro (⟨m, s', a, b⟩ | rfl)
                · exact ⟨m, s', by omega, b⟩
                · exact ⟨M, s, .inr ⟨rfl, by omega⟩, hsa, by omega, rfl, rfl, by omega⟩
              · rintro ⟨m, s', a, b1, b2, b3, b4, b5⟩
                rcases Nat.lt_or_ge m M with g | g
                · exact .inl ⟨m, s', .inl g, b1, b2, b3, b4, b5⟩
                · have hm : m = M := by omega
                  subst hm
                  have : s' = s := by omega
                  subst this
                  exact .inr b4
            · simp only [if_neg ei]
              refine ⟨by omega, fun e => ?_⟩
              rw [y2]
              constructor
              · rintro ⟨m, s', a, b⟩
                exact ⟨m, s', by omega, b⟩
              · rintro ⟨m, s', a, b1, b2, b3, b4, b5⟩
                refine ⟨m, s', ?_, b1, b2, b3, b4, b5⟩
                rcases Nat.lt_or_ge m M with g | g
                · exact .inl g
                · have hm : m = M := by omega
                  subst hm
                  refine .inr ⟨rfl, ?_⟩
                  rcases Nat.lt_or_ge s' s with g2 | g2
                  · exact g2
                  · have : s' = s := by omega
                    subst this
                    exact absurd b3.symm ei
      · have c := of_decide_eq_false c
        refine fin am fun i hi2 => ?_
        obtain ⟨y1, y2⟩ := hX i hi2
        refine ⟨by omega, fun e => ?_⟩
        rw [y2]
        constructor
        · rintro ⟨m, s', a, b⟩
          exact ⟨m, s', by omega, b⟩
        · rintro ⟨m, s', a, b1, b2, b3, b4, b5⟩
          refine ⟨m, s', ?_, b1, b2, b3, b4, b5⟩
          rcases Nat.lt_or_ge m M with g | g
          · exact .inl g
          · have hm : m = M := by omega
            subst hm
            refine .inr ⟨rfl, ?_⟩
            rcases Nat.lt_or_ge s' s with g2 | g2
            · exact g2
            · have : s' = s := by omega
              subst this
              omega
    · rintro σ' H4 ⟨X, v2, v5, v6, v7, v8, rfl, am, hX⟩
      rw [List.length_range] at hX
      refine ⟨X, _, _, _, _, _, _, _, rfl, am, fun i hi2 => ?_⟩
      obtain ⟨y1, y2⟩ := hX i hi2
      have han := arm_n M
      have hin := arm_in (l := l) (m := M) (by omega)
      rw [List.length_append, hMe, List.length_singleton]
      refine ⟨by rw [Nat.succ_mul]; omega, fun e => ?_⟩
      rw [y2]
      constructor
      · rintro ⟨m, s', a, b⟩
        exact ⟨m, s', by omega, b⟩
      · rintro ⟨m, s', a, b1, b2, b3, b4, b5⟩
        refine ⟨m, s', ?_, b1, b2, b3, b4, b5⟩
        rcases Nat.lt_or_ge m M with g | g
        · exact .inl g
        · have hm : m = M := by omega
          subst hm
          exact .inr ⟨rfl, by omega⟩
  · rintro p σ' H2 ⟨X, v2, v3, v4, v5, v6, v7, v8, rfl, am, hX⟩
    have am := am.drop1
    rw [aln] at hX
    refine a_retLL (f := fun e : Addr × List V => V.ref e.1) (ns := entF R X l.length) (fun e xs => ∃ ns' : List Int, xs = ns'.map V.int ∧ (ns'.map V.int).Perm e.2) am (wk_list (K := A.K) (ev_var rfl) (sq_of (am.at 0 rfl))) (fun _ _ e s => ex_l e s) (sq_of (am.at 0 rfl)) (by unfold entF; simp; omega) (fun _ => rfl) (fun e he => ?_) fun q ents H3 pr am3 => ?_
    · have hm : (e.1, HO.lst e.2) ∈ (pf, HO.lst (refE (entF R X l.length))) :: (ledE (entF R X l.length) ++ []) := by
        refine List.mem_cons_of_mem _ (List.mem_append_left _ ?_)
        exact List.mem_map.mpr ⟨e, he, rfl⟩
      obtain ⟨i, hi, rfl⟩ := List.mem_map.mp he
      intro H4 e4 Q' q'
      refine elp_sortI (K := A.K) (ns := X i) (ev_var rfl) (sq_of (am.own _ hm)) H4 e4 Q' fun r xs H5 ⟨ns', a, b, _⟩ => q' r xs H5 ⟨ns', a, b.map _⟩
    · refine k q ents H3 am3.toEx (am3.at 0 rfl) (fun e he => ?_) ?_ fun i e he => ?_
      · exact am3.own (e.1, HO.lst e.2) (List.mem_cons_of_mem _ (List.mem_append_left _ (List.mem_map.mpr ⟨e, he, rfl⟩)))
      · rw [← Paired.length pr]
        unfold entF
        simp
      · have hil : i < l.length := by
          have := (List.getElem?_eq_some_iff.mp he).1
          rw [← Paired.length pr] at this
          unfold entF at this
          simpa using this
        obtain ⟨y, hy, ns', y1, y2⟩ := paired_at pr (entF_at hil)
        rw [he] at hy
        cases hy
        obtain ⟨z1, z2⟩ := hX i hil
        have hlen : ns'.length = (X i).length := by simpa using y2.length_eq
        have hbig : (2 * l.length - 1) * (l.length + 1) ≤ 399 * 201 := Nat.mul_le_mul (by omega) (by omega)
        refine ⟨ns', y1, by omega, fun e' => ?_⟩
        have hmem : e' ∈ ns' ↔ e' ∈ X i := by
          have := y2.mem_iff (a := V.int e')
          simpa using this
        rw [hmem, z2]
        constructor
        · rintro ⟨m, s, a, b1, b2, b3, b4, b5⟩
          refine ⟨_, b4, (reach_ms (l := l) (p := i)).mpr ⟨m, s, by omega, b1, b2, b3, rfl, b5⟩⟩
        · rintro ⟨j, rfl, hj⟩
          obtain ⟨m, s, a, b1, b2, b3, b4, b5⟩ := reach_ms.mp hj
          exact ⟨m, s, .inl a, b1, b2, b3, by rw [b4], b5⟩
theorem aq_reaches {A : Ad} {σ : L2.St} {H : Hp} {te : TE} {l : Tx} {i : Nat} {D : Ends} {tz : TS} (h : Ev te σ H (tS l)) (hl : l.length ≤ 200)
    (k : ∀ p ents H', Ex H H' → H' p = some (.lst (refE ents)) → (∀ e ∈ ents, H' e.1 = some (.lst e.2)) → ents.length = l.length → (∀ i e, ents[i]? = some e → EndsAt l i e.2) → tz D (σ.set i (some (.ref p))) H') :
    tSeq (tAsg (tCall (sp_reaches A) [] E0 (tCons te tNil)) (gName i)) tz D σ H :=
  h H (Ex.refl H) _ fun H1 e1 => ⟨l, rfl, hl, fun p ents H' e2 a b c d => k p ents H' (e1.trans e2) a b c d⟩
theorem rep_range {α : Type} (f : Nat → α) (x : α) (n : Nat) (h : ∀ i, i < n → f i = x) : List.replicate n x = (List.range n).map f := by
  refine (List.eq_replicate_iff.mpr ⟨by simp, fun y hy => ?_⟩).symm
  obtain ⟨i, hi, rfl⟩ := List.mem_map.mp hy
  exact h i (List.mem_range.mp hi)
def mF (l : Tx) (k j : Nat) : V := if l.length - k ≤ j then .int ((bst l (l.length - j)).length : Nat) else .int 0
def gF (l : Tx) (k j : Nat) : V := if l.length - k ≤ j then .int (goesN l j : Nat) else .int 0
def sp_fewest (A : Ad) : Sp := spLX (fun vs H xs => ∃ x l, vs = [x] ∧ Thing A.K H x (some l) ∧ isTx l = true ∧ xs = (bst l l.length).map tS) fun vs H C => ∃ x o, vs = [x] ∧ Thing A.K H x o ∧ oTx o = false ∧ C = A.cBT
def t_fewest (A : Ad) (E : XK) : TS :=
  (tSeq (tDrop (tCall (sp_need_text A) [] E (tCons (tVar 0) tNil)))
  (tSeq (tAsg (tCall (sp_reaches A) [] E0 (tCons (tVar 0) tNil)) (gName 1))
  (tSeq (tAsg (tOp rRep (tLst (tCons (tC (.int 0)) tNil)) (tOp rAddI (tCB rLenT (tCons (tVar 0) tNil)) (tC (.int 1)))) (gName 2))
  (tSeq (tAsg (tOp rRep (tLst (tCons (tC (.int 0)) tNil)) (tCB rLenT (tCons (tVar 0) tNil))) (gName 3))
  (tSeq (tFor (iRevR (tRg1 (tCB rLenT (tCons (tVar 0) tNil)))) (gName 4)
  (tSeq (tAsg (tCB (rMin A.K) (tCons (tLc (iList A.K (tOp (rIxL A.K) (tVar 1) (tVar 4))) (gName 6) tYes (tOp (rIxL A.K) (tVar 2) (tVar 6)) [6]) tNil)) (gName 5))
  (tSeq (tAsg (tOp rAddI (tC (.int 1)) (tVar 5)) (gSub (tVar 2) (tVar 4) rSetL))
  (tAsg (tCB (rMax A.K) (tCons (tLc (iList A.K (tOp (rIxL A.K) (tVar 1) (tVar 4))) (gName 6) (tTest (tOp rEq (tOp (rIxL A.K) (tVar 2) (tVar 6)) (tVar 5))) (tVar 6) [6]) tNil)) (gSub (tVar 3) (tVar 4) rSetL)))))
  (tSeq (tAsg (tLst tNil) (gName 7))
  (tSeq (tAsg (tC (.int 0)) (gName 4))
  (tSeq (tWhile (tTest (tOp rLtI (tVar 4) (tCB rLenT (tCons (tVar 0) tNil))))
  (tSeq (tDrop (tBM A.K "list" rAppend (tVar 7) (tCons (tSl rSlS (tVar 0) (tPart (tVar 4)) (tPart (tOp (rIxL A.K) (tVar 3) (tVar 4)))) tNil)))
  (tAsg (tOp (rIxL A.K) (tVar 3) (tVar 4)) (gName 4))))
  (tRet (tVar 7))))))))))

theorem len_fewest (A : Ad) : ∀ vs H Q E, sp_fewest A vs H Q E → vs.length = 1 := fun vs H Q E h => by
  rcases h with ⟨v, ⟨x, l, rfl, _⟩, _⟩ | ⟨C, ⟨x, o, rfl, _⟩, _⟩ <;> rfl
theorem pu_fewest (A : Ad) (vs : List V) (H : Hp) (Q : VK) (E : XK) (h : sp_fewest A vs H Q E) : t_fewest A E { nx := fun _ H' => Q .non H', rt := Q } (start ["text", "ends", "many", "goes", "place", "least", "end", "found"] vs) H := by
  rcases h with ⟨v, ⟨x, l, rfl, hx, hb, rfl⟩, k⟩ | ⟨C, ⟨x, o, rfl, hx, hb, rfl⟩, k⟩
  · show t_fewest A E _ [some x, none, none, none, none, none, none, none] H
    unfold t_fewest
    obtain ⟨rfl, hl1⟩ := thing_tx hx
    have hl : l.length ≤ 200 := by
      unfold isTx at hb
      rw [Bool.and_eq_true] at hb
      exact of_decide_eq_true hb.1
    refine aq_need_text (Am.start H) (ev_var rfl) hx hb fun H1 am => ?_
    refine aq_reaches (l := l) (ev_var rfl) hl fun p1 ents H2 e12 hp1 hen hel hends => ?_
    dsimp only [List.set]
    have e02 : Ex H H2 := am.toEx.trans e12
    clear am
    have am := Am.start H2
    refine aq_asgL (xs := (List.range (l.length + 1)).map (mF l 0)) am ?_ fun pm H3 am => ?_
    · rw [← rep_range (mF l 0) (.int 0) (l.length + 1) (fun i hi => ?_), show l.length + 1 = ((l.length : Int) + 1).toNat by omega]
      · exact el_rep (el_lst (ea_cons ev_c ea_nil) (by decide)) (ev_op (ev_cb (ea_cons (ev_var rfl) ea_nil) (rc_lenT (by omega))) ev_c rv_I0) (by omega)
      · unfold mF
        by_cases c : l.length - 0 ≤ i
        · rw [if_pos c, show l.length - i = 0 by omega]; rfl
        · rw [if_neg c]
    dsimp only [List.set]
    refine aq_asgL (xs := (List.range l.length).map (gF l 0)) am ?_ fun pg H4 am => ?_
    · rw [← rep_range (gF l 0) (.int 0) l.length (fun i hi => ?_)]
      · have z := el_rep (H := H3) (σ := [some (tS l), some (.ref p1), some (.ref pm), none, none, none, none, none]) (x := .int 0) (n := (l.length : Int)) (tl := tLst (tCons (tC (.int 0)) tNil)) (tb := tCB rLenT (tCons (tVar 0) tNil)) (el_lst (ea_cons ev_c ea_nil) (by decide)) (ev_cb (ea_cons (ev_var rfl) ea_nil) (rc_lenT (by omega))) (by omega)
        rwa [Int.toNat_natCast] at z
      · unfold gF
        rw [if_neg (by omega)]
    dsimp only [List.set]
    refine aq_for (ns := List.range (l.length : Int).toNat) (f := fun i => .int ((l.length : Int) - 1 - (i : Nat))) (fun pre σ' H' => ∃ v4 v5 v6 : Option V, σ' = [some (tS l), some (.ref p1), some (.ref pm), some (.ref pg), v4, v5, v6, none] ∧
      Am [] H2 [(pg, .lst ((List.range l.length).map (gF l pre.length))), (pm, .lst ((List.range (l.length + 1)).map (mF l pre.length)))] H') am (wk_rev (ev_cb (ea_cons (ev_var rfl) ea_nil) (rc_lenT (by omega))) (by omega)) (fun H1 am => ⟨_, _, _, rfl, am⟩) (fun _ _ _ _ => trivial) ?_ ?_
    · rintro pre kk post σ' H5 hs ⟨v4, v5, v6, rfl, am⟩
      obtain ⟨rfl, hk⟩ := range_split hs
      rw [List.length_range] at am
      rw [Int.toNat_natCast] at hk
      dsimp only [List.set]
      obtain ⟨p, hp, hpl⟩ : ∃ p : Nat, (l.length : Int) - 1 - (kk : Nat) = (p : Nat) ∧ p = l.length - (kk + 1) := ⟨l.length - (kk + 1), by omega, rfl⟩
      rw [hp]
      have hpn : p < l.length := by omega
      obtain ⟨en, hen1⟩ : ∃ en, ents[p]? = some en := ⟨_, List.getElem?_eq_getElem (by omega)⟩
      obtain ⟨ns, hns, hnl, hnm⟩ := hends p en hen1
      obtain ⟨eE, g1, g2, g3, g4, g5⟩ := bst_spec hpn
      have hgo := goes_eq g4 g1 g2
      have hrow : ∀ {H' : Hp} {σ' : L2.St}, Ex H2 H' → σ'[1]? = some (some (.ref p1)) → σ'[4]? = some (some (.int (p : Nat))) → Ev (tOp (rIxL A.K) (tVar 1) (tVar 4)) σ' H' (.ref en.1) ∧ SqL A.K H' en.1 (ns.map V.int) := fun {H' σ'} ee s1 s4 =>
        ⟨ev_op (ev_var s1) (ev_var s4) (rv_ixL (K := A.K) (sq_of (ee _ _ hp1)) (atI_nat (by unfold refE; rw [List.getElem?_map, hen1]; rfl))), by
          have z := ee _ _ (hen en (List.mem_of_getElem? hen1))
          rw [hns] at z
          exact sq_of z⟩
      have hm : ∀ (k' : Nat) {H' : Hp} {σ' : L2.St} {e : Int}, l.length - k' ≤ p + 1 → e ∈ ns → H' pm = some (.lst ((List.range (l.length + 1)).map (mF l k'))) → σ'[2]? = some (some (.ref pm)) → σ'[6]? = some (some (.int e)) → Ev (tOp (rIxL A.K) (tVar 2) (tVar 6)) σ' H' (.int ((bst l (l.length - e.toNat)).length : Nat)) := fun k' {H' σ' e} hk' he hpm s2 s6 => by
        obtain ⟨j, rfl, j1, j2, j3⟩ := (hnm e).mp he
        refine ev_op (ev_var s2) (ev_var s6) (rv_ixL (K := A.K) (sq_of hpm) (atI_nat ?_))
        rw [at_range _ (by omega), Int.toNat_natCast]
        unfold mF
        rw [if_pos (by omega)]
      have hEmem : ((eE : Nat) : Int) ∈ ns := (hnm _).mpr ⟨eE, rfl, g1, g2, g3⟩
      obtain ⟨r1, r2⟩ := hrow (H' := H5) (σ' := [some (tS l), some (.ref p1), some (.ref pm), some (.ref pg), some (.int (p : Nat)), v5, v6, none]) am.toEx rfl rfl
      have hpm5 := am.at 1 rfl
      refine aq_asg (v := .int ((bst l (l.length - eE)).length : Nat)) am (e_cbN (xs := (ns.map fun e : Int => (((bst l (l.length - e.toNat)).length : Nat) : Int)).map V.int) ?_ fun q H6 e6 h6 => rc_min (K := A.K) (sq_of h6) ?_ ?_) fun H6 am => ?_
      · rw [List.map_map]
        exact el_lcY (f := V.int) (ns := ns) _ (wk_list (K := A.K) r1 r2) (fun _ _ e s => ex_l e s) r2 hnl (fun _ => rfl) fun e he => hm kk (by omega) he hpm5 rfl rfl
      · refine List.mem_map.mpr ⟨(eE : Nat), hEmem, ?_⟩
        rw [Int.toNat_natCast]
      · intro y hy
        obtain ⟨e, he, rfl⟩ := List.mem_map.mp hy
        obtain ⟨j, rfl, j1, j2, j3⟩ := (hnm e).mp he
        rw [Int.toNat_natCast]
        have := (g5 j j1 j2 j3).1
        omega
      dsimp only [List.set]
      refine aq_setL 1 (j := p) (v := .int ((bst l (l.length - p)).length : Nat)) am rfl (ev_is (ev_op ev_c (ev_var rfl) rv_I0) (by rw [g4, List.length_cons]; congr 1; omega)) (ev_var rfl) (ev_var rfl) (by simp; omega) fun H7 am => ?_
      dsimp only [List.set] at am
      have em : ((List.range (l.length + 1)).map (mF l kk)).set p (.int ((bst l (l.length - p)).length : Nat)) = (List.range (l.length + 1)).map (mF l (kk + 1)) := by
        rw [set_range]
        refine List.map_congr_left fun i hi => ?_
        unfold mF
        by_cases c : i = p
        · subst c
          rw [if_pos rfl, if_pos (by omega)]
        · rw [if_neg c]
          by_cases c2 : l.length - kk ≤ i
          · rw [if_pos c2, if_pos (by omega)]
          · rw [if_neg c2, if_neg (by omega)]
      rw [em] at am
      obtain ⟨r1, r2⟩ := hrow (H' := H7) (σ' := [some (tS l), some (.ref p1), some (.ref pm), some (.ref pg), some (.int (p : Nat)), some (.int ((bst l (l.length - eE)).length : Nat)), v6, none]) am.toEx rfl rfl
      have hpm7 := am.at 1 rfl
      refine a_setL 0 (j := p) (v := .int (eE : Nat)) am rfl (e_cbN (xs := (ns.filter fun e : Int => decide ((((bst l (l.length - e.toNat)).length : Nat) : Int) = (((bst l (l.length - eE)).length : Nat) : Int))).map V.int) ?_ fun q H8 e8 h8 => rc_max (K := A.K) (sq_of h8) ?_ ?_) (ev_var rfl) (ev_var rfl) (by simp; omega) fun H8 am => ?_
      · exact el_lc (f := V.int) (ns := ns) _ V.int (wk_list (K := A.K) r1 r2) (fun _ _ e s => ex_l e s) r2 hnl (fun _ => rfl) (fun e he => et_test (ev_op (hm (kk + 1) (by omega) he hpm7 rfl rfl) (ev_var rfl) r_eqI)) fun e he _ => ev_var rfl
      · refine List.mem_filter.mpr ⟨hEmem, ?_⟩
        rw [Int.toNat_natCast, decide_eq_true rfl]
      · intro y hy
        obtain ⟨he, hq⟩ := List.mem_filter.mp hy
        obtain ⟨j, rfl, j1, j2, j3⟩ := (hnm y).mp he
        rw [Int.toNat_natCast, decide_eq_true_eq] at hq
        rcases Nat.lt_or_ge eE j with c | c
        · have := (g5 j j1 j2 j3).2 c
          omega
        · omega
      · dsimp only [List.set] at am
        have eg : ((List.range l.length).map (gF l kk)).set p (.int (eE : Nat)) = (List.range l.length).map (gF l (kk + 1)) := by
          rw [set_range]
          refine List.map_congr_left fun i hi => ?_
          unfold gF
          by_cases c : i = p
          · subst c
            rw [if_pos rfl, if_pos (by omega), hgo]
          · rw [if_neg c]
            by_cases c2 : l.length - kk ≤ i
            · rw [if_pos c2, if_pos (by omega)]
            · rw [if_neg c2, if_neg (by omega)]
        rw [eg] at am
        refine ⟨_, _, _, rfl, ?_⟩
        rw [List.length_append, List.length_range, List.length_singleton]
        exact am
    · rintro σ' H5 ⟨v4, v5, v6, rfl, am⟩
      rw [List.length_range, Int.toNat_natCast] at am
      refine aq_asgL am (el_lst ea_nil (by decide)) fun pf H6 am => ?_
      dsimp only [List.set]
      refine aq_asg am ev_c fun H7 am => ?_
      dsimp only [List.set]
      have hbl := bst_len l l.length 0 (by omega)
      rw [Nat.sub_zero] at hbl
      refine aq_while (fun m σ' H' => ∃ (p : Nat) (done : List Tx) (v5 v6 : Option V), σ' = [some (tS l), some (.ref p1), some (.ref pm), some (.ref pg), some (.int (p : Nat)), v5, v6, some (.ref pf)] ∧
        Am [] H2 [(pf, .lst (done.map tS)), (pg, .lst ((List.range l.length).map (gF l l.length))), (pm, .lst ((List.range (l.length + 1)).map (mF l l.length)))] H' ∧ m = l.length - p ∧ p ≤ l.length ∧ done ++ bst l (l.length - p) = bst l l.length) (l.length - 0)
        ⟨0, [], _, _, rfl, am, rfl, by omega, rfl⟩ fun m σ' H' hw => ?_
      obtain ⟨p, done, v5, v6, rfl, am, hm, hpl, hdn⟩ := hw
      refine ⟨_, et_test (ev_op (ev_var rfl) (ev_cb (ea_cons (ev_var rfl) ea_nil) (rc_lenT (by omega))) rv_I0), fun c H8 e N hN => ?_, fun c H8 e => ?_⟩
      · have am := am.ex e
        have c := of_decide_eq_true c
        have hpn : p < l.length := by omega
        obtain ⟨eE, g1, g2, g3, g4, g5⟩ := bst_spec hpn
        have hgo := goes_eq g4 g1 g2
        have hg : ∀ {H' : Hp} {L : List (Addr × HO)} {σ' : L2.St} , H' pg = some (.lst ((List.range l.length).map (gF l l.length))) → σ'[3]? = some (some (.ref pg)) → σ'[4]? = some (some (.int (p : Nat))) → Ev (tOp (rIxL A.K) (tVar 3) (tVar 4)) σ' H' (.int (eE : Nat)) := fun {H' L σ'} hh s3 s4 => by
          refine ev_op (ev_var s3) (ev_var s4) (rv_ixL (K := A.K) (sq_of hh) (atI_nat ?_))
          rw [at_range _ hpn]
          unfold gF
          rw [if_pos (by omega), hgo]
        have hdl : done.length ≤ l.length := by
          have z : (done ++ bst l (l.length - p)).length ≤ l.length := by rw [hdn]; exact hbl
          rw [List.length_append] at z
          omega
        refine aq_app 0 am rfl (ev_var rfl) (v := tS (sub l p eE)) ?_ (by rw [List.length_map]; omega) fun H9 am => ?_
        · have z := e_slMid (σ := [some (tS l), some (.ref p1), some (.ref pm), some (.ref pg), some (.int (p : Nat)), v5, v6, some (.ref pf)]) (H := H8) (te := tVar 0) (ti := tVar 4) (tj := tOp (rIxL A.K) (tVar 3) (tVar 4)) (l := l) (i := p) (j := eE) (ev_var rfl) (ev_var rfl) (hg (L := []) (am.at 1 rfl) rfl rfl) (by omega) (by omega) (by omega)
          rw [Int.toNat_natCast, Int.toNat_natCast] at z
          exact z
        · refine a_asg am (hg (L := []) (am.at 1 rfl) rfl rfl) fun H10 am => ?_
          dsimp only [List.set]
          refine hN (l.length - eE) _ _ (by omega) ⟨eE, done ++ [sub l p eE], _, _, rfl, ?_, rfl, g2, ?_⟩
          · rw [List.map_append]; exact am
          · rw [← hdn, g4, List.append_assoc]; rfl
      · have am := am.ex e
        have c := of_decide_eq_false c
        have hp : l.length - p = 0 := by omega
        rw [hp, bst_zero, List.append_nil] at hdn
        subst hdn
        exact a_ret am (ev_var rfl) fun H9 am => k pf H9 (fresh_back e02 (am.free 0 rfl)) (e02.trans am.toEx) (am.at 0 rfl)
  · show t_fewest A E _ [some x, none, none, none, none, none, none, none] H
    unfold t_fewest
    exact xq_need_text (Am.start H) (ev_var rfl) hx hb fun H1 am => k H1 am.toEx
theorem c_fewest_ {A : Ad} {σ : L2.St} {H : Hp} {te : TE} {l : Tx} {E : XK} (h : Ev te σ H (tS l)) (hb : isTx l = true) (hl : l.length ≤ 1000) : EvL (tCall (sp_fewest A) [] E (tCons te tNil)) σ H ((bst l l.length).map tS) :=
  e_callLX (ea_cons h ea_nil) fun _ e => ⟨tS l, l, rfl, .inl ⟨l, rfl, hl, rfl⟩, hb, rfl⟩

end Mw
namespace Mw
open PySem PySem.Spec PyProof.Rows L2 Evl
local macro_rules | `(tactic| walk_at "sd") => `(tactic| (first
  | assumption
  | omega
  | decide
  | (simp only [List.length_append, List.length_cons, List.length_nil, List.length_reverse, List.length_take, List.length_drop, List.length_map, List.length_range] at *; omega)
  | skip))
local macro_rules | `(tactic| walk_at "ev") => `(tactic| (first
  | ((with_reducible apply ev_var); rfl)
  | (with_reducible exact ev_c)
  | ((with_reducible apply ev_op) <;> walk_at "ev")
  | ((with_reducible apply e_negI) <;> walk_at "ev")
  | ((with_reducible apply et_test) <;> walk_at "ev")
  | ((with_reducible apply et_B) <;> walk_at "ev")
  | ((with_reducible apply et_and); (focus walk_at "ev"); intro hq; (try simp only [Bool.and_eq_true, Bool.or_eq_true, decide_eq_true_eq, Bool.not_eq_true', decide_eq_false_iff_not, Bool.and_eq_false_iff, Bool.or_eq_false_iff, Bool.not_eq_false'] at hq); walk_at "ev")
  | ((with_reducible apply et_or); (focus walk_at "ev"); intro hq; (try simp only [Bool.and_eq_true, Bool.or_eq_true, decide_eq_true_eq, Bool.not_eq_true', decide_eq_false_iff_not, Bool.and_eq_false_iff, Bool.or_eq_false_iff, Bool.not_eq_false'] at hq); walk_at "ev")
  | ((with_reducible apply ev_andV); (focus walk_at "ev"); intro hq; (try simp only [Bool.and_eq_true, Bool.or_eq_true, decide_eq_true_eq, Bool.not_eq_true', decide_eq_false_iff_not, Bool.and_eq_false_iff, Bool.or_eq_false_iff, Bool.not_eq_false'] at hq); walk_at "ev")
  | ((with_reducible apply ev_orV); (focus walk_at "ev"); intro hq; (try simp only [Bool.and_eq_true, Bool.or_eq_true, decide_eq_true_eq, Bool.not_eq_true', decide_eq_false_iff_not, Bool.and_eq_false_iff, Bool.or_eq_false_iff, Bool.not_eq_false'] at hq); walk_at "ev")
  | ((with_reducible apply e_if); (focus walk_at "ev"); (focus (intro hq; (try simp only [Bool.and_eq_true, Bool.or_eq_true, decide_eq_true_eq, Bool.not_eq_true', decide_eq_false_iff_not, Bool.and_eq_false_iff, Bool.or_eq_false_iff, Bool.not_eq_false'] at hq); walk_at "ev")); (intro hq; (try simp only [Bool.and_eq_true, Bool.or_eq_true, decide_eq_true_eq, Bool.not_eq_true', decide_eq_false_iff_not, Bool.and_eq_false_iff, Bool.or_eq_false_iff, Bool.not_eq_false'] at hq); walk_at "ev"))
  | ((with_reducible apply et_not) <;> walk_at "ev")
  | ((with_reducible apply ev_notV) <;> walk_at "ev")
  | (with_reducible exact et_yes)
  | (with_reducible exact ea_nil)
  | ((with_reducible apply ea_cons) <;> walk_at "ev")
  | (with_reducible exact eo_none)
  | ((with_reducible apply eo_some) <;> walk_at "ev")
  | ((with_reducible apply e_slBut) <;> walk_at "ev")
  | ((with_reducible apply e_slIn) <;> walk_at "ev")
  | ((with_reducible apply e_slTo) <;> walk_at "ev")
  | ((with_reducible apply e_slFrom) <;> walk_at "ev")
  | ((with_reducible apply e_slMid) <;> walk_at "ev")
  | ((with_reducible apply e_rev) <;> walk_at "ev")
  | (with_reducible exact rv_I0)
  | (with_reducible exact r_eqI) | (with_reducible exact r_neI) | (with_reducible exact r_eqS) | (with_reducible exact r_neS)
  | (with_reducible exact r_inC) | (with_reducible exact r_ninC) | (with_reducible exact r_isN) | (with_reducible exact r_notN)
  | (with_reducible exact r_ltT) | (with_reducible exact r_gtT)
  | (with_reducible exact rc_max2) | (with_reducible exact rc_min2)
  | ((with_reducible apply r_divI) <;> walk_at "sd") | ((with_reducible apply r_modI) <;> walk_at "sd") | ((with_reducible apply r_mulI) <;> walk_at "sd")
  | ((with_reducible apply r_ixS) <;> walk_at "sd")
  | ((with_reducible apply r_addT) <;> walk_at "sd")
  | ((with_reducible apply r_mulT) <;> walk_at "sd")
  | ((with_reducible apply rc_lenT) <;> walk_at "sd")
  | ((with_reducible apply rc_lenL) <;> walk_at "sd")
  | ((with_reducible apply ev_cb) <;> walk_at "ev")
  | walk_at "evc"
  | walk_at "sd"))

/-! ## is_mirror, inner, tail, chain -/
def oMir (o : Option Tx) : Bool := match o with
  | some l => isTx l && (!decide (l = []) && pal l)
  | none => false
def sp_is_mirror (A : Ad) : Sp := spV fun vs H v => ∃ x o, vs = [x] ∧ Thing A.K H x o ∧ v = .bl (oMir o)
def t_is_mirror (A : Ad) : TS :=
  (tRet (tAndV (tCall (sp_is_text A) [] E0 (tCons (tVar 0) tNil)) (tAndV (tOp rNe (tVar 0) (tC (tS []))) (tOp rEq (tVar 0) (tRevT (tVar 0))))))

theorem len_is_mirror (A : Ad) : ∀ vs H Q E, sp_is_mirror A vs H Q E → vs.length = 1 := fun vs H Q E h => by
  obtain ⟨v, ⟨x, o, rfl, _⟩, _⟩ := h
  rfl
theorem thing_text {K : PySem.W.Frag} {H : Hp} {x : V} {o : Option Tx} (h : Thing K H x o) (hb : oTx o = true) : ∃ l, x = tS l ∧ o = some l ∧ isTx l = true ∧ l.length ≤ 1000 := by
  rcases h with ⟨l, rfl, hl, rfl⟩ | ⟨_, rfl⟩
  · exact ⟨l, rfl, rfl, hb, hl⟩
  · cases hb
theorem pu_is_mirror (A : Ad) (vs : List V) (H : Hp) (Q : VK) (E : XK) (h : sp_is_mirror A vs H Q E) : t_is_mirror A { nx := fun _ H' => Q .non H', rt := Q } (start ["thing"] vs) H := by
  obtain ⟨v, ⟨x, o, rfl, ho, rfl⟩, k⟩ := h
  show t_is_mirror A _ [some x] H
  unfold t_is_mirror
  refine a_ret (v := .bl (oMir o)) (Am.start H) ?_ fun H1 am => k H1 am.toEx
  cases hb : oTx o with
  | false =>
    have e : oMir o = false := by
      cases o with
      | none => rfl
      | some l =>
        have hb' : isTx l = false := hb
        show (isTx l && _) = false
        rw [hb']; rfl
    rw [e]
    exact ev_andV (a := false) (b := false) (by rw [← hb]; exact c_is_text_ (ev_var rfl) ho) fun z => Bool.noConfusion z
  | true =>
    obtain ⟨l, rfl, rfl, htx, hl⟩ := thing_text ho hb
    refine ev_is (ev_andV (a := true) (b := !decide (l = []) && pal l) (by rw [← hb]; exact c_is_text_ (ev_var rfl) ho) fun _ => ev_andV (ev_op (ev_var rfl) ev_c r_neS) fun _ => ev_op (ev_var rfl) (e_rev (ev_var rfl) (by omega)) r_eqS) ?_
    show V.bl (true && (!decide (l = []) && pal l)) = V.bl (isTx l && (!decide (l = []) && pal l))
    rw [htx]
theorem c_is_mirror_ {A : Ad} {σ : L2.St} {H : Hp} {te : TE} {x : V} {o : Option Tx} (h : Ev te σ H x) (hx : Thing A.K H x o) : Ev (tCall (sp_is_mirror A) [] E0 (tCons te tNil)) σ H (.bl (oMir o)) :=
  e_callV (ea_cons h ea_nil) fun _ e => ⟨x, o, rfl, hx.ex e, rfl⟩
def sp_need_mirror (A : Ad) : Sp := spVX (fun vs H v => ∃ x o, vs = [x] ∧ Thing A.K H x o ∧ oMir o = true ∧ v = .non) fun vs H C => ∃ x o, vs = [x] ∧ Thing A.K H x o ∧ oMir o = false ∧ C = A.cBW
def t_need_mirror (A : Ad) (E : XK) : TS :=
  (tIfS (tNot (tB (tCall (sp_is_mirror A) [] E0 (tCons (tVar 0) tNil)))) (tRz E A.cBW) tNext)

theorem len_need_mirror (A : Ad) : ∀ vs H Q E, sp_need_mirror A vs H Q E → vs.length = 1 := fun vs H Q E h => by
  rcases h with ⟨v, ⟨x, o, rfl, _⟩, _⟩ | ⟨C, ⟨x, o, rfl, _⟩, _⟩ <;> rfl
theorem pu_need_mirror (A : Ad) (vs : List V) (H : Hp) (Q : VK) (E : XK) (h : sp_need_mirror A vs H Q E) : t_need_mirror A E { nx := fun _ H' => Q .non H', rt := Q } (start ["thing"] vs) H := by
  rcases h with ⟨v, ⟨x, o, rfl, ho, hb, rfl⟩, k⟩ | ⟨C, ⟨x, o, rfl, ho, hb, rfl⟩, k⟩
  · show t_need_mirror A E _ [some x] H
    unfold t_need_mirror
    refine a_if (Am.start H) (et_not (et_B (c_is_mirror_ (ev_var rfl) ho))) (fun z => ?_) fun _ H1 am => k H1 am.toEx
    rw [hb] at z; cases z
  · show t_need_mirror A E _ [some x] H
    unfold t_need_mirror
    refine a_if (Am.start H) (et_not (et_B (c_is_mirror_ (ev_var rfl) ho))) (fun _ H1 am => k H1 am.toEx) fun z => ?_
    rw [hb] at z; cases z
section
variable {A : Ad} {S : List Addr} {H0 H : Hp} {L : List (Addr × HO)} {σ : L2.St} {te : TE} {D : Ends} {tz : TS} {x : V} {o : Option Tx} {E : XK}
theorem aq_need_mirror (am : Am S H0 L H) (h : Ev te σ H x) (hx : Thing A.K H x o) (hb : oMir o = true) (k : ∀ H, Am S H0 L H → tz D σ H) : tSeq (tDrop (tCall (sp_need_mirror A) [] E (tCons te tNil))) tz D σ H :=
  aq_drop am (v := .non) (e_callVX (ea_cons h ea_nil) fun _ e => ⟨x, o, rfl, hx.ex e, hb, rfl⟩) k
theorem xq_need_mirror (am : Am S H0 L H) (h : Ev te σ H x) (hx : Thing A.K H x o) (hb : oMir o = false) (k : ∀ H, Am S H0 L H → E (.ref A.cBW) none H) : tSeq (tDrop (tCall (sp_need_mirror A) [] E (tCons te tNil))) tz D σ H :=
  h H (Ex.refl H) _ fun H1 e1 => .inr ⟨A.cBW, ⟨x, o, rfl, hx.ex e1, hb, rfl⟩, fun H2 e2 => k H2 (am.ex (e1.trans e2))⟩
end
/-- a mirror word -/
def isMi (l : Tx) : Prop := isTx l = true ∧ l ≠ [] ∧ pal l = true
theorem oMir_is {l : Tx} : oMir (some l) = true ↔ isMi l := by
  unfold oMir isMi
  simp
theorem thing_mir {K : PySem.W.Frag} {H : Hp} {x : V} {o : Option Tx} (h : Thing K H x o) (hb : oMir o = true) : ∃ l, x = tS l ∧ o = some l ∧ isMi l ∧ l.length ≤ 1000 := by
  rcases h with ⟨l, rfl, hl, rfl⟩ | ⟨_, rfl⟩
  · exact ⟨l, rfl, rfl, oMir_is.mp hb, hl⟩
  · cases hb
/-- a promise of a def that asks for a mirror word -/
def spMi (A : Ad) (F : Tx → V) : Sp := spVX (fun vs H v => ∃ x l, vs = [x] ∧ Thing A.K H x (some l) ∧ isMi l ∧ v = F l) fun vs H C => ∃ x o, vs = [x] ∧ Thing A.K H x o ∧ oMir o = false ∧ C = A.cBW
theorem len_spMi (A : Ad) (F : Tx → V) : ∀ vs H Q E, spMi A F vs H Q E → vs.length = 1 := fun vs H Q E h => by
  rcases h with ⟨v, ⟨x, o, rfl, _⟩, _⟩ | ⟨C, ⟨x, o, rfl, _⟩, _⟩ <;> rfl
theorem c_spMi {A : Ad} {F : Tx → V} {σ : L2.St} {H : Hp} {te : TE} {l : Tx} {E : XK} (h : Ev te σ H (tS l)) (hb : isMi l) (hl : l.length ≤ 1000) : Ev (tCall (spMi A F) [] E (tCons te tNil)) σ H (F l) :=
  e_callVX (ea_cons h ea_nil) fun _ e => ⟨tS l, l, rfl, .inl ⟨l, rfl, hl, rfl⟩, hb, rfl⟩

end Mw
namespace Mw
open PySem PySem.Spec PyProof.Rows L2 Evl
local macro_rules | `(tactic| walk_at "sd") => `(tactic| (first
  | assumption
  | omega
  | decide
  | (simp only [List.length_append, List.length_cons, List.length_nil, List.length_reverse, List.length_take, List.length_drop, List.length_map, List.length_range] at *; omega)
  | skip))
local macro_rules | `(tactic| walk_at "ev") => `(tactic| (first
  | ((with_reducible apply ev_var); rfl)
  | (with_reducible exact ev_c)
  | ((with_reducible apply ev_op) <;> walk_at "ev")
  | ((with_reducible apply e_negI) <;> walk_at "ev")
  | ((with_reducible apply et_test) <;> walk_at "ev")
  | ((with_reducible apply et_B) <;> walk_at "ev")
  | ((with_reducible apply et_and); (focus walk_at "ev"); intro hq; (try simp only [Bool.and_eq_true, Bool.or_eq_true, decide_eq_true_eq, Bool.not_eq_true', decide_eq_false_iff_not, Bool.and_eq_false_iff, Bool.or_eq_false_iff, Bool.not_eq_false'] at hq); walk_at "ev")
  | ((with_reducible apply et_or); (focus walk_at "ev"); intro hq; (try simp only [Bool.and_eq_true, Bool.or_eq_true, decide_eq_true_eq, Bool.not_eq_true', decide_eq_false_iff_not, Bool.and_eq_false_iff, Bool.or_eq_false_iff, Bool.not_eq_false'] at hq); walk_at "ev")
  | ((with_reducible apply ev_andV); (focus walk_at "ev"); intro hq; (try simp only [Bool.and_eq_true, Bool.or_eq_true, decide_eq_true_eq, Bool.not_eq_true', decide_eq_false_iff_not, Bool.and_eq_false_iff, Bool.or_eq_false_iff, Bool.not_eq_false'] at hq); walk_at "ev")
  | ((with_reducible apply ev_orV); (focus walk_at "ev"); intro hq; (try simp only [Bool.and_eq_true, Bool.or_eq_true, decide_eq_true_eq, Bool.not_eq_true', decide_eq_false_iff_not, Bool.and_eq_false_iff, Bool.or_eq_false_iff, Bool.not_eq_false'] at hq); walk_at "ev")
  | ((with_reducible apply e_if); (focus walk_at "ev"); (focus (intro hq; (try simp only [Bool.and_eq_true, Bool.or_eq_true, decide_eq_true_eq, Bool.not_eq_true', decide_eq_false_iff_not, Bool.and_eq_false_iff, Bool.or_eq_false_iff, Bool.not_eq_false'] at hq); walk_at "ev")); (intro hq; (try simp only [Bool.and_eq_true, Bool.or_eq_true, decide_eq_true_eq, Bool.not_eq_true', decide_eq_false_iff_not, Bool.and_eq_false_iff, Bool.or_eq_false_iff, Bool.not_eq_false'] at hq); walk_at "ev"))
  | ((with_reducible apply et_not) <;> walk_at "ev")
  | ((with_reducible apply ev_notV) <;> walk_at "ev")
  | (with_reducible exact et_yes)
  | (with_reducible exact ea_nil)
  | ((with_reducible apply ea_cons) <;> walk_at "ev")
  | (with_reducible exact eo_none)
  | ((with_reducible apply eo_some) <;> walk_at "ev")
  | ((with_reducible apply e_slBut) <;> walk_at "ev")
  | ((with_reducible apply e_slIn) <;> walk_at "ev")
  | ((with_reducible apply e_slTo) <;> walk_at "ev")
  | ((with_reducible apply e_slFrom) <;> walk_at "ev")
  | ((with_reducible apply e_slMid) <;> walk_at "ev")
  | ((with_reducible apply e_rev) <;> walk_at "ev")
  | (with_reducible exact rv_I0)
  | (with_reducible exact r_eqI) | (with_reducible exact r_neI) | (with_reducible exact r_eqS) | (with_reducible exact r_neS)
  | (with_reducible exact r_inC) | (with_reducible exact r_ninC) | (with_reducible exact r_isN) | (with_reducible exact r_notN)
  | (with_reducible exact r_ltT) | (with_reducible exact r_gtT)
  | (with_reducible exact rc_max2) | (with_reducible exact rc_min2)
  | ((with_reducible apply r_divI) <;> walk_at "sd") | ((with_reducible apply r_modI) <;> walk_at "sd") | ((with_reducible apply r_mulI) <;> walk_at "sd")
  | ((with_reducible apply r_ixS) <;> walk_at "sd")
  | ((with_reducible apply r_addT) <;> walk_at "sd")
  | ((with_reducible apply r_mulT) <;> walk_at "sd")
  | ((with_reducible apply rc_lenT) <;> walk_at "sd")
  | ((with_reducible apply rc_lenL) <;> walk_at "sd")
  | ((with_reducible apply ev_cb) <;> walk_at "ev")
  | walk_at "evc"
  | walk_at "sd"))

/-! ## books -/
structure BA where
  dx : Addr
  L : Addr
  H : Addr
  E : Addr
  T : Addr
  U : Addr
structure BC (A : Ad) : Prop where
  cls : Cls A.K A.cBook
  nL : NoAttr A.K A.cBook "letters"
  nH : NoAttr A.K A.cBook "heads"
  nE : NoAttr A.K A.cBook "ends"
  nT : NoAttr A.K A.cBook "told"
  nU : NoAttr A.K A.cBook "tails"
def bkFs (b : BA) : List (Str × V) := [(("letters" : Str), V.ref b.L), (("heads" : Str), V.ref b.H), (("ends" : Str), V.ref b.E), (("told" : Str), V.ref b.T), (("tails" : Str), V.ref b.U)]
def ltV (t : Tx) : List V := t.map fun c => tS [c]
def rowV (n : Nat) (F : Nat → Nat) : List V := (List.range n).map fun i => vN (F i)
abbrev hdV (t : Tx) : List V := rowV t.length (hdN t)
abbrev enV (t : Tx) : List V := rowV t.length (enN t)
def bkL (A : Ad) (g : Addr) (b : BA) (t : Tx) (hs es : List V) (kT kU : List (Key × V)) : List (Addr × HO) :=
  [(g, .ins A.cBook b.dx (bkFs b)), (b.L, .lst (ltV t)), (b.H, .lst hs), (b.E, .lst es), (b.T, .dK kT), (b.U, .dK kU)]
def bkS (g : Addr) (b : BA) : List Addr := [g, b.L, b.H, b.E, b.T, b.U]
structure BkOk (f : Tx → Nat) (kT kU : List (Key × V)) : Prop where
  told : DF (fun w => decide (0 < f w)) (fun w => V.int (f w : Nat)) kT
  tails : DF (fun w => decide (w = []) || decide (0 < f w)) (fun w => tS (tailF w)) kU
structure BkAt (A : Ad) (g : Addr) (b : BA) (t : Tx) (kT kU : List (Key × V)) (H : Hp) : Prop where
  has : Has H (bkL A g b t (hdV t) (enV t) kT kU)
  ok : BkOk (cntD t) kT kU
  lets : ∀ c ∈ t, c ∈ letters
  len : t.length ≤ 200
theorem BkAt.ex {A : Ad} {g : Addr} {b : BA} {t : Tx} {kT kU : List (Key × V)} {H H1 : Hp} (h : BkAt A g b t kT kU H) (e : Ex H H1) : BkAt A g b t kT kU H1 := ⟨h.has.ex e, h.ok, h.lets, h.len⟩
section
variable {A : Ad} {σ : L2.St} {H : Hp} {te ti : TE} {g : Addr} {b : BA} {t : Tx} {hs es : List V} {kT kU : List (Key × V)}
theorem e_lets (bc : BC A) (h : Ev te σ H (.ref g)) (hh : Has H (bkL A g b t hs es kT kU)) : Ev (tFld A.K te "letters") σ H (.ref b.L) := e_fld h (hh.at 0 rfl) bc.cls bc.nL rfl
theorem e_heads (bc : BC A) (h : Ev te σ H (.ref g)) (hh : Has H (bkL A g b t hs es kT kU)) : Ev (tFld A.K te "heads") σ H (.ref b.H) := e_fld h (hh.at 0 rfl) bc.cls bc.nH rfl
theorem e_ends (bc : BC A) (h : Ev te σ H (.ref g)) (hh : Has H (bkL A g b t hs es kT kU)) : Ev (tFld A.K te "ends") σ H (.ref b.E) := e_fld h (hh.at 0 rfl) bc.cls bc.nE rfl
theorem e_told (bc : BC A) (h : Ev te σ H (.ref g)) (hh : Has H (bkL A g b t hs es kT kU)) : Ev (tFld A.K te "told") σ H (.ref b.T) := e_fld h (hh.at 0 rfl) bc.cls bc.nT rfl
theorem e_tails (bc : BC A) (h : Ev te σ H (.ref g)) (hh : Has H (bkL A g b t hs es kT kU)) : Ev (tFld A.K te "tails") σ H (.ref b.U) := e_fld h (hh.at 0 rfl) bc.cls bc.nU rfl
theorem len_ltV (t : Tx) : (ltV t).length = t.length := by unfold ltV; rw [List.length_map]
theorem len_rowV (n : Nat) (F : Nat → Nat) : (rowV n F).length = n := by unfold rowV; rw [List.length_map, List.length_range]
theorem e_lenLets (bc : BC A) (h : Ev te σ H (.ref g)) (hh : Has H (bkL A g b t hs es kT kU)) : Ev (tCB (rLenS A.K) (tCons (tFld A.K te "letters") tNil)) σ H (.int (t.length : Nat)) := by
  have z := ev_len (K := A.K) (e_lets bc h hh) (sq_of (hh.at 1 rfl))
  rw [len_ltV] at z
  exact z
theorem e_headAt (bc : BC A) {F : Nat → Nat} {n i : Nat} (h : Ev te σ H (.ref g)) (hh : Has H (bkL A g b t (rowV n F) es kT kU)) (hi : Ev ti σ H (.int (i : Nat))) (hl : i < n) : Ev (tOp (rIxL A.K) (tFld A.K te "heads") ti) σ H (.int (F i : Nat)) :=
  ev_op (e_heads bc h hh) hi (rv_ixL (K := A.K) (sq_of (hh.at 2 rfl)) (atI_nat (at_range _ hl)))
theorem e_endAt (bc : BC A) {F : Nat → Nat} {n i : Nat} (h : Ev te σ H (.ref g)) (hh : Has H (bkL A g b t hs (rowV n F) kT kU)) (hi : Ev ti σ H (.int (i : Nat))) (hl : i < n) : Ev (tOp (rIxL A.K) (tFld A.K te "ends") ti) σ H (.int (F i : Nat)) :=
  ev_op (e_ends bc h hh) hi (rv_ixL (K := A.K) (sq_of (hh.at 3 rfl)) (atI_nat (at_range _ hl)))
end
theorem flat_lets (t : Tx) : ((t.map fun c => [c]) : List Tx).flatten = t := by
  induction t with
  | nil => rfl
  | cons c r ih => rw [List.map_cons, List.flatten_cons, ih]; rfl
/-! ## whole -/
def sp_Book_whole (A : Ad) : Sp := spV fun vs H v => ∃ g b t hs es kT kU, vs = [.ref g] ∧ Has H (bkL A g b t hs es kT kU) ∧ t.length ≤ 200 ∧ v = tS t
def t_Book_whole (A : Ad) : TS :=
  (tRet (tJoin A.K (tC (tS [])) (tFld A.K (tVar 0) "letters")))

theorem len_Book_whole (A : Ad) : ∀ vs H Q E, sp_Book_whole A vs H Q E → vs.length = 1 := fun vs H Q E h => by
  obtain ⟨v, ⟨g, b, t, hs, es, kT, kU, rfl, _⟩, _⟩ := h
  rfl
theorem pu_Book_whole (A : Ad) (bc : BC A) (vs : List V) (H : Hp) (Q : VK) (E : XK) (h : sp_Book_whole A vs H Q E) : t_Book_whole A { nx := fun _ H' => Q .non H', rt := Q } (start ["self"] vs) H := by
  obtain ⟨v, ⟨g, b, t, hs, es, kT, kU, rfl, hh, hl, rfl⟩, k⟩ := h
  show t_Book_whole A _ [some (.ref g)] H
  unfold t_Book_whole
  have z := e_joinL (K := A.K) (σ := [some (.ref g)]) (H := H) (to := tC (tS [])) (te := tFld A.K (tVar 0) "letters") (ls := t.map fun c => [c]) (p := b.L) ev_c (e_lets bc (ev_var rfl) hh) (by
    rw [List.map_map]; exact sq_of (hh.at 1 rfl)) (by rw [flat_lets]; omega)
  rw [flat_lets] at z
  exact a_ret (Am.start H) z fun H1 am => k H1 am.toEx
theorem c_whole {A : Ad} {σ : L2.St} {H : Hp} {te : TE} {g : Addr} {b : BA} {t : Tx} {hs es : List V} {kT kU : List (Key × V)} (h : Ev te σ H (.ref g)) (hh : Has H (bkL A g b t hs es kT kU)) (hl : t.length ≤ 200) : Ev (tMeth A.cBook "whole" (sp_Book_whole A) [] E0 te tNil) σ H (tS t) :=
  e_methV h (hh.at 0 rfl) rfl ea_nil fun H1 e => ⟨g, b, t, hs, es, kT, kU, rfl, hh.ex e, hl, rfl⟩
/-! ## words, many, count -/
theorem told_len {f : Tx → Nat} {t : Tx} {kT kU : List (Key × V)} (ok : BkOk (cntD t) kT kU) : kT.length ≤ t.length := by
  rw [← len_keysT]
  exact words_le _ t _ rfl ok.told.ndT fun w hw => of_decide_eq_true ((ok.told.mem w).mp hw)
theorem told_words {t : Tx} {kT kU : List (Key × V)} (ok : BkOk (cntD t) kT kU) {us : List Tx} (hp : us.Perm (keysT kT)) (hu : us.Pairwise fun a b => leW a b = true) : us = wordsL t :=
  words_eq ok.told.ndT (fun w => (ok.told.mem w).trans (by rw [decide_eq_true_eq])) hp hu
theorem told_perm {t : Tx} {kT kU : List (Key × V)} (ok : BkOk (cntD t) kT kU) : (keysT kT).Perm (wordsL t) :=
  (List.perm_ext_iff_of_nodup ok.told.ndT (words_rows t).nd).mpr fun w => ((ok.told.mem w).trans (by rw [decide_eq_true_eq])).trans ((words_rows t).mem w).symm
theorem word_len {t w : Tx} (h : 0 < cntD t w) : w.length ≤ t.length := (cntD_pos.mp h).2.length_le
def sp_Book_words (A : Ad) : Sp := spL fun vs H xs => ∃ g b t kT kU, vs = [.ref g] ∧ BkAt A g b t kT kU H ∧ xs = (wordsL t).map tS
def t_Book_words (A : Ad) : TS :=
  (tRet (tLc (iList A.K (tCB (rSortW A.K) (tCons (tLockE (tLc (iKeys (tFld A.K (tVar 0) "told")) (gName 2) tYes (tTup (tCons (tCB rLenT (tCons (tVar 2) tNil)) (tCons (tVar 2) tNil))) [2])) tNil))) (gName 1) tYes (tOp (rIxT A.K) (tVar 1) (tC (.int 1))) [1]))

theorem len_Book_words (A : Ad) : ∀ vs H Q E, sp_Book_words A vs H Q E → vs.length = 1 := fun vs H Q E h => by
  obtain ⟨v, ⟨g, b, t, kT, kU, rfl, _⟩, _⟩ := h
  rfl
theorem pu_Book_words (A : Ad) (bc : BC A) (vs : List V) (H : Hp) (Q : VK) (E : XK) (h : sp_Book_words A vs H Q E) : t_Book_words A { nx := fun _ H' => Q .non H', rt := Q } (start ["self", "pair", "word"] vs) H := by
  obtain ⟨v, ⟨g, b, t, kT, kU, rfl, hb, rfl⟩, k⟩ := h
  show t_Book_words A _ [some (.ref g), none, none] H
  unfold t_Book_words
  have hT := hb.has.at 4 rfl
  have hg := hb.has.at 0 rfl
  have hne : g ≠ b.T := fun z => by rw [z, hT] at hg; cases hg
  have hl := told_len (f := cntD t) hb.ok
  have hlen := hb.len
  have hf : ∀ (σ : L2.St), σ[0]? = some (some (.ref g)) → ∀ H1 o, Ex H H1 → Ev (tFld A.K (tVar 0) "told") σ (upd H1 b.T (.frz o (.dK kT))) (.ref b.T) := fun σ s0 H1 o e =>
    e_fld (ev_var s0) (by rw [upd_ne hne]; exact e _ _ hg) bc.cls bc.nT rfl
  exact a_retL (Am.start H) (el_words (K := A.K) hT hb.ok.told (by omega) (fun w hw => by
    have := word_len (of_decide_eq_true ((hb.ok.told.mem w).mp hw))
    omega) (hf _ rfl) (hf _ rfl) (fun us h1 h2 => told_words hb.ok h1 h2) (fun _ => rfl) (fun _ => rfl) (fun _ => rfl) (fun _ => rfl)) fun p H1 am => k p H1 (am.free 0 rfl) am.toEx (am.at 0 rfl)
theorem c_words {A : Ad} {σ : L2.St} {H : Hp} {te : TE} {g : Addr} {b : BA} {t : Tx} {kT kU : List (Key × V)} (h : Ev te σ H (.ref g)) (hb : BkAt A g b t kT kU H) : EvL (tMeth A.cBook "words" (sp_Book_words A) [] E0 te tNil) σ H ((wordsL t).map tS) :=
  e_methL h (hb.has.at 0 rfl) rfl ea_nil fun H1 e => ⟨g, b, t, kT, kU, rfl, hb.ex e, rfl⟩
def sp_Book_many (A : Ad) : Sp := spV fun vs H v => ∃ g b t kT kU, vs = [.ref g] ∧ BkAt A g b t kT kU H ∧ v = .int ((wordsL t).length : Nat)
def t_Book_many (A : Ad) : TS :=
  (tRet (tCB rLenD (tCons (tFld A.K (tVar 0) "told") tNil)))

theorem len_Book_many (A : Ad) : ∀ vs H Q E, sp_Book_many A vs H Q E → vs.length = 1 := fun vs H Q E h => by
  obtain ⟨v, ⟨g, b, t, kT, kU, rfl, _⟩, _⟩ := h
  rfl
theorem pu_Book_many (A : Ad) (bc : BC A) (vs : List V) (H : Hp) (Q : VK) (E : XK) (h : sp_Book_many A vs H Q E) : t_Book_many A { nx := fun _ H' => Q .non H', rt := Q } (start ["self"] vs) H := by
  obtain ⟨v, ⟨g, b, t, kT, kU, rfl, hb, rfl⟩, k⟩ := h
  show t_Book_many A _ [some (.ref g)] H
  unfold t_Book_many
  have z := e_lenD (σ := [some (.ref g)]) (H := H) (te := tFld A.K (tVar 0) "told") (e_told bc (ev_var rfl) hb.has) (hb.has.at 4 rfl)
  rw [← len_keysT, (told_perm hb.ok).length_eq] at z
  exact a_ret (Am.start H) z fun H1 am => k H1 am.toEx
theorem c_many {A : Ad} {σ : L2.St} {H : Hp} {te : TE} {g : Addr} {b : BA} {t : Tx} {kT kU : List (Key × V)} (h : Ev te σ H (.ref g)) (hb : BkAt A g b t kT kU H) : Ev (tMeth A.cBook "many" (sp_Book_many A) [] E0 te tNil) σ H (.int ((wordsL t).length : Nat)) :=
  e_methV h (hb.has.at 0 rfl) rfl ea_nil fun H1 e => ⟨g, b, t, kT, kU, rfl, hb.ex e, rfl⟩
def sp_Book_count (A : Ad) : Sp := spVX (fun vs H v => ∃ g b t kT kU w, vs = [.ref g, tS w] ∧ BkAt A g b t kT kU H ∧ oMir (some w) = true ∧ w.length ≤ 1000 ∧ v = .int (cntD t w : Nat))
  fun vs H C => ∃ g x o, vs = [.ref g, x] ∧ Thing A.K H x o ∧ oMir o = false ∧ C = A.cBW
def t_Book_count (A : Ad) (E : XK) : TS :=
  (tSeq (tDrop (tCall (sp_need_mirror A) [] E (tCons (tVar 1) tNil)))
  (tRet (tDGet2 (tFld A.K (tVar 0) "told") (tVar 1) (tC (.int 0)))))

theorem len_Book_count (A : Ad) : ∀ vs H Q E, sp_Book_count A vs H Q E → vs.length = 2 := fun vs H Q E h => by
  rcases h with ⟨v, ⟨g, b, t, kT, kU, w, rfl, _⟩, _⟩ | ⟨C, ⟨g, x, o, rfl, _⟩, _⟩ <;> rfl
theorem pu_Book_count (A : Ad) (bc : BC A) (vs : List V) (H : Hp) (Q : VK) (E : XK) (h : sp_Book_count A vs H Q E) : t_Book_count A E { nx := fun _ H' => Q .non H', rt := Q } (start ["self", "word"] vs) H := by
  rcases h with ⟨v, ⟨g, b, t, kT, kU, w, rfl, hb, hm, hl, rfl⟩, k⟩ | ⟨C, ⟨g, x, o, rfl, hx, hm, rfl⟩, k⟩
  · show t_Book_count A E _ [some (.ref g), some (tS w)] H
    unfold t_Book_count
    refine aq_need_mirror (Am.start H) (ev_var rfl) (.inl ⟨w, rfl, hl, rfl⟩) hm fun H1 am => ?_
    have hb1 := hb.ex am.toEx
    refine a_ret am (ev_is (e_dget2 (k := kW w) (z := .int 0) (e_told bc (ev_var rfl) hb1.has) (ev_var rfl) ev_c (hb1.has.at 4 rfl)) ?_) fun H2 am => k H2 am.toEx
    rw [hb.ok.told.vl w]
    by_cases c : 0 < cntD t w
    · rw [decide_eq_true c, if_pos rfl]; rfl
    · rw [decide_eq_false c, if_neg Bool.false_ne_true]
      have e : cntD t w = 0 := by omega
      rw [e]; rfl
  · show t_Book_count A E _ [some (.ref g), some x] H
    unfold t_Book_count
    exact xq_need_mirror (Am.start H) (ev_var rfl) hx hm fun H1 am => k H1 am.toEx
theorem c_count {A : Ad} {σ : L2.St} {H : Hp} {te tw : TE} {g : Addr} {b : BA} {t w : Tx} {kT kU : List (Key × V)} {E : XK} (h : Ev te σ H (.ref g)) (hw : Ev tw σ H (tS w)) (hb : BkAt A g b t kT kU H) (hm : oMir (some w) = true) (hl : w.length ≤ 1000) : Ev (tMeth A.cBook "count" (sp_Book_count A) [] E te (tCons tw tNil)) σ H (.int (cntD t w : Nat)) :=
  e_methVX h (hb.has.at 0 rfl) rfl (ea_cons hw ea_nil) fun H1 e => ⟨g, b, t, kT, kU, w, rfl, hb.ex e, hm, hl, rfl⟩
/-! ## need_place -/
/-- what is no place of n letters -/
def NoPl (K : PySem.W.Frag) (H : Hp) (x : V) (n : Nat) : Prop := (∃ s, TyX K H x (.type s) ∧ s ∈ kinds ∧ s ≠ "int") ∨ ∃ i : Int, x = .int i ∧ (i < 0 ∨ (n : Int) ≤ i)
theorem NoPl.ex {K : PySem.W.Frag} {H H1 : Hp} {x : V} {n : Nat} (e : Ex H H1) (h : NoPl K H x n) : NoPl K H1 x n := by
  rcases h with ⟨s, h, h2, h3⟩ | h
  · exact .inl ⟨s, tyX_ex e h, h2, h3⟩
  · exact .inr h
def sp_Book_need_place (A : Ad) : Sp := spVX (fun vs H v => ∃ g b t hs es kT kU, ∃ p : Nat, vs = [.ref g, .int (p : Nat)] ∧ Has H (bkL A g b t hs es kT kU) ∧ p < t.length ∧ v = .non)
  fun vs H C => ∃ g b t hs es kT kU x, vs = [.ref g, x] ∧ Has H (bkL A g b t hs es kT kU) ∧ NoPl A.K H x t.length ∧ C = A.cNP
def t_Book_need_place (A : Ad) (E : XK) : TS :=
  (tIfS (tOr (tNot (tB (tCall (sp_is_whole A) [] E0 (tCons (tVar 1) tNil)))) (tNot (tTest (tChain rLeI rLtI (tC (.int 0)) (tVar 1) (tCB (rLenS A.K) (tCons (tFld A.K (tVar 0) "letters") tNil)))))) (tRz E A.cNP) tNext)

theorem len_Book_need_place (A : Ad) : ∀ vs H Q E, sp_Book_need_place A vs H Q E → vs.length = 2 := fun vs H Q E h => by
  rcases h with ⟨v, ⟨g, b, t, hs, es, kT, kU, p, rfl, _⟩, _⟩ | ⟨C, ⟨g, b, t, hs, es, kT, kU, x, rfl, _⟩, _⟩ <;> rfl
theorem pu_Book_need_place (A : Ad) (bc : BC A) (vs : List V) (H : Hp) (Q : VK) (E : XK) (h : sp_Book_need_place A vs H Q E) : t_Book_need_place A E { nx := fun _ H' => Q .non H', rt := Q } (start ["self", "place"] vs) H := by
  have ch : ∀ {g : Addr} {b : BA} {t : Tx} {hs es : List V} {kT kU : List (Key × V)} {i : Int}, Has H (bkL A g b t hs es kT kU) → EvT (tTest (tChain rLeI rLtI (tC (.int 0)) (tVar 1) (tCB (rLenS A.K) (tCons (tFld A.K (tVar 0) "letters") tNil)))) [some (.ref g), some (.int i)] H (decide (0 ≤ i) && decide (i < t.length)) := fun hh =>
    et_test (e_chain ev_c (ev_var rfl) rv_I0 (fun _ => e_lenLets bc (ev_var rfl) hh) fun _ => rv_I0)
  rcases h with ⟨v, ⟨g, b, t, hs, es, kT, kU, p, rfl, hh, hp, rfl⟩, k⟩ | ⟨C, ⟨g, b, t, hs, es, kT, kU, x, rfl, hh, hx, rfl⟩, k⟩
  · show t_Book_need_place A E _ [some (.ref g), some (.int (p : Nat))] H
    unfold t_Book_need_place
    refine a_when (b := false) (Am.start H) (et_is (et_or (et_not (et_B (c_is_whole_ (t := "int") (ev_var rfl) (.base (.int _)) (by decide)))) fun _ => et_not (ch hh)) ?_) (fun c => Bool.noConfusion c) fun _ H1 am => k H1 am.toEx
    rw [decide_eq_true (by omega : (0 : Int) ≤ p), decide_eq_true (by omega : (p : Int) < t.length)]; rfl
  · show t_Book_need_place A E _ [some (.ref g), some x] H
    unfold t_Book_need_place
    refine a_when (b := true) (Am.start H) ?_ (fun _ H1 am => k H1 am.toEx) fun c => Bool.noConfusion c
    rcases hx with ⟨s, ty, hs, hne⟩ | ⟨i, rfl, hi⟩
    · exact et_is (et_or (b := true) (et_not (et_B (c_is_whole_ (ev_var rfl) ty hs))) fun z => by rw [decide_eq_false hne] at z; cases z) (by rw [decide_eq_false hne]; rfl)
    · refine et_is (et_or (et_not (et_B (c_is_whole_ (t := "int") (ev_var rfl) (.base (.int _)) (by decide)))) fun _ => et_not (ch hh)) ?_
      rcases hi with hi | hi
      · rw [decide_eq_false (by omega : ¬ (0 : Int) ≤ i)]; rfl
      · rw [decide_eq_false (by omega : ¬ i < (t.length : Int)), Bool.and_false]; rfl
section
variable {A : Ad} {S : List Addr} {H0 H : Hp} {L : List (Addr × HO)} {σ : L2.St} {te tp : TE} {D : Ends} {tz : TS} {g : Addr} {b : BA} {t : Tx} {hs es : List V} {kT kU : List (Key × V)} {E : XK}
theorem aq_need_place (am : Am S H0 L H) (h : Ev te σ H (.ref g)) {p : Nat} (hp : Ev tp σ H (.int (p : Nat))) (hh : Has H (bkL A g b t hs es kT kU)) (hl : p < t.length) (k : ∀ H, Am S H0 L H → tz D σ H) : tSeq (tDrop (tMeth A.cBook "need_place" (sp_Book_need_place A) [] E te (tCons tp tNil))) tz D σ H :=
  aq_drop am (v := .non) (e_methVX h (hh.at 0 rfl) rfl (ea_cons hp ea_nil) fun H1 e => ⟨g, b, t, hs, es, kT, kU, p, rfl, hh.ex e, hl, rfl⟩) k
theorem xq_need_place (am : Am S H0 L H) (h : Ev te σ H (.ref g)) {x : V} (hp : Ev tp σ H x) (hh : Has H (bkL A g b t hs es kT kU)) (hx : NoPl A.K H x t.length) (k : ∀ H, Am S H0 L H → E (.ref A.cNP) none H) : tSeq (tDrop (tMeth A.cBook "need_place" (sp_Book_need_place A) [] E te (tCons tp tNil))) tz D σ H :=
  t_meth (Q := fun _ H2 => tz D σ H2) h (hh.at 0 rfl) rfl (ea_cons hp ea_nil) fun H1 e1 => .inr ⟨A.cNP, ⟨g, b, t, hs, es, kT, kU, x, rfl, hh.ex e1, hx.ex e1, rfl⟩, fun H2 e2 => k H2 (am.ex (e1.trans e2))⟩
end
/-! ## begins_at, ends_at -/
def sp_Book_begins_at (A : Ad) : Sp := spVX (fun vs H v => ∃ g b t kT kU, ∃ p : Nat, vs = [.ref g, .int (p : Nat)] ∧ BkAt A g b t kT kU H ∧ p < t.length ∧ v = tS (lps (t.drop p).reverse))
  fun vs H C => ∃ g b t hs es kT kU x, vs = [.ref g, x] ∧ Has H (bkL A g b t hs es kT kU) ∧ NoPl A.K H x t.length ∧ C = A.cNP
def t_Book_begins_at (A : Ad) (E : XK) : TS :=
  (tSeq (tDrop (tMeth A.cBook "need_place" (sp_Book_need_place A) [] E (tVar 0) (tCons (tVar 1) tNil)))
  (tRet (tSl rSlS (tMeth A.cBook "whole" (sp_Book_whole A) [] E0 (tVar 0) tNil) (tPart (tVar 1)) (tPart (tOp rAddI (tVar 1) (tOp (rIxL A.K) (tFld A.K (tVar 0) "heads") (tVar 1)))))))

theorem len_Book_begins_at (A : Ad) : ∀ vs H Q E, sp_Book_begins_at A vs H Q E → vs.length = 2 := fun vs H Q E h => by
  rcases h with ⟨v, ⟨g, b, t, kT, kU, p, rfl, _⟩, _⟩ | ⟨C, ⟨g, b, t, hs, es, kT, kU, x, rfl, _⟩, _⟩ <;> rfl
theorem pu_Book_begins_at (A : Ad) (bc : BC A) (vs : List V) (H : Hp) (Q : VK) (E : XK) (h : sp_Book_begins_at A vs H Q E) : t_Book_begins_at A E { nx := fun _ H' => Q .non H', rt := Q } (start ["self", "place"] vs) H := by
  rcases h with ⟨v, ⟨g, b, t, kT, kU, p, rfl, hb, hp, rfl⟩, k⟩ | ⟨C, ⟨g, b, t, hs, es, kT, kU, x, rfl, hh, hx, rfl⟩, k⟩
  · show t_Book_begins_at A E _ [some (.ref g), some (.int (p : Nat))] H
    unfold t_Book_begins_at
    refine aq_need_place (Am.start H) (ev_var rfl) (ev_var rfl) hb.has hp fun H1 am => ?_
    have hb1 := hb.ex am.toEx
    have hlen := hb.len
    have z := e_slMid (σ := [some (.ref g), some (.int (p : Nat))]) (H := H1) (te := tMeth A.cBook "whole" (sp_Book_whole A) [] E0 (tVar 0) tNil) (ti := tVar 1) (tj := tOp rAddI (tVar 1) (tOp (rIxL A.K) (tFld A.K (tVar 0) "heads") (tVar 1))) (l := t) (i := (p : Nat)) (j := (p : Nat) + (hdN t p : Nat)) (c_whole (ev_var rfl) hb1.has hlen) (ev_var rfl) (ev_op (ev_var rfl) (e_headAt bc (ev_var rfl) hb1.has (ev_var rfl) hp) rv_I0) (by omega) (by omega) (by omega)
    rw [Int.toNat_natCast, show (((p : Nat) : Int) + (hdN t p : Nat)).toNat - p = hdN t p by omega, begin_cut] at z
    exact a_ret am z fun H2 am => k H2 am.toEx
  · show t_Book_begins_at A E _ [some (.ref g), some x] H
    unfold t_Book_begins_at
    exact xq_need_place (Am.start H) (ev_var rfl) (ev_var rfl) hh hx fun H1 am => k H1 am.toEx
theorem c_begins {A : Ad} {σ : L2.St} {H : Hp} {te tp : TE} {g : Addr} {b : BA} {t : Tx} {kT kU : List (Key × V)} {E : XK} {p : Nat} (h : Ev te σ H (.ref g)) (hp : Ev tp σ H (.int (p : Nat))) (hb : BkAt A g b t kT kU H) (hl : p < t.length) : Ev (tMeth A.cBook "begins_at" (sp_Book_begins_at A) [] E te (tCons tp tNil)) σ H (tS (lps (t.drop p).reverse)) :=
  e_methVX h (hb.has.at 0 rfl) rfl (ea_cons hp ea_nil) fun H1 e => ⟨g, b, t, kT, kU, p, rfl, hb.ex e, hl, rfl⟩
def sp_Book_ends_at (A : Ad) : Sp := spVX (fun vs H v => ∃ g b t kT kU, ∃ p : Nat, vs = [.ref g, .int (p : Nat)] ∧ BkAt A g b t kT kU H ∧ p < t.length ∧ v = tS (lps (t.take (p + 1))))
  fun vs H C => ∃ g b t hs es kT kU x, vs = [.ref g, x] ∧ Has H (bkL A g b t hs es kT kU) ∧ NoPl A.K H x t.length ∧ C = A.cNP
def t_Book_ends_at (A : Ad) (E : XK) : TS :=
  (tSeq (tDrop (tMeth A.cBook "need_place" (sp_Book_need_place A) [] E (tVar 0) (tCons (tVar 1) tNil)))
  (tRet (tSl rSlS (tMeth A.cBook "whole" (sp_Book_whole A) [] E0 (tVar 0) tNil) (tPart (tOp rSubI (tOp rAddI (tVar 1) (tC (.int 1))) (tOp (rIxL A.K) (tFld A.K (tVar 0) "ends") (tVar 1)))) (tPart (tOp rAddI (tVar 1) (tC (.int 1)))))))

theorem len_Book_ends_at (A : Ad) : ∀ vs H Q E, sp_Book_ends_at A vs H Q E → vs.length = 2 := fun vs H Q E h => by
  rcases h with ⟨v, ⟨g, b, t, kT, kU, p, rfl, _⟩, _⟩ | ⟨C, ⟨g, b, t, hs, es, kT, kU, x, rfl, _⟩, _⟩ <;> rfl
theorem pu_Book_ends_at (A : Ad) (bc : BC A) (vs : List V) (H : Hp) (Q : VK) (E : XK) (h : sp_Book_ends_at A vs H Q E) : t_Book_ends_at A E { nx := fun _ H' => Q .non H', rt := Q } (start ["self", "place"] vs) H := by
  rcases h with ⟨v, ⟨g, b, t, kT, kU, p, rfl, hb, hp, rfl⟩, k⟩ | ⟨C, ⟨g, b, t, hs, es, kT, kU, x, rfl, hh, hx, rfl⟩, k⟩
  · show t_Book_ends_at A E _ [some (.ref g), some (.int (p : Nat))] H
    unfold t_Book_ends_at
    refine aq_need_place (Am.start H) (ev_var rfl) (ev_var rfl) hb.has hp fun H1 am => ?_
    have hb1 := hb.ex am.toEx
    have hlen := hb.len
    have hle := enN_le t p
    have z := e_slMid (σ := [some (.ref g), some (.int (p : Nat))]) (H := H1) (te := tMeth A.cBook "whole" (sp_Book_whole A) [] E0 (tVar 0) tNil) (ti := tOp rSubI (tOp rAddI (tVar 1) (tC (.int 1))) (tOp (rIxL A.K) (tFld A.K (tVar 0) "ends") (tVar 1))) (tj := tOp rAddI (tVar 1) (tC (.int 1))) (l := t) (i := (p : Nat) + 1 - (enN t p : Nat)) (j := (p : Nat) + 1) (c_whole (ev_var rfl) hb1.has hlen) (ev_op (ev_op (ev_var rfl) ev_c rv_I0) (e_endAt bc (ev_var rfl) hb1.has (ev_var rfl) hp) rv_I0) (ev_op (ev_var rfl) ev_c rv_I0) (by omega) (by omega) (by omega)
    rw [show (((p : Nat) : Int) + 1 - (enN t p : Nat)).toNat = p + 1 - enN t p by omega, show (((p : Nat) : Int) + 1).toNat = p + 1 by omega, end_cut hp] at z
    exact a_ret am z fun H2 am => k H2 am.toEx
  · show t_Book_ends_at A E _ [some (.ref g), some x] H
    unfold t_Book_ends_at
    exact xq_need_place (Am.start H) (ev_var rfl) (ev_var rfl) hh hx fun H1 am => k H1 am.toEx
theorem c_ends {A : Ad} {σ : L2.St} {H : Hp} {te tp : TE} {g : Addr} {b : BA} {t : Tx} {kT kU : List (Key × V)} {E : XK} {p : Nat} (h : Ev te σ H (.ref g)) (hp : Ev tp σ H (.int (p : Nat))) (hb : BkAt A g b t kT kU H) (hl : p < t.length) : Ev (tMeth A.cBook "ends_at" (sp_Book_ends_at A) [] E te (tCons tp tNil)) σ H (tS (lps (t.take (p + 1)))) :=
  e_methVX h (hb.has.at 0 rfl) rfl (ea_cons hp ea_nil) fun H1 e => ⟨g, b, t, kT, kU, p, rfl, hb.ex e, hl, rfl⟩
/-! ## longest -/
def sp_Book_longest (A : Ad) : Sp := fun vs H Q _ => ∃ g b t kT kU, vs = [.ref g] ∧ BkAt A g b t kT kU H ∧ ∀ H', Ex H H' → Q (tS (longF t)) H'
def t_Book_longest (A : Ad) (E : XK) : TS :=
  (tSeq (tAsg (tCKw (rMaxDI A.K) (tCons (tFld A.K (tVar 0) "heads") tNil) (tCons (tC (.int 0)) tNil)) (gName 1))
  (tSeq (tIfS (tTest (tOp rEq (tVar 1) (tC (.int 0)))) (tRet (tC (tS []))) tNext)
  (tRet (tMeth A.cBook "begins_at" (sp_Book_begins_at A) [] E (tVar 0) (tCons (tBM A.K "list" (rIndex A.K) (tFld A.K (tVar 0) "heads") (tCons (tVar 1) tNil)) tNil)))))

theorem len_Book_longest (A : Ad) : ∀ vs H Q E, sp_Book_longest A vs H Q E → vs.length = 1 := fun vs H Q E h => by
  obtain ⟨g, b, t, kT, kU, rfl, _⟩ := h
  rfl
theorem pu_Book_longest (A : Ad) (bc : BC A) (vs : List V) (H : Hp) (Q : VK) (E : XK) (h : sp_Book_longest A vs H Q E) : t_Book_longest A E { nx := fun _ H' => Q .non H', rt := Q } (start ["self", "most"] vs) H := by
  obtain ⟨g, b, t, kT, kU, rfl, hb, k⟩ := h
  show t_Book_longest A E _ [some (.ref g), none] H
  unfold t_Book_longest
  have hrow : hdV t = ((List.range t.length).map fun i => ((hdN t i : Nat) : Int)).map V.int := by
    rw [List.map_map]; rfl
  refine aq_asg (v := .int (mostF t : Nat)) (Am.start H) (e_maxDI (K := A.K) (ns := (List.range t.length).map fun i => ((hdN t i : Nat) : Int)) (z := .int 0) (e_heads bc (ev_var rfl) hb.has) (by rw [← hrow]; exact sq_of (hb.has.at 2 rfl)) ev_c (fun c => ?_) fun m hm hmax => ?_) fun H1 am => ?_
  · have e : t = [] := by
      rw [List.map_eq_nil_iff, List.range_eq_nil] at c
      exact List.eq_nil_of_length_eq_zero c
    subst e; rfl
  · have ht : t ≠ [] := fun z => by subst z; cases hm
    obtain ⟨i, hi, e⟩ := most_at ht
    obtain ⟨j, hj, rfl⟩ := List.mem_map.mp hm
    have h1 := hmax _ (List.mem_map.mpr ⟨i, List.mem_range.mpr hi, rfl⟩)
    have h2 := most_ge (List.mem_range.mp hj)
    congr 1
    omega
  have hb1 := hb.ex am.toEx
  dsimp only [List.set]
  refine aq_when am (et_test (ev_op (ev_var rfl) ev_c r_eqI)) (fun c H2 am => ?_) fun c H2 am => ?_
  · have c := of_decide_eq_true c
    have e : t = [] := by
      by_cases h : t = []
      · exact h
      · have := most_pos h; omega
    subst e
    exact a_ret am ev_c fun H3 am => k H3 am.toEx
  · have c := of_decide_eq_false c
    have ht : t ≠ [] := fun z => by subst z; exact c rfl
    obtain ⟨f1, f2, f3⟩ := first_spec ht
    have hb2 := hb.ex am.toEx
    have e : longF t = lps (t.drop (firstF t)).reverse := if_neg ht
    rw [e] at k
    refine a_ret am (c_begins (ev_var rfl) (e_indexI (K := A.K) (F := fun i => ((hdN t i : Nat) : Int)) (n := t.length) (m := (mostF t : Nat)) (e_heads bc (ev_var rfl) hb2.has) (sq_of (hb2.has.at 2 rfl)) (ev_var rfl) f1 (by rw [f2]) fun j hj z => f3 j hj (by omega)) hb2 f1) fun H3 am => k H3 am.toEx
theorem c_longest {A : Ad} {σ : L2.St} {H : Hp} {te : TE} {g : Addr} {b : BA} {t : Tx} {kT kU : List (Key × V)} {E : XK} (h : Ev te σ H (.ref g)) (hb : BkAt A g b t kT kU H) : Ev (tMeth A.cBook "longest" (sp_Book_longest A) [] E te tNil) σ H (tS (longF t)) := fun H1 e Q q =>
  t_meth (h.mono e) (e _ _ (hb.has.at 0 rfl)) rfl ea_nil fun H2 e2 => ⟨g, b, t, kT, kU, rfl, hb.ex (e.trans e2), fun H3 e3 => q H3 (e2.trans e3)⟩
/-! ## is_letter, need_room -/
def oLet (o : Option Tx) : Bool := match o with
  | some l => decide (l.length = 1) && l.all fun c => decide (c ∈ letters)
  | none => false
def sp_is_letter (A : Ad) : Sp := spV fun vs H v => ∃ x o, vs = [x] ∧ Thing A.K H x o ∧ v = .bl (oLet o)
def t_is_letter (A : Ad) : TS :=
  (tRet (tAndV (tCB (rIsi A.K) (tCons (tVar 0) (tCons (tC (.ty "str")) tNil))) (tAndV (tOp rEq (tCB rLenT (tCons (tVar 0) tNil)) (tC (.int 1))) (tOp rInC (tVar 0) (tC (tS letters))))))

theorem len_is_letter (A : Ad) : ∀ vs H Q E, sp_is_letter A vs H Q E → vs.length = 1 := fun vs H Q E h => by
  obtain ⟨v, ⟨x, o, rfl, _⟩, _⟩ := h
  rfl
theorem pu_is_letter (A : Ad) (vs : List V) (H : Hp) (Q : VK) (E : XK) (h : sp_is_letter A vs H Q E) : t_is_letter A { nx := fun _ H' => Q .non H', rt := Q } (start ["thing"] vs) H := by
  obtain ⟨v, ⟨x, o, rfl, ho, rfl⟩, k⟩ := h
  show t_is_letter A _ [some x] H
  unfold t_is_letter
  rcases ho with ⟨l, rfl, hl, rfl⟩ | ⟨⟨n, ty, hn⟩, rfl⟩
  · refine a_ret (v := .bl (oLet (some l))) (Am.start H) (ev_is (ev_andV (a := true) (b := oLet (some l)) (ev_cb (ea_cons (ev_var rfl) (ea_cons ev_c ea_nil)) (rc_isi (t := .type "str") (fun _ _ => .base (.str _)) (.ty "str") (kit_ty (by decide +kernel)))) fun _ => ?_) rfl) fun H1 am => k H1 am.toEx
    refine ev_is (ev_andV (a := decide ((l.length : Int) = 1)) (b := l.all fun c => decide (c ∈ letters)) (ev_op (ev_cb (ea_cons (ev_var rfl) ea_nil) (rc_lenT (by omega))) ev_c r_eqI) fun c => ?_) ?_
    · have c := of_decide_eq_true c
      obtain ⟨d, rfl⟩ : ∃ d, l = [d] := List.length_eq_one_iff.mp (by omega)
      exact ev_is (ev_op (ev_var rfl) ev_c r_inC) (by simp)
    · unfold oLet
      congr 2
      exact decide_eq_decide.mpr (by omega)
  · exact a_ret (v := .bl false) (Am.start H) (ev_andV (a := false) (b := false) (ev_cb (ea_cons (ev_var rfl) (ea_cons ev_c ea_nil)) (rc_isi (t := .type n) (fun _ e => tyX_ex e ty) (.ty "str") (odd_str hn))) fun z => Bool.noConfusion z) fun H1 am => k H1 am.toEx
theorem c_is_letter_ {A : Ad} {σ : L2.St} {H : Hp} {te : TE} {x : V} {o : Option Tx} (h : Ev te σ H x) (hx : Thing A.K H x o) : Ev (tCall (sp_is_letter A) [] E0 (tCons te tNil)) σ H (.bl (oLet o)) :=
  e_callV (ea_cons h ea_nil) fun _ e => ⟨x, o, rfl, hx.ex e, rfl⟩
def sp_Book_need_room (A : Ad) : Sp := spVX (fun vs H v => ∃ g b t hs es kT kU c, vs = [.ref g, tS [c]] ∧ Has H (bkL A g b t hs es kT kU) ∧ c ∈ letters ∧ t.length < 200 ∧ v = .non)
  fun vs H C => ∃ g b t hs es kT kU x o, vs = [.ref g, x] ∧ Has H (bkL A g b t hs es kT kU) ∧ Thing A.K H x o ∧ ((oLet o = false ∧ C = A.cBL) ∨ (oLet o = true ∧ t.length = 200 ∧ C = A.cFu))
def t_Book_need_room (A : Ad) (E : XK) : TS :=
  (tSeq (tIfS (tNot (tB (tCall (sp_is_letter A) [] E0 (tCons (tVar 1) tNil)))) (tRz E A.cBL) tNext)
  (tIfS (tTest (tOp rEq (tCB (rLenS A.K) (tCons (tFld A.K (tVar 0) "letters") tNil)) (tC (.int 200)))) (tRz E A.cFu) tNext))

theorem len_Book_need_room (A : Ad) : ∀ vs H Q E, sp_Book_need_room A vs H Q E → vs.length = 2 := fun vs H Q E h => by
  rcases h with ⟨v, ⟨g, b, t, hs, es, kT, kU, p, rfl, _⟩, _⟩ | ⟨C, ⟨g, b, t, hs, es, kT, kU, x, o, rfl, _⟩, _⟩ <;> rfl
theorem pu_Book_need_room (A : Ad) (bc : BC A) (vs : List V) (H : Hp) (Q : VK) (E : XK) (h : sp_Book_need_room A vs H Q E) : t_Book_need_room A E { nx := fun _ H' => Q .non H', rt := Q } (start ["self", "letter"] vs) H := by
  rcases h with ⟨v, ⟨g, b, t, hs, es, kT, kU, c, rfl, hh, hc, hl, rfl⟩, k⟩ | ⟨C, ⟨g, b, t, hs, es, kT, kU, x, o, rfl, hh, hx, hC⟩, k⟩
  · show t_Book_need_room A E _ [some (.ref g), some (tS [c])] H
    unfold t_Book_need_room
    have ho : oLet (some [c]) = true := by
      unfold oLet
      simp [hc]
    refine aq_when (b := false) (Am.start H) (et_is (et_not (et_B (c_is_letter_ (o := some [c]) (ev_var rfl) (.inl ⟨[c], rfl, by show 1 ≤ 1000; decide, rfl⟩)))) (by rw [ho]; rfl)) (fun c => Bool.noConfusion c) fun _ H1 am => ?_
    refine a_when (b := false) am (et_is (et_test (ev_op (e_lenLets bc (ev_var rfl) (hh.ex am.toEx)) ev_c r_eqI)) (decide_eq_false (by omega))) (fun c => Bool.noConfusion c) fun _ H2 am => k H2 am.toEx
  · show t_Book_need_room A E _ [some (.ref g), some x] H
    unfold t_Book_need_room
    rcases hC with ⟨ho, rfl⟩ | ⟨ho, hl, rfl⟩
    · refine aq_when (b := true) (Am.start H) (et_is (et_not (et_B (c_is_letter_ (ev_var rfl) hx))) (by rw [ho]; rfl)) (fun _ H1 am => k H1 am.toEx) fun c => Bool.noConfusion c
    · refine aq_when (b := false) (Am.start H) (et_is (et_not (et_B (c_is_letter_ (ev_var rfl) hx))) (by rw [ho]; rfl)) (fun c => Bool.noConfusion c) fun _ H1 am => ?_
      refine a_when (b := true) am (et_is (et_test (ev_op (e_lenLets bc (ev_var rfl) (hh.ex am.toEx)) ev_c r_eqI)) (decide_eq_true (by omega))) (fun _ H2 am => k H2 am.toEx) fun c => Bool.noConfusion c

end Mw
namespace Mw
open PySem PySem.Spec PyProof.Rows L2 Evl
local macro_rules | `(tactic| walk_at "sd") => `(tactic| (first
  | assumption
  | omega
  | decide
  | (simp only [List.length_append, List.length_cons, List.length_nil, List.length_reverse, List.length_take, List.length_drop, List.length_map, List.length_range] at *; omega)
  | skip))
local macro_rules | `(tactic| walk_at "ev") => `(tactic| (first
  | ((with_reducible apply ev_var); rfl)
  | (with_reducible exact ev_c)
  | ((with_reducible apply ev_op) <;> walk_at "ev")
  | ((with_reducible apply e_negI) <;> walk_at "ev")
  | ((with_reducible apply et_test) <;> walk_at "ev")
  | ((with_reducible apply et_B) <;> walk_at "ev")
  | ((with_reducible apply et_and); (focus walk_at "ev"); intro hq; (try simp only [Bool.and_eq_true, Bool.or_eq_true, decide_eq_true_eq, Bool.not_eq_true', decide_eq_false_iff_not, Bool.and_eq_false_iff, Bool.or_eq_false_iff, Bool.not_eq_false'] at hq); walk_at "ev")
  | ((with_reducible apply et_or); (focus walk_at "ev"); intro hq; (try simp only [Bool.and_eq_true, Bool.or_eq_true, decide_eq_true_eq, Bool.not_eq_true', decide_eq_false_iff_not, Bool.and_eq_false_iff, Bool.or_eq_false_iff, Bool.not_eq_false'] at hq); walk_at "ev")
  | ((with_reducible apply ev_andV); (focus walk_at "ev"); intro hq; (try simp only [Bool.and_eq_true, Bool.or_eq_true, decide_eq_true_eq, Bool.not_eq_true', decide_eq_false_iff_not, Bool.and_eq_false_iff, Bool.or_eq_false_iff, Bool.not_eq_false'] at hq); walk_at "ev")
  | ((with_reducible apply ev_orV); (focus walk_at "ev"); intro hq; (try simp only [Bool.and_eq_true, Bool.or_eq_true, decide_eq_true_eq, Bool.not_eq_true', decide_eq_false_iff_not, Bool.and_eq_false_iff, Bool.or_eq_false_iff, Bool.not_eq_false'] at hq); walk_at "ev")
  | ((with_reducible apply e_if); (focus walk_at "ev"); (focus (intro hq; (try simp only [Bool.and_eq_true, Bool.or_eq_true, decide_eq_true_eq, Bool.not_eq_true', decide_eq_false_iff_not, Bool.and_eq_false_iff, Bool.or_eq_false_iff, Bool.not_eq_false'] at hq); walk_at "ev")); (intro hq; (try simp only [Bool.and_eq_true, Bool.or_eq_true, decide_eq_true_eq, Bool.not_eq_true', decide_eq_false_iff_not, Bool.and_eq_false_iff, Bool.or_eq_false_iff, Bool.not_eq_false'] at hq); walk_at "ev"))
  | ((with_reducible apply et_not) <;> walk_at "ev")
  | ((with_reducible apply ev_notV) <;> walk_at "ev")
  | (with_reducible exact et_yes)
  | (with_reducible exact ea_nil)
  | ((with_reducible apply ea_cons) <;> walk_at "ev")
  | (with_reducible exact eo_none)
  | ((with_reducible apply eo_some) <;> walk_at "ev")
  | ((with_reducible apply e_slBut) <;> walk_at "ev")
  | ((with_reducible apply e_slIn) <;> walk_at "ev")
  | ((with_reducible apply e_slTo) <;> walk_at "ev")
  | ((with_reducible apply e_slFrom) <;> walk_at "ev")
  | ((with_reducible apply e_slMid) <;> walk_at "ev")
  | ((with_reducible apply e_rev) <;> walk_at "ev")
  | (with_reducible exact rv_I0)
  | (with_reducible exact r_eqI) | (with_reducible exact r_neI) | (with_reducible exact r_eqS) | (with_reducible exact r_neS)
  | (with_reducible exact r_inC) | (with_reducible exact r_ninC) | (with_reducible exact r_isN) | (with_reducible exact r_notN)
  | (with_reducible exact r_ltT) | (with_reducible exact r_gtT)
  | (with_reducible exact rc_max2) | (with_reducible exact rc_min2)
  | ((with_reducible apply r_divI) <;> walk_at "sd") | ((with_reducible apply r_modI) <;> walk_at "sd") | ((with_reducible apply r_mulI) <;> walk_at "sd")
  | ((with_reducible apply r_ixS) <;> walk_at "sd")
  | ((with_reducible apply r_addT) <;> walk_at "sd")
  | ((with_reducible apply r_mulT) <;> walk_at "sd")
  | ((with_reducible apply rc_lenT) <;> walk_at "sd")
  | ((with_reducible apply rc_lenL) <;> walk_at "sd")
  | ((with_reducible apply ev_cb) <;> walk_at "ev")
  | walk_at "evc"
  | walk_at "sd"))

/-! ## grown -/
def vw (bh : Bool) (t : Tx) : Tx := if bh = true then t else t.reverse
theorem cntD_vw (bh : Bool) (t : Tx) (w : Tx) : cntD (vw bh t) w = cntD t w := by
  unfold vw
  cases bh
  · exact cntD_rev t w
  · rfl
theorem len_vw (bh : Bool) (t : Tx) : (vw bh t).length = t.length := by
  unfold vw
  cases bh
  · exact List.length_reverse
  · rfl
theorem let_at {t : Tx} {s : Nat} (hs : s < t.length) (bh : Bool) : atI (ltV t) (if bh = true then -1 - (s : Int) else (s : Int)) = some (tS [(vw bh t).getD (t.length - 1 - s) 0]) := by
  have hat : ∀ i, i < t.length → (ltV t)[i]? = some (tS [t.getD i 0]) := fun i hi => by
    unfold ltV
    rw [List.getElem?_map, List.getD_eq_getElem?_getD, List.getElem?_eq_getElem hi]; rfl
  unfold vw
  cases bh with
  | true =>
    rw [if_pos rfl, if_pos rfl]
    unfold atI ixN
    rw [len_ltV, if_neg (by omega), if_pos (by omega)]
    show (ltV t)[(-1 - (s : Int) + t.length).toNat]? = _
    rw [show (-1 - (s : Int) + t.length).toNat = t.length - 1 - s by omega]
    exact hat _ (by omega)
  | false =>
    rw [if_neg Bool.false_ne_true, if_neg Bool.false_ne_true, atI_nat (hat s hs)]
    congr 3
    rw [List.getD_eq_getElem?_getD, List.getD_eq_getElem?_getD, List.getElem?_reverse (by omega), show t.length - 1 - (t.length - 1 - s) = s by omega]
def sp_Book_grown (A : Ad) : Sp := spV fun vs H v => ∃ g b t hs es kT kU w0 c bh, vs = [.ref g, tS w0, tS [c], .bl bh] ∧ Has H (bkL A g b t hs es kT kU) ∧ t.length ≤ 200 ∧ lps w0 = w0 ∧ w0.length ≤ 200 ∧ (∀ w ∈ endsT w0, valV kU (kW w) = some (tS (tailF w))) ∧ v = tS (grow (vw bh t) c (endsT w0))
def t_Book_grown (A : Ad) : TS :=
  (tWhile (tB (tC (.bl true)))
  (tSeq (tAsg (tCB rLenT (tCons (tVar 1) tNil)) (gName 4))
  (tSeq (tIfS (tAnd (tTest (tOp rLtI (tVar 4) (tCB (rLenS A.K) (tCons (tFld A.K (tVar 0) "letters") tNil)))) (tTest (tOp rEq (tOp (rIxL A.K) (tFld A.K (tVar 0) "letters") (tIf (tB (tVar 3)) (tOp rSubI (tNegI (tC (.int 1))) (tVar 4)) (tVar 4))) (tVar 2)))) (tRet (tOp rAddT (tOp rAddT (tVar 2) (tVar 1)) (tVar 2))) tNext)
  (tSeq (tIfS (tTest (tOp rEq (tVar 1) (tC (tS [])))) (tRet (tVar 2)) tNext)
  (tAsg (tDGet (tFld A.K (tVar 0) "tails") (tVar 1)) (gName 1))))))

theorem len_Book_grown (A : Ad) : ∀ vs H Q E, sp_Book_grown A vs H Q E → vs.length = 4 := fun vs H Q E h => by
  obtain ⟨v, ⟨g, b, t, hs, es, kT, kU, w0, c, bh, rfl, _⟩, _⟩ := h
  rfl
theorem pu_Book_grown (A : Ad) (bc : BC A) (vs : List V) (H : Hp) (Q : VK) (E : XK) (h : sp_Book_grown A vs H Q E) : t_Book_grown A { nx := fun _ H' => Q .non H', rt := Q } (start ["self", "word", "letter", "behind", "size"] vs) H := by
  obtain ⟨v, ⟨g, b, t, hs, es, kT, kU, w0, c, bh, rfl, hh, hl, hw0, hwl, htl, rfl⟩, k⟩ := h
  show t_Book_grown A _ [some (.ref g), some (tS w0), some (tS [c]), some (.bl bh), none] H
  unfold t_Book_grown
  have hhd : (endsT w0).headD [] = w0 := hw0
  have hne : ∀ w ∈ endsT w0, w ≠ [] := fun w hw => (mir_iff.mp (mem_ends.mp hw).1).2
  refine a_while (fun m σ' H' => ∃ pre post v4, endsT w0 = pre ++ post ∧ m = post.length ∧ σ' = [some (.ref g), some (tS (post.headD [])), some (tS [c]), some (.bl bh), v4] ∧ Am [] H [] H' ∧ grow (vw bh t) c post = grow (vw bh t) c (endsT w0)) (endsT w0).length
    ⟨[], endsT w0, none, rfl, rfl, by rw [hhd], Am.start H, rfl⟩ ?_
  rintro m σ' H' ⟨pre, post, v4, hEq, rfl, rfl, am, hgr⟩
  have hpl : (post.headD []).length ≤ 200 := by
    cases post with
    | nil => exact Nat.zero_le _
    | cons w r =>
      have := (ends_len (u := w0) (w := w) (by rw [hEq]; simp)).2
      rw [List.headD_cons]; omega
  have hp0 : post.headD [] = [] → post = [] := fun z => by
    cases post with
    | nil => rfl
    | cons w r => exact absurd z (hne w (by rw [hEq]; simp))
  generalize hw : post.headD [] = w at hpl hp0
  refine ⟨true, et_B ev_c, fun _ H1 ex N hN => ?_, fun z => Bool.noConfusion z⟩
  have am := am.ex ex
  have hh1 := hh.ex am.toEx
  refine aq_asg am (v := .int (w.length : Nat)) (ev_cb (ea_cons (ev_var rfl) ea_nil) (rc_lenT (by omega))) fun H2 am => ?_
  dsimp only [List.set]
  have hh2 := hh.ex am.toEx
  have hc : EvT (tAnd (tTest (tOp rLtI (tVar 4) (tCB (rLenS A.K) (tCons (tFld A.K (tVar 0) "letters") tNil)))) (tTest (tOp rEq (tOp (rIxL A.K) (tFld A.K (tVar 0) "letters") (tIf (tB (tVar 3)) (tOp rSubI (tNegI (tC (.int 1))) (tVar 4)) (tVar 4))) (tVar 2)))) [some (.ref g), some (tS w), some (tS [c]), some (.bl bh), some (.int (w.length : Nat))] H2 (condG (vw bh t) c w) := by
    refine et_is (et_and (et_test (ev_op (ev_var rfl) (e_lenLets bc (ev_var rfl) hh2) rv_I0)) (b := decide ([(vw bh t).getD (t.length - 1 - w.length) 0] = [c])) fun c1 => ?_) ?_
    · have c1 := of_decide_eq_true c1
      have z := let_at (t := t) (s := w.length) (by omega) bh
      have hidx : Ev (tIf (tB (tVar 3)) (tOp rSubI (tNegI (tC (.int 1))) (tVar 4)) (tVar 4)) [some (.ref g), some (tS w), some (tS [c]), some (.bl bh), some (.int (w.length : Nat))] H2 (.int (if bh = true then -1 - ((w.length : Nat) : Int) else ((w.length : Nat) : Int))) :=
        ev_is (e_if (et_B (ev_var rfl)) (fun _ => ev_op (e_negI ev_c) (ev_var rfl) rv_I0) fun _ => ev_var rfl) (by split <;> rfl)
      exact et_test (ev_op (ev_op (e_lets bc (ev_var rfl) hh2) hidx (rv_ixL (K := A.K) (sq_of (hh2.at 1 rfl)) z)) (ev_var rfl) r_eqS)
    · unfold condG
      rw [len_vw]
      congr 1
      · exact decide_eq_decide.mpr (by omega)
      · exact decide_eq_decide.mpr (by rw [List.cons.injEq]; exact ⟨fun z => z.1, fun z => ⟨z, rfl⟩⟩)
  refine aq_when am hc (fun c1 H3 am => ?_) fun c1 H3 am => ?_
  · refine a_ret (v := tS (([c] ++ w) ++ [c])) am (ev_op (ev_op (ev_var rfl) (ev_var rfl) (r_addT (by rw [List.length_singleton]; omega))) (ev_var rfl) (r_addT (by rw [List.length_append, List.length_singleton]; omega))) fun H4 am => ?_
    have e : ([c] ++ w) ++ [c] = grow (vw bh t) c (endsT w0) := by
      rw [← hgr]
      cases post with
      | nil =>
        have hw : ([] : Tx) = w := hw
        subst hw
        rw [grow, if_pos c1]; rfl
      | cons x r =>
        rw [List.headD_cons] at hw
        subst hw
        rw [grow, if_pos c1]; rfl
    rw [e]
    exact k H4 am.toEx
  · refine aq_when am (et_test (ev_op (ev_var rfl) ev_c r_eqS)) (fun c2 H4 am => ?_) fun c2 H4 am => ?_
    · have c2 := of_decide_eq_true c2
      have e := hp0 c2
      refine a_ret am (ev_var rfl) fun H5 am => ?_
      have e2 : [c] = grow (vw bh t) c (endsT w0) := by
        rw [← hgr, e, grow, if_neg]
        rw [← c2, c1]; exact Bool.false_ne_true
      rw [e2]
      exact k H5 am.toEx
    · have c2 := of_decide_eq_false c2
      cases post with
      | nil => exact absurd hw.symm c2
      | cons x r =>
        rw [List.headD_cons] at hw
        subst hw
        have hh4 := hh.ex am.toEx
        refine a_asg am (e_dget (k := kW x) (v := tS (r.headD [])) (e_tails bc (ev_var rfl) hh4) (ev_var rfl) (hh4.at 5 rfl) ?_) fun H5 am => ?_
        · rw [htl x (by rw [hEq]; simp), chain_next hEq]
        · exact hN r.length _ _ (Nat.lt_succ_self _) ⟨pre ++ [x], r, _, by rw [hEq, List.append_assoc]; rfl, rfl, rfl, am, by rw [← hgr, grow, if_neg (by rw [c1]; exact Bool.false_ne_true)]⟩
theorem c_grown {A : Ad} {σ : L2.St} {H : Hp} {te tw tc tb : TE} {g : Addr} {b : BA} {t : Tx} {hs es : List V} {kT kU : List (Key × V)} {w0 : Tx} {c : Nat} {bh : Bool} (h : Ev te σ H (.ref g)) (hw : Ev tw σ H (tS w0)) (hc : Ev tc σ H (tS [c])) (hb : Ev tb σ H (.bl bh))
    (hh : Has H (bkL A g b t hs es kT kU)) (hl : t.length ≤ 200) (hw0 : lps w0 = w0) (hwl : w0.length ≤ 200) (htl : ∀ w ∈ endsT w0, valV kU (kW w) = some (tS (tailF w))) : Ev (tMeth A.cBook "grown" (sp_Book_grown A) [] E0 te (tCons tw (tCons tc (tCons tb tNil)))) σ H (tS (grow (vw bh t) c (endsT w0))) :=
  e_methV h (hh.at 0 rfl) rfl (ea_cons hw (ea_cons hc (ea_cons hb ea_nil))) fun H1 e => ⟨g, b, t, hs, es, kT, kU, w0, c, bh, rfl, hh.ex e, hl, hw0, hwl, htl, rfl⟩
theorem lps_lps (u : Tx) : lps (lps u) = lps u := by
  show (endsT (lps u)).headD [] = _
  rw [endsT_lps]; rfl
theorem tails_at {t w : Tx} {kT kU : List (Key × V)} (ok : BkOk (cntD t) kT kU) (h : w = [] ∨ 0 < cntD t w) : valV kU (kW w) = some (tS (tailF w)) := by
  rw [ok.tails.vl, if_pos]
  rw [Bool.or_eq_true, decide_eq_true_eq, decide_eq_true_eq]; exact h
/-! ## met -/
def pc (pre : List Tx) (w : Tx) : Nat := if w ∈ pre then 1 else 0
theorem pc_snoc {pre : List Tx} {w : Tx} (h : w ∉ pre) (x : Tx) : pc (pre ++ [w]) x = if x = w then 1 else pc pre x := by
  unfold pc
  by_cases e : x = w
  · subst e
    rw [if_pos (by simp), if_pos rfl]
  · rw [if_neg e]
    have : x ∈ pre ++ [w] ↔ x ∈ pre := by rw [List.mem_append, List.mem_singleton]; exact ⟨fun z => z.resolve_right e, .inl⟩
    simp only [this]
theorem ne_count {x : Tx} : ∀ l : List Tx, l.Nodup → l.length ≤ (l.filter fun w => decide (w ≠ x)).length + 1
  | [], _ => Nat.zero_le _
  | y :: l, nd => by
    obtain ⟨n1, n2⟩ := List.nodup_cons.mp nd
    by_cases e : y = x
    · subst e
      have e2 : l.filter (fun w => decide (w ≠ y)) = l := List.filter_eq_self.mpr fun z hz => decide_eq_true fun q => n1 (q ▸ hz)
      rw [List.filter_cons_of_neg (by simp), e2]; exact Nat.le_refl _
    · have := ne_count (x := x) l n2
      rw [List.filter_cons_of_pos (by exact decide_eq_true e), List.length_cons, List.length_cons]; omega
def sp_Book_met (A : Ad) : Sp := fun vs H Q _ => ∃ g b t hs es kT kU c bh, vs = [.ref g, tS (lps (vw bh t ++ [c])), tS [c], .bl bh] ∧ Has H (bkL A g b t hs es kT kU) ∧ BkOk (cntD t) kT kU ∧ t.length < 200 ∧
  ∀ kT' kU' H', BkOk (cntD (vw bh t ++ [c])) kT' kU' → Am (bkS g b) H (bkL A g b t hs es kT' kU') H' → Q (.bl (decide (cntD t (lps (vw bh t ++ [c])) = 0))) H'
def t_Book_met (A : Ad) : TS :=
  (tSeq (tAsg (tDNotIn (tVar 1) (tFld A.K (tVar 0) "told")) (gName 4))
  (tSeq (tIfS (tB (tVar 4)) (tSeq (tAsg (tC (tS [])) (gName 5))
  (tSeq (tIfS (tTest (tOp rGtI (tCB rLenT (tCons (tVar 1) tNil)) (tC (.int 1)))) (tAsg (tIf (tTest (tOp rGtI (tCB rLenT (tCons (tVar 1) tNil)) (tC (.int 2)))) (tMeth A.cBook "grown" (sp_Book_grown A) [] E0 (tVar 0) (tCons (tDGet (tFld A.K (tVar 0) "tails") (tSl rSlS (tVar 1) (tPart (tC (.int 1))) (tPart (tNegI (tC (.int 1)))))) (tCons (tVar 2) (tCons (tVar 3) tNil)))) (tVar 2)) (gName 5)) tNext)
  (sDPut (tFld A.K (tVar 0) "tails") (tVar 1) (tVar 5)))) tNext)
  (tSeq (tAsg (tVar 1) (gName 6))
  (tSeq (tWhile (tTest (tOp rNe (tVar 6) (tC (tS []))))
  (tSeq (sDPut (tFld A.K (tVar 0) "told") (tVar 6) (tOp rAddI (tDGet2 (tFld A.K (tVar 0) "told") (tVar 6) (tC (.int 0))) (tC (.int 1))))
  (tAsg (tDGet (tFld A.K (tVar 0) "tails") (tVar 6)) (gName 6))))
  (tRet (tVar 4))))))

theorem len_Book_met (A : Ad) : ∀ vs H Q E, sp_Book_met A vs H Q E → vs.length = 4 := fun vs H Q E h => by
  obtain ⟨g, b, t, hs, es, kT, kU, c, bh, rfl, _⟩ := h
  rfl
theorem met_tails {t : Tx} {bh : Bool} {c : Nat} {kU : List (Key × V)} (d : DF (fun w => decide (w = []) || decide (0 < cntD t w) || decide (w = lps (vw bh t ++ [c]))) (fun w => tS (tailF w)) kU) : DF (fun w => decide (w = []) || decide (0 < cntD (vw bh t ++ [c]) w)) (fun w => tS (tailF w)) kU := by
  refine d.congr (fun w => ?_) fun _ _ => rfl
  rw [Bool.or_assoc]
  congr 1
  rw [Bool.eq_iff_iff, Bool.or_eq_true, decide_eq_true_eq, decide_eq_true_eq, decide_eq_true_eq, pos_put, cntD_vw]
theorem pu_Book_met (A : Ad) (bc : BC A) (vs : List V) (H : Hp) (Q : VK) (E : XK) (h : sp_Book_met A vs H Q E) : t_Book_met A { nx := fun _ H' => Q .non H', rt := Q } (start ["self", "word", "letter", "behind", "is_new", "shorter", "one"] vs) H := by
  obtain ⟨g, b, t, hs, es, kT, kU, c, bh, rfl, hh, ok, hl, k⟩ := h
  have htw := tail_word (vw bh t) c
  have hml := lps_mir (vw bh t) c
  have hWl : (lps (vw bh t ++ [c])).length ≤ 200 := by
    have := (lps_suf (vw bh t ++ [c])).length_le
    rw [List.length_append, List.length_singleton, len_vw] at this
    omega
  have hEW : endsT (vw bh t ++ [c]) = endsT (lps (vw bh t ++ [c])) := (endsT_lps _).symm
  have hhd : (endsT (vw bh t ++ [c])).headD [] = lps (vw bh t ++ [c]) := rfl
  have hEl : (endsT (vw bh t ++ [c])).length ≤ 201 := by
    have := len_endsT (vw bh t ++ [c])
    rw [List.length_append, List.length_singleton, len_vw] at this
    omega
  have hcnt : ∀ w, cntD (vw bh t ++ [c]) w = cntD t w + pc (endsT (vw bh t ++ [c])) w := fun w => by
    rw [cntD_snoc, cntD_vw]; rfl
  have hok : ∀ kU', DF (fun w => decide (w = []) || decide (0 < cntD t w) || decide (w = lps (vw bh t ++ [c]))) (fun w => tS (tailF w)) kU' → DF (fun w => decide (w = []) || decide (0 < cntD (vw bh t ++ [c]) w)) (fun w => tS (tailF w)) kU' := fun kU' d => met_tails d
  generalize hW : lps (vw bh t ++ [c]) = W at *
  show t_Book_met A _ [some (.ref g), some (tS W), some (tS [c]), some (.bl bh), none, none, none] H
  unfold t_Book_met
  have fin : ∀ {kU' : List (Key × V)} {H' : Hp} {v5 : Option V}, Am (bkS g b) H (bkL A g b t hs es kT kU') H' → DF (fun w => decide (w = []) || decide (0 < cntD t w) || decide (w = W)) (fun w => tS (tailF w)) kU' →
      (tSeq (tAsg (tVar 1) (gName 6))
        (tSeq (tWhile (tTest (tOp rNe (tVar 6) (tC (tS []))))
        (tSeq (sDPut (tFld A.K (tVar 0) "told") (tVar 6) (tOp rAddI (tDGet2 (tFld A.K (tVar 0) "told") (tVar 6) (tC (.int 0))) (tC (.int 1))))
        (tAsg (tDGet (tFld A.K (tVar 0) "tails") (tVar 6)) (gName 6))))
        (tRet (tVar 4)))) { nx := fun _ H' => Q .non H', rt := Q } [some (.ref g), some (tS W), some (tS [c]), some (.bl bh), some (.bl (decide (cntD t W = 0))), v5, none] H' := fun {kU' H' v5} am hU => by
    have hU := hok _ hU
    refine aq_asg am (ev_var rfl) fun H1 am => ?_
    dsimp only [List.set]
    have hkl : kT.length ≤ 200 := Nat.le_trans (told_len (f := cntD t) ok) (by omega)
    refine aq_chain (j := 6) (endsT (vw bh t ++ [c])) (fun pre H' => ∃ kT', Am (bkS g b) H (bkL A g b t hs es kT' kU') H' ∧ DF (fun w => decide (0 < cntD t w + pc pre w)) (fun w => .int (cntD t w + pc pre w : Nat)) kT' ∧ kT'.length ≤ 1000 + pre.length) (by rw [hhd]; rfl)
      (fun w hw => (mir_iff.mp (mem_ends.mp hw).1).2) ⟨kT, am, ok.told, by show kT.length ≤ 1000; omega⟩ (fun pre H1 H2 e ⟨kT', am, h1, h2⟩ => ⟨kT', am.ex e, h1, h2⟩) ?_ ?_ ?_
    · rintro pre w post H2 hE ⟨kT', am, hd, hlen⟩ D' hD
      have hnot := ends_notin hE
      have hp0 : pc pre w = 0 := if_neg hnot
      have hpl : pre.length ≤ 201 := by
        have := congrArg List.length hE
        rw [List.length_append] at this
        omega
      have hh2 := am.hasAll
      have hget : (valV kT' (kW w)).getD (.int 0) = .int (cntD t w : Nat) := by
        rw [hd.vl, hp0, Nat.add_zero]
        by_cases c0 : 0 < cntD t w
        · rw [decide_eq_true c0, if_pos rfl]; rfl
        · rw [decide_eq_false c0, if_neg Bool.false_ne_true, show cntD t w = 0 by omega]; rfl
      refine a_dput 4 (k := kW w) (v := .int (cntD t w + 1 : Nat)) am rfl (e_told bc (ev_var rfl) hh2) (ev_var rfl) (ev_is (ev_op (ev_is (e_dget2 (k := kW w) (z := .int 0) (e_told bc (ev_var rfl) hh2) (ev_var rfl) ev_c (hh2.at 4 rfl)) hget) ev_c rv_I0) (by congr 1)) (by omega) fun H3 am => ?_
      refine hD H3 ⟨_, am, (hd.put w (.int (cntD t w + 1 : Nat))).congr (fun x => ?_) fun x _ => ?_, ?_⟩
      · rw [pc_snoc hnot]
        by_cases e : x = w
        · subst e
          rw [if_pos rfl, decide_eq_true rfl, Bool.true_or, decide_eq_true (show 0 < cntD t x + 1 by omega)]
        · rw [if_neg e, decide_eq_false e]; rfl
      · rw [pc_snoc hnot]
        by_cases e : x = w
        · subst e; rw [if_pos rfl, if_pos rfl]
        · rw [if_neg e, if_neg e]
      · have := length_putK kT' (kW w) (.int (cntD t w + 1 : Nat))
        rw [List.length_append, List.length_singleton]; omega
    · rintro pre w post H2 hE ⟨kT', am, hd, hlen⟩
      have hh2 := am.hasAll
      refine e_dget (k := kW w) (e_tails bc (ev_var rfl) hh2) (ev_var rfl) (hh2.at 5 rfl) ?_
      rw [hU.vl, if_pos, chain_next hE]
      rw [Bool.or_eq_true, decide_eq_true_eq, decide_eq_true_eq]
      exact .inr (ends_pos (by rw [hE]; simp))
    · rintro H2 ⟨kT', am, hd, hlen⟩
      refine a_ret am (ev_var rfl) fun H3 am => k kT' kU' H3 ⟨hd.congr (fun w => by rw [hcnt]) fun w _ => by rw [hcnt], hU⟩ am
  have hin : (valV kT (kW W)).isSome = decide (0 < cntD t W) := by
    rw [ok.told.vl]
    by_cases c0 : 0 < cntD t W
    · rw [decide_eq_true c0, if_pos rfl]; rfl
    · rw [decide_eq_false c0, if_neg Bool.false_ne_true]; rfl
  have hnb : (!(valV kT (kW W)).isSome) = decide (cntD t W = 0) := by
    rw [hin]
    by_cases c0 : cntD t W = 0
    · rw [decide_eq_true c0, decide_eq_false (by omega)]; rfl
    · rw [decide_eq_false c0, decide_eq_true (by omega)]; rfl
  have am : Am (bkS g b) H (bkL A g b t hs es kT kU) H := hh.am
  refine aq_asg am (ev_is (e_dnin (k := kW W) (ev_var rfl) (e_told bc (ev_var rfl) hh) (hh.at 4 rfl)) (by rw [hnb])) fun H1 am => ?_
  dsimp only [List.set]
  refine aq_when am (et_B (ev_var rfl)) (fun c0 H2 am => ?_) fun c0 H2 am => ?_
  · have c0 := of_decide_eq_true c0
    have hul : kU.length ≤ 300 := by
      rw [← len_keysT]
      have nd := ok.tails.ndT
      refine Nat.le_trans (ne_count (x := ([] : Tx)) (keysT kU) nd) ?_
      refine Nat.le_trans (Nat.succ_le_succ (words_le t.length t _ rfl (nd.sublist List.filter_sublist) fun w hw => ?_)) (by omega)
      obtain ⟨h1, h2⟩ := List.mem_filter.mp hw
      have := (ok.tails.mem w).mp h1
      rw [Bool.or_eq_true, decide_eq_true_eq, decide_eq_true_eq] at this
      exact this.resolve_left (of_decide_eq_true h2)
    refine aq_asg am ev_c fun H3 am => ?_
    dsimp only [List.set]
    have put : ∀ {D' : Ends} {H' : Hp} {v5 : V}, Am (bkS g b) H (bkL A g b t hs es kT kU) H' → v5 = tS (tailF W) →
        (∀ kU' H4, Am (bkS g b) H (bkL A g b t hs es kT kU') H4 → DF (fun w => decide (w = []) || decide (0 < cntD t w) || decide (w = W)) (fun w => tS (tailF w)) kU' → D'.nx [some (.ref g), some (tS W), some (tS [c]), some (.bl bh), some (.bl (decide (cntD t W = 0))), some v5, none] H4) →
        (sDPut (tFld A.K (tVar 0) "tails") (tVar 1) (tVar 5)) D' [some (.ref g), some (tS W), some (tS [c]), some (.bl bh), some (.bl (decide (cntD t W = 0))), some v5, none] H' := fun {D' H' v5} am e hD => by
      subst e
      have hh2 := am.hasAll
      refine a_dput 5 (k := kW W) am rfl (e_tails bc (ev_var rfl) hh2) (ev_var rfl) (ev_var rfl) (by omega) fun H4 am => ?_
      refine hD _ H4 am ((ok.tails.put W (tS (tailF W))).congr (fun x => ?_) fun x _ => ?_)
      · rw [Bool.or_comm]
      · by_cases e : x = W
        · subst e; rw [if_pos rfl]
        · rw [if_neg e]
    refine aq_when am (b := decide (1 < W.length)) (et_is (et_test (ev_op (ev_cb (ea_cons (ev_var rfl) ea_nil) (rc_lenT (by omega))) ev_c rv_I0)) (decide_eq_decide.mpr (by omega))) (fun c1 H4 am => ?_) fun c1 H4 am => ?_
    · have c1 := of_decide_eq_true c1
      have hh4 := am.hasAll
      refine a_asg am (v := tS (tailF W)) (ev_if (b := decide (2 < W.length)) (et_is (et_test (ev_op (ev_cb (ea_cons (ev_var rfl) ea_nil) (rc_lenT (by omega))) ev_c rv_I0)) (decide_eq_decide.mpr (by omega))) (fun c2 => ?_) fun c2 => ?_) fun H5 am => put am rfl fun kU' H6 am h => fin am h
      · have c2 := of_decide_eq_true c2
        rcases htw with ⟨h1, _⟩ | ⟨h1, _⟩ | ⟨_, s, h1, h2, h3, h4⟩
        · omega
        · omega
        · have hs2 : s <:+: t ∨ True := .inr trivial
          have hsp : 0 < cntD t s := by rw [← cntD_vw bh]; exact cntD_pos.mpr ⟨h2, h1.isInfix⟩
          have hsl : (tailF s).length ≤ 200 := by
            rw [tailF_eq]
            have a1 := (lps_suf s.tail).length_le
            have a2 := h1.length_le
            rw [List.length_tail] at a1
            rw [len_vw] at a2
            omega
          rw [← h4]
          refine c_grown (ev_var rfl) (e_dget (k := kW s) (e_tails bc (ev_var rfl) hh4) (by rw [← h3]; exact e_slIn (ev_var rfl) (by omega)) (hh4.at 5 rfl) (tails_at ok (.inr hsp))) (ev_var rfl) (ev_var rfl) hh4 (by omega) (by rw [tailF_eq]; exact lps_lps _) hsl fun w hw => tails_at ok (.inr ?_)
          rw [← cntD_vw bh]
          exact tail_mem h1 hw
      · have c2 := of_decide_eq_false c2
        rcases htw with ⟨h1, _⟩ | ⟨h1, h2⟩ | ⟨h1, _⟩
        · omega
        · rw [h2]; exact ev_var rfl
        · omega
    · have c1 := of_decide_eq_false c1
      refine put am ?_ fun kU' H6 am h => fin am h
      have := List.length_pos_iff.mpr (mir_iff.mp hml).2
      rcases htw with ⟨_, h2⟩ | ⟨h1, _⟩ | ⟨h1, _⟩
      · rw [h2]
      · omega
      · omega
  · have c0 := of_decide_eq_false c0
    refine fin am (ok.tails.congr (fun x => ?_) fun _ _ => rfl)
    by_cases e : x = W
    · subst e
      rw [decide_eq_true rfl, Bool.or_true, decide_eq_true (by omega : 0 < cntD t x), Bool.or_true]
    · rw [decide_eq_false e, Bool.or_false]

end Mw
namespace Mw
open PySem PySem.Spec PyProof.Rows L2 Evl
local macro_rules | `(tactic| walk_at "sd") => `(tactic| (first
  | assumption
  | omega
  | decide
  | (simp only [List.length_append, List.length_cons, List.length_nil, List.length_reverse, List.length_take, List.length_drop, List.length_map, List.length_range] at *; omega)
  | skip))
local macro_rules | `(tactic| walk_at "ev") => `(tactic| (first
  | ((with_reducible apply ev_var); rfl)
  | (with_reducible exact ev_c)
  | ((with_reducible apply ev_op) <;> walk_at "ev")
  | ((with_reducible apply e_negI) <;> walk_at "ev")
  | ((with_reducible apply et_test) <;> walk_at "ev")
  | ((with_reducible apply et_B) <;> walk_at "ev")
  | ((with_reducible apply et_and); (focus walk_at "ev"); intro hq; (try simp only [Bool.and_eq_true, Bool.or_eq_true, decide_eq_true_eq, Bool.not_eq_true', decide_eq_false_iff_not, Bool.and_eq_false_iff, Bool.or_eq_false_iff, Bool.not_eq_false'] at hq); walk_at "ev")
  | ((with_reducible apply et_or); (focus walk_at "ev"); intro hq; (try simp only [Bool.and_eq_true, Bool.or_eq_true, decide_eq_true_eq, Bool.not_eq_true', decide_eq_false_iff_not, Bool.and_eq_false_iff, Bool.or_eq_false_iff, Bool.not_eq_false'] at hq); walk_at "ev")
  | ((with_reducible apply ev_andV); (focus walk_at "ev"); intro hq; (try simp only [Bool.and_eq_true, Bool.or_eq_true, decide_eq_true_eq, Bool.not_eq_true', decide_eq_false_iff_not, Bool.and_eq_false_iff, Bool.or_eq_false_iff, Bool.not_eq_false'] at hq); walk_at "ev")
  | ((with_reducible apply ev_orV); (focus walk_at "ev"); intro hq; (try simp only [Bool.and_eq_true, Bool.or_eq_true, decide_eq_true_eq, Bool.not_eq_true', decide_eq_false_iff_not, Bool.and_eq_false_iff, Bool.or_eq_false_iff, Bool.not_eq_false'] at hq); walk_at "ev")
  | ((with_reducible apply e_if); (focus walk_at "ev"); (focus (intro hq; (try simp only [Bool.and_eq_true, Bool.or_eq_true, decide_eq_true_eq, Bool.not_eq_true', decide_eq_false_iff_not, Bool.and_eq_false_iff, Bool.or_eq_false_iff, Bool.not_eq_false'] at hq); walk_at "ev")); (intro hq; (try simp only [Bool.and_eq_true, Bool.or_eq_true, decide_eq_true_eq, Bool.not_eq_true', decide_eq_false_iff_not, Bool.and_eq_false_iff, Bool.or_eq_false_iff, Bool.not_eq_false'] at hq); walk_at "ev"))
  | ((with_reducible apply et_not) <;> walk_at "ev")
  | ((with_reducible apply ev_notV) <;> walk_at "ev")
  | (with_reducible exact et_yes)
  | (with_reducible exact ea_nil)
  | ((with_reducible apply ea_cons) <;> walk_at "ev")
  | (with_reducible exact eo_none)
  | ((with_reducible apply eo_some) <;> walk_at "ev")
  | ((with_reducible apply e_slBut) <;> walk_at "ev")
  | ((with_reducible apply e_slIn) <;> walk_at "ev")
  | ((with_reducible apply e_slTo) <;> walk_at "ev")
  | ((with_reducible apply e_slFrom) <;> walk_at "ev")
  | ((with_reducible apply e_slMid) <;> walk_at "ev")
  | ((with_reducible apply e_rev) <;> walk_at "ev")
  | (with_reducible exact rv_I0)
  | (with_reducible exact r_eqI) | (with_reducible exact r_neI) | (with_reducible exact r_eqS) | (with_reducible exact r_neS)
  | (with_reducible exact r_inC) | (with_reducible exact r_ninC) | (with_reducible exact r_isN) | (with_reducible exact r_notN)
  | (with_reducible exact r_ltT) | (with_reducible exact r_gtT)
  | (with_reducible exact rc_max2) | (with_reducible exact rc_min2)
  | ((with_reducible apply r_divI) <;> walk_at "sd") | ((with_reducible apply r_modI) <;> walk_at "sd") | ((with_reducible apply r_mulI) <;> walk_at "sd")
  | ((with_reducible apply r_ixS) <;> walk_at "sd")
  | ((with_reducible apply r_addT) <;> walk_at "sd")
  | ((with_reducible apply r_mulT) <;> walk_at "sd")
  | ((with_reducible apply rc_lenT) <;> walk_at "sd")
  | ((with_reducible apply rc_lenL) <;> walk_at "sd")
  | ((with_reducible apply ev_cb) <;> walk_at "ev")
  | walk_at "evc"
  | walk_at "sd"))

/-! ## lost -/
theorem cnt_split (v : Tx) (c : Nat) (w : Tx) : cntD (v ++ [c]) w = cntD v w + pc (endsT (v ++ [c])) w := cntD_snoc v w c
theorem pos_cut {v w : Tx} {c : Nat} (h : w ≠ lps (v ++ [c])) : (decide (0 < cntD (v ++ [c]) w)) = decide (0 < cntD v w) := by
  refine decide_eq_decide.mpr ⟨fun z => some_new z h, fun z => pos_put.mpr (.inl z)⟩
def sp_Book_lost (A : Ad) : Sp := fun vs H Q _ => ∃ g b t hs es kT kU v c, vs = [.ref g, tS (lps (v ++ [c]))] ∧ Has H (bkL A g b t hs es kT kU) ∧ BkOk (cntD (v ++ [c])) kT kU ∧ v.length ≤ 200 ∧
  ∀ kT' kU' H', BkOk (cntD v) kT' kU' → Am (bkS g b) H (bkL A g b t hs es kT' kU') H' → Q (.bl (decide (cntD v (lps (v ++ [c])) = 0))) H'
def t_Book_lost (A : Ad) : TS :=
  (tSeq (tAsg (tVar 1) (gName 2))
  (tSeq (tWhile (tTest (tOp rNe (tVar 2) (tC (tS []))))
  (tSeq (sDPut (tFld A.K (tVar 0) "told") (tVar 2) (tOp rSubI (tDGet (tFld A.K (tVar 0) "told") (tVar 2)) (tC (.int 1))))
  (tAsg (tDGet (tFld A.K (tVar 0) "tails") (tVar 2)) (gName 2))))
  (tSeq (tIfS (tTest (tOp rGtI (tDGet (tFld A.K (tVar 0) "told") (tVar 1)) (tC (.int 0)))) (tRet (tC (.bl false))) tNext)
  (tSeq (tDrop (tDPop1 (tFld A.K (tVar 0) "told") (tVar 1)))
  (tSeq (tDrop (tDPop1 (tFld A.K (tVar 0) "tails") (tVar 1)))
  (tRet (tC (.bl true))))))))

theorem len_Book_lost (A : Ad) : ∀ vs H Q E, sp_Book_lost A vs H Q E → vs.length = 2 := fun vs H Q E h => by
  obtain ⟨g, b, t, hs, es, kT, kU, v, c, rfl, _⟩ := h
  rfl
theorem pu_Book_lost (A : Ad) (bc : BC A) (vs : List V) (H : Hp) (Q : VK) (E : XK) (h : sp_Book_lost A vs H Q E) : t_Book_lost A { nx := fun _ H' => Q .non H', rt := Q } (start ["self", "word", "one"] vs) H := by
  obtain ⟨g, b, t, hs, es, kT, kU, v, c, rfl, hh, ok, hl, k⟩ := h
  show t_Book_lost A _ [some (.ref g), some (tS (lps (v ++ [c]))), none] H
  unfold t_Book_lost
  have hhd : (endsT (v ++ [c])).headD [] = lps (v ++ [c]) := rfl
  have hEl : (endsT (v ++ [c])).length ≤ 201 := by
    have := len_endsT (v ++ [c])
    rw [List.length_append, List.length_singleton] at this
    omega
  have hW0 := (mir_iff.mp (lps_mir v c)).2
  have hWp : 0 < cntD (v ++ [c]) (lps (v ++ [c])) := ends_pos (lps_snoc v c)
  have hkl : kT.length ≤ 201 := by
    have := told_len (f := cntD v) ok
    rw [List.length_append, List.length_singleton] at this
    omega
  have am : Am (bkS g b) H (bkL A g b t hs es kT kU) H := hh.am
  refine aq_asg am (ev_var rfl) fun H1 am => ?_
  dsimp only [List.set]
  refine aq_chain (j := 2) (endsT (v ++ [c])) (fun pre H' => ∃ kT', Am (bkS g b) H (bkL A g b t hs es kT' kU) H' ∧ DF (fun w => decide (0 < cntD (v ++ [c]) w)) (fun w => .int (cntD (v ++ [c]) w - pc pre w : Nat)) kT' ∧ kT'.length ≤ 1000 + pre.length) (by rw [hhd]; rfl)
    (fun w hw => (mir_iff.mp (mem_ends.mp hw).1).2) ⟨kT, am, ok.told, by show kT.length ≤ 1000; omega⟩ (fun pre H1 H2 e ⟨kT', am, h1, h2⟩ => ⟨kT', am.ex e, h1, h2⟩) ?_ ?_ ?_
  · rintro pre w post H2 hE ⟨kT', am, hd, hlen⟩ D' hD
    have hnot := ends_notin hE
    have hp0 : pc pre w = 0 := if_neg hnot
    have hpl : pre.length ≤ 201 := by
      have := congrArg List.length hE
      rw [List.length_append] at this
      omega
    have hwp : 0 < cntD (v ++ [c]) w := ends_pos (by rw [hE]; simp)
    have hh2 := am.hasAll
    have hget : valV kT' (kW w) = some (.int (cntD (v ++ [c]) w : Nat)) := by
      rw [hd.vl, decide_eq_true hwp, if_pos rfl, hp0, Nat.sub_zero]
    refine a_dput 4 (k := kW w) (v := .int (cntD (v ++ [c]) w - 1 : Nat)) am rfl (e_told bc (ev_var rfl) hh2) (ev_var rfl) (ev_is (ev_op (e_dget (k := kW w) (e_told bc (ev_var rfl) hh2) (ev_var rfl) (hh2.at 4 rfl) hget) ev_c rv_I0) (by congr 1; omega)) (by omega) fun H3 am => ?_
    refine hD H3 ⟨_, am, (hd.put w (.int (cntD (v ++ [c]) w - 1 : Nat))).congr (fun x => ?_) fun x _ => ?_, ?_⟩
    · by_cases e : x = w
      · subst e
        rw [decide_eq_true rfl, Bool.true_or, decide_eq_true hwp]
      · rw [decide_eq_false e]; rfl
    · rw [pc_snoc hnot]
      by_cases e : x = w
      · subst e; rw [if_pos rfl, if_pos rfl]
      · rw [if_neg e, if_neg e]
    · have := length_putK kT' (kW w) (.int (cntD (v ++ [c]) w - 1 : Nat))
      rw [List.length_append, List.length_singleton]; omega
  · rintro pre w post H2 hE ⟨kT', am, hd, hlen⟩
    have hh2 := am.hasAll
    exact e_dget (k := kW w) (e_tails bc (ev_var rfl) hh2) (ev_var rfl) (hh2.at 5 rfl) (by rw [tails_at ok (.inr (ends_pos (by rw [hE]; simp))), chain_next hE])
  · rintro H2 ⟨kT', am, hd, hlen⟩
    have hd : DF (fun w => decide (0 < cntD (v ++ [c]) w)) (fun w => .int (cntD v w : Nat)) kT' := hd.congr (fun _ => rfl) fun w _ => by
      rw [show cntD (v ++ [c]) w - pc (endsT (v ++ [c])) w = cntD v w by rw [cnt_split]; omega]
    have hh2 := am.hasAll
    have hget : valV kT' (kW (lps (v ++ [c]))) = some (.int (cntD v (lps (v ++ [c])) : Nat)) := by
      rw [hd.vl, decide_eq_true hWp, if_pos rfl]
    refine aq_when am (b := decide (0 < cntD v (lps (v ++ [c])))) (et_is (et_test (ev_op (e_dget (k := kW (lps (v ++ [c]))) (e_told bc (ev_var rfl) hh2) (ev_var rfl) (hh2.at 4 rfl) hget) ev_c rv_I0)) (decide_eq_decide.mpr (by omega))) (fun c0 H3 am => ?_) fun c0 H3 am => ?_
    · have c0 := of_decide_eq_true c0
      have hg : ∀ w, decide (0 < cntD (v ++ [c]) w) = decide (0 < cntD v w) := fun w => by
        by_cases e : w = lps (v ++ [c])
        · rw [e, decide_eq_true hWp, decide_eq_true c0]
        · exact pos_cut e
      refine a_ret am ev_c fun H4 am => ?_
      have z := k kT' kU H4 ⟨hd.congr hg fun _ _ => rfl, ok.tails.congr (fun w => by rw [hg]) fun _ _ => rfl⟩ am
      rw [decide_eq_false (by omega)] at z
      exact z
    · have c0 := of_decide_eq_false c0
      have c0 : cntD v (lps (v ++ [c])) = 0 := by omega
      refine aq_dpop 4 (k := kW (lps (v ++ [c]))) am rfl (e_told bc (ev_var rfl) am.hasAll) (ev_var rfl) hget fun H4 am => ?_
      have am : Am (bkS g b) H (bkL A g b t hs es (dropK kT' (kW (lps (v ++ [c])))) kU) H4 := am
      refine aq_dpop 5 (k := kW (lps (v ++ [c]))) am rfl (e_tails bc (ev_var rfl) am.hasAll) (ev_var rfl) (tails_at ok (.inr hWp)) fun H5 am => ?_
      have am : Am (bkS g b) H (bkL A g b t hs es (dropK kT' (kW (lps (v ++ [c])))) (dropK kU (kW (lps (v ++ [c]))))) H5 := am
      refine a_ret am ev_c fun H6 am => ?_
      have z := k _ _ H6 ⟨(hd.drop _).congr (fun w => ?_) fun _ _ => rfl, (ok.tails.drop (lps (v ++ [c]))).congr (fun w => ?_) fun _ _ => rfl⟩ am
      · rw [decide_eq_true c0] at z
        exact z
      · by_cases e : w = lps (v ++ [c])
        · rw [decide_eq_true e, e, c0]; rfl
        · rw [decide_eq_false e, pos_cut e]; rfl
      · by_cases e : w = lps (v ++ [c])
        · rw [decide_eq_true e, e, c0, decide_eq_false hW0]; rfl
        · rw [decide_eq_false e, pos_cut e]; rfl
/-! ## put_last -/
/-- the word, where it is a new one -/
def newV (n : Nat) (w : Tx) : V := if n = 0 then tS w else .non
theorem xq_need_room {A : Ad} {S : List Addr} {H0 H : Hp} {L : List (Addr × HO)} {σ : L2.St} {te tp : TE} {D : Ends} {tz : TS} {g : Addr} {b : BA} {t : Tx} {hs es : List V} {kT kU : List (Key × V)} {E : XK} {x : V} {o : Option Tx} {C : Addr} (am : Am S H0 L H) (h : Ev te σ H (.ref g)) (hp : Ev tp σ H x)
    (hh : Has H (bkL A g b t hs es kT kU)) (hx : Thing A.K H x o) (hC : (oLet o = false ∧ C = A.cBL) ∨ (oLet o = true ∧ t.length = 200 ∧ C = A.cFu)) (k : ∀ H, Am S H0 L H → E (.ref C) none H) : tSeq (tDrop (tMeth A.cBook "need_room" (sp_Book_need_room A) [] E te (tCons tp tNil))) tz D σ H :=
  t_meth (Q := fun _ H2 => tz D σ H2) h (hh.at 0 rfl) rfl (ea_cons hp ea_nil) fun H1 e1 => .inr ⟨C, ⟨g, b, t, hs, es, kT, kU, x, o, rfl, hh.ex e1, hx.ex e1, hC⟩, fun H2 e2 => k H2 (am.ex (e1.trans e2))⟩
theorem aq_need_room {A : Ad} {S : List Addr} {H0 H : Hp} {L : List (Addr × HO)} {σ : L2.St} {te tp : TE} {D : Ends} {tz : TS} {g : Addr} {b : BA} {t : Tx} {hs es : List V} {kT kU : List (Key × V)} {E : XK} {c : Nat} (am : Am S H0 L H) (h : Ev te σ H (.ref g)) (hp : Ev tp σ H (tS [c]))
    (hh : Has H (bkL A g b t hs es kT kU)) (hc : c ∈ letters) (hl : t.length < 200) (k : ∀ H, Am S H0 L H → tz D σ H) : tSeq (tDrop (tMeth A.cBook "need_room" (sp_Book_need_room A) [] E te (tCons tp tNil))) tz D σ H :=
  aq_drop am (v := .non) (e_methVX h (hh.at 0 rfl) rfl (ea_cons hp ea_nil) fun H1 e => ⟨g, b, t, hs, es, kT, kU, c, rfl, hh.ex e, hc, hl, rfl⟩) k
/-- what a put asks for, and what it may refuse -/
def spPut (A : Ad) (N : Tx → Nat → Tx) (W : Tx → Nat → Tx) : Sp := fun vs H Q E =>
  (∃ g b t kT kU c, vs = [.ref g, tS [c]] ∧ BkAt A g b t kT kU H ∧ c ∈ letters ∧ t.length < 200 ∧ ∀ kT' kU' H', BkOk (cntD (N t c)) kT' kU' → Am (bkS g b) H (bkL A g b (N t c) (hdV (N t c)) (enV (N t c)) kT' kU') H' → Q (newV (cntD t (W t c)) (W t c)) H') ∨
  (∃ g b t hs es kT kU x o C, vs = [.ref g, x] ∧ Has H (bkL A g b t hs es kT kU) ∧ Thing A.K H x o ∧ ((oLet o = false ∧ C = A.cBL) ∨ (oLet o = true ∧ t.length = 200 ∧ C = A.cFu)) ∧ ∀ H', Ex H H' → E (.ref C) none H')
theorem len_spPut (A : Ad) (N : Tx → Nat → Tx) (W : Tx → Nat → Tx) : ∀ vs H Q E, spPut A N W vs H Q E → vs.length = 2 := fun vs H Q E h => by
  rcases h with ⟨g, b, t, kT, kU, c, rfl, _⟩ | ⟨g, b, t, hs, es, kT, kU, x, o, C, rfl, _⟩ <;> rfl
theorem rowV_snoc {n : Nat} {F G : Nat → Nat} {y : Nat} (h : ∀ i, i < n → G i = F i) (h2 : G n = y) : rowV n F ++ [V.int (y : Nat)] = rowV (n + 1) G := by
  unfold rowV
  rw [List.range_succ, List.map_append]
  congr 1
  · exact List.map_congr_left fun i hi => by rw [h i (List.mem_range.mp hi)]
  · rw [List.map_singleton, h2]; rfl
theorem rowV_congr {n : Nat} {F G : Nat → Nat} (h : ∀ i, i < n → F i = G i) : rowV n F = rowV n G := by
  unfold rowV
  exact List.map_congr_left fun i hi => by rw [h i (List.mem_range.mp hi)]
theorem rowV_set {n : Nat} {F : Nat → Nat} {j y : Nat} : (rowV n F).set j (V.int (y : Nat)) = rowV n fun i => if i = j then y else F i := by
  unfold rowV
  rw [set_range]
  refine List.map_congr_left fun i _ => ?_
  by_cases h : i = j
  · subst h; simp only [if_true]; rfl
  · simp only [if_neg h]
theorem rowV_cons {n : Nat} {F G : Nat → Nat} {y : Nat} (h : ∀ i, i < n → G (i + 1) = F i) (h2 : G 0 = y) : V.int (y : Nat) :: rowV n F = rowV (n + 1) G := by
  unfold rowV
  rw [List.range_succ_eq_map, List.map_cons, List.map_map, h2]
  congr 1
  exact List.map_congr_left fun i hi => by
    show _ = vN (G (i + 1))
    rw [h i (List.mem_range.mp hi)]
theorem okT_iff2 {l : Tx} : okT l = true ↔ ∀ c ∈ l, c < 0x110000 := by
  unfold okT
  show PyData.strOk (T l) = true ↔ _
  unfold PyData.strOk
  rw [← Array.all_toList, T_cps, List.all_eq_true]
  exact ⟨fun h c hc => of_decide_eq_true (h c hc), fun h c hc => decide_eq_true (h c hc)⟩
theorem let_lt2 : ∀ c ∈ letters, c < 0x110000 := by decide
theorem okT_lets2 {l : Tx} (h : ∀ c ∈ l, c ∈ letters) : okT l = true := okT_iff2.mpr fun c hc => let_lt2 c (h c hc)
theorem okT_let {c : Nat} (h : c ∈ letters) : okT [c] = true := okT_lets2 fun d hd => by rw [List.mem_singleton.mp hd]; exact h
theorem ltV_snoc (t : Tx) (c : Nat) : ltV t ++ [tS [c]] = ltV (t ++ [c]) := by unfold ltV; rw [List.map_append]; rfl
/-- letters != [] -/
theorem et_lets {A : Ad} {σ : L2.St} {H : Hp} {te : TE} {g : Addr} {b : BA} {t : Tx} {hs es : List V} {kT kU : List (Key × V)} (bc : BC A) (h : Ev te σ H (.ref g)) (hh : Has H (bkL A g b t hs es kT kU)) (hl : ∀ c ∈ t, c ∈ letters) : EvT (tTest (tOp (rNeD A.K) (tFld A.K te "letters") (tLst tNil))) σ H (!decide (t = [])) := by
  have e : ltV t = (t.map fun c => [c]).map tS := by unfold ltV; rw [List.map_map]; rfl
  have h1 := hh.at 1 rfl
  refine et_is (et_test (ev_opL (e_lets bc h hh) (el_lst (vs := []) ea_nil (by decide)) fun q H1 h2 e1 => rv_neTs (K := A.K) (a := t.map fun c => [c]) (b := []) (by rw [← e]; exact sq_of (e1 _ _ h1)) (sq_of h2) (fun l hl' => ?_) fun l hl' => by cases hl')) ?_
  · obtain ⟨c, hc, rfl⟩ := List.mem_map.mp hl'
    exact okT_let (hl c hc)
  · congr 1
    exact decide_eq_decide.mpr List.map_eq_nil_iff

end Mw
namespace Mw
open PySem PySem.Spec PyProof.Rows L2 Evl
local macro_rules | `(tactic| walk_at "sd") => `(tactic| (first
  | assumption
  | omega
  | decide
  | (simp only [List.length_append, List.length_cons, List.length_nil, List.length_reverse, List.length_take, List.length_drop, List.length_map, List.length_range] at *; omega)
  | skip))
local macro_rules | `(tactic| walk_at "ev") => `(tactic| (first
  | ((with_reducible apply ev_var); rfl)
  | (with_reducible exact ev_c)
  | ((with_reducible apply ev_op) <;> walk_at "ev")
  | ((with_reducible apply e_negI) <;> walk_at "ev")
  | ((with_reducible apply et_test) <;> walk_at "ev")
  | ((with_reducible apply et_B) <;> walk_at "ev")
  | ((with_reducible apply et_and); (focus walk_at "ev"); intro hq; (try simp only [Bool.and_eq_true, Bool.or_eq_true, decide_eq_true_eq, Bool.not_eq_true', decide_eq_false_iff_not, Bool.and_eq_false_iff, Bool.or_eq_false_iff, Bool.not_eq_false'] at hq); walk_at "ev")
  | ((with_reducible apply et_or); (focus walk_at "ev"); intro hq; (try simp only [Bool.and_eq_true, Bool.or_eq_true, decide_eq_true_eq, Bool.not_eq_true', decide_eq_false_iff_not, Bool.and_eq_false_iff, Bool.or_eq_false_iff, Bool.not_eq_false'] at hq); walk_at "ev")
  | ((with_reducible apply ev_andV); (focus walk_at "ev"); intro hq; (try simp only [Bool.and_eq_true, Bool.or_eq_true, decide_eq_true_eq, Bool.not_eq_true', decide_eq_false_iff_not, Bool.and_eq_false_iff, Bool.or_eq_false_iff, Bool.not_eq_false'] at hq); walk_at "ev")
  | ((with_reducible apply ev_orV); (focus walk_at "ev"); intro hq; (try simp only [Bool.and_eq_true, Bool.or_eq_true, decide_eq_true_eq, Bool.not_eq_true', decide_eq_false_iff_not, Bool.and_eq_false_iff, Bool.or_eq_false_iff, Bool.not_eq_false'] at hq); walk_at "ev")
  | ((with_reducible apply e_if); (focus walk_at "ev"); (focus (intro hq; (try simp only [Bool.and_eq_true, Bool.or_eq_true, decide_eq_true_eq, Bool.not_eq_true', decide_eq_false_iff_not, Bool.and_eq_false_iff, Bool.or_eq_false_iff, Bool.not_eq_false'] at hq); walk_at "ev")); (intro hq; (try simp only [Bool.and_eq_true, Bool.or_eq_true, decide_eq_true_eq, Bool.not_eq_true', decide_eq_false_iff_not, Bool.and_eq_false_iff, Bool.or_eq_false_iff, Bool.not_eq_false'] at hq); walk_at "ev"))
  | ((with_reducible apply et_not) <;> walk_at "ev")
  | ((with_reducible apply ev_notV) <;> walk_at "ev")
  | (with_reducible exact et_yes)
  | (with_reducible exact ea_nil)
  | ((with_reducible apply ea_cons) <;> walk_at "ev")
  | (with_reducible exact eo_none)
  | ((with_reducible apply eo_some) <;> walk_at "ev")
  | ((with_reducible apply e_slBut) <;> walk_at "ev")
  | ((with_reducible apply e_slIn) <;> walk_at "ev")
  | ((with_reducible apply e_slTo) <;> walk_at "ev")
  | ((with_reducible apply e_slFrom) <;> walk_at "ev")
  | ((with_reducible apply e_slMid) <;> walk_at "ev")
  | ((with_reducible apply e_rev) <;> walk_at "ev")
  | (with_reducible exact rv_I0)
  | (with_reducible exact r_eqI) | (with_reducible exact r_neI) | (with_reducible exact r_eqS) | (with_reducible exact r_neS)
  | (with_reducible exact r_inC) | (with_reducible exact r_ninC) | (with_reducible exact r_isN) | (with_reducible exact r_notN)
  | (with_reducible exact r_ltT) | (with_reducible exact r_gtT)
  | (with_reducible exact rc_max2) | (with_reducible exact rc_min2)
  | ((with_reducible apply r_divI) <;> walk_at "sd") | ((with_reducible apply r_modI) <;> walk_at "sd") | ((with_reducible apply r_mulI) <;> walk_at "sd")
  | ((with_reducible apply r_ixS) <;> walk_at "sd")
  | ((with_reducible apply r_addT) <;> walk_at "sd")
  | ((with_reducible apply r_mulT) <;> walk_at "sd")
  | ((with_reducible apply rc_lenT) <;> walk_at "sd")
  | ((with_reducible apply rc_lenL) <;> walk_at "sd")
  | ((with_reducible apply ev_cb) <;> walk_at "ev")
  | walk_at "evc"
  | walk_at "sd"))

/-! ## put_last -/
def sp_Book_put_last (A : Ad) : Sp := spPut A (fun t c => t ++ [c]) fun t c => lps (t ++ [c])
def t_Book_put_last (A : Ad) (E : XK) : TS :=
  (tSeq (tDrop (tMeth A.cBook "need_room" (sp_Book_need_room A) [] E (tVar 0) (tCons (tVar 1) tNil)))
  (tSeq (tAsg (tMeth A.cBook "grown" (sp_Book_grown A) [] E0 (tVar 0) (tCons (tIf (tTest (tOp (rNeD A.K) (tFld A.K (tVar 0) "letters") (tLst tNil))) (tMeth A.cBook "ends_at" (sp_Book_ends_at A) [] E (tVar 0) (tCons (tOp rSubI (tCB (rLenS A.K) (tCons (tFld A.K (tVar 0) "letters") tNil)) (tC (.int 1))) tNil)) (tC (tS []))) (tCons (tVar 1) (tCons (tC (.bl true)) tNil)))) (gName 2))
  (tSeq (tAsg (tMeth A.cBook "met" (sp_Book_met A) [] E0 (tVar 0) (tCons (tVar 2) (tCons (tVar 1) (tCons (tC (.bl true)) tNil)))) (gName 3))
  (tSeq (tDrop (tBM A.K "list" rAppend (tFld A.K (tVar 0) "letters") (tCons (tVar 1) tNil)))
  (tSeq (tDrop (tBM A.K "list" rAppend (tFld A.K (tVar 0) "heads") (tCons (tC (.int 1)) tNil)))
  (tSeq (tDrop (tBM A.K "list" rAppend (tFld A.K (tVar 0) "ends") (tCons (tCB rLenT (tCons (tVar 2) tNil)) tNil)))
  (tSeq (tAsg (tVar 2) (gName 4))
  (tSeq (tWhile (tTest (tOp rNe (tVar 4) (tC (tS []))))
  (tSeq (tAsg (tCB rLenT (tCons (tVar 4) tNil)) (gSub (tFld A.K (tVar 0) "heads") (tOp rSubI (tCB (rLenS A.K) (tCons (tFld A.K (tVar 0) "letters") tNil)) (tCB rLenT (tCons (tVar 4) tNil))) rSetL))
  (tAsg (tDGet (tFld A.K (tVar 0) "tails") (tVar 4)) (gName 4))))
  (tRet (tIf (tB (tVar 3)) (tVar 2) (tC .non)))))))))))

theorem len_Book_put_last (A : Ad) : ∀ vs H Q E, sp_Book_put_last A vs H Q E → vs.length = 2 := len_spPut A _ _
theorem ret_new {σ : L2.St} {H : Hp} {D : Ends} {i j n : Nat} {w : Tx} (h1 : σ[i]? = some (some (.bl (decide (n = 0))))) (h2 : σ[j]? = some (some (tS w))) (k : ∀ H1, Ex H H1 → D.rt (newV n w) H1) : tRet (tIf (tB (tVar i)) (tVar j) (tC .non)) D σ H :=
  s_ret (ev_if (b := decide (n = 0)) (et_B (ev_var h1)) (fun c => by
    have e : newV n w = tS w := if_pos (of_decide_eq_true c)
    rw [e]; exact ev_var h2) fun c => by
    have e : newV n w = .non := if_neg (of_decide_eq_false c)
    rw [e]; exact ev_c) k
theorem pu_Book_put_last (A : Ad) (bc : BC A) (vs : List V) (H : Hp) (Q : VK) (E : XK) (h : sp_Book_put_last A vs H Q E) : t_Book_put_last A E { nx := fun _ H' => Q .non H', rt := Q } (start ["self", "letter", "word", "is_new", "one"] vs) H := by
  rcases h with ⟨g, b, t, kT, kU, c, rfl, hb, hc, hl, k⟩ | ⟨g, b, t, hs, es, kT, kU, x, o, C, rfl, hh, hx, hC, k⟩
  · show t_Book_put_last A E _ [some (.ref g), some (tS [c]), none, none, none] H
    unfold t_Book_put_last
    have am : Am (bkS g b) H (bkL A g b t (hdV t) (enV t) kT kU) H := hb.has.am
    refine aq_need_room am (ev_var rfl) (ev_var rfl) hb.has hc hl fun H1 am => ?_
    have hb1 : BkAt A g b t kT kU H1 := ⟨am.hasAll, hb.ok, hb.lets, hb.len⟩
    have hW1 := (lps_suf t).length_le
    refine aq_asg am (v := tS (lps (t ++ [c]))) (ev_is (c_grown (w0 := lps t) (c := c) (bh := true) (ev_var rfl) (ev_if (b := !decide (t = [])) (et_lets bc (ev_var rfl) hb1.has hb1.lets) (fun c0 => ?_) fun c0 => ?_) (ev_var rfl) ev_c hb1.has (by omega) (lps_lps t) (by omega) fun w hw => tails_at hb.ok (.inr (ends_pos (by rw [← endsT_lps]; exact hw)))) ?_) fun H2 am => ?_
    · have ht : t ≠ [] := fun z => by rw [decide_eq_true z] at c0; cases c0
      have hp := List.length_pos_iff.mpr ht
      have z := c_ends (A := A) (σ := [some (.ref g), some (tS [c]), none, none, none]) (H := H1) (te := tVar 0) (tp := tOp rSubI (tCB (rLenS A.K) (tCons (tFld A.K (tVar 0) "letters") tNil)) (tC (.int 1))) (E := E) (p := t.length - 1) (ev_var rfl) (ev_is (ev_op (e_lenLets bc (ev_var rfl) hb1.has) ev_c rv_I0) (by congr 1; omega)) hb1 (by omega)
      rw [show t.length - 1 + 1 = t.length by omega, List.take_length] at z
      exact z
    · have ht : t = [] := by
        by_cases z : t = []
        · exact z
        · rw [decide_eq_false z] at c0; cases c0
      subst ht; exact ev_c
    · rw [endsT_lps]
      show tS (grow t c (endsT t)) = _
      rw [grow_lps]
    dsimp only [List.set]
    have hWl : (lps (t ++ [c])).length ≤ t.length + 1 := by
      have := (lps_suf (t ++ [c])).length_le
      rwa [List.length_append] at this
    refine aq_methA am (ev_var rfl) (am.at 0 rfl) rfl (ea_cons (ev_var rfl) (ea_cons (ev_var rfl) (ea_cons ev_c ea_nil))) fun H3 am => ?_
    refine ⟨g, b, t, hdV t, enV t, kT, kU, c, true, rfl, am.hasAll, hb.ok, hl, fun kT' kU' H4 ok am2 => ?_⟩
    have am : Am (bkS g b) H (bkL A g b t (hdV t) (enV t) kT' kU') H4 := Am.call (La := bkL A g b t (hdV t) (enV t) kT kU) (L := []) am am2
    have ok : BkOk (cntD (t ++ [c])) kT' kU' := ok
    dsimp only [List.set]
    show (tSeq _ _) _ [some (.ref g), some (tS [c]), some (tS (lps (t ++ [c]))), some (.bl (decide (cntD t (lps (t ++ [c])) = 0))), none] H4
    refine aq_app 1 am rfl (e_lets bc (ev_var rfl) am.hasAll) (ev_var rfl) (by rw [len_ltV]; omega) fun H5 am => ?_
    rw [ltV_snoc] at am
    have am : Am (bkS g b) H (bkL A g b (t ++ [c]) (hdV t) (enV t) kT' kU') H5 := am
    refine aq_app 2 am rfl (e_heads bc (ev_var rfl) am.hasAll) ev_c (by rw [len_rowV]; omega) fun H6 am => ?_
    have am : Am (bkS g b) H (bkL A g b (t ++ [c]) (hdV t ++ [.int 1]) (enV t) kT' kU') H6 := am
    rw [show hdV t ++ [V.int 1] = rowV (t.length + 1) (fun i => if i = t.length then 1 else hdN t i) from rowV_snoc (y := 1) (fun i hi => if_neg (by omega)) (if_pos rfl)] at am
    refine aq_app 3 am rfl (e_ends bc (ev_var rfl) am.hasAll) (ev_cb (ea_cons (ev_var rfl) ea_nil) (rc_lenT (by omega))) (by rw [len_rowV]; omega) fun H7 am => ?_
    have am : Am (bkS g b) H (bkL A g b (t ++ [c]) (rowV (t.length + 1) (fun i => if i = t.length then 1 else hdN t i)) (enV t ++ [.int ((lps (t ++ [c])).length : Nat)]) kT' kU') H7 := am
    have hen : enV t ++ [V.int ((lps (t ++ [c])).length : Nat)] = enV (t ++ [c]) := by
      show _ = rowV (t ++ [c]).length _
      rw [List.length_append, List.length_singleton]
      exact rowV_snoc (fun i hi => enN_snoc hi) (enN_last t c)
    rw [hen] at am
    refine aq_asg am (ev_var rfl) fun H8 am => ?_
    dsimp only [List.set]
    have hlen : (t ++ [c]).length = t.length + 1 := by rw [List.length_append]; rfl
    refine aq_chain (j := 4) (endsT (t ++ [c])) (fun pre H' => Am (bkS g b) H (bkL A g b (t ++ [c]) (rowV (t.length + 1) (chF (fun w => (t ++ [c]).length - w.length) (fun i => t.length + 1 - i) (fun i => if i = t.length then 1 else hdN t i) pre)) (enV (t ++ [c])) kT' kU') H') rfl
      (fun w hw => (mir_iff.mp (mem_ends.mp hw).1).2) am (fun pre H1 H2 e am => am.ex e) ?_ ?_ ?_
    · intro pre w post H9 hE am D' hD
      obtain ⟨hw1, hw2⟩ := ends_len (u := t ++ [c]) (w := w) (by rw [hE]; simp)
      rw [hlen] at hw2
      refine a_setL 2 (v := .int (w.length : Nat)) (j := (t ++ [c]).length - w.length) am rfl (ev_cb (ea_cons (ev_var rfl) ea_nil) (rc_lenT (by omega))) (e_heads bc (ev_var rfl) am.hasAll) (ev_is (ev_op (e_lenLets bc (ev_var rfl) am.hasAll) (ev_cb (ea_cons (ev_var rfl) ea_nil) (rc_lenT (by omega))) rv_I0) (by congr 1; omega)) (by rw [len_rowV, hlen]; omega) fun H10 am => hD H10 ?_
      have am : Am (bkS g b) H (bkL A g b (t ++ [c]) ((rowV (t.length + 1) (chF (fun w => (t ++ [c]).length - w.length) (fun i => t.length + 1 - i) (fun i => if i = t.length then 1 else hdN t i) pre)).set ((t ++ [c]).length - w.length) (.int (w.length : Nat))) (enV (t ++ [c])) kT' kU') H10 := am
      rw [rowV_set] at am
      rw [chF_snoc]
      rw [show t.length + 1 - ((t ++ [c]).length - w.length) = w.length by omega]
      exact am
    · intro pre w post H9 hE am
      exact e_dget (k := kW w) (e_tails bc (ev_var rfl) am.hasAll) (ev_var rfl) (am.at 5 rfl) (by rw [tails_at ok (.inr (ends_pos (by rw [hE]; simp))), chain_next hE])
    · intro H9 am
      have hhd : rowV (t.length + 1) (chF (fun w => (t ++ [c]).length - w.length) (fun i => t.length + 1 - i) (fun i => if i = t.length then 1 else hdN t i) (endsT (t ++ [c]))) = hdV (t ++ [c]) := by
        have e := rowV_congr (n := t.length + 1) (G := hdN (t ++ [c])) fun i hi => hd_put (c := c) hi
        rw [e]
        show _ = rowV (t ++ [c]).length _
        rw [hlen]
      rw [hhd] at am
      exact ret_new (i := 3) (j := 2) rfl rfl fun H10 e => k kT' kU' H10 ok (am.ex e)
  · show t_Book_put_last A E _ [some (.ref g), some x, none, none, none] H
    unfold t_Book_put_last
    exact xq_need_room (Am.start H) (ev_var rfl) (ev_var rfl) hh hx hC fun H1 am => k H1 am.toEx
/-! ## put_first -/
def sp_Book_put_first (A : Ad) : Sp := spPut A (fun t c => c :: t) fun t c => lps (t.reverse ++ [c])
def t_Book_put_first (A : Ad) (E : XK) : TS :=
  (tSeq (tDrop (tMeth A.cBook "need_room" (sp_Book_need_room A) [] E (tVar 0) (tCons (tVar 1) tNil)))
  (tSeq (tAsg (tMeth A.cBook "grown" (sp_Book_grown A) [] E0 (tVar 0) (tCons (tIf (tTest (tOp (rNeD A.K) (tFld A.K (tVar 0) "letters") (tLst tNil))) (tMeth A.cBook "begins_at" (sp_Book_begins_at A) [] E (tVar 0) (tCons (tC (.int 0)) tNil)) (tC (tS []))) (tCons (tVar 1) (tCons (tC (.bl false)) tNil)))) (gName 2))
  (tSeq (tAsg (tMeth A.cBook "met" (sp_Book_met A) [] E0 (tVar 0) (tCons (tVar 2) (tCons (tVar 1) (tCons (tC (.bl false)) tNil)))) (gName 3))
  (tSeq (tDrop (tBM A.K "list" rInsert (tFld A.K (tVar 0) "letters") (tCons (tC (.int 0)) (tCons (tVar 1) tNil))))
  (tSeq (tDrop (tBM A.K "list" rInsert (tFld A.K (tVar 0) "heads") (tCons (tC (.int 0)) (tCons (tCB rLenT (tCons (tVar 2) tNil)) tNil))))
  (tSeq (tDrop (tBM A.K "list" rInsert (tFld A.K (tVar 0) "ends") (tCons (tC (.int 0)) (tCons (tC (.int 1)) tNil))))
  (tSeq (tAsg (tVar 2) (gName 4))
  (tSeq (tWhile (tTest (tOp rNe (tVar 4) (tC (tS []))))
  (tSeq (tAsg (tCB rLenT (tCons (tVar 4) tNil)) (gSub (tFld A.K (tVar 0) "ends") (tOp rSubI (tCB rLenT (tCons (tVar 4) tNil)) (tC (.int 1))) rSetL))
  (tAsg (tDGet (tFld A.K (tVar 0) "tails") (tVar 4)) (gName 4))))
  (tRet (tIf (tB (tVar 3)) (tVar 2) (tC .non)))))))))))

theorem len_Book_put_first (A : Ad) : ∀ vs H Q E, sp_Book_put_first A vs H Q E → vs.length = 2 := len_spPut A _ _
theorem cntD_cons (t : Tx) (c : Nat) : cntD (t.reverse ++ [c]) = cntD (c :: t) := by
  funext w
  rw [← List.reverse_cons, cntD_rev]
theorem pu_Book_put_first (A : Ad) (bc : BC A) (vs : List V) (H : Hp) (Q : VK) (E : XK) (h : sp_Book_put_first A vs H Q E) : t_Book_put_first A E { nx := fun _ H' => Q .non H', rt := Q } (start ["self", "letter", "word", "is_new", "one"] vs) H := by
  rcases h with ⟨g, b, t, kT, kU, c, rfl, hb, hc, hl, k⟩ | ⟨g, b, t, hs, es, kT, kU, x, o, C, rfl, hh, hx, hC, k⟩
  · show t_Book_put_first A E _ [some (.ref g), some (tS [c]), none, none, none] H
    unfold t_Book_put_first
    have am : Am (bkS g b) H (bkL A g b t (hdV t) (enV t) kT kU) H := hb.has.am
    refine aq_need_room am (ev_var rfl) (ev_var rfl) hb.has hc hl fun H1 am => ?_
    have hb1 : BkAt A g b t kT kU H1 := ⟨am.hasAll, hb.ok, hb.lets, hb.len⟩
    have hW1 := (lps_suf t.reverse).length_le
    rw [List.length_reverse] at hW1
    refine aq_asg am (v := tS (lps (t.reverse ++ [c]))) (ev_is (c_grown (w0 := lps t.reverse) (c := c) (bh := false) (ev_var rfl) (ev_if (b := !decide (t = [])) (et_lets bc (ev_var rfl) hb1.has hb1.lets) (fun c0 => ?_) fun c0 => ?_) (ev_var rfl) ev_c hb1.has (by omega) (lps_lps t.reverse) (by omega) fun w hw => tails_at hb.ok (.inr (by rw [← cntD_rev]; exact ends_pos (by rw [← endsT_lps]; exact hw)))) ?_) fun H2 am => ?_
    · have ht : t ≠ [] := fun z => by rw [decide_eq_true z] at c0; cases c0
      have hp := List.length_pos_iff.mpr ht
      exact c_begins (p := 0) (ev_var rfl) ev_c hb1 hp
    · have ht : t = [] := by
        by_cases z : t = []
        · exact z
        · rw [decide_eq_false z] at c0; cases c0
      subst ht; exact ev_c
    · rw [endsT_lps]
      show tS (grow t.reverse c (endsT t.reverse)) = _
      rw [grow_lps]
    dsimp only [List.set]
    have hWl : (lps (t.reverse ++ [c])).length ≤ t.length + 1 := by
      have := (lps_suf (t.reverse ++ [c])).length_le
      rwa [List.length_append, List.length_reverse] at this
    refine aq_methA am (ev_var rfl) (am.at 0 rfl) rfl (ea_cons (ev_var rfl) (ea_cons (ev_var rfl) (ea_cons ev_c ea_nil))) fun H3 am => ?_
    refine ⟨g, b, t, hdV t, enV t, kT, kU, c, false, rfl, am.hasAll, hb.ok, hl, fun kT' kU' H4 ok am2 => ?_⟩
    have am : Am (bkS g b) H (bkL A g b t (hdV t) (enV t) kT' kU') H4 := Am.call (La := bkL A g b t (hdV t) (enV t) kT kU) (L := []) am am2
    have ok : BkOk (cntD (t.reverse ++ [c])) kT' kU' := ok
    have ok2 : BkOk (cntD (c :: t)) kT' kU' := by rw [← cntD_cons]; exact ok
    dsimp only [List.set]
    show (tSeq _ _) _ [some (.ref g), some (tS [c]), some (tS (lps (t.reverse ++ [c]))), some (.bl (decide (cntD t (lps (t.reverse ++ [c])) = 0))), none] H4
    refine aq_ins0 1 am rfl (e_lets bc (ev_var rfl) am.hasAll) (ev_var rfl) (by rw [len_ltV]; omega) fun H5 am => ?_
    have am : Am (bkS g b) H (bkL A g b (c :: t) (hdV t) (enV t) kT' kU') H5 := am
    refine aq_ins0 2 am rfl (e_heads bc (ev_var rfl) am.hasAll) (ev_cb (ea_cons (ev_var rfl) ea_nil) (rc_lenT (by omega))) (by rw [len_rowV]; omega) fun H6 am => ?_
    have am : Am (bkS g b) H (bkL A g b (c :: t) (.int ((lps (t.reverse ++ [c])).length : Nat) :: hdV t) (enV t) kT' kU') H6 := am
    have hhd : V.int ((lps (t.reverse ++ [c])).length : Nat) :: hdV t = hdV (c :: t) := by
      show _ = rowV (t.length + 1) _
      exact rowV_cons (fun i hi => hdN_cons t c i) (hdN_first t c)
    rw [hhd] at am
    refine aq_ins0 3 am rfl (e_ends bc (ev_var rfl) am.hasAll) ev_c (by rw [len_rowV]; omega) fun H7 am => ?_
    have am : Am (bkS g b) H (bkL A g b (c :: t) (hdV (c :: t)) (.int 1 :: enV t) kT' kU') H7 := am
    have hen : V.int 1 :: enV t = rowV (t.length + 1) (fun i => if i = 0 then 1 else enN t (i - 1)) := rowV_cons (y := 1) (fun i hi => by rw [if_neg (by omega)]; rfl) (if_pos rfl)
    rw [hen] at am
    refine aq_asg am (ev_var rfl) fun H8 am => ?_
    dsimp only [List.set]
    have hlen : (t.reverse ++ [c]).length = t.length + 1 := by rw [List.length_append, List.length_reverse]; rfl
    refine aq_chain (j := 4) (endsT (t.reverse ++ [c])) (fun pre H' => Am (bkS g b) H (bkL A g b (c :: t) (hdV (c :: t)) (rowV (t.length + 1) (chF (fun w => w.length - 1) (fun i => i + 1) (fun i => if i = 0 then 1 else enN t (i - 1)) pre)) kT' kU') H') rfl
      (fun w hw => (mir_iff.mp (mem_ends.mp hw).1).2) am (fun pre H1 H2 e am => am.ex e) ?_ ?_ ?_
    · intro pre w post H9 hE am D' hD
      obtain ⟨hw1, hw2⟩ := ends_len (u := t.reverse ++ [c]) (w := w) (by rw [hE]; simp)
      rw [hlen] at hw2
      refine a_setL 3 (v := .int (w.length : Nat)) (j := w.length - 1) am rfl (ev_cb (ea_cons (ev_var rfl) ea_nil) (rc_lenT (by omega))) (e_ends bc (ev_var rfl) am.hasAll) (ev_is (ev_op (ev_cb (ea_cons (ev_var rfl) ea_nil) (rc_lenT (by omega))) ev_c rv_I0) (by congr 1; omega)) (by rw [len_rowV]; omega) fun H10 am => hD H10 ?_
      have am : Am (bkS g b) H (bkL A g b (c :: t) (hdV (c :: t)) ((rowV (t.length + 1) (chF (fun w => w.length - 1) (fun i => i + 1) (fun i => if i = 0 then 1 else enN t (i - 1)) pre)).set (w.length - 1) (.int (w.length : Nat))) kT' kU') H10 := am
      rw [rowV_set] at am
      rw [chF_snoc]
      rw [show w.length - 1 + 1 = w.length by omega]
      exact am
    · intro pre w post H9 hE am
      exact e_dget (k := kW w) (e_tails bc (ev_var rfl) am.hasAll) (ev_var rfl) (am.at 5 rfl) (by rw [tails_at ok (.inr (ends_pos (by rw [hE]; simp))), chain_next hE])
    · intro H9 am
      have hen2 : rowV (t.length + 1) (chF (fun w => w.length - 1) (fun i => i + 1) (fun i => if i = 0 then 1 else enN t (i - 1)) (endsT (t.reverse ++ [c]))) = enV (c :: t) := by
        show _ = rowV (t.length + 1) _
        exact rowV_congr fun i hi => en_put hi
      rw [hen2] at am
      exact ret_new (i := 3) (j := 2) rfl rfl fun H10 e => k kT' kU' H10 ok2 (am.ex e)
  · show t_Book_put_first A E _ [some (.ref g), some x, none, none, none] H
    unfold t_Book_put_first
    exact xq_need_room (Am.start H) (ev_var rfl) (ev_var rfl) hh hx hC fun H1 am => k H1 am.toEx

end Mw
namespace Mw
open PySem PySem.Spec PyProof.Rows L2 Evl
local macro_rules | `(tactic| walk_at "sd") => `(tactic| (first
  | assumption
  | omega
  | decide
  | (simp only [List.length_append, List.length_cons, List.length_nil, List.length_reverse, List.length_take, List.length_drop, List.length_map, List.length_range] at *; omega)
  | skip))
local macro_rules | `(tactic| walk_at "ev") => `(tactic| (first
  | ((with_reducible apply ev_var); rfl)
  | (with_reducible exact ev_c)
  | ((with_reducible apply ev_op) <;> walk_at "ev")
  | ((with_reducible apply e_negI) <;> walk_at "ev")
  | ((with_reducible apply et_test) <;> walk_at "ev")
  | ((with_reducible apply et_B) <;> walk_at "ev")
  | ((with_reducible apply et_and); (focus walk_at "ev"); intro hq; (try simp only [Bool.and_eq_true, Bool.or_eq_true, decide_eq_true_eq, Bool.not_eq_true', decide_eq_false_iff_not, Bool.and_eq_false_iff, Bool.or_eq_false_iff, Bool.not_eq_false'] at hq); walk_at "ev")
  | ((with_reducible apply et_or); (focus walk_at "ev"); intro hq; (try simp only [Bool.and_eq_true, Bool.or_eq_true, decide_eq_true_eq, Bool.not_eq_true', decide_eq_false_iff_not, Bool.and_eq_false_iff, Bool.or_eq_false_iff, Bool.not_eq_false'] at hq); walk_at "ev")
  | ((with_reducible apply ev_andV); (focus walk_at "ev"); intro hq; (try simp only [Bool.and_eq_true, Bool.or_eq_true, decide_eq_true_eq, Bool.not_eq_true', decide_eq_false_iff_not, Bool.and_eq_false_iff, Bool.or_eq_false_iff, Bool.not_eq_false'] at hq); walk_at "ev")
  | ((with_reducible apply ev_orV); (focus walk_at "ev"); intro hq; (try simp only [Bool.and_eq_true, Bool.or_eq_true, decide_eq_true_eq, Bool.not_eq_true', decide_eq_false_iff_not, Bool.and_eq_false_iff, Bool.or_eq_false_iff, Bool.not_eq_false'] at hq); walk_at "ev")
  | ((with_reducible apply e_if); (focus walk_at "ev"); (focus (intro hq; (try simp only [Bool.and_eq_true, Bool.or_eq_true, decide_eq_true_eq, Bool.not_eq_true', decide_eq_false_iff_not, Bool.and_eq_false_iff, Bool.or_eq_false_iff, Bool.not_eq_false'] at hq); walk_at "ev")); (intro hq; (try simp only [Bool.and_eq_true, Bool.or_eq_true, decide_eq_true_eq, Bool.not_eq_true', decide_eq_false_iff_not, Bool.and_eq_false_iff, Bool.or_eq_false_iff, Bool.not_eq_false'] at hq); walk_at "ev"))
  | ((with_reducible apply et_not) <;> walk_at "ev")
  | ((with_reducible apply ev_notV) <;> walk_at "ev")
  | (with_reducible exact et_yes)
  | (with_reducible exact ea_nil)
  | ((with_reducible apply ea_cons) <;> walk_at "ev")
  | (with_reducible exact eo_none)
  | ((with_reducible apply eo_some) <;> walk_at "ev")
  | ((with_reducible apply e_slBut) <;> walk_at "ev")
  | ((with_reducible apply e_slIn) <;> walk_at "ev")
  | ((with_reducible apply e_slTo) <;> walk_at "ev")
  | ((with_reducible apply e_slFrom) <;> walk_at "ev")
  | ((with_reducible apply e_slMid) <;> walk_at "ev")
  | ((with_reducible apply e_rev) <;> walk_at "ev")
  | (with_reducible exact rv_I0)
  | (with_reducible exact r_eqI) | (with_reducible exact r_neI) | (with_reducible exact r_eqS) | (with_reducible exact r_neS)
  | (with_reducible exact r_inC) | (with_reducible exact r_ninC) | (with_reducible exact r_isN) | (with_reducible exact r_notN)
  | (with_reducible exact r_ltT) | (with_reducible exact r_gtT)
  | (with_reducible exact rc_max2) | (with_reducible exact rc_min2)
  | ((with_reducible apply r_divI) <;> walk_at "sd") | ((with_reducible apply r_modI) <;> walk_at "sd") | ((with_reducible apply r_mulI) <;> walk_at "sd")
  | ((with_reducible apply r_ixS) <;> walk_at "sd")
  | ((with_reducible apply r_addT) <;> walk_at "sd")
  | ((with_reducible apply r_mulT) <;> walk_at "sd")
  | ((with_reducible apply rc_lenT) <;> walk_at "sd")
  | ((with_reducible apply rc_lenL) <;> walk_at "sd")
  | ((with_reducible apply ev_cb) <;> walk_at "ev")
  | walk_at "evc"
  | walk_at "sd"))

/-! ## cut_last, cut_first -/
section
variable {K : PySem.W.Frag} {S : List Addr} {H0 H H1 : Hp} {L : List (Addr × HO)} {σ : L2.St} {te : TE} {D : Ends} {tu tz : TS}
/-- over a new tuple, which stays at the ledger's head -/
theorem aq_forT2 {α : Type} {f : α → V} {ns : List α} {j : Nat} (Iv : Addr → List α → L2.St → Hp → Prop) (am : Am S H0 L H) (h : EvU te σ H (ns.map f)) (h0 : ∀ p H, Am S H0 ((p, .tup (ns.map f)) :: L) H → Iv p [] σ H)
    (hP : ∀ p pre σ' H', Iv p pre σ' H' → H' p = some (.tup (ns.map f)))
    (hs : ∀ p pre n post σ' H', ns = pre ++ n :: post → Iv p pre σ' H' → tu { D with nx := Iv p (pre ++ [n]), ct := Iv p (pre ++ [n]), bk := tz D } (σ'.set j (some (f n))) H')
    (hd : ∀ p σ' H', Iv p ns σ' H' → tz D σ' H') : tSeq (tFor (iTup K te) (gName j) tu) tz D σ H :=
  h H (Ex.refl H) _ fun p H2 hp e2 h2 => by
    have z := aq_for (σ := σ) (H := H2) (D := D) (j := j) (tu := tu) (tz := tz) (wi := iTup K (tC (.ref p))) (f := f) (ns := ns) (Iv p) (am.add hp e2 h2) (wk_tup (K := K) ev_c (st_of h2)) (h0 p) (fun pre σ' H' hi => st_of (hP _ _ _ _ hi)) (hs p) (hd p)
    exact z
end
def spCut (A : Ad) (F : Tx → Nat → Tx) (W : Tx → Nat → Tx) : Sp := fun vs H Q E =>
  (∃ g b v c kT kU, vs = [.ref g] ∧ BkAt A g b (F v c) kT kU H ∧ ∀ kT' kU' H', BkOk (cntD v) kT' kU' → Am (bkS g b) H (bkL A g b v (hdV v) (enV v) kT' kU') H' → Q (newV (cntD v (W v c)) (W v c)) H') ∨
  (∃ g b kT kU, vs = [.ref g] ∧ BkAt A g b [] kT kU H ∧ ∀ H', Ex H H' → E (.ref A.cNP) none H')
theorem len_spCut (A : Ad) (N : Tx → Nat → Tx) (W : Tx → Nat → Tx) : ∀ vs H Q E, spCut A N W vs H Q E → vs.length = 1 := fun vs H Q E h => by
  rcases h with ⟨g, b, v, c, kT, kU, rfl, _⟩ | ⟨g, b, kT, kU, rfl, _⟩ <;> rfl
theorem rows_popped {v : Tx} {c : Nat} {F : Nat → Nat} : rowV (v.length + 1) F = rowV v.length F ++ [V.int (F v.length : Nat)] := (rowV_snoc (fun _ _ => rfl) rfl).symm
theorem suf_drop {u w : Tx} (h : w ∈ endsT u) : u.drop (u.length - w.length) = w := (List.suffix_iff_eq_drop.mp (mem_ends.mp h).2).symm
/-- return word if self.lost(word) else None -/
theorem ret_lost {A : Ad} {S : List Addr} {H0 H : Hp} {σ : L2.St} {D : Ends} {g : Addr} {b : BA} {t v : Tx} {c : Nat} {hs es : List V} {kT kU : List (Key × V)} (am : Am (bkS g b) H0 (bkL A g b t hs es kT kU) H) (h0 : σ[0]? = some (some (.ref g))) (h1 : σ[1]? = some (some (tS (lps (v ++ [c])))))
    (ok : BkOk (cntD (v ++ [c])) kT kU) (hv : v.length ≤ 200) (k : ∀ kT' kU' H', BkOk (cntD v) kT' kU' → Am (bkS g b) H0 (bkL A g b t hs es kT' kU') H' → D.rt (newV (cntD v (lps (v ++ [c]))) (lps (v ++ [c]))) H') :
    tRet (tIf (tB (tMeth A.cBook "lost" (sp_Book_lost A) [] E0 (tVar 0) (tCons (tVar 1) tNil))) (tVar 1) (tC .non)) D σ H := by
  show (tMeth A.cBook "lost" (sp_Book_lost A) [] E0 (tVar 0) (tCons (tVar 1) tNil)) σ H (fun x H1 => ∃ c, x = .bl c ∧ if c = true then (tVar 1) σ H1 D.rt else (tC .non) σ H1 D.rt)
  refine t_meth (ev_var h0) (am.at 0 rfl) rfl (ea_cons (ev_var h1) ea_nil) fun H1 e1 => ?_
  have am := am.ex e1
  refine ⟨g, b, t, hs, es, kT, kU, v, c, rfl, am.hasAll, ok, hv, fun kT' kU' H2 ok2 am2 => ⟨_, rfl, ?_⟩⟩
  have am : Am (bkS g b) H0 (bkL A g b t hs es kT' kU') H2 := Am.call (La := bkL A g b t hs es kT kU) (L := []) am am2
  have z := k kT' kU' H2 ok2 am
  by_cases e : cntD v (lps (v ++ [c])) = 0
  · rw [decide_eq_true e, if_pos rfl]
    unfold newV at z
    rw [if_pos e] at z
    exact ⟨_, h1, z⟩
  · rw [decide_eq_false e, if_neg Bool.false_ne_true]
    unfold newV at z
    rw [if_neg e] at z
    exact z
def sp_Book_cut_last (A : Ad) : Sp := spCut A (fun v c => v ++ [c]) fun v c => lps (v ++ [c])
def t_Book_cut_last (A : Ad) (E : XK) : TS :=
  (tSeq (tDrop (tMeth A.cBook "need_place" (sp_Book_need_place A) [] E (tVar 0) (tCons (tOp rSubI (tCB (rLenS A.K) (tCons (tFld A.K (tVar 0) "letters") tNil)) (tC (.int 1))) tNil)))
  (tSeq (tAsg (tMeth A.cBook "ends_at" (sp_Book_ends_at A) [] E (tVar 0) (tCons (tOp rSubI (tCB (rLenS A.K) (tCons (tFld A.K (tVar 0) "letters") tNil)) (tC (.int 1))) tNil)) (gName 1))
  (tSeq (tAsg (tVar 1) (gName 2))
  (tSeq (tWhile (tTest (tOp rNe (tVar 2) (tC (tS []))))
  (tSeq (tAsg (tCB rLenT (tCons (tDGet (tFld A.K (tVar 0) "tails") (tVar 2)) tNil)) (gSub (tFld A.K (tVar 0) "heads") (tOp rSubI (tCB (rLenS A.K) (tCons (tFld A.K (tVar 0) "letters") tNil)) (tCB rLenT (tCons (tVar 2) tNil))) rSetL))
  (tAsg (tDGet (tFld A.K (tVar 0) "tails") (tVar 2)) (gName 2))))
  (tSeq (tFor (iTup A.K (tTup (tCons (tFld A.K (tVar 0) "letters") (tCons (tFld A.K (tVar 0) "heads") (tCons (tFld A.K (tVar 0) "ends") tNil))))) (gName 3)
  (tDrop (tBM0 A.K "list" rPop (tVar 3))))
  (tRet (tIf (tB (tMeth A.cBook "lost" (sp_Book_lost A) [] E0 (tVar 0) (tCons (tVar 1) tNil))) (tVar 1) (tC .non))))))))

theorem len_Book_cut_last (A : Ad) : ∀ vs H Q E, sp_Book_cut_last A vs H Q E → vs.length = 1 := len_spCut A _ _
theorem pu_Book_cut_last (A : Ad) (bc : BC A) (vs : List V) (H : Hp) (Q : VK) (E : XK) (h : sp_Book_cut_last A vs H Q E) : t_Book_cut_last A E { nx := fun _ H' => Q .non H', rt := Q } (start ["self", "word", "one", "row"] vs) H := by
  rcases h with ⟨g, b, v, c, kT, kU, rfl, hb, k⟩ | ⟨g, b, kT, kU, rfl, hb, k⟩
  · show t_Book_cut_last A E _ [some (.ref g), none, none, none] H
    unfold t_Book_cut_last
    have hb : BkAt A g b (v ++ [c]) kT kU H := hb
    have hlen : (v ++ [c]).length = v.length + 1 := by rw [List.length_append]; rfl
    have hl : v.length + 1 ≤ 200 := by have := hb.len; rw [hlen] at this; exact this
    have am : Am (bkS g b) H (bkL A g b (v ++ [c]) (hdV (v ++ [c])) (enV (v ++ [c])) kT kU) H := hb.has.am
    have hlm : ∀ {H' : Hp} {σ : L2.St} {hs es : List V}, Has H' (bkL A g b (v ++ [c]) hs es kT kU) → σ[0]? = some (some (.ref g)) → Ev (tOp rSubI (tCB (rLenS A.K) (tCons (tFld A.K (tVar 0) "letters") tNil)) (tC (.int 1))) σ H' (.int (v.length : Nat)) := fun {H' σ hs es} hh s0 =>
      ev_is (ev_op (e_lenLets bc (ev_var s0) hh) ev_c rv_I0) (by rw [hlen]; congr 1; omega)
    refine aq_need_place am (ev_var rfl) (p := v.length) (hlm hb.has rfl) hb.has (by omega) fun H1 am => ?_
    have hb1 : BkAt A g b (v ++ [c]) kT kU H1 := ⟨am.hasAll, hb.ok, hb.lets, hb.len⟩
    refine aq_asg (v := tS (lps (v ++ [c]))) am (ev_is (c_ends (p := v.length) (ev_var rfl) (hlm hb1.has rfl) hb1 (by omega)) (by rw [List.take_of_length_le (by omega)])) fun H2 am => ?_
    dsimp only [List.set]
    refine aq_asg am (ev_var rfl) fun H3 am => ?_
    dsimp only [List.set]
    have hE : ∀ w ∈ endsT (v ++ [c]), (v ++ [c]).drop ((v ++ [c]).length - w.length) = w := fun w hw => suf_drop hw
    refine aq_chain (j := 2) (endsT (v ++ [c])) (fun pre H' => Am (bkS g b) H (bkL A g b (v ++ [c]) (rowV (v.length + 1) (chF (fun w => (v ++ [c]).length - w.length) (fun i => (tailF ((v ++ [c]).drop i)).length) (hdN (v ++ [c])) pre)) (enV (v ++ [c])) kT kU) H') rfl
      (fun w hw => (mir_iff.mp (mem_ends.mp hw).1).2) (by
        have e : hdV (v ++ [c]) = rowV (v.length + 1) (hdN (v ++ [c])) := by show rowV (v ++ [c]).length _ = _; rw [hlen]
        rw [e] at am
        exact am) (fun pre H1 H2 e am => am.ex e) ?_ ?_ ?_
    · intro pre w post H9 hE1 am D' hD
      have hw := ends_len (u := v ++ [c]) (w := w) (by rw [hE1]; simp)
      rw [hlen] at hw
      have hwm : w ∈ endsT (v ++ [c]) := by rw [hE1]; simp
      have htl : (tailF w).length ≤ 200 := by
        have := tailF_lt (l := w) (fun z => by rw [z] at hw; exact absurd hw.1 (Nat.lt_irrefl 0))
        omega
      refine a_setL 2 (v := .int ((tailF w).length : Nat)) (j := (v ++ [c]).length - w.length) am rfl (ev_cb (ea_cons (e_dget (k := kW w) (e_tails bc (ev_var rfl) am.hasAll) (ev_var rfl) (am.at 5 rfl) (tails_at hb.ok (.inr (ends_pos hwm)))) ea_nil) (rc_lenT (by omega))) (e_heads bc (ev_var rfl) am.hasAll) (ev_is (ev_op (e_lenLets bc (ev_var rfl) am.hasAll) (ev_cb (ea_cons (ev_var rfl) ea_nil) (rc_lenT (by omega))) rv_I0) (by congr 1; omega)) (by rw [len_rowV, hlen]; omega) fun H10 am => hD H10 ?_
      have am : Am (bkS g b) H (bkL A g b (v ++ [c]) ((rowV (v.length + 1) (chF (fun w => (v ++ [c]).length - w.length) (fun i => (tailF ((v ++ [c]).drop i)).length) (hdN (v ++ [c])) pre)).set ((v ++ [c]).length - w.length) (.int ((tailF w).length : Nat))) (enV (v ++ [c])) kT kU) H10 := am
      rw [rowV_set] at am
      rw [chF_snoc]
      rw [hE w hwm]
      exact am
    · intro pre w post H9 hE1 am
      exact e_dget (k := kW w) (e_tails bc (ev_var rfl) am.hasAll) (ev_var rfl) (am.at 5 rfl) (by rw [tails_at hb.ok (.inr (ends_pos (by rw [hE1]; simp))), chain_next hE1])
    · intro H9 am
      dsimp only [List.set]
      refine aq_forT2 (f := fun a => V.ref a) (ns := [b.L, b.H, b.E]) (fun p pre σ' H' => ∃ v3 : Option V, σ' = [some (.ref g), some (tS (lps (v ++ [c]))), some (tS []), v3] ∧ Am (bkS g b) H ((p, .tup [.ref b.L, .ref b.H, .ref b.E]) :: bkL A g b (if 0 < pre.length then v else v ++ [c])
        (rowV (if 1 < pre.length then v.length else v.length + 1) (chF (fun w => (v ++ [c]).length - w.length) (fun i => (tailF ((v ++ [c]).drop i)).length) (hdN (v ++ [c])) (endsT (v ++ [c])))) (if 2 < pre.length then enV v else enV (v ++ [c])) kT kU) H') am
        (eu_tup (vs := [.ref b.L, .ref b.H, .ref b.E]) (ea_cons (e_lets bc (ev_var rfl) am.hasAll) (ea_cons (e_heads bc (ev_var rfl) am.hasAll) (ea_cons (e_ends bc (ev_var rfl) am.hasAll) ea_nil))) (by show 3 ≤ 100000; decide)) (fun p H10 am => ⟨none, rfl, am⟩) (fun p pre σ' H' h => by obtain ⟨_, _, am⟩ := h; exact am.at 0 rfl) ?_ ?_
      · rintro p pre n post σ' H10 hsp ⟨v3, rfl, am⟩
        rcases three_split hsp with ⟨rfl, rfl⟩ | ⟨rfl, rfl⟩ | ⟨rfl, rfl⟩
        · exact a_pop 2 (xs := ltV v) (v := tS [c]) am (by show some (b.L, HO.lst (ltV (v ++ [c]))) = _; rw [← ltV_snoc]) (ev_var rfl) fun H11 am => ⟨_, rfl, am⟩
        · refine a_pop 3 (xs := rowV v.length (chF (fun w => (v ++ [c]).length - w.length) (fun i => (tailF ((v ++ [c]).drop i)).length) (hdN (v ++ [c])) (endsT (v ++ [c])))) am (by show some (b.H, HO.lst (rowV (v.length + 1) _)) = _; rw [rows_popped (c := c)]) (ev_var rfl) fun H11 am => ⟨_, rfl, am⟩
        · refine a_pop 4 (xs := enV v) am (by
            show some (b.E, HO.lst (rowV (v ++ [c]).length (enN (v ++ [c])))) = _
            rw [hlen, rows_popped (c := c)]
            show some (b.E, HO.lst (_ ++ _)) = some (b.E, HO.lst (rowV v.length (enN v) ++ _))
            rw [rowV_congr (F := enN (v ++ [c])) (G := enN v) fun i hi => enN_snoc hi]) (ev_var rfl) fun H11 am => ⟨_, rfl, am⟩
      · rintro p σ' H10 ⟨v3, rfl, am⟩
        have am : Am (bkS g b) H (bkL A g b v (rowV v.length (chF (fun w => (v ++ [c]).length - w.length) (fun i => (tailF ((v ++ [c]).drop i)).length) (hdN (v ++ [c])) (endsT (v ++ [c])))) (enV v) kT kU) H10 := am.drop1
        rw [rowV_congr (G := hdN v) fun i hi => hd_cut hi] at am
        exact ret_lost (S := []) am rfl rfl hb.ok (by omega) fun kT' kU' H11 ok am => k kT' kU' H11 ok am
  · show t_Book_cut_last A E _ [some (.ref g), none, none, none] H
    unfold t_Book_cut_last
    exact xq_need_place (x := .int (-1)) (Am.start H) (ev_var rfl) (ev_is (ev_op (e_lenLets bc (ev_var rfl) hb.has) ev_c rv_I0) rfl) hb.has (.inr ⟨-1, rfl, .inl (by decide)⟩) fun H1 am => k H1 am.toEx
def sp_Book_cut_first (A : Ad) : Sp := spCut A (fun v c => c :: v) fun v c => lps (v.reverse ++ [c])
def t_Book_cut_first (A : Ad) (E : XK) : TS :=
  (tSeq (tDrop (tMeth A.cBook "need_place" (sp_Book_need_place A) [] E (tVar 0) (tCons (tC (.int 0)) tNil)))
  (tSeq (tAsg (tMeth A.cBook "begins_at" (sp_Book_begins_at A) [] E (tVar 0) (tCons (tC (.int 0)) tNil)) (gName 1))
  (tSeq (tAsg (tVar 1) (gName 2))
  (tSeq (tWhile (tTest (tOp rNe (tVar 2) (tC (tS []))))
  (tSeq (tAsg (tCB rLenT (tCons (tDGet (tFld A.K (tVar 0) "tails") (tVar 2)) tNil)) (gSub (tFld A.K (tVar 0) "ends") (tOp rSubI (tCB rLenT (tCons (tVar 2) tNil)) (tC (.int 1))) rSetL))
  (tAsg (tDGet (tFld A.K (tVar 0) "tails") (tVar 2)) (gName 2))))
  (tSeq (tFor (iTup A.K (tTup (tCons (tFld A.K (tVar 0) "letters") (tCons (tFld A.K (tVar 0) "heads") (tCons (tFld A.K (tVar 0) "ends") tNil))))) (gName 3)
  (tDrop (tBM A.K "list" rPopAt (tVar 3) (tCons (tC (.int 0)) tNil))))
  (tRet (tIf (tB (tMeth A.cBook "lost" (sp_Book_lost A) [] E0 (tVar 0) (tCons (tVar 1) tNil))) (tVar 1) (tC .non))))))))

theorem len_Book_cut_first (A : Ad) : ∀ vs H Q E, sp_Book_cut_first A vs H Q E → vs.length = 1 := len_spCut A _ _
theorem pu_Book_cut_first (A : Ad) (bc : BC A) (vs : List V) (H : Hp) (Q : VK) (E : XK) (h : sp_Book_cut_first A vs H Q E) : t_Book_cut_first A E { nx := fun _ H' => Q .non H', rt := Q } (start ["self", "word", "one", "row"] vs) H := by
  rcases h with ⟨g, b, v, c, kT, kU, rfl, hb, k⟩ | ⟨g, b, kT, kU, rfl, hb, k⟩
  · show t_Book_cut_first A E _ [some (.ref g), none, none, none] H
    unfold t_Book_cut_first
    have hb : BkAt A g b (c :: v) kT kU H := hb
    have hl : v.length + 1 ≤ 200 := hb.len
    have ok : BkOk (cntD (v.reverse ++ [c])) kT kU := by rw [cntD_cons]; exact hb.ok
    have hlen : (v.reverse ++ [c]).length = v.length + 1 := by rw [List.length_append, List.length_reverse]; rfl
    have am : Am (bkS g b) H (bkL A g b (c :: v) (hdV (c :: v)) (enV (c :: v)) kT kU) H := hb.has.am
    refine aq_need_place am (ev_var rfl) (p := 0) ev_c hb.has (Nat.succ_pos _) fun H1 am => ?_
    have hb1 : BkAt A g b (c :: v) kT kU H1 := ⟨am.hasAll, hb.ok, hb.lets, hb.len⟩
    refine aq_asg (v := tS (lps (v.reverse ++ [c]))) am (ev_is (c_begins (p := 0) (ev_var rfl) ev_c hb1 (Nat.succ_pos _)) (by rw [List.drop_zero, List.reverse_cons])) fun H2 am => ?_
    dsimp only [List.set]
    refine aq_asg am (ev_var rfl) fun H3 am => ?_
    dsimp only [List.set]
    have hE : ∀ w ∈ endsT (v.reverse ++ [c]), (c :: v).take (w.length - 1 + 1) = w := fun w hw => by
      have hl2 := (ends_len hw).1
      rw [show w.length - 1 + 1 = w.length by omega]
      obtain ⟨h1, h2⟩ := mem_ends.mp hw
      rw [← List.reverse_cons, ← List.reverse_prefix, List.reverse_reverse, mir_rev h1] at h2
      exact (List.prefix_iff_eq_take.mp h2).symm
    refine aq_chain (j := 2) (endsT (v.reverse ++ [c])) (fun pre H' => Am (bkS g b) H (bkL A g b (c :: v) (hdV (c :: v)) (rowV (v.length + 1) (chF (fun w => w.length - 1) (fun i => (tailF ((c :: v).take (i + 1))).length) (enN (c :: v)) pre)) kT kU) H') rfl
      (fun w hw => (mir_iff.mp (mem_ends.mp hw).1).2) am (fun pre H1 H2 e am => am.ex e) ?_ ?_ ?_
    · intro pre w post H9 hE1 am D' hD
      have hw := ends_len (u := v.reverse ++ [c]) (w := w) (by rw [hE1]; simp)
      rw [hlen] at hw
      have hwm : w ∈ endsT (v.reverse ++ [c]) := by rw [hE1]; simp
      have htl : (tailF w).length ≤ 200 := by
        have := tailF_lt (l := w) (fun z => by rw [z] at hw; exact absurd hw.1 (Nat.lt_irrefl 0))
        omega
      refine a_setL 3 (v := .int ((tailF w).length : Nat)) (j := w.length - 1) am rfl (ev_cb (ea_cons (e_dget (k := kW w) (e_tails bc (ev_var rfl) am.hasAll) (ev_var rfl) (am.at 5 rfl) (tails_at ok (.inr (ends_pos hwm)))) ea_nil) (rc_lenT (by omega))) (e_ends bc (ev_var rfl) am.hasAll) (ev_is (ev_op (ev_cb (ea_cons (ev_var rfl) ea_nil) (rc_lenT (by omega))) ev_c rv_I0) (by congr 1; omega)) (by rw [len_rowV]; omega) fun H10 am => hD H10 ?_
      have am : Am (bkS g b) H (bkL A g b (c :: v) (hdV (c :: v)) ((rowV (v.length + 1) (chF (fun w => w.length - 1) (fun i => (tailF ((c :: v).take (i + 1))).length) (enN (c :: v)) pre)).set (w.length - 1) (.int ((tailF w).length : Nat))) kT kU) H10 := am
      rw [rowV_set] at am
      rw [chF_snoc]
      rw [hE w hwm]
      exact am
    · intro pre w post H9 hE1 am
      exact e_dget (k := kW w) (e_tails bc (ev_var rfl) am.hasAll) (ev_var rfl) (am.at 5 rfl) (by rw [tails_at ok (.inr (ends_pos (by rw [hE1]; simp))), chain_next hE1])
    · intro H9 am
      dsimp only [List.set]
      have hhd : hdV (c :: v) = V.int (hdN (c :: v) 0 : Nat) :: hdV v := (rowV_cons (fun i hi => hdN_cons v c i) rfl).symm
      have hen : rowV (v.length + 1) (chF (fun w => w.length - 1) (fun i => (tailF ((c :: v).take (i + 1))).length) (enN (c :: v)) (endsT (v.reverse ++ [c]))) = V.int (chF (fun w => w.length - 1) (fun i => (tailF ((c :: v).take (i + 1))).length) (enN (c :: v)) (endsT (v.reverse ++ [c])) 0 : Nat) :: enV v :=
        (rowV_cons (fun i hi => by rw [← List.reverse_cons]; exact en_cut hi) rfl).symm
      rw [hhd, hen] at am
      generalize hx : V.int (hdN (c :: v) 0 : Nat) = x1 at am
      generalize hy : V.int (chF (fun w => w.length - 1) (fun i => (tailF ((c :: v).take (i + 1))).length) (enN (c :: v)) (endsT (v.reverse ++ [c])) 0 : Nat) = x2 at am
      refine aq_forT2 (f := fun a => V.ref a) (ns := [b.L, b.H, b.E]) (fun p pre σ' H' => ∃ v3 : Option V, σ' = [some (.ref g), some (tS (lps (v.reverse ++ [c]))), some (tS []), v3] ∧ Am (bkS g b) H ((p, .tup [.ref b.L, .ref b.H, .ref b.E]) :: bkL A g b (if 0 < pre.length then v else c :: v)
        (if 1 < pre.length then hdV v else x1 :: hdV v) (if 2 < pre.length then enV v else x2 :: enV v) kT kU) H') am
        (eu_tup (vs := [.ref b.L, .ref b.H, .ref b.E]) (ea_cons (e_lets bc (ev_var rfl) am.hasAll) (ea_cons (e_heads bc (ev_var rfl) am.hasAll) (ea_cons (e_ends bc (ev_var rfl) am.hasAll) ea_nil))) (by show 3 ≤ 100000; decide)) (fun p H10 am => ⟨none, rfl, am⟩) (fun p pre σ' H' h => by obtain ⟨_, _, am⟩ := h; exact am.at 0 rfl) ?_ ?_
      · rintro p pre n post σ' H10 hsp ⟨v3, rfl, am⟩
        rcases three_split hsp with ⟨rfl, rfl⟩ | ⟨rfl, rfl⟩ | ⟨rfl, rfl⟩
        · exact a_pop0 2 (xs := ltV v) (v := tS [c]) am rfl (ev_var rfl) fun H11 am => ⟨_, rfl, am⟩
        · exact a_pop0 3 (xs := hdV v) (v := x1) am rfl (ev_var rfl) fun H11 am => ⟨_, rfl, am⟩
        · exact a_pop0 4 (xs := enV v) (v := x2) am rfl (ev_var rfl) fun H11 am => ⟨_, rfl, am⟩
      · rintro p σ' H10 ⟨v3, rfl, am⟩
        have am : Am (bkS g b) H (bkL A g b v (hdV v) (enV v) kT kU) H10 := am.drop1
        refine ret_lost (S := []) am rfl rfl ok (by rw [List.length_reverse]; omega) fun kT' kU' H11 ok am => ?_
        rw [cntD_rev]
        have ef : cntD v.reverse = cntD v := funext fun w => cntD_rev v w
        rw [ef] at ok
        exact k kT' kU' H11 ok am
  · show t_Book_cut_first A E _ [some (.ref g), none, none, none] H
    unfold t_Book_cut_first
    exact xq_need_place (x := .int 0) (Am.start H) (ev_var rfl) ev_c hb.has (.inr ⟨0, rfl, .inr (by decide)⟩) fun H1 am => k H1 am.toEx
/-! ## __init__ -/
def sp_Book_init (A : Ad) : Sp := fun vs H Q E =>
  (∃ g dx t, vs = [.ref g, tS t] ∧ Has H [(g, .ins A.cBook dx [])] ∧ (∀ c ∈ t, c ∈ letters) ∧ t.length ≤ 200 ∧ ∀ b kT kU H', BkOk (cntD t) kT kU → Am [g] H (bkL A g b t (hdV t) (enV t) kT kU) H' → Q .non H') ∨
  (∃ g dx x o, vs = [.ref g, x] ∧ Has H [(g, .ins A.cBook dx [])] ∧ Thing A.K H x o ∧ oTx o = false ∧ ∀ H', Ex H H' → E (.ref A.cBT) none H')
def t_Book_init (A : Ad) (E : XK) : TS :=
  (tSeq (tDrop (tCall (sp_need_text A) [] E (tCons (tVar 1) tNil)))
  (tSeq (sFld A.K (tVar 0) (tLst tNil) "letters")
  (tSeq (sFld A.K (tVar 0) (tLst tNil) "heads")
  (tSeq (sFld A.K (tVar 0) (tLst tNil) "ends")
  (tSeq (sFld A.K (tVar 0) tDNewK "told")
  (tSeq (sFld A.K (tVar 0) (tDisp (((tC (tS [])), (tC (tS []))) :: [])) "tails")
  (tFor (iStr (tVar 1)) (gName 2)
  (tDrop (tMeth A.cBook "put_last" (sp_Book_put_last A) [] E (tVar 0) (tCons (tVar 2) tNil))))))))))

theorem len_Book_init (A : Ad) : ∀ vs H Q E, sp_Book_init A vs H Q E → vs.length = 2 := fun vs H Q E h => by
  rcases h with ⟨g, dx, t, rfl, _⟩ | ⟨g, dx, x, o, rfl, _⟩ <;> rfl
theorem lets_isTx {t : Tx} (h : ∀ c ∈ t, c ∈ letters) (hl : t.length ≤ 200) : isTx t = true := by
  unfold isTx
  rw [Bool.and_eq_true, decide_eq_true_eq, List.all_eq_true]
  exact ⟨hl, fun c hc => decide_eq_true (h c hc)⟩
theorem ok_empty : BkOk (cntD []) [] [(kW [], tS [])] := by
  refine ⟨(DF.nil (f := fun w => V.int (cntD [] w : Nat))).congr (fun w => (by rw [cntD_nil]; rfl)) (fun _ _ => rfl), ?_⟩
  have z := (DF.nil (f := fun w => tS (tailF w))).put [] (tS [])
  have e : putK ([] : List (Key × V)) (kW []) (tS []) = [(kW [], tS [])] := rfl
  rw [e] at z
  refine z.congr (fun w => by rw [cntD_nil]; rfl) fun w h => ?_
  rw [cntD_nil] at h
  have hw : w = [] := by simpa using h
  subst hw; rfl
theorem pu_Book_init (A : Ad) (bc : BC A) (vs : List V) (H : Hp) (Q : VK) (E : XK) (h : sp_Book_init A vs H Q E) : t_Book_init A E { nx := fun _ H' => Q .non H', rt := Q } (start ["self", "text", "letter"] vs) H := by
  rcases h with ⟨g, dx, t, rfl, hh, hle, hl, k⟩ | ⟨g, dx, x, o, rfl, hh, hx, ho, k⟩
  · show t_Book_init A E _ [some (.ref g), some (tS t), none] H
    unfold t_Book_init
    have am : Am [g] H [(g, .ins A.cBook dx [])] H := hh.am
    refine aq_need_text am (ev_var rfl) (.inl ⟨t, rfl, by omega, rfl⟩) (lets_isTx hle hl) fun H1 am => ?_
    refine aq_fldN 0 am rfl (en_lst ea_nil (by decide)) (fun _ _ => ev_var rfl) bc.cls bc.nL (by decide) fun aL H2 am => ?_
    refine aq_fldN 1 am rfl (en_lst ea_nil (by decide)) (fun _ _ => ev_var rfl) bc.cls bc.nH (by show 1 < 1000; decide) fun aH H3 am => ?_
    refine aq_fldN 2 am rfl (en_lst ea_nil (by decide)) (fun _ _ => ev_var rfl) bc.cls bc.nE (by show 2 < 1000; decide) fun aE H4 am => ?_
    refine aq_fldN 3 am rfl en_dnew (fun _ _ => ev_var rfl) bc.cls bc.nT (by show 3 < 1000; decide) fun aT H5 am => ?_
    refine aq_fldN 4 am rfl en_dispT (fun _ _ => ev_var rfl) bc.cls bc.nU (by show 4 < 1000; decide) fun aU H6 am => ?_
    have am : Am [g] H (bkL A g ⟨dx, aL, aH, aE, aT, aU⟩ [] (hdV []) (enV []) [] [(kW [], tS [])]).reverse H6 := am
    have am := am.perm (List.reverse_perm (bkL A g ⟨dx, aL, aH, aE, aT, aU⟩ [] (hdV []) (enV []) [] [(kW [], tS [])])).symm
    refine a_for (f := fun c => tS [c]) (ns := t) (fun pre σ' H' => ∃ kT kU v2, σ' = [some (.ref g), some (tS t), v2] ∧ BkOk (cntD pre) kT kU ∧ Am [g] H (bkL A g ⟨dx, aL, aH, aE, aT, aU⟩ pre (hdV pre) (enV pre) kT kU) H') am (wk_text (l := t) (ev_var rfl)) (fun H7 am => ⟨_, _, _, rfl, ok_empty, am⟩) (fun _ _ _ _ => trivial) ?_ ?_
    · rintro pre c post σ' H7 hsp ⟨kT, kU, v2, rfl, ok, am⟩
      have hc : c ∈ letters := hle c (by rw [hsp]; simp)
      have hpl : pre.length + 1 ≤ t.length := by rw [hsp, List.length_append, List.length_cons]; omega
      refine a_methD am (ev_var rfl) (am.at 0 rfl) rfl (ea_cons (ev_var rfl) ea_nil) fun H8 am => ?_
      refine .inl ⟨g, _, pre, kT, kU, c, rfl, ⟨am.hasAll, ok, fun d hd => hle d (by rw [hsp]; exact List.mem_append_left _ hd), by omega⟩, hc, by omega, fun kT' kU' H9 ok2 am2 => ?_⟩
      exact ⟨kT', kU', _, rfl, ok2, Am.call (La := bkL A g ⟨dx, aL, aH, aE, aT, aU⟩ pre (hdV pre) (enV pre) kT kU) (L := []) am am2⟩
    · rintro σ' H7 ⟨kT, kU, v2, rfl, ok, am⟩
      exact k _ kT kU H7 ok am
  · show t_Book_init A E _ [some (.ref g), some x, none] H
    unfold t_Book_init
    exact xq_need_text (Am.start H) (ev_var rfl) hx ho fun H1 am => k H1 am.toEx

end Mw
namespace Mw
open PySem PySem.Spec PyProof.Rows L2 Evl
local macro_rules | `(tactic| walk_at "sd") => `(tactic| (first
  | assumption
  | omega
  | decide
  | (simp only [List.length_append, List.length_cons, List.length_nil, List.length_reverse, List.length_take, List.length_drop, List.length_map, List.length_range] at *; omega)
  | skip))
local macro_rules | `(tactic| walk_at "ev") => `(tactic| (first
  | ((with_reducible apply ev_var); rfl)
  | (with_reducible exact ev_c)
  | ((with_reducible apply ev_op) <;> walk_at "ev")
  | ((with_reducible apply e_negI) <;> walk_at "ev")
  | ((with_reducible apply et_test) <;> walk_at "ev")
  | ((with_reducible apply et_B) <;> walk_at "ev")
  | ((with_reducible apply et_and); (focus walk_at "ev"); intro hq; (try simp only [Bool.and_eq_true, Bool.or_eq_true, decide_eq_true_eq, Bool.not_eq_true', decide_eq_false_iff_not, Bool.and_eq_false_iff, Bool.or_eq_false_iff, Bool.not_eq_false'] at hq); walk_at "ev")
  | ((with_reducible apply et_or); (focus walk_at "ev"); intro hq; (try simp only [Bool.and_eq_true, Bool.or_eq_true, decide_eq_true_eq, Bool.not_eq_true', decide_eq_false_iff_not, Bool.and_eq_false_iff, Bool.or_eq_false_iff, Bool.not_eq_false'] at hq); walk_at "ev")
  | ((with_reducible apply ev_andV); (focus walk_at "ev"); intro hq; (try simp only [Bool.and_eq_true, Bool.or_eq_true, decide_eq_true_eq, Bool.not_eq_true', decide_eq_false_iff_not, Bool.and_eq_false_iff, Bool.or_eq_false_iff, Bool.not_eq_false'] at hq); walk_at "ev")
  | ((with_reducible apply ev_orV); (focus walk_at "ev"); intro hq; (try simp only [Bool.and_eq_true, Bool.or_eq_true, decide_eq_true_eq, Bool.not_eq_true', decide_eq_false_iff_not, Bool.and_eq_false_iff, Bool.or_eq_false_iff, Bool.not_eq_false'] at hq); walk_at "ev")
  | ((with_reducible apply e_if); (focus walk_at "ev"); (focus (intro hq; (try simp only [Bool.and_eq_true, Bool.or_eq_true, decide_eq_true_eq, Bool.not_eq_true', decide_eq_false_iff_not, Bool.and_eq_false_iff, Bool.or_eq_false_iff, Bool.not_eq_false'] at hq); walk_at "ev")); (intro hq; (try simp only [Bool.and_eq_true, Bool.or_eq_true, decide_eq_true_eq, Bool.not_eq_true', decide_eq_false_iff_not, Bool.and_eq_false_iff, Bool.or_eq_false_iff, Bool.not_eq_false'] at hq); walk_at "ev"))
  | ((with_reducible apply et_not) <;> walk_at "ev")
  | ((with_reducible apply ev_notV) <;> walk_at "ev")
  | (with_reducible exact et_yes)
  | (with_reducible exact ea_nil)
  | ((with_reducible apply ea_cons) <;> walk_at "ev")
  | (with_reducible exact eo_none)
  | ((with_reducible apply eo_some) <;> walk_at "ev")
  | ((with_reducible apply e_slBut) <;> walk_at "ev")
  | ((with_reducible apply e_slIn) <;> walk_at "ev")
  | ((with_reducible apply e_slTo) <;> walk_at "ev")
  | ((with_reducible apply e_slFrom) <;> walk_at "ev")
  | ((with_reducible apply e_slMid) <;> walk_at "ev")
  | ((with_reducible apply e_rev) <;> walk_at "ev")
  | (with_reducible exact rv_I0)
  | (with_reducible exact r_eqI) | (with_reducible exact r_neI) | (with_reducible exact r_eqS) | (with_reducible exact r_neS)
  | (with_reducible exact r_inC) | (with_reducible exact r_ninC) | (with_reducible exact r_isN) | (with_reducible exact r_notN)
  | (with_reducible exact r_ltT) | (with_reducible exact r_gtT)
  | (with_reducible exact rc_max2) | (with_reducible exact rc_min2)
  | ((with_reducible apply r_divI) <;> walk_at "sd") | ((with_reducible apply r_modI) <;> walk_at "sd") | ((with_reducible apply r_mulI) <;> walk_at "sd")
  | ((with_reducible apply r_ixS) <;> walk_at "sd")
  | ((with_reducible apply r_addT) <;> walk_at "sd")
  | ((with_reducible apply r_mulT) <;> walk_at "sd")
  | ((with_reducible apply rc_lenT) <;> walk_at "sd")
  | ((with_reducible apply rc_lenL) <;> walk_at "sd")
  | ((with_reducible apply ev_cb) <;> walk_at "ev")
  | walk_at "evc"
  | walk_at "sd"))

/-! ## _law_draw, _law_text -/
/-- the script: a list that is read -/
def drawI (ns : List Int) (k : Nat) : Int := ns.getD k 0
def sp__law_draw (A : Ad) : Sp := spV fun vs H v => ∃ (a : Addr) (ns : List Int) (k : Nat), vs = [.ref a, .int k] ∧ SqL A.K H a (ns.map V.int) ∧ v = .int (drawI ns k)
def t__law_draw (A : Ad) : TS :=
  (tRet (tIf (tTest (tOp rGtI (tCB (rLenS A.K) (tCons (tVar 0) tNil)) (tVar 1))) (tOp (rIxL A.K) (tVar 0) (tVar 1)) (tC (.int 0))))

theorem len__law_draw (A : Ad) : ∀ vs H Q E, sp__law_draw A vs H Q E → vs.length = 2 := fun vs H Q E h => by
  obtain ⟨v, ⟨a, ns, k, rfl, _⟩, _⟩ := h
  rfl
theorem pu__law_draw (A : Ad) (vs : List V) (H : Hp) (Q : VK) (E : XK) (h : sp__law_draw A vs H Q E) : t__law_draw A { nx := fun _ H' => Q .non H', rt := Q } (start ["_law_script", "_law_k"] vs) H := by
  obtain ⟨v, ⟨a, ns, j, rfl, hS, rfl⟩, k⟩ := h
  show t__law_draw A _ [some (.ref a), some (.int j)] H
  unfold t__law_draw
  refine a_ret (v := .int (drawI ns j)) (Am.start H) ?_ fun H1 am => k H1 am.toEx
  refine ev_is (e_if (v := .int (drawI ns j)) (b := decide ((j : Int) < ((ns.map V.int).length : Nat))) (et_test (ev_op (ev_cb (ea_cons (ev_var rfl) ea_nil) (rc_lenL hS)) (ev_var rfl) rv_I0)) (fun c => ?_) fun c => ev_c) ?_
  · have c := of_decide_eq_true c
    rw [List.length_map] at c
    have hj : j < ns.length := by omega
    refine ev_op (ev_var rfl) (ev_var rfl) (rv_ixL hS (atI_map (n := drawI ns j) (by omega) ?_))
    unfold drawI
    simp [List.getD, List.getElem?_eq_getElem hj]
  · rw [List.length_map]
    by_cases c : (j : Int) < (ns.length : Nat)
    · rw [if_pos (decide_eq_true c)]
    · rw [if_neg (by simpa using c)]
      have hj : ns.length ≤ j := by omega
      unfold drawI
      simp [List.getD, List.getElem?_eq_none hj]
theorem c__law_draw_ {A : Ad} {σ : L2.St} {H : Hp} {te tk : TE} {a : Addr} {ns : List Int} {k : Nat} (h : Ev te σ H (.ref a)) (hk : Ev tk σ H (.int k)) (hS : SqL A.K H a (ns.map V.int)) : Ev (tCall (sp__law_draw A) [] E0 (tCons te (tCons tk tNil))) σ H (.int (drawI ns k)) :=
  e_callV (ea_cons h (ea_cons hk ea_nil)) fun _ e => ⟨a, ns, k, rfl, ex_l e hS, rfl⟩

/-- the law's text: letters alone, no more than so many -/
def Lets (l : Tx) : Prop := ∀ c ∈ l, c ∈ letters
theorem lets_tx {l : Tx} (h : Lets l) (hl : l.length ≤ 200) : isTx l = true := by
  unfold isTx
  rw [decide_eq_true hl, Bool.true_and, List.all_eq_true]
  exact fun c hc => decide_eq_true (h c hc)
theorem Lets.app {a b : Tx} (h : Lets a) (h2 : Lets b) : Lets (a ++ b) := fun c hc => (List.mem_append.mp hc).elim (h c) (h2 c)
theorem Lets.rev {a : Tx} (h : Lets a) : Lets a.reverse := fun c hc => h c (List.mem_reverse.mp hc)
theorem Lets.take {a : Tx} (h : Lets a) (n : Nat) : Lets (a.take n) := fun c hc => h c (List.mem_of_mem_take hc)
theorem Lets.drop {a : Tx} (h : Lets a) (n : Nat) : Lets (a.drop n) := fun c hc => h c (List.mem_of_mem_drop hc)
theorem Lets.rep {a : Tx} (h : Lets a) (n : Nat) : Lets (repT a n) := fun c hc => by
  unfold repT at hc
  obtain ⟨l, hl, hc⟩ := List.mem_flatten.mp hc
  rw [List.eq_of_mem_replicate hl] at hc
  exact h c hc
theorem len_rep (a : Tx) (n : Nat) : (repT a n).length = n * a.length := by
  unfold repT
  simp [List.length_flatten]
theorem at0_let (i : Int) (h0 : 0 ≤ i) (h1 : i < 26) : at0 letters i ∈ letters := by
  obtain ⟨n, rfl⟩ : ∃ n : Nat, i = n := ⟨i.toNat, by omega⟩
  unfold at0
  rw [Int.toNat_natCast]
  have hn : n < letters.length := by show n < 26; omega
  have e : letters.getD n 0 = letters[n] := by simp [List.getD, List.getElem?_eq_getElem hn]
  rw [e]
  exact List.getElem_mem hn
def sp__law_text (A : Ad) : Sp := fun vs H Q _ => ∃ (a : Addr) (ns : List Int) (fi mo : Nat), vs = [.ref a, .int fi, .int mo] ∧ SqL A.K H a (ns.map V.int) ∧ ns.length ≤ 63 ∧ fi ≤ 10 ∧ mo ≤ 63 ∧
  ∀ l H', Ex H H' → Lets l → l.length ≤ mo + 1 → Q (tS l) H'
def t__law_text (A : Ad) : TS :=
  (tSeq (tAsg (tOp rModI (tCall (sp__law_draw A) [] E0 (tCons (tVar 0) (tCons (tC (.int 0)) tNil))) (tC (.int 6))) (gName 3))
  (tSeq (tAsg (tOp (rIxL A.K) (tLst (tCons (tC (.int 1)) (tCons (tC (.int 2)) (tCons (tC (.int 2)) (tCons (tC (.int 3)) (tCons (tC (.int 26)) (tCons (tC (.int 2)) tNil))))))) (tOp rModI (tOp rDivI (tCall (sp__law_draw A) [] E0 (tCons (tVar 0) (tCons (tC (.int 0)) tNil))) (tC (.int 6))) (tC (.int 6)))) (gName 4))
  (tSeq (tAsg (tC (tS letters)) (gName 5))
  (tSeq (tAsg (tOp rModI (tOp rDivI (tCall (sp__law_draw A) [] E0 (tCons (tVar 0) (tCons (tC (.int 0)) tNil))) (tC (.int 36))) (tC (.int 26))) (gName 6))
  (tSeq (tAsg (tJoin A.K (tC (tS [])) (tLc (iList A.K (tSl (rSlL A.K) (tVar 0) (tPart (tVar 1)) (tPart (tOp rAddI (tVar 1) (tVar 2))))) (gName 8) tYes (tOp rIxS (tVar 5) (tOp rModI (tOp rAddI (tVar 6) (tOp rModI (tOp rDivI (tVar 8) (tC (.int 5))) (tVar 4))) (tC (.int 26)))) [8])) (gName 7))
  (tSeq (tAsg (tSl rSlS (tVar 7) tNoPart (tPart (tOp rDivI (tCB rLenT (tCons (tVar 7) tNil)) (tC (.int 2))))) (gName 9))
  (tSeq (tIfS (tTest (tOp rEq (tVar 3) (tC (.int 1)))) (tRet (tOp rAddT (tVar 9) (tVar 9))) tNext)
  (tSeq (tIfS (tTest (tOp rEq (tVar 3) (tC (.int 2)))) (tRet (tOp rAddT (tVar 9) (tRevT (tVar 9)))) tNext)
  (tSeq (tIfS (tTest (tOp rEq (tVar 3) (tC (.int 3)))) (tRet (tOp rAddT (tOp rAddT (tVar 9) (tSl rSlS (tVar 7) (tPart (tCB rLenT (tCons (tVar 9) tNil))) (tPart (tOp rAddI (tCB rLenT (tCons (tVar 9) tNil)) (tC (.int 1)))))) (tRevT (tVar 9)))) tNext)
  (tSeq (tIfS (tTest (tOp rEq (tVar 3) (tC (.int 4)))) (tRet (tSl rSlS (tOp rMulT (tSl rSlS (tVar 7) tNoPart (tPart (tOp rAddI (tC (.int 1)) (tOp rDivI (tCB rLenT (tCons (tVar 7) tNil)) (tC (.int 5)))))) (tC (.int 5))) tNoPart (tPart (tCB rLenT (tCons (tVar 7) tNil))))) tNext)
  (tRet (tVar 7))))))))))))

theorem len__law_text (A : Ad) : ∀ vs H Q E, sp__law_text A vs H Q E → vs.length = 3 := fun vs H Q E h => by
  obtain ⟨a, ns, fi, mo, rfl, _⟩ := h
  rfl
def manyF (d : Int) : Int := [1, 2, 2, 3, 26, 2].getD (d / 6 % 6).toNat 0
theorem manyF_pos (d : Int) : 1 ≤ manyF d ∧ manyF d ≤ 26 := by
  unfold manyF
  have h1 : (d / 6 % 6).toNat < 6 := by omega
  match (d / 6 % 6).toNat, h1 with
  | 0, _ => decide
  | 1, _ => decide
  | 2, _ => decide
  | 3, _ => decide
  | 4, _ => decide
  | 5, _ => decide
theorem pu__law_text (A : Ad) (vs : List V) (H : Hp) (Q : VK) (E : XK) (h : sp__law_text A vs H Q E) :
    t__law_text A { nx := fun _ H' => Q .non H', rt := Q } (start ["_law_script", "_law_first", "_law_most", "_law_way", "_law_many", "_law_letters", "_law_start", "_law_word", "_law_cell", "_law_half"] vs) H := by
  obtain ⟨a, ns, fi, mo, rfl, hS, hn, hfi, hmo, k⟩ := h
  show t__law_text A _ [some (.ref a), some (.int fi), some (.int mo), none, none, none, none, none, none, none] H
  unfold t__law_text
  have am := Am.start H
  refine aq_asg am (ev_op (c__law_draw_ (k := 0) (ev_var rfl) ev_c hS) ev_c (r_modI (by decide))) fun H1 am => ?_
  dsimp only [List.set]
  refine aq_asg (v := .int (manyF (drawI ns 0))) am (ev_opL1 (el_lst (vs := [.int 1, .int 2, .int 2, .int 3, .int 26, .int 2]) (by walk_at "ev") (by decide))
    (fun H2 e => ev_op (ev_op (c__law_draw_ (k := 0) (ev_var rfl) ev_c (ex_l (am.toEx.trans e) hS)) ev_c (r_divI (by decide))) ev_c (r_modI (by decide)))
    (fun p H2 h2 e => rv_ixL (K := A.K) (sq_of h2) (atI_map (f := V.int) (ns := [1, 2, 2, 3, 26, 2]) (by omega) ?_))) fun H2 am => ?_
  · unfold manyF
    have h1 : (drawI ns 0 / 6 % 6).toNat < 6 := by omega
    have h2 : (drawI ns 0 / 6 % 6).toNat < ([1, 2, 2, 3, 26, 2] : List Int).length := h1
    simp only [List.getD, List.getElem?_eq_getElem h2, Option.getD_some]
  dsimp only [List.set]
  refine aq_asg am (by walk_at "ev") fun H3 am => ?_
  dsimp only [List.set]
  refine aq_asg am (ev_op (ev_op (c__law_draw_ (k := 0) (ev_var rfl) ev_c (ex_l am.toEx hS)) ev_c (r_divI (by decide))) ev_c (r_modI (by decide))) fun H4 am => ?_
  dsimp only [List.set]
  have hm := manyF_pos (drawI ns 0)
  generalize hmv : manyF (drawI ns 0) = many at hm ⊢
  have hst0 : 0 ≤ drawI ns 0 / 36 % 26 := by omega
  generalize hsv : drawI ns 0 / 36 % 26 = st at hst0 ⊢
  let cells := ((ns.drop (HT.sIx ns.length 0 (some (fi : Int)))).take (HT.sIx ns.length ns.length (some ((fi : Int) + mo)) - HT.sIx ns.length 0 (some (fi : Int))))
  let fc : Int → Tx := fun c => [at0 letters ((st + c / 5 % many) % 26)]
  have hcl : cells.length ≤ mo := by
    show (List.take _ (List.drop _ ns)).length ≤ mo
    rw [sIx_pos _ _ _ (by omega), sIx_pos _ _ _ (by omega), List.length_take, List.length_drop]
    omega
  have hfl : ∀ cs : List Int, ((cs.map fc).flatten).length = cs.length := fun cs => by
    induction cs with
    | nil => rfl
    | cons c r ih => rw [List.map_cons, List.flatten_cons, List.length_append, ih, List.length_cons]; simp [fc]; omega
  have hfx : ∀ c : Int, 0 ≤ (st + c / 5 % many) % 26 ∧ (st + c / 5 % many) % 26 < 26 := fun c => ⟨by omega, by omega⟩
  refine aq_asg (v := tS (cells.map fc).flatten) am (e_join (K := A.K) (ls := cells.map fc) ev_c ?_ (by rw [hfl]; omega)) fun H5 am => ?_
  · have z := el_lcN (H := H4) (σ := [some (.ref a), some (.int fi), some (.int mo), some (.int (drawI ns 0 % 6)), some (.int many), some (tS letters), some (.int st), none, none, none]) (K := A.K) (f := V.int) (ns := cells) (j := 8) (vs := [8]) (t := tYes) (te := (tOp rIxS (tVar 5) (tOp rModI (tOp rAddI (tVar 6) (tOp rModI (tOp rDivI (tVar 8) (tC (.int 5))) (tVar 4))) (tC (.int 26)))))
      (fun _ => true) (fun c => tS (fc c)) (tl := (tSl (rSlL A.K) (tVar 0) (tPart (tVar 1)) (tPart (tOp rAddI (tVar 1) (tVar 2)))))
      (e_slL (ev_var rfl) (eo_some (ev_var rfl)) (eo_some (by walk_at "ev")) (ex_l am.toEx hS)) (by omega) (fun _ => rfl) (fun _ _ => et_yes) (fun c _ _ => by
        dsimp only [List.set, wipe]
        have hx := hfx c
        refine ev_op (ev_var rfl) (ev_op (ev_op (ev_var rfl) (ev_op (ev_op (ev_var rfl) ev_c (r_divI (by decide))) (ev_var rfl) (r_modI (by omega))) rv_I0) ev_c (r_modI (by decide))) (r_ixS hx.1 hx.2 (by decide)))
    rw [List.filter_eq_self.mpr (fun _ _ => rfl)] at z
    rw [List.map_map]
    exact z
  have hlw : ((cells.map fc).flatten).length ≤ mo := by rw [hfl]; exact hcl
  have hle : Lets (cells.map fc).flatten := fun c hc => by
    obtain ⟨x, hx, hc⟩ := List.mem_flatten.mp hc
    obtain ⟨y, hy, rfl⟩ := List.mem_map.mp hx
    have e : c = at0 letters ((st + y / 5 % many) % 26) := by simpa [fc] using hc
    rw [e]
    exact at0_let _ (hfx y).1 (hfx y).2
  generalize (cells.map fc).flatten = wd at hlw hle ⊢
  generalize drawI ns 0 % 6 = way
  dsimp only [List.set]
  refine aq_asg am (by walk_at "ev") fun H6 am => ?_
  dsimp only [List.set]
  have hh : (wd.take ((wd.length : Int) / 2).toNat).length * 2 ≤ wd.length := by rw [List.length_take]; omega
  have hhl := hle.take ((wd.length : Int) / 2).toNat
  generalize wd.take ((wd.length : Int) / 2).toNat = hf at hh hhl ⊢
  refine aq_when am (by walk_at "ev") (fun _ H7 am => a_ret am (by walk_at "ev") fun H8 am => k _ _ am.toEx (hhl.app hhl) (by rw [List.length_append]; omega)) fun _ H7 am => ?_
  refine aq_when am (by walk_at "ev") (fun _ H7 am => a_ret am (by walk_at "ev") fun H8 am => k _ _ am.toEx (hhl.app hhl.rev) (by rw [List.length_append, List.length_reverse]; omega)) fun _ H7 am => ?_
  refine aq_when am (by walk_at "ev") (fun _ H7 am => a_ret am (by walk_at "ev") fun H8 am => k _ _ am.toEx ((hhl.app ((hle.drop _).take _)).app hhl.rev) ?_) fun _ H7 am => ?_
  · rw [List.length_append, List.length_append, List.length_reverse, List.length_take, List.length_drop]
    omega
  have hwt : ∀ n : Nat, (wd.take n).length * (5 : Int).toNat ≤ 1000000 := fun n => by
    show (wd.take n).length * 5 ≤ 1000000
    rw [List.length_take]; omega
  refine aq_when am (by walk_at "ev") (fun _ H7 am => a_ret am (e_slTo (ev_op (e_slTo (i := 1 + (wd.length : Int) / 5) (ev_var rfl) (by walk_at "ev") (by omega) (by omega)) ev_c (r_mulT (n := 5) (by decide) (by decide) (hwt _)))
    (i := wd.length) (by walk_at "ev") (by omega) ?_) fun H8 am => k _ _ am.toEx (((hle.take _).rep _).take _) ?_) fun _ H7 am => ?_
  · rw [len_rep, Nat.mul_comm]
    exact hwt _
  · rw [List.length_take]
    omega
  exact a_ret am (by walk_at "ev") fun H8 am => k _ _ am.toEx hle (by omega)
theorem c__law_text_ {A : Ad} {σ : L2.St} {H : Hp} {te : TE} {a : Addr} {ns : List Int} {fi mo : Nat} (h : Ev te σ H (.ref a)) (hS : SqL A.K H a (ns.map V.int)) (hn : ns.length ≤ 63) (hf : fi ≤ 10) (hm : mo ≤ 63) :
    EvP (tCall (sp__law_text A) [] E0 (tCons te (tCons (tC (.int fi)) (tCons (tC (.int mo)) tNil)))) σ H (fun v => ∃ l, v = tS l ∧ Lets l ∧ l.length ≤ mo + 1) := fun H1 e Q q =>
  h H1 e _ fun H2 e2 => ⟨a, ns, fi, mo, rfl, ex_l (e.trans e2) hS, hn, hf, hm, fun l H3 e3 hl hz => q _ _ ⟨l, rfl, hl, hz⟩ (e2.trans e3)⟩

end Mw
namespace Mw
open PySem PySem.Spec PyProof.Rows L2 Evl
local macro_rules | `(tactic| walk_at "sd") => `(tactic| (first
  | assumption
  | omega
  | decide
  | (simp only [List.length_append, List.length_cons, List.length_nil, List.length_reverse, List.length_take, List.length_drop, List.length_map, List.length_range] at *; omega)
  | skip))
local macro_rules | `(tactic| walk_at "ev") => `(tactic| (first
  | ((with_reducible apply ev_var); rfl)
  | (with_reducible exact ev_c)
  | ((with_reducible apply ev_op) <;> walk_at "ev")
  | ((with_reducible apply e_negI) <;> walk_at "ev")
  | ((with_reducible apply et_test) <;> walk_at "ev")
  | ((with_reducible apply et_B) <;> walk_at "ev")
  | ((with_reducible apply et_and); (focus walk_at "ev"); intro hq; (try simp only [Bool.and_eq_true, Bool.or_eq_true, decide_eq_true_eq, Bool.not_eq_true', decide_eq_false_iff_not, Bool.and_eq_false_iff, Bool.or_eq_false_iff, Bool.not_eq_false'] at hq); walk_at "ev")
  | ((with_reducible apply et_or); (focus walk_at "ev"); intro hq; (try simp only [Bool.and_eq_true, Bool.or_eq_true, decide_eq_true_eq, Bool.not_eq_true', decide_eq_false_iff_not, Bool.and_eq_false_iff, Bool.or_eq_false_iff, Bool.not_eq_false'] at hq); walk_at "ev")
  | ((with_reducible apply ev_andV); (focus walk_at "ev"); intro hq; (try simp only [Bool.and_eq_true, Bool.or_eq_true, decide_eq_true_eq, Bool.not_eq_true', decide_eq_false_iff_not, Bool.and_eq_false_iff, Bool.or_eq_false_iff, Bool.not_eq_false'] at hq); walk_at "ev")
  | ((with_reducible apply ev_orV); (focus walk_at "ev"); intro hq; (try simp only [Bool.and_eq_true, Bool.or_eq_true, decide_eq_true_eq, Bool.not_eq_true', decide_eq_false_iff_not, Bool.and_eq_false_iff, Bool.or_eq_false_iff, Bool.not_eq_false'] at hq); walk_at "ev")
  | ((with_reducible apply e_if); (focus walk_at "ev"); (focus (intro hq; (try simp only [Bool.and_eq_true, Bool.or_eq_true, decide_eq_true_eq, Bool.not_eq_true', decide_eq_false_iff_not, Bool.and_eq_false_iff, Bool.or_eq_false_iff, Bool.not_eq_false'] at hq); walk_at "ev")); (intro hq; (try simp only [Bool.and_eq_true, Bool.or_eq_true, decide_eq_true_eq, Bool.not_eq_true', decide_eq_false_iff_not, Bool.and_eq_false_iff, Bool.or_eq_false_iff, Bool.not_eq_false'] at hq); walk_at "ev"))
  | ((with_reducible apply et_not) <;> walk_at "ev")
  | ((with_reducible apply ev_notV) <;> walk_at "ev")
  | (with_reducible exact et_yes)
  | (with_reducible exact ea_nil)
  | ((with_reducible apply ea_cons) <;> walk_at "ev")
  | (with_reducible exact eo_none)
  | ((with_reducible apply eo_some) <;> walk_at "ev")
  | ((with_reducible apply e_slBut) <;> walk_at "ev")
  | ((with_reducible apply e_slIn) <;> walk_at "ev")
  | ((with_reducible apply e_slTo) <;> walk_at "ev")
  | ((with_reducible apply e_slFrom) <;> walk_at "ev")
  | ((with_reducible apply e_slMid) <;> walk_at "ev")
  | ((with_reducible apply e_rev) <;> walk_at "ev")
  | (with_reducible exact rv_I0)
  | (with_reducible exact r_eqI) | (with_reducible exact r_neI) | (with_reducible exact r_eqS) | (with_reducible exact r_neS)
  | (with_reducible exact r_inC) | (with_reducible exact r_ninC) | (with_reducible exact r_isN) | (with_reducible exact r_notN)
  | (with_reducible exact r_ltT) | (with_reducible exact r_gtT)
  | (with_reducible exact rc_max2) | (with_reducible exact rc_min2)
  | ((with_reducible apply r_divI) <;> walk_at "sd") | ((with_reducible apply r_modI) <;> walk_at "sd") | ((with_reducible apply r_mulI) <;> walk_at "sd")
  | ((with_reducible apply r_ixS) <;> walk_at "sd")
  | ((with_reducible apply r_addT) <;> walk_at "sd")
  | ((with_reducible apply r_mulT) <;> walk_at "sd")
  | ((with_reducible apply rc_lenT) <;> walk_at "sd")
  | ((with_reducible apply rc_lenL) <;> walk_at "sd")
  | ((with_reducible apply ev_cb) <;> walk_at "ev")
  | walk_at "evc"
  | walk_at "sd"))

/-! ## of words of a text -/
theorem mir_is {t w : Tx} (h : mir w = true) (hl : ∀ c ∈ w, c ∈ letters) (hn : w.length ≤ 200) : oMir (some w) = true := by
  obtain ⟨h1, h2⟩ := mir_iff.mp h
  unfold oMir
  dsimp only
  rw [lets_isTx hl hn, h1, decide_eq_false h2]; rfl
theorem word_lets {t w : Tx} (hl : ∀ c ∈ t, c ∈ letters) (h : w ∈ wordsL t) : ∀ c ∈ w, c ∈ letters := fun c hc => hl c ((mem_words.mp h).2.subset hc)
theorem wordsL_len {t w : Tx} (h : w ∈ wordsL t) : w.length ≤ t.length := (mem_words.mp h).2.length_le
/-! ## what the laws of books share -/
section
variable {K : PySem.W.Frag} {S : List Addr} {H0 H H1 : Hp} {L : List (Addr × HO)} {σ : L2.St} {te ta tb : TE} {tt : TA} {tc : TT} {D : Ends} {tu tz : TS} {C dx g : Addr} {fs : List (Str × V)} {m : Str} {sp : Sp} {E : XK} {vs xs : List V} {v w : V}
theorem aq_makeB {i : Nat} {b : Bool} (am : Am S H0 L H) (hc : EvT tc σ H b) (h1 : b = true → EvA tt σ H [v]) (h2 : b = false → v = w) (k : ∀ g dx H1, Am S H0 ((g, .ins C dx []) :: (dx, .own g) :: L) H1 → sp [.ref g, v] H1 (fun u H2 => u = .non ∧ tz D (σ.set i (some (.ref g))) H2) E) :
    tSeq (tAsg (tIf tc (tMake C sp [] E tt) (tMake C sp [w] E tNil)) (gName i)) tz D σ H := hc H (Ex.refl H) _ fun H1 e1 => by
  have am1 := am.ex e1
  have mk : ∀ {H2 : Hp}, Am S H0 L H2 → ∀ x dx, H2 x = none → H2 dx = none → dx ≠ x → sp [.ref x, v] (upd (upd H2 dx (.own x)) x (.ins C dx [])) (fun u H2 => u = .non ∧ tz D (σ.set i (some (.ref x))) H2) E := fun {H2} am x dx hx hdx ne => by
    refine k x dx _ ((am.new1 hdx).new1 ?_)
    rw [upd_ne (Ne.symm ne)]
    exact hx
  cases b with
  | true =>
    rw [if_pos rfl]
    exact h1 rfl H1 e1 _ fun H2 e2 => fun x dx hx hdx ne => mk (am1.ex e2) x dx hx hdx ne
  | false =>
    rw [if_neg Bool.false_ne_true]
    have e := h2 rfl
    subst e
    exact fun x dx hx hdx ne => mk am1 x dx hx hdx ne
theorem a_methA {i : Nat} (am : Am S H0 L H) (h : Ev ta σ H (.ref g)) (hg : H g = some (.ins C dx fs)) (hl : fs.lookup m = none) (ht : EvA tt σ H vs) (k : ∀ H1, Am S H0 L H1 → sp (.ref g :: vs) H1 (fun v H2 => D.nx (σ.set i (some v)) H2) E) :
    tAsg (tMeth C m sp [] E ta tt) (gName i) D σ H := t_meth (Q := fun v H2 => D.nx (σ.set i (some v)) H2) h hg hl ht fun H1 e => k H1 (am.ex e)
/-- a new list that is changed and left -/
theorem a_appN (am : Am S H0 L H) (h : EvL ta σ H xs) (hv : Ev te σ H v) (hz : xs.length < 100000) (k : ∀ H1, Am S H0 L H1 → D.nx σ H1) : tDrop (tBM K "list" rAppend ta (tCons te tNil)) D σ H :=
  h H (Ex.refl H) _ fun p H1 hp e1 h1 => ⟨Or.inl ⟨rfl, xs, sq_of h1⟩, hv H1 e1 _ fun H2 e2 => ⟨p, xs, v, rfl, rfl, e2 p _ h1, sz_lt hz, by
    have am2 := (am.add hp e1 h1).ex e2
    exact k _ (am2.set 0 rfl).drop1⟩⟩
end
theorem ne_new {n : Nat} {w : Tx} {H : Hp} : RV rNe (newV n w) (newV n w) H (.bl false) := fun H1 _ _ q => by
  unfold newV
  split
  · exact ⟨rfl, by rw [decide_eq_true rfl]; exact q H1 (Ex.refl H1)⟩
  · exact ⟨rfl, by rw [decide_eq_true rfl]; exact q H1 (Ex.refl H1)⟩
def many5 (d : Int) : Int := [1, 2, 2, 3, 26].getD (d % 5).toNat 0
theorem many5_pos (d : Int) : 1 ≤ many5 d ∧ many5 d ≤ 26 := by
  unfold many5
  have h1 : (d % 5).toNat < 5 := by omega
  match (d % 5).toNat, h1 with
  | 0, _ => decide
  | 1, _ => decide
  | 2, _ => decide
  | 3, _ => decide
  | 4, _ => decide
theorem e_many5 {K : PySem.W.Frag} {σ : L2.St} {H : Hp} {ti : TE} {d : Int} (h : ∀ H1, Ex H H1 → Ev ti σ H1 (.int (d % 5))) : Ev (tOp (rIxL K) (tLst (tCons (tC (.int 1)) (tCons (tC (.int 2)) (tCons (tC (.int 2)) (tCons (tC (.int 3)) (tCons (tC (.int 26)) tNil)))))) ti) σ H (.int (many5 d)) :=
  ev_opL1 (el_lst (vs := [.int 1, .int 2, .int 2, .int 3, .int 26]) (by walk_at "ev") (by decide)) h (fun p H2 h2 e => rv_ixL (K := K) (sq_of h2) (atI_map (f := V.int) (ns := [1, 2, 2, 3, 26]) (by omega) (by
    unfold many5
    have h1 : (d % 5).toNat < 5 := by omega
    have h2 : (d % 5).toNat < ([1, 2, 2, 3, 26] : List Int).length := h1
    simp only [List.getD, List.getElem?_eq_getElem h2, Option.getD_some])))
/-- the ledger's book and what goes with it -/
theorem bk_at {A : Ad} {S : List Addr} {H0 H : Hp} {L : List (Addr × HO)} {g : Addr} {b : BA} {t : Tx} {kT kU : List (Key × V)} (am : Am S H0 (bkL A g b t (hdV t) (enV t) kT kU ++ L) H) (ok : BkOk (cntD t) kT kU) (hl : ∀ c ∈ t, c ∈ letters) (hn : t.length ≤ 200) : BkAt A g b t kT kU H := ⟨am.has, ok, hl, hn⟩

end Mw
namespace Mw
open PySem PySem.Spec PyProof.Rows L2 Evl
local macro_rules | `(tactic| walk_at "sd") => `(tactic| (first
  | assumption
  | omega
  | decide
  | (simp only [List.length_append, List.length_cons, List.length_nil, List.length_reverse, List.length_take, List.length_drop, List.length_map, List.length_range] at *; omega)
  | skip))
local macro_rules | `(tactic| walk_at "ev") => `(tactic| (first
  | ((with_reducible apply ev_var); rfl)
  | (with_reducible exact ev_c)
  | ((with_reducible apply ev_op) <;> walk_at "ev")
  | ((with_reducible apply e_negI) <;> walk_at "ev")
  | ((with_reducible apply et_test) <;> walk_at "ev")
  | ((with_reducible apply et_B) <;> walk_at "ev")
  | ((with_reducible apply et_and); (focus walk_at "ev"); intro hq; (try simp only [Bool.and_eq_true, Bool.or_eq_true, decide_eq_true_eq, Bool.not_eq_true', decide_eq_false_iff_not, Bool.and_eq_false_iff, Bool.or_eq_false_iff, Bool.not_eq_false'] at hq); walk_at "ev")
  | ((with_reducible apply et_or); (focus walk_at "ev"); intro hq; (try simp only [Bool.and_eq_true, Bool.or_eq_true, decide_eq_true_eq, Bool.not_eq_true', decide_eq_false_iff_not, Bool.and_eq_false_iff, Bool.or_eq_false_iff, Bool.not_eq_false'] at hq); walk_at "ev")
  | ((with_reducible apply ev_andV); (focus walk_at "ev"); intro hq; (try simp only [Bool.and_eq_true, Bool.or_eq_true, decide_eq_true_eq, Bool.not_eq_true', decide_eq_false_iff_not, Bool.and_eq_false_iff, Bool.or_eq_false_iff, Bool.not_eq_false'] at hq); walk_at "ev")
  | ((with_reducible apply ev_orV); (focus walk_at "ev"); intro hq; (try simp only [Bool.and_eq_true, Bool.or_eq_true, decide_eq_true_eq, Bool.not_eq_true', decide_eq_false_iff_not, Bool.and_eq_false_iff, Bool.or_eq_false_iff, Bool.not_eq_false'] at hq); walk_at "ev")
  | ((with_reducible apply e_if); (focus walk_at "ev"); (focus (intro hq; (try simp only [Bool.and_eq_true, Bool.or_eq_true, decide_eq_true_eq, Bool.not_eq_true', decide_eq_false_iff_not, Bool.and_eq_false_iff, Bool.or_eq_false_iff, Bool.not_eq_false'] at hq); walk_at "ev")); (intro hq; (try simp only [Bool.and_eq_true, Bool.or_eq_true, decide_eq_true_eq, Bool.not_eq_true', decide_eq_false_iff_not, Bool.and_eq_false_iff, Bool.or_eq_false_iff, Bool.not_eq_false'] at hq); walk_at "ev"))
  | ((with_reducible apply et_not) <;> walk_at "ev")
  | ((with_reducible apply ev_notV) <;> walk_at "ev")
  | (with_reducible exact et_yes)
  | (with_reducible exact ea_nil)
  | ((with_reducible apply ea_cons) <;> walk_at "ev")
  | (with_reducible exact eo_none)
  | ((with_reducible apply eo_some) <;> walk_at "ev")
  | ((with_reducible apply e_slBut) <;> walk_at "ev")
  | ((with_reducible apply e_slIn) <;> walk_at "ev")
  | ((with_reducible apply e_slTo) <;> walk_at "ev")
  | ((with_reducible apply e_slFrom) <;> walk_at "ev")
  | ((with_reducible apply e_slMid) <;> walk_at "ev")
  | ((with_reducible apply e_rev) <;> walk_at "ev")
  | (with_reducible exact rv_I0)
  | (with_reducible exact r_eqI) | (with_reducible exact r_neI) | (with_reducible exact r_eqS) | (with_reducible exact r_neS)
  | (with_reducible exact r_inC) | (with_reducible exact r_ninC) | (with_reducible exact r_isN) | (with_reducible exact r_notN)
  | (with_reducible exact r_ltT) | (with_reducible exact r_gtT)
  | (with_reducible exact rc_max2) | (with_reducible exact rc_min2)
  | ((with_reducible apply r_divI) <;> walk_at "sd") | ((with_reducible apply r_modI) <;> walk_at "sd") | ((with_reducible apply r_mulI) <;> walk_at "sd")
  | ((with_reducible apply r_ixS) <;> walk_at "sd")
  | ((with_reducible apply r_addT) <;> walk_at "sd")
  | ((with_reducible apply r_mulT) <;> walk_at "sd")
  | ((with_reducible apply rc_lenT) <;> walk_at "sd")
  | ((with_reducible apply rc_lenL) <;> walk_at "sd")
  | ((with_reducible apply ev_cb) <;> walk_at "ev")
  | walk_at "evc"
  | walk_at "sd"))

/-! ## dicts of counts by numbers -/
structure CN (ks : List Nat) (kvs : List (Key × V)) : Prop where
  nd : (kvs.map (·.1)).Nodup
  ik : ∀ p ∈ kvs, ∃ n : Nat, p.1 = .inl (n : Int)
  vl : ∀ n : Nat, valV kvs (.inl (n : Int)) = if 0 < ks.count n then some (.int (ks.count n : Nat)) else none
theorem CN.nil : CN [] [] := ⟨List.Pairwise.nil, fun _ h => (by cases h), fun n => by rw [if_neg (by simp)]; rfl⟩
theorem CN.get {ks : List Nat} {kvs : List (Key × V)} (d : CN ks kvs) (n : Nat) : (valV kvs (.inl (n : Int))).getD (.int 0) = .int (ks.count n : Nat) := by
  rw [d.vl]
  by_cases c : 0 < ks.count n
  · rw [if_pos c]; rfl
  · rw [if_neg c, show ks.count n = 0 by omega]; rfl
theorem CN.bump {ks : List Nat} {kvs : List (Key × V)} (d : CN ks kvs) (n : Nat) {m : Nat} (hm : 0 < m) : CN (ks ++ List.replicate m n) (putK kvs (.inl (n : Int)) (.int (ks.count n + m : Nat))) := by
  refine ⟨nd_put _ _ d.nd, fun p hp => ?_, fun x => ?_⟩
  · rcases mem_putK hp with e | ⟨q, hq, e⟩
    · exact ⟨n, e⟩
    · obtain ⟨y, hy⟩ := d.ik q hq
      exact ⟨y, e.symm.trans hy⟩
  · rw [valV_put, List.count_append, List.count_replicate]
    by_cases h : x = n
    · subst h
      have e : (x == x) = true := by rw [beq_iff_eq]
      rw [if_pos rfl, e, if_pos rfl, if_pos (by omega)]
    · have e : (n == x) = false := by rw [beq_eq_false_iff_ne]; exact fun z => h z.symm
      rw [if_neg (fun z => h (by have := Sum.inl.inj z; omega)), d.vl, e, if_neg Bool.false_ne_true, Nat.add_zero]
theorem CN.here {ks : List Nat} {kvs : List (Key × V)} (d : CN ks kvs) {p : Key × V} (hp : p ∈ kvs) : ∃ n : Nat, p.1 = .inl (n : Int) ∧ 0 < ks.count n ∧ p.2 = .int (ks.count n : Nat) := by
  obtain ⟨n, e⟩ := d.ik p hp
  have hv := val_nodup d.nd p hp
  rw [e, d.vl] at hv
  by_cases c : 0 < ks.count n
  · rw [if_pos c] at hv
    exact ⟨n, e, c, (Option.some.inj hv).symm⟩
  · rw [if_neg c] at hv; cases hv
theorem CN.len {ks : List Nat} {kvs : List (Key × V)} (d : CN ks kvs) (h : ∀ x ∈ ks, x < 1000) : kvs.length ≤ 1000 := by
  classical
  have z := nodup_le (l := kvs.map (·.1)) (m := (List.range 1000).map fun n : Nat => (.inl ((n : Nat) : Int) : Key)) d.nd fun k hk => by
    obtain ⟨p, hp, rfl⟩ := List.mem_map.mp hk
    obtain ⟨n, e, c, _⟩ := d.here hp
    exact List.mem_map.mpr ⟨n, List.mem_range.mpr (h n (List.count_pos_iff.mp c)), e.symm⟩
  rw [List.length_map, List.length_map, List.length_range] at z
  exact z
theorem CN.hits {ks ls : List Nat} {kvs lvs : List (Key × V)} (d : CN ks kvs) (d2 : CN ls lvs) (h : ∀ n, ks.count n = ls.count n) : ∀ p ∈ kvs, valV lvs p.1 = some p.2 ∧ flatB p.2 = true := fun p hp => by
  obtain ⟨n, e, c, e2⟩ := d.here hp
  rw [e, e2, d2.vl, ← h, if_pos c]
  exact ⟨rfl, rfl⟩
theorem CN.le {ks ls : List Nat} {kvs lvs : List (Key × V)} (d : CN ks kvs) (d2 : CN ls lvs) (h : ∀ n, ks.count n = ls.count n) : kvs.length ≤ lvs.length := by
  classical
  have z := nodup_le (l := kvs.map (·.1)) (m := lvs.map (·.1)) d.nd fun k hk => by
    obtain ⟨p, hp, rfl⟩ := List.mem_map.mp hk
    exact valV_in (d.hits d2 h p hp).1
  rw [List.length_map, List.length_map] at z
  exact z
theorem e_neDA {ta tb : TE} {σ : L2.St} {H : Hp} {ks ls : List Nat} (h1 : EvD ta σ H (CN ks)) (h2 : EvD tb σ H (CN ls)) (h : ∀ n, ks.count n = ls.count n) : Ev (tOp rNeDA ta tb) σ H (.bl false) := fun H1 e Q q =>
  h1 H1 e _ fun p kvs H2 d _ e2 hp => h2 H2 (e.trans e2) _ fun p3 lvs H3 d2 _ e3 hp3 =>
    ⟨p, p3, kvs, lvs, rfl, rfl, e3 _ _ hp, hp3, Nat.le_antisymm (d.le d2 h) (d2.le d fun n => (h n).symm), d.hits d2 h, q H3 (e2.trans e3)⟩
theorem e_eqDA {ta tb : TE} {σ : L2.St} {H : Hp} {ks ls : List Nat} (h1 : EvD ta σ H (CN ks)) (h2 : EvD tb σ H (CN ls)) (h : ∀ n, ks.count n = ls.count n) : Ev (tOp rEqDA ta tb) σ H (.bl true) := fun H1 e Q q =>
  h1 H1 e _ fun p kvs H2 d _ e2 hp => h2 H2 (e.trans e2) _ fun p3 lvs H3 d2 _ e3 hp3 =>
    ⟨p, p3, kvs, lvs, rfl, rfl, e3 _ _ hp, hp3, Nat.le_antisymm (d.le d2 h) (d2.le d fun n => (h n).symm), d.hits d2 h, q H3 (e2.trans e3)⟩
/-! ## _law_lengths -/
def sp__law_lengths (A : Ad) : Sp := fun vs H Q _ => ∃ l : Tx, vs = [tS l] ∧ isTx l = true ∧ l.length ≤ 200 ∧ ∀ p kvs H', CN (lenK l) kvs → H p = none → Ex H H' → H' p = some (.dK kvs) → Q (.ref p) H'
def t__law_lengths (A : Ad) : TS :=
  (tSeq (tAsg tDNewK (gName 1))
  (tSeq (tFor (iEnum A.K (tCons (tCall (sp_arms A) [] E0 (tCons (tVar 0) tNil)) tNil)) (gTup A.K 2 (gCons (gName 2) (gCons (gName 3) gNil)))
  (tFor (iRng1 (tCons (tOp rAddI (tOp rSubI (tC (.int 1)) (tOp rModI (tVar 2) (tC (.int 2)))) (tVar 3)) tNil)) (gName 4)
  (tSeq (tAsg (tOp rSubI (tOp rAddI (tOp rMulI (tC (.int 2)) (tOp rAddI (tVar 4) (tOp rModI (tVar 2) (tC (.int 2))))) (tC (.int 1))) (tOp rModI (tVar 2) (tC (.int 2)))) (gName 5))
  (sDPut (tVar 1) (tVar 5) (tOp rAddI (tDGet2 (tVar 1) (tVar 5) (tC (.int 0))) (tC (.int 1)))))))
  (tRet (tVar 1))))

theorem len__law_lengths (A : Ad) : ∀ vs H Q E, sp__law_lengths A vs H Q E → vs.length = 1 := fun vs H Q E h => by
  obtain ⟨t, rfl, _⟩ := h
  rfl
theorem len_keys {l : Tx} {M k : Nat} (hM : M < 2 * l.length - 1) (hl : l.length ≤ 200) (hk : k ≤ 1 - M % 2 + armN l M) : ∀ x ∈ (List.range M).flatMap (lenM l) ++ (List.range k).map (longK M), x < 1000 := fun x hx => by
  have hb : ∀ m s, m < 2 * l.length - 1 → s < 1 - m % 2 + armN l m → longK m s < 1000 := fun m s h1 h2 => by
    have := arm_le l m
    unfold longK
    omega
  rcases List.mem_append.mp hx with hx | hx
  · obtain ⟨m, hm, hx⟩ := List.mem_flatMap.mp hx
    obtain ⟨s, hs, rfl⟩ := List.mem_map.mp hx
    have := List.mem_range.mp hm
    exact hb m s (by omega) (List.mem_range.mp hs)
  · obtain ⟨s, hs, rfl⟩ := List.mem_map.mp hx
    have := List.mem_range.mp hs
    exact hb M s hM (by omega)
theorem pu__law_lengths (A : Ad) (vs : List V) (H : Hp) (Q : VK) (E : XK) (h : sp__law_lengths A vs H Q E) : t__law_lengths A { nx := fun _ H' => Q .non H', rt := Q } (start ["_law_text_here", "_law_found", "_law_middle", "_law_arm", "_law_step", "_law_long"] vs) H := by
  obtain ⟨l, rfl, hb, hl, kq⟩ := h
  show t__law_lengths A _ [some (tS l), none, none, none, none, none] H
  unfold t__law_lengths
  refine aq_asgN (Am.start H) en_dnew fun p H1 am => ?_
  dsimp only [List.set]
  refine aq_forEN (K := A.K) (f := vN) (ns := armsN l) (fun q pre σ' H' => ∃ (kvs : List (Key × V)) (v2 v3 v4 v5 : Option V), σ' = [some (tS l), some (.ref p), v2, v3, v4, v5] ∧ Am [] H [(q, .lst ((armsN l).map vN)), (p, .dK kvs)] H' ∧ CN ((List.range pre.length).flatMap (lenM l)) kvs) am
    (c_arms_ (ev_var rfl) hb (by omega)) (fun q H2 am => ⟨[], _, _, _, _, rfl, am, CN.nil⟩) (fun q pre σ' H' h => by obtain ⟨_, _, _, _, _, _, am, _⟩ := h; exact am.at 0 rfl) ?_ ?_
  · rintro q pre n post σ' H2 H3 hs ⟨kvs, v2, v3, v4, v5, rfl, am, hd⟩ ex
    have am := am.ex ex
    have hlen : (armsN l).length = 2 * l.length - 1 := by unfold armsN; rw [List.length_map, List.length_range]
    have hM : pre.length < 2 * l.length - 1 := by
      have := congrArg List.length hs
      rw [hlen, List.length_append, List.length_cons] at this
      omega
    have hn : n = armN l pre.length := by
      have e1 : (armsN l)[pre.length]? = some n := by rw [hs]; simp
      have e2 : (armsN l)[pre.length]? = some (armN l pre.length) := at_range _ hM
      exact Option.some.inj (e1.symm.trans e2)
    subst hn
    rw [show (pre ++ [armN l pre.length]).length = pre.length + 1 by rw [List.length_append]; rfl]
    generalize pre.length = M at hM hd
    dsimp only [List.set]
    have hal := arm_le l M
    have hw := wk_range1 (ta := tCons (tOp rAddI (tOp rSubI (tC (.int 1)) (tOp rModI (tVar 2) (tC (.int 2)))) (tVar 3)) tNil) (n := ((1 - M % 2 + armN l M : Nat) : Int)) (σ := [some (tS l), some (.ref p), some (.int (M : Nat)), some (vN (armN l M)), v4, v5]) (H := H3)
      (ea_cons (ev_is (ev_op (ev_op ev_c (ev_op (ev_var rfl) ev_c (r_modI (by decide))) rv_I0) (ev_var (v := .int (armN l M : Nat)) rfl) rv_I0) (by congr 1; omega)) ea_nil) (by omega)
    rw [Int.toNat_natCast] at hw
    refine a_for (ns := List.range (1 - M % 2 + armN l M)) (f := fun k => .int (k : Nat)) (fun pre σ' H' => ∃ (kvs : List (Key × V)) (v4 v5 : Option V), σ' = [some (tS l), some (.ref p), some (.int (M : Nat)), some (vN (armN l M)), v4, v5] ∧ Am [] H [(q, .lst ((armsN l).map vN)), (p, .dK kvs)] H' ∧ CN ((List.range M).flatMap (lenM l) ++ (List.range pre.length).map (longK M)) kvs) am hw
      (fun H4 am => ⟨kvs, _, _, rfl, am, by rw [show ([] : List Nat).length = 0 from rfl, List.range_zero, List.map_nil, List.append_nil]; exact hd⟩) (fun _ _ _ _ => trivial) ?_ ?_
    · rintro pre2 s post2 σ' H4 hs2 ⟨kvs, v4, v5, rfl, am, hd⟩
      obtain ⟨hP2, hPn2⟩ := range_atM hs2
      rw [show (pre2 ++ [s]).length = pre2.length + 1 by rw [List.length_append]; rfl]
      rw [hP2] at hd ⊢
      dsimp only [List.set]
      refine aq_asg (v := .int (longK M s : Nat)) am (ev_is (ev_op (ev_op (ev_op ev_c (ev_op (ev_var rfl) (ev_op (ev_var rfl) ev_c (r_modI (by decide))) rv_I0) (r_mulI (.inl (by decide)))) ev_c rv_I0) (ev_op (ev_var rfl) ev_c (r_modI (by decide))) rv_I0) (by
        unfold longK
        congr 1
        omega)) fun H5 am => ?_
      dsimp only [List.set]
      have hkl := hd.len (len_keys (k := s) hM hl (by omega))
      refine a_dput 1 (k := .inl ((longK M s : Nat) : Int)) am rfl (ev_var rfl) (ev_var rfl) (ev_is (v := .int ((((List.range M).flatMap (lenM l) ++ (List.range s).map (longK M)).count (longK M s) + 1 : Nat))) (ev_op (ev_is (e_dget2 (k := .inl ((longK M s : Nat) : Int)) (z := .int 0) (ev_var rfl) (ev_var rfl) ev_c (am.at 1 rfl)) (hd.get _)) ev_c rv_I0) (by congr 1)) (by omega) fun H6 am => ⟨_, _, _, rfl, am, ?_⟩
      have z := hd.bump (longK M s) (m := 1) (by decide)
      rw [List.append_assoc] at z
      rw [List.range_succ, List.map_append]
      exact z
    · rintro σ' H4 ⟨kvs, v4, v5, rfl, am, hd⟩
      refine ⟨kvs, _, _, _, _, rfl, am, ?_⟩
      rw [List.length_range] at hd
      rw [List.range_succ, List.flatMap_append]
      have e : [M].flatMap (lenM l) = (List.range (1 - M % 2 + armN l M)).map (longK M) := by
        rw [List.flatMap_cons, List.flatMap_nil, List.append_nil]; rfl
      rw [e]
      exact hd
  · rintro q σ' H2 ⟨kvs, v2, v3, v4, v5, rfl, am, hd⟩
    have hlen : (armsN l).length = 2 * l.length - 1 := by unfold armsN; rw [List.length_map, List.length_range]
    rw [hlen] at hd
    exact a_ret am (ev_var rfl) fun H3 am => kq p kvs H3 hd (am.free 1 rfl) am.toEx (am.at 1 rfl)
theorem c_lengths {A : Ad} {σ : L2.St} {H : Hp} {te : TE} {l : Tx} (h : Ev te σ H (tS l)) (hb : isTx l = true) (hl : l.length ≤ 200) : EvD (tCall (sp__law_lengths A) [] E0 (tCons te tNil)) σ H (CN (lenK l)) := fun H1 e Q q =>
  (ea_cons h ea_nil) H1 e _ fun H2 e2 => ⟨l, rfl, hb, hl, fun p kvs H3 hd hp e3 h3 => q p kvs H3 hd (fresh_back e2 hp) (e2.trans e3) h3⟩
/-! ## _law_told -/
def sp__law_told (A : Ad) : Sp := fun vs H Q _ => ∃ g b t kT kU, vs = [.ref g] ∧ BkAt A g b t kT kU H ∧ ∀ p kvs H', CN (toldK t (wordsL t)) kvs → H p = none → Ex H H' → H' p = some (.dK kvs) → Q (.ref p) H'
def t__law_told (A : Ad) : TS :=
  (tSeq (tAsg tDNewK (gName 1))
  (tSeq (tFor (iList A.K (tMeth A.cBook "words" (sp_Book_words A) [] E0 (tVar 0) tNil)) (gName 2)
  (sDPut (tVar 1) (tCB rLenT (tCons (tVar 2) tNil)) (tOp rAddI (tDGet2 (tVar 1) (tCB rLenT (tCons (tVar 2) tNil)) (tC (.int 0))) (tMeth A.cBook "count" (sp_Book_count A) [] E0 (tVar 0) (tCons (tVar 2) tNil)))))
  (tRet (tVar 1))))

theorem len__law_told (A : Ad) : ∀ vs H Q E, sp__law_told A vs H Q E → vs.length = 1 := fun vs H Q E h => by
  obtain ⟨g, b, t, kT, kU, rfl, _⟩ := h
  rfl
theorem toldK_len {t : Tx} (hl : t.length ≤ 200) {ws : List Tx} (h : ∀ w ∈ ws, w ∈ wordsL t) : ∀ x ∈ toldK t ws, x < 1000 := fun x hx => by
  obtain ⟨w, hw, hx⟩ := List.mem_flatMap.mp hx
  have e := List.eq_of_mem_replicate hx
  have := wordsL_len (h w hw)
  omega
theorem pu__law_told (A : Ad) (vs : List V) (H : Hp) (Q : VK) (E : XK) (h : sp__law_told A vs H Q E) : t__law_told A { nx := fun _ H' => Q .non H', rt := Q } (start ["_law_book", "_law_found", "_law_word"] vs) H := by
  obtain ⟨g, b, t, kT, kU, rfl, hb, kq⟩ := h
  show t__law_told A _ [some (.ref g), none, none] H
  unfold t__law_told
  have htl := hb.len
  refine aq_asgN (Am.start H) en_dnew fun p H1 am => ?_
  dsimp only [List.set]
  refine aq_forN2 (K := A.K) (f := tS) (ns := wordsL t) (fun q pre σ' H' => ∃ (kvs : List (Key × V)) (v2 : Option V), σ' = [some (.ref g), some (.ref p), v2] ∧ Am [] H [(q, .lst ((wordsL t).map tS)), (p, .dK kvs)] H' ∧ CN (toldK t pre) kvs) am
    (c_words (ev_var rfl) (hb.ex am.toEx)) (fun q H2 am => ⟨[], _, rfl, am, CN.nil⟩) (fun q pre σ' H' h => by obtain ⟨_, _, _, am, _⟩ := h; exact am.at 0 rfl) ?_ ?_
  · rintro q pre w post σ' H2 hs ⟨kvs, v2, rfl, am, hd⟩
    dsimp only [List.set]
    have hw : w ∈ wordsL t := by rw [hs]; simp
    have hwl := wordsL_len hw
    have hpos := ((words_rows t).mem w).mp hw
    have hlen : ∀ {H' : Hp} {σ : L2.St}, σ[2]? = some (some (tS w)) → Ev (tCB rLenT (tCons (tVar 2) tNil)) σ H' (.int (w.length : Nat)) := fun s2 => ev_cb (ea_cons (ev_var s2) ea_nil) (rc_lenT (by omega))
    have hkl := hd.len (toldK_len htl fun v hv => by rw [hs]; exact List.mem_append_left _ hv)
    refine a_dput 1 (k := .inl ((w.length : Nat) : Int)) am rfl (ev_var rfl) (hlen rfl) (ev_is (v := .int ((toldK t pre).count w.length + cntD t w : Nat)) (ev_op (ev_is (e_dget2 (k := .inl ((w.length : Nat) : Int)) (z := .int 0) (ev_var rfl) (hlen rfl) ev_c (am.at 1 rfl)) (hd.get _)) (c_count (ev_var rfl) (ev_var rfl) (hb.ex am.toEx) (mir_is (t := t) (mem_words.mp hw).1 (word_lets hb.lets hw) (by omega)) (by omega)) rv_I0) (by congr 1)) (by omega) fun H6 am => ⟨_, _, rfl, am, ?_⟩
    have z := hd.bump w.length hpos
    have e : toldK t (pre ++ [w]) = toldK t pre ++ List.replicate (cntD t w) w.length := by
      unfold toldK
      rw [List.flatMap_append, List.flatMap_cons, List.flatMap_nil, List.append_nil]
    rw [e]
    exact z
  · rintro q σ' H2 ⟨kvs, v2, rfl, am, hd⟩
    exact a_ret am (ev_var rfl) fun H3 am => kq p kvs H3 hd (am.free 1 rfl) am.toEx (am.at 1 rfl)
theorem c_told {A : Ad} {σ : L2.St} {H : Hp} {te : TE} {g : Addr} {b : BA} {t : Tx} {kT kU : List (Key × V)} (h : Ev te σ H (.ref g)) (hb : BkAt A g b t kT kU H) : EvD (tCall (sp__law_told A) [] E0 (tCons te tNil)) σ H (CN (toldK t (wordsL t))) := fun H1 e Q q =>
  (ea_cons h ea_nil) H1 e _ fun H2 e2 => ⟨g, b, t, kT, kU, rfl, hb.ex (e.trans e2), fun p kvs H3 hd hp e3 h3 => q p kvs H3 hd (fresh_back e2 hp) (e2.trans e3) h3⟩
/-! ## _law_right -/
theorem c_least_textN {A : Ad} {σ : L2.St} {H : Hp} {te : TE} {E : XK} {n : Nat} {a : Nat → Nat} (h : EvL te σ H (armL n a)) (hn : n ≤ 200) (ok : OkA n a) (hN : NoCl n a (rA n a)) (hf : Free n a (rA n a)) :
    Ev (tCall (sp_least_text A) [] E (tCons te tNil)) σ H (tS (gT n a (rA n a) n)) := fun H1 e Q q => h H1 e _ fun p H2 _ e2 h2 => by
  have z := c_least_text_ (A := A) (σ := σ) (E := E) (te := tC (.ref p)) ev_c (sq_of h2) (.base (.lst h2)) hn ok hN hf
  exact z H2 (Ex.refl _) Q fun H3 e3 => q H3 (e2.trans e3)
theorem inV_texts (w : Tx) (us : List Tx) : inV (tS w) (us.map tS) = decide (w ∈ us) := by
  unfold inV
  rw [Bool.eq_iff_iff, List.any_eq_true, decide_eq_true_eq]
  constructor
  · rintro ⟨y, hy, e⟩
    obtain ⟨d, hd, rfl⟩ := List.mem_map.mp hy
    rw [eqV_text, decide_eq_true_eq] at e
    rw [← e]
    exact hd
  · intro h
    exact ⟨tS w, List.mem_map.mpr ⟨w, h, rfl⟩, by rw [eqV_text, decide_eq_true rfl]⟩
theorem flat_texts (us : List Tx) : (us.map tS).all flatV = true := by
  rw [List.all_eq_true]
  intro y hy
  obtain ⟨d, hd, rfl⟩ := List.mem_map.mp hy
  rfl
theorem e_maxDIN {K : PySem.W.Frag} {σ : L2.St} {H : Hp} {te tz : TE} {z : V} {ns : List Int} {v : V} (h : EvL te σ H (ns.map V.int)) (hz : Ev tz σ H z) (h0 : ns = [] → z = v) (h1 : ∀ m, m ∈ ns → (∀ y ∈ ns, y ≤ m) → V.int m = v) : Ev (tCKw (rMaxDI K) (tCons te tNil) (tCons tz tNil)) σ H v := fun H1 e Q q =>
  h H1 e _ fun p H2 _ e2 h2 => hz H2 (e.trans e2) _ fun H3 e3 => ⟨p, ns, z, rfl, rfl, sq_of (e3 _ _ h2), fun c => by rw [h0 c]; exact q H3 (e2.trans e3), fun m m1 m2 => by rw [h1 m m1 m2]; exact q H3 (e2.trans e3)⟩
theorem mostF_le (t : Tx) : mostF t ≤ t.length := by
  by_cases h : t = []
  · subst h; exact Nat.le_refl _
  · obtain ⟨i, _, e⟩ := most_at h
    have := hdN_le t i
    omega
def sp__law_right (A : Ad) : Sp := spV fun vs H v => ∃ g b t kT kU, vs = [.ref g, tS t] ∧ BkAt A g b t kT kU H ∧ v = .bl true
def t__law_right (A : Ad) : TS :=
  (tSeq (tAsg (tMeth A.cBook "words" (sp_Book_words A) [] E0 (tVar 0) tNil) (gName 2))
  (tSeq (tIfS (tOr (tTest (tOp rNe (tMeth A.cBook "whole" (sp_Book_whole A) [] E0 (tVar 0) tNil) (tVar 1))) (tOr (tTest (tOp rGtI (tCB (rLenS A.K) (tCons (tVar 2) tNil)) (tCB rLenT (tCons (tVar 1) tNil)))) (tTest (tOp rNeDA (tCall (sp__law_told A) [] E0 (tCons (tVar 0) tNil)) (tCall (sp__law_lengths A) [] E0 (tCons (tVar 1) tNil)))))) (tRet (tC (.bl false))) tNext)
  (tSeq (tAsg (tCall (sp_fewest A) [] E0 (tCons (tVar 1) tNil)) (gName 3))
  (tSeq (tIfS (tOr (tTest (tOp rNe (tJoin A.K (tC (tS [])) (tVar 3)) (tVar 1))) (tTest (tOp (rNeD A.K) (tLc (iList A.K (tVar 3)) (gName 4) (tTest (tOp (rIn A.K true) (tVar 4) (tVar 2))) (tVar 4) [4]) (tLst tNil)))) (tRet (tC (.bl false))) tNext)
  (tSeq (tAsg (tCKw (rMaxDI A.K) (tCons (tLc (iList A.K (tVar 2)) (gName 6) tYes (tCB rLenT (tCons (tVar 6) tNil)) [6]) tNil) (tCons (tC (.int 0)) tNil)) (gName 5))
  (tSeq (tIfS (tTest (tOp rNe (tCB rLenT (tCons (tMeth A.cBook "longest" (sp_Book_longest A) [] E0 (tVar 0) tNil) tNil)) (tVar 5))) (tRet (tC (.bl false))) tNext)
  (tRet (tOp rEqDA (tCall (sp__law_lengths A) [] E0 (tCons (tCall (sp_least_text A) [] E0 (tCons (tCall (sp_arms A) [] E0 (tCons (tVar 1) tNil)) tNil)) tNil)) (tCall (sp__law_lengths A) [] E0 (tCons (tVar 1) tNil))))))))))

theorem len__law_right (A : Ad) : ∀ vs H Q E, sp__law_right A vs H Q E → vs.length = 2 := fun vs H Q E h => by
  obtain ⟨_, ⟨g, b, t, kT, kU, rfl, _⟩, _⟩ := h
  rfl
theorem word_okT {t w : Tx} (hl : ∀ c ∈ t, c ∈ letters) (h : w ∈ wordsL t) : okT w = true := okT_lets2 (word_lets hl h)
theorem pu__law_right (A : Ad) (vs : List V) (H : Hp) (Q : VK) (E : XK) (h : sp__law_right A vs H Q E) : t__law_right A { nx := fun _ H' => Q .non H', rt := Q } (start ["_law_book", "_law_text_here", "_law_words", "_law_parts", "_law_part", "_law_most", "_law_word"] vs) H := by
  obtain ⟨_, ⟨g, b, t, kT, kU, rfl, hb, rfl⟩, k⟩ := h
  show t__law_right A _ [some (.ref g), some (tS t), none, none, none, none, none] H
  unfold t__law_right
  have hl := hb.len
  have hx : isTx t = true := lets_isTx hb.lets hl
  have hwn := len_words t
  refine aq_asgL (Am.start H) (c_words (ev_var rfl) hb) fun pw H1 am => ?_
  dsimp only [List.set]
  refine aq_when (b := false) am (et_or (a := false) (b := false) (et_is (et_test (ev_op (c_whole (ev_var rfl) (hb.ex am.toEx).has hl) (ev_var rfl) r_neS)) (by rw [decide_eq_true rfl]; rfl)) fun _ => et_or (a := false) (b := false) (et_is (et_test (ev_op (ev_cb (ea_cons (ev_var rfl) ea_nil) (rc_lenL (K := A.K) (sq_of (am.at 0 rfl)))) (ev_cb (ea_cons (ev_var rfl) ea_nil) (rc_lenT (by omega))) rv_I0)) (decide_eq_false (by rw [List.length_map]; omega))) fun _ =>
    et_test (e_neDA (c_told (ev_var rfl) (hb.ex am.toEx)) (c_lengths (ev_var rfl) hx hl) (told_same t))) (fun c => Bool.noConfusion c) fun _ H2 am => ?_
  refine aq_asgL am (c_fewest_ (ev_var rfl) hx (by omega)) fun pp H3 am => ?_
  dsimp only [List.set]
  have hbl := bst_len t t.length 0 (by omega)
  rw [Nat.sub_zero] at hbl
  refine aq_when (b := false) am (et_or (a := false) (b := false) (et_is (et_test (ev_op (e_joinL (K := A.K) (ls := bst t t.length) ev_c (ev_var rfl) (sq_of (am.at 0 rfl)) (by rw [bst_all]; omega)) (ev_var rfl) r_neS)) (by rw [bst_all, decide_eq_true rfl]; rfl)) fun _ => et_is (et_test (ev_opLL (xs := ((bst t t.length).filter fun _ => false).map tS) (ys := []) ?_ (el_lst ea_nil (by decide)) fun p q H4 h1 h2 e => rv_neTs (K := A.K) (a := (bst t t.length).filter fun _ => false) (b := []) (sq_of h1) (sq_of h2) (fun l hl' => by cases (List.mem_filter.mp hl').2) fun l hl' => by cases hl')) (by rw [List.filter_eq_nil_iff.mpr fun _ _ => Bool.false_ne_true, decide_eq_true rfl]; rfl)) (fun c => Bool.noConfusion c) fun _ H4 am => ?_
  · refine el_lc (f := tS) (ns := bst t t.length) (fun _ => false) tS (wk_list (K := A.K) (ev_var rfl) (sq_of (am.at 0 rfl))) (fun _ _ e s => ex_l e s) (sq_of (am.at 0 rfl)) (by omega) (fun _ => rfl) (fun w hw => ?_) fun w _ hw => Bool.noConfusion hw
    have z := rv_niL (K := A.K) (x := tS w) (sq_of (am.at 1 rfl)) rfl (flat_texts (wordsL t))
    rw [inV_texts, decide_eq_true (part_word hw)] at z
    exact et_test (ev_op (ev_var rfl) (ev_var rfl) z)
  refine aq_asg (v := .int (mostF t : Nat)) am (e_maxDIN (K := A.K) (ns := (wordsL t).map fun w => ((w.length : Nat) : Int)) (z := .int 0) ?_ ev_c (fun c => ?_) fun m hm hmx => ?_) fun H5 am => ?_
  · rw [List.map_map]
    exact el_lcY (f := tS) (ns := wordsL t) (fun w => V.int (w.length : Nat)) (wk_list (K := A.K) (ev_var rfl) (sq_of (am.at 1 rfl))) (fun _ _ e s => ex_l e s) (sq_of (am.at 1 rfl)) (by omega) (fun _ => rfl) fun w hw => by
      have := wordsL_len hw
      exact ev_cb (ea_cons (ev_var rfl) ea_nil) (rc_lenT (by omega))
  · have ht : t = [] := words_nil.mp (List.map_eq_nil_iff.mp c)
    rw [ht]; rfl
  · have hne : wordsL t ≠ [] := fun z => by rw [z] at hm; cases hm
    obtain ⟨w, hw, rfl⟩ := List.mem_map.mp hm
    have h1 := word_most hw
    have h2 := hmx _ (List.mem_map.mpr ⟨_, List.getLast_mem hne, rfl⟩)
    rw [last_long hne] at h2
    congr 1
    omega
  dsimp only [List.set]
  refine aq_when (b := false) am (et_is (et_test (ev_op (ev_cb (ea_cons (c_longest (ev_var rfl) (hb.ex am.toEx)) ea_nil) (rc_lenT (by rw [len_long]; have := mostF_le t; omega))) (ev_var rfl) r_neI)) (by rw [len_long, decide_eq_true rfl]; rfl)) (fun c => Bool.noConfusion c) fun _ H6 am => ?_
  have fine := fine_root (tiesN (armN t) (2 * t.length - 1))
  have ha : ∀ m, m < 2 * t.length - 1 → armN t m = armN t m := fun _ _ => rfl
  have ok := text_ok ha
  have nc := text_nocl fine ha
  have fr := free_text fine (by omega)
  have hg : isTx (gT t.length (armN t) (rA t.length (armN t)) t.length) = true := lets_isTx (gT_lets fine fr) (by rw [len_gT]; exact hl)
  have hL : ∀ {H' : Hp} {σ : L2.St}, σ[1]? = some (some (tS t)) → EvL (tCall (sp_arms A) [] E0 (tCons (tVar 1) tNil)) σ H' (armL t.length (armN t)) := fun {H' σ} s1 => by
    have z := c_arms_ (A := A) (E := E0) (σ := σ) (H := H') (te := tVar 1) (ev_var s1) hx (by omega)
    unfold armsN at z
    rw [List.map_map] at z
    exact z
  exact a_ret am (e_eqDA (c_lengths (c_least_textN (hL rfl) hl ok nc fr) hg (by rw [len_gT]; exact hl)) (c_lengths (ev_var rfl) hx hl) fun n => by rw [len_same (t := t) (len_gT _ _ _ _) fun m hm => gT_arms fine ok nc fr hm]) fun H7 am => k H7 am.toEx
theorem c__law_right_ {A : Ad} {σ : L2.St} {H : Hp} {te tx : TE} {g : Addr} {b : BA} {t : Tx} {kT kU : List (Key × V)} (h : Ev te σ H (.ref g)) (hx : Ev tx σ H (tS t)) (hb : BkAt A g b t kT kU H) : Ev (tCall (sp__law_right A) [] E0 (tCons te (tCons tx tNil))) σ H (.bl true) :=
  e_callV (ea_cons h (ea_cons hx ea_nil)) fun _ e => ⟨g, b, t, kT, kU, rfl, hb.ex e, rfl⟩

end Mw
namespace Mw
open PySem PySem.Spec PyProof.Rows L2 Evl
local macro_rules | `(tactic| walk_at "sd") => `(tactic| (first
  | assumption
  | omega
  | decide
  | (simp only [List.length_append, List.length_cons, List.length_nil, List.length_reverse, List.length_take, List.length_drop, List.length_map, List.length_range] at *; omega)
  | skip))
local macro_rules | `(tactic| walk_at "ev") => `(tactic| (first
  | ((with_reducible apply ev_var); rfl)
  | (with_reducible exact ev_c)
  | ((with_reducible apply ev_op) <;> walk_at "ev")
  | ((with_reducible apply e_negI) <;> walk_at "ev")
  | ((with_reducible apply et_test) <;> walk_at "ev")
  | ((with_reducible apply et_B) <;> walk_at "ev")
  | ((with_reducible apply et_and); (focus walk_at "ev"); intro hq; (try simp only [Bool.and_eq_true, Bool.or_eq_true, decide_eq_true_eq, Bool.not_eq_true', decide_eq_false_iff_not, Bool.and_eq_false_iff, Bool.or_eq_false_iff, Bool.not_eq_false'] at hq); walk_at "ev")
  | ((with_reducible apply et_or); (focus walk_at "ev"); intro hq; (try simp only [Bool.and_eq_true, Bool.or_eq_true, decide_eq_true_eq, Bool.not_eq_true', decide_eq_false_iff_not, Bool.and_eq_false_iff, Bool.or_eq_false_iff, Bool.not_eq_false'] at hq); walk_at "ev")
  | ((with_reducible apply ev_andV); (focus walk_at "ev"); intro hq; (try simp only [Bool.and_eq_true, Bool.or_eq_true, decide_eq_true_eq, Bool.not_eq_true', decide_eq_false_iff_not, Bool.and_eq_false_iff, Bool.or_eq_false_iff, Bool.not_eq_false'] at hq); walk_at "ev")
  | ((with_reducible apply ev_orV); (focus walk_at "ev"); intro hq; (try simp only [Bool.and_eq_true, Bool.or_eq_true, decide_eq_true_eq, Bool.not_eq_true', decide_eq_false_iff_not, Bool.and_eq_false_iff, Bool.or_eq_false_iff, Bool.not_eq_false'] at hq); walk_at "ev")
  | ((with_reducible apply e_if); (focus walk_at "ev"); (focus (intro hq; (try simp only [Bool.and_eq_true, Bool.or_eq_true, decide_eq_true_eq, Bool.not_eq_true', decide_eq_false_iff_not, Bool.and_eq_false_iff, Bool.or_eq_false_iff, Bool.not_eq_false'] at hq); walk_at "ev")); (intro hq; (try simp only [Bool.and_eq_true, Bool.or_eq_true, decide_eq_true_eq, Bool.not_eq_true', decide_eq_false_iff_not, Bool.and_eq_false_iff, Bool.or_eq_false_iff, Bool.not_eq_false'] at hq); walk_at "ev"))
  | ((with_reducible apply et_not) <;> walk_at "ev")
  | ((with_reducible apply ev_notV) <;> walk_at "ev")
  | (with_reducible exact et_yes)
  | (with_reducible exact ea_nil)
  | ((with_reducible apply ea_cons) <;> walk_at "ev")
  | (with_reducible exact eo_none)
  | ((with_reducible apply eo_some) <;> walk_at "ev")
  | ((with_reducible apply e_slBut) <;> walk_at "ev")
  | ((with_reducible apply e_slIn) <;> walk_at "ev")
  | ((with_reducible apply e_slTo) <;> walk_at "ev")
  | ((with_reducible apply e_slFrom) <;> walk_at "ev")
  | ((with_reducible apply e_slMid) <;> walk_at "ev")
  | ((with_reducible apply e_rev) <;> walk_at "ev")
  | (with_reducible exact rv_I0)
  | (with_reducible exact r_eqI) | (with_reducible exact r_neI) | (with_reducible exact r_eqS) | (with_reducible exact r_neS)
  | (with_reducible exact r_inC) | (with_reducible exact r_ninC) | (with_reducible exact r_isN) | (with_reducible exact r_notN)
  | (with_reducible exact r_ltT) | (with_reducible exact r_gtT)
  | (with_reducible exact rc_max2) | (with_reducible exact rc_min2)
  | ((with_reducible apply r_divI) <;> walk_at "sd") | ((with_reducible apply r_modI) <;> walk_at "sd") | ((with_reducible apply r_mulI) <;> walk_at "sd")
  | ((with_reducible apply r_ixS) <;> walk_at "sd")
  | ((with_reducible apply r_addT) <;> walk_at "sd")
  | ((with_reducible apply r_mulT) <;> walk_at "sd")
  | ((with_reducible apply rc_lenT) <;> walk_at "sd")
  | ((with_reducible apply rc_lenL) <;> walk_at "sd")
  | ((with_reducible apply ev_cb) <;> walk_at "ev")
  | walk_at "evc"
  | walk_at "sd"))

/-! ## deeds at one of the books -/
section
variable {A : Ad} {S : List Addr} {H0 H : Hp} {L : List (Addr × HO)} {σ : L2.St} {te : TE} {D : Ends} {tz : TS} {g : Addr} {b : BA} {t v : Tx} {c j : Nat} {kT kU : List (Key × V)}
theorem aq_makeD {C : Addr} {sp : Sp} {E : XK} {i : Nat} {w : V} (am : Am S H0 L H) (k : ∀ g dx H1, Am S H0 ((g, .ins C dx []) :: (dx, .own g) :: L) H1 → sp [.ref g, w] H1 (fun u H2 => u = .non ∧ tz D (σ.set i (some (.ref g))) H2) E) :
    tSeq (tAsg (tMake C sp [w] E tNil) (gName i)) tz D σ H := fun x dx hx hdx ne => by
  refine k x dx _ ((am.new1 hdx).new1 ?_)
  rw [upd_ne (Ne.symm ne)]
  exact hx
theorem a_putL (am : Am S H0 (bkL A g b t (hdV t) (enV t) kT kU ++ L) H) (ok : BkOk (cntD t) kT kU) (hle : ∀ x ∈ t, x ∈ letters) (hl : t.length < 200) (hs : σ[j]? = some (some (.ref g))) (h : Ev te σ H (tS [c])) (hc : c ∈ letters)
    (k : ∀ kT' kU' H1, BkOk (cntD (t ++ [c])) kT' kU' → Am S H0 (bkL A g b (t ++ [c]) (hdV (t ++ [c])) (enV (t ++ [c])) kT' kU' ++ L) H1 → D.nx σ H1) : tDrop (tMeth A.cBook "put_last" (sp_Book_put_last A) [] E0 (tVar j) (tCons te tNil)) D σ H :=
  a_methD am (ev_var hs) (am.at 0 rfl) rfl (ea_cons h ea_nil) fun H1 am => .inl ⟨g, b, t, kT, kU, c, rfl, bk_at am ok hle (by omega), hc, hl, fun kT' kU' H2 ok2 am2 => k kT' kU' H2 ok2 (Am.call (La := bkL A g b t (hdV t) (enV t) kT kU) am am2)⟩
theorem a_putF (am : Am S H0 (bkL A g b t (hdV t) (enV t) kT kU ++ L) H) (ok : BkOk (cntD t) kT kU) (hle : ∀ x ∈ t, x ∈ letters) (hl : t.length < 200) (hs : σ[j]? = some (some (.ref g))) (h : Ev te σ H (tS [c])) (hc : c ∈ letters)
    (k : ∀ kT' kU' H1, BkOk (cntD (c :: t)) kT' kU' → Am S H0 (bkL A g b (c :: t) (hdV (c :: t)) (enV (c :: t)) kT' kU' ++ L) H1 → D.nx σ H1) : tDrop (tMeth A.cBook "put_first" (sp_Book_put_first A) [] E0 (tVar j) (tCons te tNil)) D σ H :=
  a_methD am (ev_var hs) (am.at 0 rfl) rfl (ea_cons h ea_nil) fun H1 am => .inl ⟨g, b, t, kT, kU, c, rfl, bk_at am ok hle (by omega), hc, hl, fun kT' kU' H2 ok2 am2 => k kT' kU' H2 ok2 (Am.call (La := bkL A g b t (hdV t) (enV t) kT kU) am am2)⟩
theorem a_cutL (am : Am S H0 (bkL A g b (v ++ [c]) (hdV (v ++ [c])) (enV (v ++ [c])) kT kU ++ L) H) (ok : BkOk (cntD (v ++ [c])) kT kU) (hle : ∀ x ∈ v ++ [c], x ∈ letters) (hl : (v ++ [c]).length ≤ 200) (hs : σ[j]? = some (some (.ref g)))
    (k : ∀ kT' kU' H1, BkOk (cntD v) kT' kU' → Am S H0 (bkL A g b v (hdV v) (enV v) kT' kU' ++ L) H1 → D.nx σ H1) : tDrop (tMeth A.cBook "cut_last" (sp_Book_cut_last A) [] E0 (tVar j) tNil) D σ H :=
  a_methD am (ev_var hs) (am.at 0 rfl) rfl ea_nil fun H1 am => .inl ⟨g, b, v, c, kT, kU, rfl, bk_at am ok hle hl, fun kT' kU' H2 ok2 am2 => k kT' kU' H2 ok2 (Am.call (La := bkL A g b (v ++ [c]) (hdV (v ++ [c])) (enV (v ++ [c])) kT kU) am am2)⟩
theorem a_cutF (am : Am S H0 (bkL A g b (c :: v) (hdV (c :: v)) (enV (c :: v)) kT kU ++ L) H) (ok : BkOk (cntD (c :: v)) kT kU) (hle : ∀ x ∈ c :: v, x ∈ letters) (hl : (c :: v).length ≤ 200) (hs : σ[j]? = some (some (.ref g)))
    (k : ∀ kT' kU' H1, BkOk (cntD v) kT' kU' → Am S H0 (bkL A g b v (hdV v) (enV v) kT' kU' ++ L) H1 → D.nx σ H1) : tDrop (tMeth A.cBook "cut_first" (sp_Book_cut_first A) [] E0 (tVar j) tNil) D σ H :=
  a_methD am (ev_var hs) (am.at 0 rfl) rfl ea_nil fun H1 am => .inl ⟨g, b, v, c, kT, kU, rfl, bk_at am ok hle hl, fun kT' kU' H2 ok2 am2 => k kT' kU' H2 ok2 (Am.call (La := bkL A g b (c :: v) (hdV (c :: v)) (enV (c :: v)) kT kU) am am2)⟩
end
theorem tSeq_of {t1 tz : TS} {D : Ends} {σ : L2.St} {H : Hp} (h : t1 { D with nx := tz D } σ H) : tSeq t1 tz D σ H := h
/-! ## _law_grown -/
theorem sub_none (t : Tx) (a : Nat) : sub t a a = [] := by
  unfold sub
  rw [Nat.sub_self, List.take_zero]
theorem sub_whole (t : Tx) : sub t 0 t.length = t := by
  unfold sub
  rw [List.drop_zero, Nat.sub_zero, List.take_length]
theorem sub_last {t : Tx} {l r : Nat} (hlr : l ≤ r) (hr : r < t.length) : sub t l (r + 1) = sub t l r ++ [at0 t (r : Nat)] := by
  unfold sub at0
  have e : (t.drop l)[r - l]? = some t[r] := by
    rw [List.getElem?_drop, show l + (r - l) = r by omega, List.getElem?_eq_getElem hr]
  rw [show r + 1 - l = (r - l) + 1 by omega, List.take_add_one, e, Int.toNat_natCast, List.getD_eq_getElem?_getD, List.getElem?_eq_getElem hr]
  rfl
theorem sub_first {t : Tx} {l r : Nat} (hlr : l < r) (hr : r ≤ t.length) : sub t l r = at0 t (l : Nat) :: sub t (l + 1) r := by
  unfold sub at0
  rw [List.drop_eq_getElem_cons (by omega : l < t.length), show r - l = (r - (l + 1)) + 1 by omega, List.take_succ_cons, Int.toNat_natCast, List.getD_eq_getElem?_getD, List.getElem?_eq_getElem (by omega : l < t.length)]
  rfl
theorem sub_lets {t : Tx} (h : Lets t) (l r : Nat) : Lets (sub t l r) := fun c hc => h c (List.drop_subset _ _ (List.take_subset _ _ hc))
theorem sub_le (t : Tx) (l r : Nat) : (sub t l r).length ≤ t.length := by
  unfold sub
  rw [List.length_take, List.length_drop]
  omega
theorem at0_lets {t : Tx} (h : Lets t) {i : Int} (h0 : 0 ≤ i) (h1 : i < t.length) : at0 t i ∈ letters := by
  unfold at0
  rw [List.getD_eq_getElem?_getD, List.getElem?_eq_getElem (by omega : i.toNat < t.length)]
  exact h _ (List.getElem_mem _)
def sp__law_grown (A : Ad) : Sp := fun vs H Q _ => ∃ (t : Tx) (a : Nat) (c : Int), vs = [tS t, .int (a : Nat), .int c] ∧ a ≤ t.length ∧ Lets t ∧ t.length ≤ 199 ∧ ∀ g b kT kU H', BkOk (cntD t) kT kU → Am [] H (bkL A g b t (hdV t) (enV t) kT kU) H' → Q (.ref g) H'
def t__law_grown (A : Ad) : TS :=
  (tSeq (tAsg (tMake A.cBook (sp_Book_init A) [tS []] E0 tNil) (gName 3))
  (tSeq (tAsg (tVar 1) (gName 4))
  (tSeq (tAsg (tVar 1) (gName 5))
  (tSeq (tWhile (tOr (tTest (tOp rGtI (tVar 4) (tC (.int 0)))) (tTest (tOp rLtI (tVar 5) (tCB rLenT (tCons (tVar 0) tNil)))))
  (tSeq (tAsg (tOp rModI (tOp rAddI (tOp rMulI (tVar 2) (tC (.int 48271))) (tC (.int 11))) (tC (.int 2147483647))) (gName 2))
  (tIfS (tAnd (tTest (tOp rLtI (tVar 5) (tCB rLenT (tCons (tVar 0) tNil)))) (tOr (tTest (tOp rEq (tVar 4) (tC (.int 0)))) (tTest (tOp rEq (tOp rModI (tOp rDivI (tVar 2) (tC (.int 64))) (tC (.int 2))) (tC (.int 0)))))) (tSeq (tDrop (tMeth A.cBook "put_last" (sp_Book_put_last A) [] E0 (tVar 3) (tCons (tOp rIxS (tVar 0) (tVar 5)) tNil)))
  (tAsg (tOp rAddI (tVar 5) (tC (.int 1))) (gName 5))) (tSeq (tAsg (tOp rSubI (tVar 4) (tC (.int 1))) (gName 4))
  (tDrop (tMeth A.cBook "put_first" (sp_Book_put_first A) [] E0 (tVar 3) (tCons (tOp rIxS (tVar 0) (tVar 4)) tNil)))))))
  (tRet (tVar 3))))))

theorem len__law_grown (A : Ad) : ∀ vs H Q E, sp__law_grown A vs H Q E → vs.length = 3 := fun vs H Q E h => by
  obtain ⟨t, a, c, rfl, _⟩ := h
  rfl
theorem pu__law_grown (A : Ad) (vs : List V) (H : Hp) (Q : VK) (E : XK) (h : sp__law_grown A vs H Q E) : t__law_grown A { nx := fun _ H' => Q .non H', rt := Q } (start ["_law_text_here", "_law_at", "_law_cell", "_law_book", "_law_left", "_law_right_here"] vs) H := by
  obtain ⟨t, a, c, rfl, ha, hle, hl, k⟩ := h
  show t__law_grown A _ [some (tS t), some (.int (a : Nat)), some (.int c), none, none, none] H
  unfold t__law_grown
  refine aq_makeD (Am.start H) fun g dx H1 am => ?_
  refine .inl ⟨g, dx, [], rfl, Am.has (La := [(g, .ins A.cBook dx [])]) (L := [(dx, .own g)]) am, fun c hc => (by cases hc), by decide, fun b kT kU H2 ok am2 => ⟨rfl, ?_⟩⟩
  have am : Am [] H (bkL A g b [] (hdV []) (enV []) kT kU ++ [(dx, .own g)]) H2 := Am.call (La := [(g, .ins A.cBook dx [])]) (L := [(dx, .own g)]) am am2
  dsimp only [List.set]
  refine aq_asg am (ev_var rfl) fun H3 am => ?_
  dsimp only [List.set]
  refine aq_asg am (ev_var rfl) fun H4 am => ?_
  dsimp only [List.set]
  refine aq_while (fun m σ' H' => ∃ (l r : Nat) (c : Int) (kT kU : List (Key × V)), σ' = [some (tS t), some (.int (a : Nat)), some (.int c), some (.ref g), some (.int (l : Nat)), some (.int (r : Nat))] ∧ l ≤ r ∧ r ≤ t.length ∧ m = l + (t.length - r) ∧ BkOk (cntD (sub t l r)) kT kU ∧ Am [] H (bkL A g b (sub t l r) (hdV (sub t l r)) (enV (sub t l r)) kT kU ++ [(dx, .own g)]) H') (a + (t.length - a))
    ⟨a, a, c, kT, kU, rfl, Nat.le_refl _, ha, rfl, by rw [sub_none]; exact ok, by rw [sub_none]; exact am⟩ fun m σ' H' hw => ?_
  obtain ⟨l, r, c, kT, kU, rfl, hlr, hr, rfl, ok, am⟩ := hw
  have hlen : ∀ {H' : Hp} {σ : L2.St}, σ[0]? = some (some (tS t)) → Ev (tCB rLenT (tCons (tVar 0) tNil)) σ H' (.int (t.length : Nat)) := fun s0 => ev_cb (ea_cons (ev_var s0) ea_nil) (rc_lenT (by omega))
  refine ⟨_, et_or (et_test (ev_op (ev_var rfl) ev_c rv_I0)) (fun _ => et_test (ev_op (ev_var rfl) (hlen rfl) rv_I0)), fun cc H5 e N hN => ?_, fun cc H5 e => ?_⟩
  · have am := am.ex e
    refine aq_asg am (ev_op (ev_op (ev_op (ev_var rfl) ev_c (r_mulI (.inr (by decide)))) ev_c rv_I0) ev_c (r_modI (by decide))) fun H6 am => ?_
    dsimp only [List.set]
    generalize (c * 48271 + 11) % 2147483647 = c2
    refine a_if am (et_and (et_test (ev_op (ev_var rfl) (hlen rfl) rv_I0)) fun _ => et_or (et_test (ev_op (ev_var rfl) ev_c r_eqI)) fun _ => et_test (ev_op (ev_op (ev_op (ev_var rfl) ev_c (r_divI (by decide))) ev_c (r_modI (by decide))) ev_c r_eqI)) (fun cb H7 am => ?_) fun cb H7 am => ?_
    · rw [Bool.and_eq_true, decide_eq_true_eq] at cb
      have hrt : r < t.length := by have := cb.1; omega
      have e1 := sub_last hlr hrt
      have hi : (0 : Int) ≤ (r : Nat) ∧ ((r : Nat) : Int) < t.length := ⟨by omega, by omega⟩
      refine tSeq_of (a_putL (c := at0 t (r : Nat)) am ok (sub_lets hle l r) (by have := sub_le t l r; omega) rfl (ev_op (ev_var rfl) (ev_var rfl) (r_ixS hi.1 hi.2 (by omega))) (at0_lets hle hi.1 hi.2) fun kT' kU' H8 ok2 am => ?_)
      rw [← e1] at ok2 am
      refine a_asg am (ev_is (v := .int ((r + 1 : Nat))) (ev_op (ev_var rfl) ev_c rv_I0) (by congr 1)) fun H9 am => hN (l + (t.length - (r + 1))) _ _ (by omega) ⟨l, r + 1, c2, kT', kU', rfl, by omega, by omega, rfl, ok2, am⟩
    · have hl0 : 0 < l := by
        rcases Nat.eq_zero_or_pos l with z | z
        · subst z
          rw [Bool.or_eq_true, decide_eq_true_eq, decide_eq_true_eq] at cc
          have hrt : ((r : Nat) : Int) < (t.length : Nat) := by omega
          rw [decide_eq_true hrt, decide_eq_true (by rfl)] at cb
          cases cb
        · exact z
      obtain ⟨l, rfl⟩ : ∃ y, l = y + 1 := ⟨l - 1, by omega⟩
      refine aq_asg (v := .int (l : Nat)) am (ev_is (ev_op (ev_var rfl) ev_c rv_I0) (by congr 1; omega)) fun H8 am => ?_
      dsimp only [List.set]
      have e1 := sub_first (t := t) (l := l) (r := r) (by omega) hr
      have hi : (0 : Int) ≤ (l : Nat) ∧ ((l : Nat) : Int) < t.length := ⟨by omega, by omega⟩
      refine a_putF (c := at0 t (l : Nat)) am ok (sub_lets hle _ _) (by have := sub_le t (l + 1) r; omega) rfl (ev_op (ev_var rfl) (ev_var rfl) (r_ixS hi.1 hi.2 (by omega))) (at0_lets hle hi.1 hi.2) fun kT' kU' H9 ok2 am => ?_
      rw [← e1] at ok2 am
      exact hN (l + (t.length - r)) _ _ (by omega) ⟨l, r, c2, kT', kU', rfl, by omega, hr, rfl, ok2, am⟩
  · have am := am.ex e
    rw [Bool.or_eq_false_iff, decide_eq_false_iff_not, decide_eq_false_iff_not] at cc
    have e1 : l = 0 := by omega
    have e2 : r = t.length := by omega
    subst e1
    subst e2
    rw [sub_whole] at ok am
    exact a_ret am (ev_var rfl) fun H6 am => k g b kT kU H6 ok (am.sub (List.sublist_append_left _ _))
/-! ## law k10 -/
theorem lps_one (c : Nat) : lps [c] = [c] := by rw [lps_cons, if_pos (mir_iff.mp (pal_one1 c)).1]
theorem new_one (c : Nat) : newV (cntD [] (lps [c])) (lps [c]) = tS [c] := by
  rw [lps_one, cntD_nil]; rfl
def sp_law (A : Ad) : Sp := fun vs H Q _ => ∃ (a : Addr) (ns : List Int), vs = [.ref a] ∧ SqL A.K H a (ns.map V.int) ∧ ns.length ≤ 63 ∧ ∀ H', Q (.bl true) H'
def t_law (A : Ad) : TS :=
  (tSeq (tAsg (tCall (sp__law_text A) [] E0 (tCons (tVar 0) (tCons (tC (.int 3)) (tCons (tC (.int 60)) tNil)))) (gName 1))
  (tSeq (tAsg (tCall (sp__law_draw A) [] E0 (tCons (tVar 0) (tCons (tC (.int 1)) tNil))) (gName 2))
  (tSeq (tAsg (tCall (sp__law_grown A) [] E0 (tCons (tVar 1) (tCons (tOp rModI (tVar 2) (tOp rAddI (tCB rLenT (tCons (tVar 1) tNil)) (tC (.int 1)))) (tCons (tCall (sp__law_draw A) [] E0 (tCons (tVar 0) (tCons (tC (.int 2)) tNil))) tNil)))) (gName 3))
  (tSeq (tAsg (tCall (sp__law_grown A) [] E0 (tCons (tVar 1) (tCons (tOp rModI (tOp rDivI (tVar 2) (tC (.int 7))) (tOp rAddI (tCB rLenT (tCons (tVar 1) tNil)) (tC (.int 1)))) (tCons (tOp rAddI (tCall (sp__law_draw A) [] E0 (tCons (tVar 0) (tCons (tC (.int 2)) tNil))) (tC (.int 5))) tNil)))) (gName 4))
  (tSeq (tIfS (tOr (tNot (tB (tCall (sp__law_right A) [] E0 (tCons (tVar 3) (tCons (tVar 1) tNil))))) (tTest (tOp (rNeD A.K) (tMeth A.cBook "words" (sp_Book_words A) [] E0 (tVar 3) tNil) (tMeth A.cBook "words" (sp_Book_words A) [] E0 (tVar 4) tNil)))) (tRet (tC (.bl false))) tNext)
  (tSeq (tAsg (tOp rModI (tOp rDivI (tVar 2) (tC (.int 50))) (tOp rAddI (tCB rLenT (tCons (tVar 1) tNil)) (tC (.int 1)))) (gName 5))
  (tSeq (tAsg (tOp rAddI (tVar 5) (tOp rModI (tOp rDivI (tVar 2) (tC (.int 3000))) (tOp rAddI (tOp rSubI (tCB rLenT (tCons (tVar 1) tNil)) (tVar 5)) (tC (.int 1))))) (gName 6))
  (tSeq (tFor (iRng1 (tCons (tVar 5) tNil)) (gName 7)
  (tDrop (tMeth A.cBook "cut_first" (sp_Book_cut_first A) [] E0 (tVar 4) tNil)))
  (tSeq (tFor (iRng1 (tCons (tOp rSubI (tCB rLenT (tCons (tVar 1) tNil)) (tVar 6)) tNil)) (gName 7)
  (tDrop (tMeth A.cBook "cut_last" (sp_Book_cut_last A) [] E0 (tVar 4) tNil)))
  (tSeq (tIfS (tOr (tNot (tB (tCall (sp__law_right A) [] E0 (tCons (tVar 4) (tCons (tSl rSlS (tVar 1) (tPart (tVar 5)) (tPart (tVar 6))) tNil))))) (tNot (tB (tCall (sp__law_right A) [] E0 (tCons (tVar 3) (tCons (tVar 1) tNil)))))) (tRet (tC (.bl false))) tNext)
  (tSeq (tIfS (tTest (tOp rEq (tVar 1) (tC (tS [])))) (tRet (tAndV (tOp rEq (tMeth A.cBook "put_first" (sp_Book_put_first A) [] E0 (tVar 3) (tCons (tC (tS [98])) tNil)) (tC (tS [98]))) (tCall (sp__law_right A) [] E0 (tCons (tVar 3) (tCons (tC (tS [98])) tNil))))) tNext)
  (tSeq (tDrop (tMeth A.cBook "cut_first" (sp_Book_cut_first A) [] E0 (tVar 3) tNil))
  (tSeq (tDrop (tMeth A.cBook "put_last" (sp_Book_put_last A) [] E0 (tVar 3) (tCons (tOp rIxS (tVar 1) (tOp rModI (tVar 2) (tCB rLenT (tCons (tVar 1) tNil)))) tNil)))
  (tSeq (tDrop (tMeth A.cBook "put_first" (sp_Book_put_first A) [] E0 (tVar 4) (tCons (tC (tS [98])) tNil)))
  (tRet (tAndV (tCall (sp__law_right A) [] E0 (tCons (tVar 3) (tCons (tOp rAddT (tSl rSlS (tVar 1) (tPart (tC (.int 1))) tNoPart) (tOp rIxS (tVar 1) (tOp rModI (tVar 2) (tCB rLenT (tCons (tVar 1) tNil))))) tNil))) (tCall (sp__law_right A) [] E0 (tCons (tVar 4) (tCons (tOp rAddT (tC (tS [98])) (tSl rSlS (tVar 1) (tPart (tVar 5)) (tPart (tVar 6)))) tNil)))))))))))))))))))

theorem len_law (A : Ad) : ∀ vs H Q E, sp_law A vs H Q E → vs.length = 1 := fun vs H Q E h => by
  obtain ⟨a, ns, rfl, _⟩ := h
  rfl
theorem pu_law (A : Ad) (vs : List V) (H : Hp) (Q : VK) (E : XK) (h : sp_law A vs H Q E) :
    t_law A { nx := fun _ H' => Q .non H', rt := Q } (start ["_law_script", "_law_text_here", "_law_cell", "_law_one", "_law_other", "_law_first", "_law_last", "_law_step"] vs) H := by
  obtain ⟨q, ns, rfl, hS, hns, k⟩ := h
  show t_law A _ [some (.ref q), none, none, none, none, none, none, none] H
  unfold t_law
  refine aq_asgP (Am.start H) (c__law_text_ (fi := 3) (mo := 60) (ev_var rfl) hS hns (by decide) (by decide)) fun v H1 ⟨t, hv, hle, hlen⟩ am => ?_
  subst hv
  dsimp only [List.set]
  refine aq_asg am (c__law_draw_ (k := 1) (ev_var rfl) ev_c (ex_l am.toEx hS)) fun H2 am => ?_
  generalize drawI ns 1 = cell
  dsimp only [List.set]
  have hL : ∀ {H' : Hp} {σ : L2.St}, σ[1]? = some (some (tS t)) → Ev (tCB rLenT (tCons (tVar 1) tNil)) σ H' (.int (t.length : Nat)) := fun s1 => ev_cb (ea_cons (ev_var s1) ea_nil) (rc_lenT (by omega))
  have at1 : ∀ x : Int, ∃ a : Nat, x % (((t.length : Nat) : Int) + 1) = (a : Nat) ∧ a ≤ t.length := fun x => by
    have h1 := Int.emod_nonneg x (b := ((t.length : Nat) : Int) + 1) (by omega)
    have h2 := Int.emod_lt_of_pos x (b := ((t.length : Nat) : Int) + 1) (by omega)
    exact ⟨(x % (((t.length : Nat) : Int) + 1)).toNat, by omega, by omega⟩
  have hok : ∀ w ∈ wordsL t, okT w = true := fun w hw => word_okT hle hw
  -- two books
  obtain ⟨a1, ha1, hb1⟩ := at1 cell
  refine aq_callA am (ea_cons (ev_var rfl) (ea_cons (ev_is (ev_op (ev_var rfl) (ev_op (hL rfl) ev_c rv_I0) (r_modI (by omega))) (congrArg V.int ha1)) (ea_cons (c__law_draw_ (k := 2) (ev_var rfl) ev_c (ex_l am.toEx hS)) ea_nil))) fun H3 am => ?_
  refine ⟨t, a1, drawI ns 2, rfl, hb1, hle, by omega, fun g1 b1 kT1 kU1 H4 ok1 am2 => ?_⟩
  have am : Am [] H (bkL A g1 b1 t (hdV t) (enV t) kT1 kU1 ++ []) H4 := Am.call0 am am2
  rw [List.append_nil] at am
  dsimp only [List.set]
  obtain ⟨a2, ha2, hb2⟩ := at1 (cell / 7)
  refine aq_callA am (ea_cons (ev_var rfl) (ea_cons (ev_is (ev_op (ev_op (ev_var rfl) ev_c (r_divI (by decide))) (ev_op (hL rfl) ev_c rv_I0) (r_modI (by omega))) (congrArg V.int ha2)) (ea_cons (ev_op (c__law_draw_ (k := 2) (ev_var rfl) ev_c (ex_l am.toEx hS)) ev_c rv_I0) ea_nil))) fun H5 am => ?_
  refine ⟨t, a2, drawI ns 2 + 5, rfl, hb2, hle, by omega, fun g2 b2 kT2 kU2 H6 ok2 am2 => ?_⟩
  have am : Am [] H (bkL A g2 b2 t (hdV t) (enV t) kT2 kU2 ++ bkL A g1 b1 t (hdV t) (enV t) kT1 kU1) H6 := Am.call0 am am2
  dsimp only [List.set]
  have hB1 : ∀ {H' : Hp} {t2 : Tx} {kT kU : List (Key × V)}, Am [] H (bkL A g2 b2 t2 (hdV t2) (enV t2) kT kU ++ bkL A g1 b1 t (hdV t) (enV t) kT1 kU1) H' → BkAt A g1 b1 t kT1 kU1 H' := fun am => ⟨(am.sub (List.sublist_append_right _ _)).hasAll, ok1, hle, by omega⟩
  refine aq_when (b := false) am (et_or (a := false) (b := false) (et_is (et_not (et_B (c__law_right_ (ev_var rfl) (ev_var rfl) (hB1 am)))) rfl) fun _ => et_is (et_test (ev_opLL (c_words (ev_var rfl) (hB1 am)) (c_words (ev_var rfl) (bk_at am ok2 hle (by omega))) fun p q H7 h1 h2 e => rv_neTs (K := A.K) (a := wordsL t) (b := wordsL t) (sq_of h1) (sq_of h2) hok hok)) (by rw [decide_eq_true rfl]; rfl)) (fun c => Bool.noConfusion c) fun _ H7 am => ?_
  -- the stretch
  obtain ⟨F, hF, hFl⟩ := at1 (cell / 50)
  refine aq_asg (v := .int (F : Nat)) am (ev_is (ev_op (ev_op (ev_var rfl) ev_c (r_divI (by decide))) (ev_op (hL rfl) ev_c rv_I0) (r_modI (by omega))) (congrArg V.int hF)) fun H8 am => ?_
  dsimp only [List.set]
  obtain ⟨Z, hZ, hZ1, hZ2⟩ : ∃ Z : Nat, ((F : Nat) : Int) + cell / 3000 % (((t.length : Nat) : Int) - (F : Nat) + 1) = (Z : Nat) ∧ F ≤ Z ∧ Z ≤ t.length := by
    have h1 := Int.emod_nonneg (cell / 3000) (b := ((t.length : Nat) : Int) - (F : Nat) + 1) (by omega)
    have h2 := Int.emod_lt_of_pos (cell / 3000) (b := ((t.length : Nat) : Int) - (F : Nat) + 1) (by omega)
    exact ⟨(((F : Nat) : Int) + cell / 3000 % (((t.length : Nat) : Int) - (F : Nat) + 1)).toNat, by omega, by omega, by omega⟩
  refine aq_asg (v := .int (Z : Nat)) am (ev_is (ev_op (ev_var rfl) (ev_op (ev_op (ev_var rfl) ev_c (r_divI (by decide))) (ev_op (ev_op (hL rfl) (ev_var rfl) rv_I0) ev_c rv_I0) (r_modI (by omega))) rv_I0) (congrArg V.int hZ)) fun H9 am => ?_
  dsimp only [List.set]
  have hw1 := wk_range1 (ta := tCons (tVar 5) tNil) (n := ((F : Nat) : Int)) (σ := [some (.ref q), some (tS t), some (.int cell), some (.ref g1), some (.ref g2), some (.int (F : Nat)), some (.int (Z : Nat)), none]) (H := H9) (ea_cons (ev_var rfl) ea_nil) (by omega)
  rw [Int.toNat_natCast] at hw1
  refine aq_for (ns := List.range F) (f := fun i => .int (i : Nat)) (fun pre σ' H' => ∃ (kT kU : List (Key × V)) (v7 : Option V), σ' = [some (.ref q), some (tS t), some (.int cell), some (.ref g1), some (.ref g2), some (.int (F : Nat)), some (.int (Z : Nat)), v7] ∧
    Am [] H (bkL A g2 b2 (sub t pre.length t.length) (hdV (sub t pre.length t.length)) (enV (sub t pre.length t.length)) kT kU ++ bkL A g1 b1 t (hdV t) (enV t) kT1 kU1) H' ∧ BkOk (cntD (sub t pre.length t.length)) kT kU) am hw1
    (fun H10 am => ⟨kT2, kU2, _, rfl, by rw [show ([] : List Nat).length = 0 from rfl, sub_whole]; exact am, by rw [show ([] : List Nat).length = 0 from rfl, sub_whole]; exact ok2⟩) (fun _ _ _ _ => trivial) ?_ ?_
  · rintro pre i post σ' H10 hs ⟨kT, kU, v7, rfl, am, ok⟩
    obtain ⟨hP, hPn⟩ := range_atM hs
    rw [show (pre ++ [i]).length = pre.length + 1 by rw [List.length_append]; rfl]
    rw [hP] at am ok ⊢
    dsimp only [List.set]
    have hcl := sub_le t i t.length
    have hcs := sub_lets hle i t.length
    have e1 := sub_first (t := t) (l := i) (r := t.length) (by omega) (Nat.le_refl _)
    rw [e1] at am ok hcl hcs
    exact a_cutF am ok hcs (by omega) rfl fun kT' kU' H11 ok am => ⟨kT', kU', _, rfl, am, ok⟩
  rintro σ' H10 ⟨kT, kU, v7, rfl, am, ok⟩
  rw [List.length_range] at am ok
  have hw2 := wk_range1 (ta := tCons (tOp rSubI (tCB rLenT (tCons (tVar 1) tNil)) (tVar 6)) tNil) (n := ((t.length - Z : Nat) : Int)) (σ := [some (.ref q), some (tS t), some (.int cell), some (.ref g1), some (.ref g2), some (.int (F : Nat)), some (.int (Z : Nat)), v7]) (H := H10) (ea_cons (ev_is (ev_op (hL rfl) (ev_var rfl) rv_I0) (by congr 1; omega)) ea_nil) (by omega)
  rw [Int.toNat_natCast] at hw2
  refine aq_for (ns := List.range (t.length - Z)) (f := fun i => .int (i : Nat)) (fun pre σ' H' => ∃ (kT kU : List (Key × V)) (v7 : Option V), σ' = [some (.ref q), some (tS t), some (.int cell), some (.ref g1), some (.ref g2), some (.int (F : Nat)), some (.int (Z : Nat)), v7] ∧
    Am [] H (bkL A g2 b2 (sub t F (t.length - pre.length)) (hdV (sub t F (t.length - pre.length))) (enV (sub t F (t.length - pre.length))) kT kU ++ bkL A g1 b1 t (hdV t) (enV t) kT1 kU1) H' ∧ BkOk (cntD (sub t F (t.length - pre.length))) kT kU) am hw2
    (fun H11 am => ⟨kT, kU, _, rfl, am, ok⟩) (fun _ _ _ _ => trivial) ?_ ?_
  · rintro pre i post σ' H11 hs ⟨kT, kU, v7, rfl, am, ok⟩
    obtain ⟨hP, hPn⟩ := range_atM hs
    rw [show (pre ++ [i]).length = pre.length + 1 by rw [List.length_append]; rfl]
    rw [hP] at am ok ⊢
    dsimp only [List.set]
    have hcl := sub_le t F (t.length - i)
    have hcs := sub_lets hle F (t.length - i)
    have e1 := sub_last (t := t) (l := F) (r := t.length - (i + 1)) (by omega) (by omega)
    rw [show t.length - (i + 1) + 1 = t.length - i by omega] at e1
    rw [e1] at am ok hcl hcs
    exact a_cutL am ok hcs (by omega) rfl fun kT' kU' H12 ok am => ⟨kT', kU', _, rfl, am, ok⟩
  rintro σ' H11 ⟨kT2, kU2, v7, rfl, am, ok2⟩
  rw [List.length_range, show t.length - (t.length - Z) = Z by omega] at am ok2
  have hcl := sub_le t F Z
  have hcs := sub_lets hle F Z
  have mid : ∀ {H' : Hp} {σ : L2.St}, σ[1]? = some (some (tS t)) → σ[5]? = some (some (.int (F : Nat))) → σ[6]? = some (some (.int (Z : Nat))) → Ev (tSl rSlS (tVar 1) (tPart (tVar 5)) (tPart (tVar 6))) σ H' (tS (sub t F Z)) := fun {H' σ} s1 s5 s6 => by
    have z := e_slMid (σ := σ) (H := H') (te := tVar 1) (ti := tVar 5) (tj := tVar 6) (l := t) (i := (F : Nat)) (j := (Z : Nat)) (ev_var s1) (ev_var s5) (ev_var s6) (by omega) (by omega) (by omega)
    rw [Int.toNat_natCast, Int.toNat_natCast] at z
    exact z
  refine aq_when (b := false) am (et_or (a := false) (b := false) (et_is (et_not (et_B (c__law_right_ (ev_var rfl) (mid rfl rfl rfl) (bk_at am ok2 hcs (by omega))))) rfl) fun _ => et_is (et_not (et_B (c__law_right_ (ev_var rfl) (ev_var rfl) (hB1 am)))) rfl) (fun c => Bool.noConfusion c) fun _ H12 am => ?_
  have hbl : (98 : Nat) ∈ letters := by decide
  have am : Am [] H (bkL A g1 b1 t (hdV t) (enV t) kT1 kU1 ++ bkL A g2 b2 (sub t F Z) (hdV (sub t F Z)) (enV (sub t F Z)) kT2 kU2) H12 := am.perm List.perm_append_comm
  refine aq_when am (et_test (ev_op (ev_var rfl) ev_c r_eqS)) (fun c H13 am => ?_) fun c H13 am => ?_
  · have ht := of_decide_eq_true c
    subst ht
    show (tOp rEq (tMeth A.cBook "put_first" (sp_Book_put_first A) [] E0 (tVar 3) (tCons (tC (tS [98])) tNil)) (tC (tS [98]))) _ H13 _
    refine t_meth (ta := tVar 3) (t := tCons (tC (tS [98])) tNil) (vs := [tS [98]]) (ev_var rfl) (am.at 0 rfl) rfl (ea_cons ev_c ea_nil) fun H14 e14 => ?_
    have am := am.ex e14
    refine .inl ⟨g1, b1, [], kT1, kU1, 98, rfl, bk_at am ok1 hle (by decide), hbl, by decide, fun kT' kU' H15 ok am2 => ?_⟩
    have am := Am.call (La := bkL A g1 b1 [] (hdV []) (enV []) kT1 kU1) am am2
    have e1 : newV (cntD [] (lps (([] : Tx).reverse ++ [98]))) (lps (([] : Tx).reverse ++ [98])) = tS [98] := new_one 98
    rw [e1]
    refine ⟨rfl, true, by rw [decide_eq_true rfl], ?_⟩
    rw [if_pos rfl]
    exact (c__law_right_ (te := tVar 3) (tx := tC (tS [98])) (ev_var rfl) ev_c (bk_at am ok (fun c hc => by rw [List.mem_singleton.mp hc]; exact hbl) (by decide))) H15 (Ex.refl _) _ fun H16 _ => k H16
  · have ht := of_decide_eq_false c
    obtain ⟨d, v, rfl⟩ : ∃ d v, t = d :: v := by
      cases t with
      | nil => exact absurd rfl ht
      | cons d v => exact ⟨d, v, rfl⟩
    have hvl : v.length + 1 ≤ 61 := hlen
    have hln : ((d :: v).length : Nat) = v.length + 1 := rfl
    have hvle : Lets v := fun c hc => hle c (List.mem_cons_of_mem _ hc)
    refine tSeq_of (a_cutF am ok1 hle (by omega) rfl fun kT1' kU1' H14 ok1 am => ?_)
    have hix : 0 ≤ cell % (((d :: v).length : Nat) : Int) ∧ cell % (((d :: v).length : Nat) : Int) < ((d :: v).length : Nat) := ⟨Int.emod_nonneg _ (by omega), Int.emod_lt_of_pos _ (by omega)⟩
    have hdx : ∀ {H' : Hp} {σ : L2.St}, σ[1]? = some (some (tS (d :: v))) → σ[2]? = some (some (.int cell)) → Ev (tOp rIxS (tVar 1) (tOp rModI (tVar 2) (tCB rLenT (tCons (tVar 1) tNil)))) σ H' (tS [at0 (d :: v) (cell % (((d :: v).length : Nat) : Int))]) := fun s1 s2 => ev_op (ev_var s1) (ev_op (ev_var s2) (hL s1) (r_modI (by omega))) (r_ixS hix.1 hix.2 (by omega))
    have hdl := at0_lets hle hix.1 hix.2
    generalize at0 (d :: v) (cell % (((d :: v).length : Nat) : Int)) = x at hdx hdl
    refine tSeq_of (a_putL am ok1 hvle (by omega) rfl (hdx rfl rfl) hdl fun kT1' kU1' H15 ok1 am => ?_)
    have am : Am [] H (bkL A g2 b2 (sub (d :: v) F Z) (hdV (sub (d :: v) F Z)) (enV (sub (d :: v) F Z)) kT2 kU2 ++ bkL A g1 b1 (v ++ [x]) (hdV (v ++ [x])) (enV (v ++ [x])) kT1' kU1') H15 := am.perm List.perm_append_comm
    refine tSeq_of (a_putF am ok2 hcs (by omega) rfl ev_c hbl fun kT2' kU2' H16 ok2 am => ?_)
    have hb2 : BkAt A g2 b2 (98 :: sub (d :: v) F Z) kT2' kU2' H16 := bk_at am ok2 (fun c hc => by
      rcases List.mem_cons.mp hc with rfl | hc
      · exact hbl
      · exact hcs c hc) (by rw [List.length_cons]; omega)
    have hb1 : BkAt A g1 b1 (v ++ [x]) kT1' kU1' H16 := ⟨(am.sub (List.sublist_append_right _ _)).hasAll, ok1, hvle.app fun c hc => by rw [List.mem_singleton.mp hc]; exact hdl, by rw [List.length_append, List.length_singleton]; omega⟩
    exact a_ret am (ev_andV (c__law_right_ (ev_var rfl) (ev_op (e_slFrom (l := d :: v) (i := 1) (ev_var rfl) ev_c (by decide) (by omega)) (hdx rfl rfl) (r_addT (a := v) (b := [x]) (by rw [List.length_singleton]; omega))) hb1) fun _ => c__law_right_ (ev_var rfl) (ev_op ev_c (mid rfl rfl rfl) (r_addT (a := [98]) (b := sub (d :: v) F Z) (by rw [List.length_singleton]; omega))) hb2) fun H17 _ => k H17

end Mw
namespace Mw
open PySem PySem.Spec PyProof.Rows L2 Evl
def topS (i : Nat) : Stmt := PySem.Challenge.pw_mirrorwords_k10_whole_books_and_arms.main.body.getD i (.Pass ⟨0, 0, 0, 0⟩)
abbrev s_is_whole : Stmt := topS 12
theorem sc_is_whole : FnScope ["thing"] ["thing"] (defScope s_is_whole) := ⟨rfl, rfl, rfl, by decide +kernel, rfl, by decide +kernel, by decide +kernel⟩
abbrev s_is_letter : Stmt := topS 13
theorem sc_is_letter : FnScope ["thing"] ["thing"] (defScope s_is_letter) := ⟨rfl, rfl, rfl, by decide +kernel, rfl, by decide +kernel, by decide +kernel⟩
abbrev s_is_text : Stmt := topS 14
theorem sc_is_text : FnScope ["thing", "sign"] ["thing"] (defScope s_is_text) := ⟨rfl, rfl, rfl, by decide +kernel, rfl, by decide +kernel, by decide +kernel⟩
abbrev s_need_text : Stmt := topS 15
theorem sc_need_text : FnScope ["thing"] ["thing"] (defScope s_need_text) := ⟨rfl, rfl, rfl, by decide +kernel, rfl, by decide +kernel, by decide +kernel⟩
abbrev s_is_mirror : Stmt := topS 16
theorem sc_is_mirror : FnScope ["thing"] ["thing"] (defScope s_is_mirror) := ⟨rfl, rfl, rfl, by decide +kernel, rfl, by decide +kernel, by decide +kernel⟩
abbrev s_need_mirror : Stmt := topS 17
theorem sc_need_mirror : FnScope ["thing"] ["thing"] (defScope s_need_mirror) := ⟨rfl, rfl, rfl, by decide +kernel, rfl, by decide +kernel, by decide +kernel⟩
abbrev s_Book_init : Stmt := inClass (topS 19) 0
theorem sc_Book_init : FnScope ["self", "text", "letter"] ["self", "text"] (defScope s_Book_init) := ⟨rfl, rfl, rfl, by decide +kernel, rfl, by decide +kernel, by decide +kernel⟩
abbrev s_Book_whole : Stmt := inClass (topS 19) 1
theorem sc_Book_whole : FnScope ["self"] ["self"] (defScope s_Book_whole) := ⟨rfl, rfl, rfl, by decide +kernel, rfl, by decide +kernel, by decide +kernel⟩
abbrev s_Book_words : Stmt := inClass (topS 19) 2
theorem sc_Book_words : FnScope ["self", "pair", "word"] ["self"] (defScope s_Book_words) := ⟨rfl, rfl, rfl, by decide +kernel, rfl, by decide +kernel, by decide +kernel⟩
abbrev s_Book_many : Stmt := inClass (topS 19) 3
theorem sc_Book_many : FnScope ["self"] ["self"] (defScope s_Book_many) := ⟨rfl, rfl, rfl, by decide +kernel, rfl, by decide +kernel, by decide +kernel⟩
abbrev s_Book_count : Stmt := inClass (topS 19) 4
theorem sc_Book_count : FnScope ["self", "word"] ["self", "word"] (defScope s_Book_count) := ⟨rfl, rfl, rfl, by decide +kernel, rfl, by decide +kernel, by decide +kernel⟩
abbrev s_Book_need_place : Stmt := inClass (topS 19) 5
theorem sc_Book_need_place : FnScope ["self", "place"] ["self", "place"] (defScope s_Book_need_place) := ⟨rfl, rfl, rfl, by decide +kernel, rfl, by decide +kernel, by decide +kernel⟩
abbrev s_Book_begins_at : Stmt := inClass (topS 19) 6
theorem sc_Book_begins_at : FnScope ["self", "place"] ["self", "place"] (defScope s_Book_begins_at) := ⟨rfl, rfl, rfl, by decide +kernel, rfl, by decide +kernel, by decide +kernel⟩
abbrev s_Book_ends_at : Stmt := inClass (topS 19) 7
theorem sc_Book_ends_at : FnScope ["self", "place"] ["self", "place"] (defScope s_Book_ends_at) := ⟨rfl, rfl, rfl, by decide +kernel, rfl, by decide +kernel, by decide +kernel⟩
abbrev s_Book_longest : Stmt := inClass (topS 19) 8
theorem sc_Book_longest : FnScope ["self", "most"] ["self"] (defScope s_Book_longest) := ⟨rfl, rfl, rfl, by decide +kernel, rfl, by decide +kernel, by decide +kernel⟩
abbrev s_Book_need_room : Stmt := inClass (topS 19) 9
theorem sc_Book_need_room : FnScope ["self", "letter"] ["self", "letter"] (defScope s_Book_need_room) := ⟨rfl, rfl, rfl, by decide +kernel, rfl, by decide +kernel, by decide +kernel⟩
abbrev s_Book_grown : Stmt := inClass (topS 19) 10
theorem sc_Book_grown : FnScope ["self", "word", "letter", "behind", "size"] ["self", "word", "letter", "behind"] (defScope s_Book_grown) := ⟨rfl, rfl, rfl, by decide +kernel, rfl, by decide +kernel, by decide +kernel⟩
abbrev s_Book_met : Stmt := inClass (topS 19) 11
theorem sc_Book_met : FnScope ["self", "word", "letter", "behind", "is_new", "shorter", "one"] ["self", "word", "letter", "behind"] (defScope s_Book_met) := ⟨rfl, rfl, rfl, by decide +kernel, rfl, by decide +kernel, by decide +kernel⟩
abbrev s_Book_lost : Stmt := inClass (topS 19) 12
theorem sc_Book_lost : FnScope ["self", "word", "one"] ["self", "word"] (defScope s_Book_lost) := ⟨rfl, rfl, rfl, by decide +kernel, rfl, by decide +kernel, by decide +kernel⟩
abbrev s_Book_put_last : Stmt := inClass (topS 19) 13
theorem sc_Book_put_last : FnScope ["self", "letter", "word", "is_new", "one"] ["self", "letter"] (defScope s_Book_put_last) := ⟨rfl, rfl, rfl, by decide +kernel, rfl, by decide +kernel, by decide +kernel⟩
abbrev s_Book_put_first : Stmt := inClass (topS 19) 14
theorem sc_Book_put_first : FnScope ["self", "letter", "word", "is_new", "one"] ["self", "letter"] (defScope s_Book_put_first) := ⟨rfl, rfl, rfl, by decide +kernel, rfl, by decide +kernel, by decide +kernel⟩
abbrev s_Book_cut_last : Stmt := inClass (topS 19) 15
theorem sc_Book_cut_last : FnScope ["self", "word", "one", "row"] ["self"] (defScope s_Book_cut_last) := ⟨rfl, rfl, rfl, by decide +kernel, rfl, by decide +kernel, by decide +kernel⟩
abbrev s_Book_cut_first : Stmt := inClass (topS 19) 16
theorem sc_Book_cut_first : FnScope ["self", "word", "one", "row"] ["self"] (defScope s_Book_cut_first) := ⟨rfl, rfl, rfl, by decide +kernel, rfl, by decide +kernel, by decide +kernel⟩
abbrev s_arm_at : Stmt := topS 21
theorem sc_arm_at : FnScope ["text", "middle", "left", "right", "found"] ["text", "middle"] (defScope s_arm_at) := ⟨rfl, rfl, rfl, by decide +kernel, rfl, by decide +kernel, by decide +kernel⟩
abbrev s_arms_of : Stmt := topS 22
theorem sc_arms_of : FnScope ["text", "found", "about", "end", "middle", "other"] ["text"] (defScope s_arms_of) := ⟨rfl, rfl, rfl, by decide +kernel, rfl, by decide +kernel, by decide +kernel⟩
abbrev s_arms : Stmt := topS 23
theorem sc_arms : FnScope ["text"] ["text"] (defScope s_arms) := ⟨rfl, rfl, rfl, by decide +kernel, rfl, by decide +kernel, by decide +kernel⟩
abbrev s_reaches : Stmt := topS 25
theorem sc_reaches : FnScope ["text", "found", "place", "middle", "arm", "step", "begin", "end", "ends"] ["text"] (defScope s_reaches) := ⟨rfl, rfl, rfl, by decide +kernel, rfl, by decide +kernel, by decide +kernel⟩
abbrev s_fewest : Stmt := topS 26
theorem sc_fewest : FnScope ["text", "ends", "many", "goes", "place", "least", "end", "found"] ["text"] (defScope s_fewest) := ⟨rfl, rfl, rfl, by decide +kernel, rfl, by decide +kernel, by decide +kernel⟩
abbrev s_most_arm : Stmt := topS 28
theorem sc_most_arm : FnScope ["middle", "many"] ["middle", "many"] (defScope s_most_arm) := ⟨rfl, rfl, rfl, by decide +kernel, rfl, by decide +kernel, by decide +kernel⟩
abbrev s_is_arms : Stmt := topS 29
theorem sc_is_arms : FnScope ["thing", "many", "middle", "arm"] ["thing"] (defScope s_is_arms) := ⟨rfl, rfl, rfl, by decide +kernel, rfl, by decide +kernel, by decide +kernel⟩
abbrev s_Groups_init : Stmt := inClass (topS 30) 0
theorem sc_Groups_init : FnScope ["self", "many"] ["self", "many"] (defScope s_Groups_init) := ⟨rfl, rfl, rfl, by decide +kernel, rfl, by decide +kernel, by decide +kernel⟩
abbrev s_Groups_root : Stmt := inClass (topS 30) 1
theorem sc_Groups_root : FnScope ["self", "place"] ["self", "place"] (defScope s_Groups_root) := ⟨rfl, rfl, rfl, by decide +kernel, rfl, by decide +kernel, by decide +kernel⟩
abbrev s_Groups_tie : Stmt := inClass (topS 30) 2
theorem sc_Groups_tie : FnScope ["self", "one", "other"] ["self", "one", "other"] (defScope s_Groups_tie) := ⟨rfl, rfl, rfl, by decide +kernel, rfl, by decide +kernel, by decide +kernel⟩
abbrev s_tied : Stmt := topS 31
theorem sc_tied : FnScope ["arms", "many", "groups", "middle", "arm", "step"] ["arms", "many"] (defScope s_tied) := ⟨rfl, rfl, rfl, by decide +kernel, rfl, by decide +kernel, by decide +kernel⟩
abbrev s_foes_of : Stmt := topS 32
theorem sc_foes_of : FnScope ["arms", "many", "groups", "foes", "place", "middle", "arm", "left", "right", "one", "other"] ["arms", "many", "groups"] (defScope s_foes_of) := ⟨rfl, rfl, rfl, by decide +kernel, rfl, by decide +kernel, by decide +kernel⟩
abbrev s_least_text : Stmt := topS 33
theorem sc_least_text : FnScope ["arms", "many", "groups", "foes", "given", "place", "used", "foe", "letter"] ["arms"] (defScope s_least_text) := ⟨rfl, rfl, rfl, by decide +kernel, rfl, by decide +kernel, by decide +kernel⟩
abbrev s__law_draw : Stmt := topS 35
theorem sc__law_draw : FnScope ["_law_script", "_law_k"] ["_law_script", "_law_k"] (defScope s__law_draw) := ⟨rfl, rfl, rfl, by decide +kernel, rfl, by decide +kernel, by decide +kernel⟩
abbrev s__law_text : Stmt := topS 36
theorem sc__law_text : FnScope ["_law_script", "_law_first", "_law_most", "_law_way", "_law_many", "_law_letters", "_law_start", "_law_word", "_law_cell", "_law_half"] ["_law_script", "_law_first", "_law_most"] (defScope s__law_text) := ⟨rfl, rfl, rfl, by decide +kernel, rfl, by decide +kernel, by decide +kernel⟩
abbrev s__law_grown : Stmt := topS 37
theorem sc__law_grown : FnScope ["_law_text_here", "_law_at", "_law_cell", "_law_book", "_law_left", "_law_right_here"] ["_law_text_here", "_law_at", "_law_cell"] (defScope s__law_grown) := ⟨rfl, rfl, rfl, by decide +kernel, rfl, by decide +kernel, by decide +kernel⟩
abbrev s__law_lengths : Stmt := topS 38
theorem sc__law_lengths : FnScope ["_law_text_here", "_law_found", "_law_middle", "_law_arm", "_law_step", "_law_long"] ["_law_text_here"] (defScope s__law_lengths) := ⟨rfl, rfl, rfl, by decide +kernel, rfl, by decide +kernel, by decide +kernel⟩
abbrev s__law_told : Stmt := topS 39
theorem sc__law_told : FnScope ["_law_book", "_law_found", "_law_word"] ["_law_book"] (defScope s__law_told) := ⟨rfl, rfl, rfl, by decide +kernel, rfl, by decide +kernel, by decide +kernel⟩
abbrev s__law_right : Stmt := topS 40
theorem sc__law_right : FnScope ["_law_book", "_law_text_here", "_law_words", "_law_parts", "_law_part", "_law_most", "_law_word"] ["_law_book", "_law_text_here"] (defScope s__law_right) := ⟨rfl, rfl, rfl, by decide +kernel, rfl, by decide +kernel, by decide +kernel⟩
abbrev s_law : Stmt := topS 41
theorem sc_law : FnScope ["_law_script", "_law_text_here", "_law_cell", "_law_one", "_law_other", "_law_first", "_law_last", "_law_step"] ["_law_script"] (defScope s_law) := ⟨rfl, rfl, rfl, by decide +kernel, rfl, by decide +kernel, by decide +kernel⟩
/-- what the top has left -/
structure Wd (A : Ad) (mg : Str → Option Value) : Prop where
  n_all : mg "all" = none
  n_bool : mg "bool" = none
  n_enumerate : mg "enumerate" = none
  n_int : mg "int" = none
  n_isinstance : mg "isinstance" = none
  n_len : mg "len" = none
  n_list : mg "list" = none
  n_max : mg "max" = none
  n_min : mg "min" = none
  n_range : mg "range" = none
  n_reversed : mg "reversed" = none
  n_sorted : mg "sorted" = none
  n_str : mg "str" = none
  g_LETTERS : ∃ t, mg "LETTERS" = some (.str (T letters) t)
  g_MOST : ∃ t, mg "MOST" = some (.int 200 t)
  g_MirrorError : mg "MirrorError" = some (.ref A.cME)
  g_BadText : mg "BadText" = some (.ref A.cBT)
  g_BadLetter : mg "BadLetter" = some (.ref A.cBL)
  g_BadWord : mg "BadWord" = some (.ref A.cBW)
  g_BadArms : mg "BadArms" = some (.ref A.cBA)
  g_NoText : mg "NoText" = some (.ref A.cNT)
  g_NoPlace : mg "NoPlace" = some (.ref A.cNP)
  g_Full : mg "Full" = some (.ref A.cFu)
  x_BadArms : XCls A.K mg "BadArms" A.cBA
  x_BadLetter : XCls A.K mg "BadLetter" A.cBL
  x_BadText : XCls A.K mg "BadText" A.cBT
  x_BadWord : XCls A.K mg "BadWord" A.cBW
  x_Full : XCls A.K mg "Full" A.cFu
  x_NoPlace : XCls A.K mg "NoPlace" A.cNP
  x_NoText : XCls A.K mg "NoText" A.cNT
  cl_Book : BC A
  cl_Groups : GC A
section
variable {P : Program} {w : World} {A : Ad} {mg : Str → Option Value} {base : Heap}
theorem ok_is_whole {f : Addr} {fd : FuncData} (F : Fun A.K "is_whole" "is_whole" s_is_whole f fd) (W : Wd A mg)  : FnOk P w A.K mg base CX0 1 f fd ["thing"] (sp_is_whole A) := by
  have sc := sc_is_whole
  refine F.ok sc_is_whole (len_is_whole A) (fun cdv Ar outer s H vs Q E hr h => ⟨t_is_whole A, ?_, pu_is_whole A  vs H Q E h⟩)
  exact (pss_one (ps_ret (pe_and (pe_callB call_isi (by rfl) W.n_isinstance (by decide +kernel) (pa_cons (pv 0) (pa_cons (pe_bltn (by rfl) W.n_int (by decide +kernel) rfl) pa_nil))) (pe_one (pe_not (pe_callB call_isi (by rfl) W.n_isinstance (by decide +kernel) (pa_cons (pv 0) (pa_cons (pe_bltn (by rfl) W.n_bool (by decide +kernel) rfl) pa_nil))))))))
theorem ok_is_letter {f : Addr} {fd : FuncData} (F : Fun A.K "is_letter" "is_letter" s_is_letter f fd) (W : Wd A mg)  : FnOk P w A.K mg base CX0 1 f fd ["thing"] (sp_is_letter A) := by
  have sc := sc_is_letter
  refine F.ok sc_is_letter (len_is_letter A) (fun cdv Ar outer s H vs Q E hr h => ⟨t_is_letter A, ?_, pu_is_letter A  vs H Q E h⟩)
  exact (pss_one (ps_ret (pe_and (pe_callB call_isi (by rfl) W.n_isinstance (by decide +kernel) (pa_cons (pv 0) (pa_cons (pe_bltn (by rfl) W.n_str (by decide +kernel) rfl) pa_nil))) (pe_and (pe_cmpR op_eq (pe_callB call_len_str (by rfl) W.n_len (by decide +kernel) (pa_cons (pv 0) pa_nil)) pe_int (nomark _)) (pe_one (pe_cmpR op_in_sign (pv 0) (pe_globT (by rfl) W.g_LETTERS) (by rfl)))))))
theorem ok_is_text {f : Addr} {fd : FuncData} (F : Fun A.K "is_text" "is_text" s_is_text f fd) (W : Wd A mg)  : FnOk P w A.K mg base CX0 1 f fd ["thing"] (sp_is_text A) := by
  have sc := sc_is_text
  refine F.ok sc_is_text (len_is_text A) (fun cdv Ar outer s H vs Q E hr h => ⟨t_is_text A, ?_, pu_is_text A  vs H Q E h⟩)
  exact (pss_one (ps_ret (pe_and (pe_callB call_isi (by rfl) W.n_isinstance (by decide +kernel) (pa_cons (pv 0) (pa_cons (pe_bltn (by rfl) W.n_str (by decide +kernel) rfl) pa_nil))) (pe_and (pe_cmpR op_le (pe_callB call_len_str (by rfl) W.n_len (by decide +kernel) (pa_cons (pv 0) pa_nil)) (pe_globI (by rfl) W.g_MOST) (nomark _)) (pe_one (pe_callB (cr_all rfl) (by rfl) W.n_all (by decide +kernel) (pa_cons (pe_lc (own := [("sign", 1)]) (g := (gName 1)) (tt := tYes) rfl sc.nd (pi_str (pv 0)) (blkOk_by (N := ["thing", "sign"]) (sc := defScope s_is_text) (by decide +kernel)) (fun _ _ _ _ _ => (pg_name (i := 1) sc.nd rfl (by first | exact Or.inl rfl | exact Or.inr rfl))) (fun _ _ _ _ _ => pts_nil) (fun _ _ _ _ _ => (pe_cmpR op_in_sign (pv 1) (pe_globT (by rfl) W.g_LETTERS) (by rfl)))) pa_nil)))))))
theorem ok_need_text {f : Addr} {fd : FuncData} (F : Fun A.K "need_text" "need_text" s_need_text f fd) (W : Wd A mg) (c_is_text : Cal P w A.K mg base CX0 1 "is_text" ["thing"] (sp_is_text A)) : FnOk P w A.K mg base (L2.CX P w) 2 f fd ["thing"] (sp_need_text A) := by
  have sc := sc_need_text
  refine F.okX sc_need_text (len_need_text A) (fun cdv Ar outer s H vs Q E hr h => ⟨t_need_text A E, ?_, pu_need_text A  vs H Q E h⟩)
  exact (pss_one (ps_if (pt_not (pt_val (pe_cal c_is_text (hr.mono (by decide)) (by rfl) pass0 (pa_cons (pv 0) pa_nil)))) (pss_one (ps_rz rfl W.x_BadText (by rfl) (takes_of rfl rfl rfl rfl))) pss_nil))
theorem ok_is_mirror {f : Addr} {fd : FuncData} (F : Fun A.K "is_mirror" "is_mirror" s_is_mirror f fd) (W : Wd A mg) (c_is_text : Cal P w A.K mg base CX0 1 "is_text" ["thing"] (sp_is_text A)) : FnOk P w A.K mg base CX0 2 f fd ["thing"] (sp_is_mirror A) := by
  have sc := sc_is_mirror
  refine F.ok sc_is_mirror (len_is_mirror A) (fun cdv Ar outer s H vs Q E hr h => ⟨t_is_mirror A, ?_, pu_is_mirror A  vs H Q E h⟩)
  exact (pss_one (ps_ret (pe_and (pe_cal c_is_text (hr.mono (by decide)) (by rfl) pass0 (pa_cons (pv 0) pa_nil)) (pe_and (pe_cmpR op_ne (pv 0) (pe_strT (l := []) (by decide +kernel)) (nomark _)) (pe_one (pe_cmpR op_eq (pv 0) (pe_revT (pv 0)) (nomark _)))))))
theorem ok_need_mirror {f : Addr} {fd : FuncData} (F : Fun A.K "need_mirror" "need_mirror" s_need_mirror f fd) (W : Wd A mg) (c_is_mirror : Cal P w A.K mg base CX0 2 "is_mirror" ["thing"] (sp_is_mirror A)) : FnOk P w A.K mg base (L2.CX P w) 3 f fd ["thing"] (sp_need_mirror A) := by
  have sc := sc_need_mirror
  refine F.okX sc_need_mirror (len_need_mirror A) (fun cdv Ar outer s H vs Q E hr h => ⟨t_need_mirror A E, ?_, pu_need_mirror A  vs H Q E h⟩)
  exact (pss_one (ps_if (pt_not (pt_val (pe_cal c_is_mirror (hr.mono (by decide)) (by rfl) pass0 (pa_cons (pv 0) pa_nil)))) (pss_one (ps_rz rfl W.x_BadWord (by rfl) (takes_of rfl rfl rfl rfl))) pss_nil))
theorem ok_Book_init {f : Addr} {fd : FuncData} (F : FunD A.K "__init__" "Book.__init__" (defArgs s_Book_init) (defBody s_Book_init) (defScope s_Book_init) [tS []] [] f fd) (W : Wd A mg) (c_need_text : Cal P w A.K mg base (L2.CX P w) 2 "need_text" ["thing"] (sp_need_text A)) (c_Book_put_last : Mcal P w A.K mg base (L2.CX P w) 4 A.cBook "put_last" ["self", "letter"] (sp_Book_put_last A)) : FnOk P w A.K mg base (L2.CX P w) 5 f fd ["self", "text"] (sp_Book_init A) := by
  have sc := sc_Book_init
  refine F.ok sc_Book_init (len_Book_init A) (fun cdv Ar outer s H vs Q E hr h => ⟨t_Book_init A E, ?_, pu_Book_init A W.cl_Book vs H Q E h⟩)
  exact (pss_cons (ps_expr (pe_cal c_need_text (hr.mono (by decide)) (by rfl) (passX (takes_of rfl rfl rfl rfl)) (pa_cons (pv 1) pa_nil)))
  (pss_cons (ps_fld (pv 0) (pe_lst pa_nil) rfl)
  (pss_cons (ps_fld (pv 0) (pe_lst pa_nil) rfl)
  (pss_cons (ps_fld (pv 0) (pe_lst pa_nil) rfl)
  (pss_cons (ps_fld (pv 0) pe_dnewK rfl)
  (pss_cons (ps_fld (pv 0) (pe_disp (pps_cons (pe_strT (l := []) (by decide +kernel)) (pe_strT (l := []) (by decide +kernel)) pps_nil) (by rfl) (by rfl) (fun z => by cases z) (by decide)) rfl)
  (pss_one (ps_for (passes_of rfl) rfl (pi_str (pv 1)) (pg_name (i := 2) sc.nd rfl (by first | exact Or.inl rfl | exact Or.inr rfl)) (pss_one (ps_expr (pe_mcal c_Book_put_last W.cl_Book.cls (hr.mono (by decide)) (passX (takes_of rfl rfl rfl rfl)) (pv 0) (pa_cons (pv 2) pa_nil))))))))))))
theorem ok_Book_whole {f : Addr} {fd : FuncData} (F : Fun A.K "whole" "Book.whole" s_Book_whole f fd) (W : Wd A mg)  : FnOk P w A.K mg base CX0 1 f fd ["self"] (sp_Book_whole A) := by
  have sc := sc_Book_whole
  refine F.ok sc_Book_whole (len_Book_whole A) (fun cdv Ar outer s H vs Q E hr h => ⟨t_Book_whole A, ?_, pu_Book_whole A W.cl_Book vs H Q E h⟩)
  exact (pss_one (ps_ret (pe_join (pe_strT (l := []) (by decide +kernel)) (pe_fld (pv 0) rfl))))
theorem ok_Book_words {f : Addr} {fd : FuncData} (F : Fun A.K "words" "Book.words" s_Book_words f fd) (W : Wd A mg)  : FnOk P w A.K mg base CX0 1 f fd ["self"] (sp_Book_words A) := by
  have sc := sc_Book_words
  refine F.ok sc_Book_words (len_Book_words A) (fun cdv Ar outer s H vs Q E hr h => ⟨t_Book_words A, ?_, pu_Book_words A W.cl_Book vs H Q E h⟩)
  exact (pss_one (ps_ret (pe_lc (own := [("pair", 1)]) (g := (gName 1)) (tt := tYes) rfl sc.nd (pi_list (pe_callB (cr_sortW hr.units) (by rfl) W.n_sorted (by decide +kernel) (pa_cons (pe_lock (pe_lc (own := [("word", 2)]) (g := (gName 2)) (tt := tYes) rfl sc.nd (pi_keys (pe_fld (pv 0) rfl)) (blkOk_by (N := ["self", "pair", "word"]) (sc := defScope s_Book_words) (by decide +kernel)) (fun _ _ _ _ _ => (pg_name (i := 2) sc.nd rfl (by first | exact Or.inl rfl | exact Or.inr rfl))) (fun _ _ _ _ _ => pts_nil) (fun _ _ _ _ _ => (pe_tup (pa_cons (pe_callB call_len_str (by rfl) W.n_len (by decide +kernel) (pa_cons (pv 2) pa_nil)) (pa_cons (pv 2) pa_nil)))))) pa_nil))) (blkOk_by (N := ["self", "pair", "word"]) (sc := defScope s_Book_words) (by decide +kernel)) (fun _ _ _ _ _ => (pg_name (i := 1) sc.nd rfl (by first | exact Or.inl rfl | exact Or.inr rfl))) (fun _ _ _ _ _ => pts_nil) (fun _ _ _ _ _ => (pe_ix ix_tup (pv 1) pe_int (fun _ _ => rfl))))))
theorem ok_Book_many {f : Addr} {fd : FuncData} (F : Fun A.K "many" "Book.many" s_Book_many f fd) (W : Wd A mg)  : FnOk P w A.K mg base CX0 1 f fd ["self"] (sp_Book_many A) := by
  have sc := sc_Book_many
  refine F.ok sc_Book_many (len_Book_many A) (fun cdv Ar outer s H vs Q E hr h => ⟨t_Book_many A, ?_, pu_Book_many A W.cl_Book vs H Q E h⟩)
  exact (pss_one (ps_ret (pe_callB call_lenD (by rfl) W.n_len (by decide +kernel) (pa_cons (pe_fld (pv 0) rfl) pa_nil))))
theorem ok_Book_count {f : Addr} {fd : FuncData} (F : Fun A.K "count" "Book.count" s_Book_count f fd) (W : Wd A mg) (c_need_mirror : Cal P w A.K mg base (L2.CX P w) 3 "need_mirror" ["thing"] (sp_need_mirror A)) : FnOk P w A.K mg base (L2.CX P w) 4 f fd ["self", "word"] (sp_Book_count A) := by
  have sc := sc_Book_count
  refine F.okX sc_Book_count (len_Book_count A) (fun cdv Ar outer s H vs Q E hr h => ⟨t_Book_count A E, ?_, pu_Book_count A W.cl_Book vs H Q E h⟩)
  exact (pss_cons (ps_expr (pe_cal c_need_mirror (hr.mono (by decide)) (by rfl) (passX (takes_of rfl rfl rfl rfl)) (pa_cons (pv 1) pa_nil)))
  (pss_one (ps_ret (pe_dget2 (hu_of hr) (pe_fld (pv 0) rfl) (pv 1) pe_int ⟨by rfl, by rfl, by rfl, by rfl⟩))))
theorem ok_Book_need_place {f : Addr} {fd : FuncData} (F : Fun A.K "need_place" "Book.need_place" s_Book_need_place f fd) (W : Wd A mg) (c_is_whole : Cal P w A.K mg base CX0 1 "is_whole" ["thing"] (sp_is_whole A)) : FnOk P w A.K mg base (L2.CX P w) 2 f fd ["self", "place"] (sp_Book_need_place A) := by
  have sc := sc_Book_need_place
  refine F.okX sc_Book_need_place (len_Book_need_place A) (fun cdv Ar outer s H vs Q E hr h => ⟨t_Book_need_place A E, ?_, pu_Book_need_place A W.cl_Book vs H Q E h⟩)
  exact (pss_one (ps_if (PW.pt (pw_or (pt_not (pt_val (pe_cal c_is_whole (hr.mono (by decide)) (by rfl) pass0 (pa_cons (pv 1) pa_nil)))) (pw_or1 (pt_not (pt_chain op_le op_lt pe_int (pv 1) (pe_callB call_len_seq (by rfl) W.n_len (by decide +kernel) (pa_cons (pe_fld (pv 0) rfl) pa_nil))))))) (pss_one (ps_rz rfl W.x_NoPlace (by rfl) (takes_of rfl rfl rfl rfl))) pss_nil))
theorem ok_Book_begins_at {f : Addr} {fd : FuncData} (F : Fun A.K "begins_at" "Book.begins_at" s_Book_begins_at f fd) (W : Wd A mg) (c_Book_whole : Mcal P w A.K mg base CX0 1 A.cBook "whole" ["self"] (sp_Book_whole A)) (c_Book_need_place : Mcal P w A.K mg base (L2.CX P w) 2 A.cBook "need_place" ["self", "place"] (sp_Book_need_place A)) : FnOk P w A.K mg base (L2.CX P w) 3 f fd ["self", "place"] (sp_Book_begins_at A) := by
  have sc := sc_Book_begins_at
  refine F.okX sc_Book_begins_at (len_Book_begins_at A) (fun cdv Ar outer s H vs Q E hr h => ⟨t_Book_begins_at A E, ?_, pu_Book_begins_at A W.cl_Book vs H Q E h⟩)
  exact (pss_cons (ps_expr (pe_mcal c_Book_need_place W.cl_Book.cls (hr.mono (by decide)) (passX (takes_of rfl rfl rfl rfl)) (pv 0) (pa_cons (pv 1) pa_nil)))
  (pss_one (ps_ret (pe_slice sl_str (pe_mcal0 c_Book_whole W.cl_Book.cls (hr.mono (by decide)) pass0 (pv 0)) (po_some (pv 1)) (po_some (pe_op op_add (pv 1) (pe_ix ix_list (pe_fld (pv 0) rfl) (pv 1) (fun _ _ => rfl))))))))
theorem ok_Book_ends_at {f : Addr} {fd : FuncData} (F : Fun A.K "ends_at" "Book.ends_at" s_Book_ends_at f fd) (W : Wd A mg) (c_Book_whole : Mcal P w A.K mg base CX0 1 A.cBook "whole" ["self"] (sp_Book_whole A)) (c_Book_need_place : Mcal P w A.K mg base (L2.CX P w) 2 A.cBook "need_place" ["self", "place"] (sp_Book_need_place A)) : FnOk P w A.K mg base (L2.CX P w) 3 f fd ["self", "place"] (sp_Book_ends_at A) := by
  have sc := sc_Book_ends_at
  refine F.okX sc_Book_ends_at (len_Book_ends_at A) (fun cdv Ar outer s H vs Q E hr h => ⟨t_Book_ends_at A E, ?_, pu_Book_ends_at A W.cl_Book vs H Q E h⟩)
  exact (pss_cons (ps_expr (pe_mcal c_Book_need_place W.cl_Book.cls (hr.mono (by decide)) (passX (takes_of rfl rfl rfl rfl)) (pv 0) (pa_cons (pv 1) pa_nil)))
  (pss_one (ps_ret (pe_slice sl_str (pe_mcal0 c_Book_whole W.cl_Book.cls (hr.mono (by decide)) pass0 (pv 0)) (po_some (pe_op op_sub (pe_op op_add (pv 1) pe_int) (pe_ix ix_list (pe_fld (pv 0) rfl) (pv 1) (fun _ _ => rfl)))) (po_some (pe_op op_add (pv 1) pe_int))))))
theorem ok_Book_longest {f : Addr} {fd : FuncData} (F : Fun A.K "longest" "Book.longest" s_Book_longest f fd) (W : Wd A mg) (c_Book_begins_at : Mcal P w A.K mg base (L2.CX P w) 3 A.cBook "begins_at" ["self", "place"] (sp_Book_begins_at A)) : FnOk P w A.K mg base (L2.CX P w) 4 f fd ["self"] (sp_Book_longest A) := by
  have sc := sc_Book_longest
  refine F.okX sc_Book_longest (len_Book_longest A) (fun cdv Ar outer s H vs Q E hr h => ⟨t_Book_longest A E, ?_, pu_Book_longest A W.cl_Book vs H Q E h⟩)
  exact (pss_cons (ps_set (i := 1) sc.nd rfl (by first | exact Or.inl rfl | exact Or.inr rfl) (pe_callBK (cr_maxDI rfl hr.units) (by rfl) W.n_max (by decide +kernel) (pa_cons (pe_fld (pv 0) rfl) pa_nil) (pk_cons pe_int pk_nil)))
  (pss_cons (ps_if (pt_cmpR op_eq (pv 1) pe_int (nomark _)) (pss_one (ps_ret (pe_strT (l := []) (by decide +kernel)))) pss_nil)
  (pss_one (ps_ret (pe_mcal c_Book_begins_at W.cl_Book.cls (hr.mono (by decide)) (passX (takes_of rfl rfl rfl rfl)) (pv 0) (pa_cons (pe_bm PySem.F.plainAttrs_list PySem.F.slot_list_index PySem.F.type_list_index mt_index (pe_fld (pv 0) rfl) (pa_cons (pv 1) pa_nil)) pa_nil))))))
theorem ok_Book_need_room {f : Addr} {fd : FuncData} (F : Fun A.K "need_room" "Book.need_room" s_Book_need_room f fd) (W : Wd A mg) (c_is_letter : Cal P w A.K mg base CX0 1 "is_letter" ["thing"] (sp_is_letter A)) : FnOk P w A.K mg base (L2.CX P w) 2 f fd ["self", "letter"] (sp_Book_need_room A) := by
  have sc := sc_Book_need_room
  refine F.okX sc_Book_need_room (len_Book_need_room A) (fun cdv Ar outer s H vs Q E hr h => ⟨t_Book_need_room A E, ?_, pu_Book_need_room A W.cl_Book vs H Q E h⟩)
  exact (pss_cons (ps_if (pt_not (pt_val (pe_cal c_is_letter (hr.mono (by decide)) (by rfl) pass0 (pa_cons (pv 1) pa_nil)))) (pss_one (ps_rz rfl W.x_BadLetter (by rfl) (takes_of rfl rfl rfl rfl))) pss_nil)
  (pss_one (ps_if (pt_cmpR op_eq (pe_callB call_len_seq (by rfl) W.n_len (by decide +kernel) (pa_cons (pe_fld (pv 0) rfl) pa_nil)) (pe_globI (by rfl) W.g_MOST) (nomark _)) (pss_one (ps_rz rfl W.x_Full (by rfl) (takes_of rfl rfl rfl rfl))) pss_nil)))
theorem ok_Book_grown {f : Addr} {fd : FuncData} (F : Fun A.K "grown" "Book.grown" s_Book_grown f fd) (W : Wd A mg)  : FnOk P w A.K mg base CX0 1 f fd ["self", "word", "letter", "behind"] (sp_Book_grown A) := by
  have sc := sc_Book_grown
  refine F.ok sc_Book_grown (len_Book_grown A) (fun cdv Ar outer s H vs Q E hr h => ⟨t_Book_grown A, ?_, pu_Book_grown A W.cl_Book vs H Q E h⟩)
  exact (pss_one (ps_while (PassesOwn.never) (pt_val pe_bl) (pss_cons (ps_set (i := 4) sc.nd rfl (by first | exact Or.inl rfl | exact Or.inr rfl) (pe_callB call_len_str (by rfl) W.n_len (by decide +kernel) (pa_cons (pv 1) pa_nil)))
  (pss_cons (ps_if (PW.pt (pw_and (pt_cmpR op_lt (pv 4) (pe_callB call_len_seq (by rfl) W.n_len (by decide +kernel) (pa_cons (pe_fld (pv 0) rfl) pa_nil)) (nomark _)) (pw_and1 (pt_cmpR op_eq (pe_ix ix_list (pe_fld (pv 0) rfl) (pe_ifExp (pt_val (pv 3)) (pe_op op_sub (pe_un un_neg pe_int) (pv 4)) (pv 4)) (fun _ _ => rfl)) (pv 2) (nomark _))))) (pss_one (ps_ret (pe_op op_add_str (pe_op op_add_str (pv 2) (pv 1)) (pv 2)))) pss_nil)
  (pss_cons (ps_if (pt_cmpR op_eq (pv 1) (pe_strT (l := []) (by decide +kernel)) (nomark _)) (pss_one (ps_ret (pv 2))) pss_nil)
  (pss_one (ps_set (i := 1) sc.nd rfl (by first | exact Or.inl rfl | exact Or.inr rfl) (pe_dget (hu_of hr) (pe_fld (pv 0) rfl) (pv 1) (fun _ _ => rfl)))))))))
theorem ok_Book_met {f : Addr} {fd : FuncData} (F : Fun A.K "met" "Book.met" s_Book_met f fd) (W : Wd A mg) (c_Book_grown : Mcal P w A.K mg base CX0 1 A.cBook "grown" ["self", "word", "letter", "behind"] (sp_Book_grown A)) : FnOk P w A.K mg base CX0 2 f fd ["self", "word", "letter", "behind"] (sp_Book_met A) := by
  have sc := sc_Book_met
  refine F.ok sc_Book_met (len_Book_met A) (fun cdv Ar outer s H vs Q E hr h => ⟨t_Book_met A, ?_, pu_Book_met A W.cl_Book vs H Q E h⟩)
  exact (pss_cons (ps_set (i := 4) sc.nd rfl (by first | exact Or.inl rfl | exact Or.inr rfl) (pe_cmp (pc_dnotin (hu_of hr) (pv 1) (pe_fld (pv 0) rfl)) (by rfl)))
  (pss_cons (ps_if (pt_val (pv 4)) (pss_cons (ps_set (i := 5) sc.nd rfl (by first | exact Or.inl rfl | exact Or.inr rfl) (pe_strT (l := []) (by decide +kernel)))
  (pss_cons (ps_if (pt_cmpR op_gt (pe_callB call_len_str (by rfl) W.n_len (by decide +kernel) (pa_cons (pv 1) pa_nil)) pe_int (nomark _)) (pss_one (ps_set (i := 5) sc.nd rfl (by first | exact Or.inl rfl | exact Or.inr rfl) (pe_ifExp (pt_cmpR op_gt (pe_callB call_len_str (by rfl) W.n_len (by decide +kernel) (pa_cons (pv 1) pa_nil)) pe_int (nomark _)) (pe_mcal c_Book_grown W.cl_Book.cls (hr.mono (by decide)) pass0 (pv 0) (pa_cons (pe_dget (hu_of hr) (pe_fld (pv 0) rfl) (pe_slice sl_str (pv 1) (po_some pe_int) (po_some (pe_un un_neg pe_int))) (fun _ _ => rfl)) (pa_cons (pv 2) (pa_cons (pv 3) pa_nil)))) (pv 2)))) pss_nil)
  (pss_one (ps_dput (hu_of hr) (pe_fld (pv 0) rfl) (pv 1) (pv 5) rfl)))) pss_nil)
  (pss_cons (ps_set (i := 6) sc.nd rfl (by first | exact Or.inl rfl | exact Or.inr rfl) (pv 1))
  (pss_cons (ps_while (PassesOwn.never) (pt_cmpR op_ne (pv 6) (pe_strT (l := []) (by decide +kernel)) (nomark _)) (pss_cons (ps_dput (hu_of hr) (pe_fld (pv 0) rfl) (pv 6) (pe_op op_add (pe_dget2 (hu_of hr) (pe_fld (pv 0) rfl) (pv 6) pe_int ⟨by rfl, by rfl, by rfl, by rfl⟩) pe_int) rfl)
  (pss_one (ps_set (i := 6) sc.nd rfl (by first | exact Or.inl rfl | exact Or.inr rfl) (pe_dget (hu_of hr) (pe_fld (pv 0) rfl) (pv 6) (fun _ _ => rfl))))))
  (pss_one (ps_ret (pv 4)))))))
theorem ok_Book_lost {f : Addr} {fd : FuncData} (F : Fun A.K "lost" "Book.lost" s_Book_lost f fd) (W : Wd A mg)  : FnOk P w A.K mg base CX0 1 f fd ["self", "word"] (sp_Book_lost A) := by
  have sc := sc_Book_lost
  refine F.ok sc_Book_lost (len_Book_lost A) (fun cdv Ar outer s H vs Q E hr h => ⟨t_Book_lost A, ?_, pu_Book_lost A W.cl_Book vs H Q E h⟩)
  exact (pss_cons (ps_set (i := 2) sc.nd rfl (by first | exact Or.inl rfl | exact Or.inr rfl) (pv 1))
  (pss_cons (ps_while (PassesOwn.never) (pt_cmpR op_ne (pv 2) (pe_strT (l := []) (by decide +kernel)) (nomark _)) (pss_cons (ps_dput (hu_of hr) (pe_fld (pv 0) rfl) (pv 2) (pe_op op_sub (pe_dget (hu_of hr) (pe_fld (pv 0) rfl) (pv 2) (fun _ _ => rfl)) pe_int) rfl)
  (pss_one (ps_set (i := 2) sc.nd rfl (by first | exact Or.inl rfl | exact Or.inr rfl) (pe_dget (hu_of hr) (pe_fld (pv 0) rfl) (pv 2) (fun _ _ => rfl))))))
  (pss_cons (ps_if (pt_cmpR op_gt (pe_dget (hu_of hr) (pe_fld (pv 0) rfl) (pv 1) (fun _ _ => rfl)) pe_int (nomark _)) (pss_one (ps_ret pe_bl)) pss_nil)
  (pss_cons (ps_expr (pe_dpop1 (pe_fld (pv 0) rfl) (pv 1) ⟨by rfl, by rfl, by rfl, by rfl⟩))
  (pss_cons (ps_expr (pe_dpop1 (pe_fld (pv 0) rfl) (pv 1) ⟨by rfl, by rfl, by rfl, by rfl⟩))
  (pss_one (ps_ret pe_bl)))))))
theorem ok_Book_put_last {f : Addr} {fd : FuncData} (F : Fun A.K "put_last" "Book.put_last" s_Book_put_last f fd) (W : Wd A mg) (c_Book_ends_at : Mcal P w A.K mg base (L2.CX P w) 3 A.cBook "ends_at" ["self", "place"] (sp_Book_ends_at A)) (c_Book_need_room : Mcal P w A.K mg base (L2.CX P w) 2 A.cBook "need_room" ["self", "letter"] (sp_Book_need_room A)) (c_Book_grown : Mcal P w A.K mg base CX0 1 A.cBook "grown" ["self", "word", "letter", "behind"] (sp_Book_grown A)) (c_Book_met : Mcal P w A.K mg base CX0 2 A.cBook "met" ["self", "word", "letter", "behind"] (sp_Book_met A)) : FnOk P w A.K mg base (L2.CX P w) 4 f fd ["self", "letter"] (sp_Book_put_last A) := by
  have sc := sc_Book_put_last
  refine F.okX sc_Book_put_last (len_Book_put_last A) (fun cdv Ar outer s H vs Q E hr h => ⟨t_Book_put_last A E, ?_, pu_Book_put_last A W.cl_Book vs H Q E h⟩)
  exact (pss_cons (ps_expr (pe_mcal c_Book_need_room W.cl_Book.cls (hr.mono (by decide)) (passX (takes_of rfl rfl rfl rfl)) (pv 0) (pa_cons (pv 1) pa_nil)))
  (pss_cons (ps_set (i := 2) sc.nd rfl (by first | exact Or.inl rfl | exact Or.inr rfl) (pe_mcal c_Book_grown W.cl_Book.cls (hr.mono (by decide)) pass0 (pv 0) (pa_cons (pe_ifExp (pt_cmpR (op_neD hr.units) (pe_fld (pv 0) rfl) (pe_lst pa_nil) (nomark _)) (pe_mcal c_Book_ends_at W.cl_Book.cls (hr.mono (by decide)) (passX (takes_of rfl rfl rfl rfl)) (pv 0) (pa_cons (pe_op op_sub (pe_callB call_len_seq (by rfl) W.n_len (by decide +kernel) (pa_cons (pe_fld (pv 0) rfl) pa_nil)) pe_int) pa_nil)) (pe_strT (l := []) (by decide +kernel))) (pa_cons (pv 1) (pa_cons pe_bl pa_nil)))))
  (pss_cons (ps_set (i := 3) sc.nd rfl (by first | exact Or.inl rfl | exact Or.inr rfl) (pe_mcal c_Book_met W.cl_Book.cls (hr.mono (by decide)) pass0 (pv 0) (pa_cons (pv 2) (pa_cons (pv 1) (pa_cons pe_bl pa_nil)))))
  (pss_cons (ps_expr (pe_bm PySem.F.plainAttrs_list PySem.F.slot_list_append PySem.F.type_list_append mt_append (pe_fld (pv 0) rfl) (pa_cons (pv 1) pa_nil)))
  (pss_cons (ps_expr (pe_bm PySem.F.plainAttrs_list PySem.F.slot_list_append PySem.F.type_list_append mt_append (pe_fld (pv 0) rfl) (pa_cons pe_int pa_nil)))
  (pss_cons (ps_expr (pe_bm PySem.F.plainAttrs_list PySem.F.slot_list_append PySem.F.type_list_append mt_append (pe_fld (pv 0) rfl) (pa_cons (pe_callB call_len_str (by rfl) W.n_len (by decide +kernel) (pa_cons (pv 2) pa_nil)) pa_nil)))
  (pss_cons (ps_set (i := 4) sc.nd rfl (by first | exact Or.inl rfl | exact Or.inr rfl) (pv 2))
  (pss_cons (ps_while (passes_of rfl) (pt_cmpR op_ne (pv 4) (pe_strT (l := []) (by decide +kernel)) (nomark _)) (pss_cons (ps_asg (pe_callB call_len_str (by rfl) W.n_len (by decide +kernel) (pa_cons (pv 4) pa_nil)) (pg_sub (pe_fld (pv 0) rfl) (pe_op op_sub (pe_callB call_len_seq (by rfl) W.n_len (by decide +kernel) (pa_cons (pe_fld (pv 0) rfl) pa_nil)) (pe_callB call_len_str (by rfl) W.n_len (by decide +kernel) (pa_cons (pv 4) pa_nil))) set_list))
  (pss_one (ps_set (i := 4) sc.nd rfl (by first | exact Or.inl rfl | exact Or.inr rfl) (pe_dget (hu_of hr) (pe_fld (pv 0) rfl) (pv 4) (fun _ _ => rfl))))))
  (pss_one (ps_ret (pe_ifExp (pt_val (pv 3)) (pv 2) pe_non)))))))))))
theorem ok_Book_put_first {f : Addr} {fd : FuncData} (F : Fun A.K "put_first" "Book.put_first" s_Book_put_first f fd) (W : Wd A mg) (c_Book_begins_at : Mcal P w A.K mg base (L2.CX P w) 3 A.cBook "begins_at" ["self", "place"] (sp_Book_begins_at A)) (c_Book_need_room : Mcal P w A.K mg base (L2.CX P w) 2 A.cBook "need_room" ["self", "letter"] (sp_Book_need_room A)) (c_Book_grown : Mcal P w A.K mg base CX0 1 A.cBook "grown" ["self", "word", "letter", "behind"] (sp_Book_grown A)) (c_Book_met : Mcal P w A.K mg base CX0 2 A.cBook "met" ["self", "word", "letter", "behind"] (sp_Book_met A)) : FnOk P w A.K mg base (L2.CX P w) 4 f fd ["self", "letter"] (sp_Book_put_first A) := by
  have sc := sc_Book_put_first
  refine F.okX sc_Book_put_first (len_Book_put_first A) (fun cdv Ar outer s H vs Q E hr h => ⟨t_Book_put_first A E, ?_, pu_Book_put_first A W.cl_Book vs H Q E h⟩)
  exact (pss_cons (ps_expr (pe_mcal c_Book_need_room W.cl_Book.cls (hr.mono (by decide)) (passX (takes_of rfl rfl rfl rfl)) (pv 0) (pa_cons (pv 1) pa_nil)))
  (pss_cons (ps_set (i := 2) sc.nd rfl (by first | exact Or.inl rfl | exact Or.inr rfl) (pe_mcal c_Book_grown W.cl_Book.cls (hr.mono (by decide)) pass0 (pv 0) (pa_cons (pe_ifExp (pt_cmpR (op_neD hr.units) (pe_fld (pv 0) rfl) (pe_lst pa_nil) (nomark _)) (pe_mcal c_Book_begins_at W.cl_Book.cls (hr.mono (by decide)) (passX (takes_of rfl rfl rfl rfl)) (pv 0) (pa_cons pe_int pa_nil)) (pe_strT (l := []) (by decide +kernel))) (pa_cons (pv 1) (pa_cons pe_bl pa_nil)))))
  (pss_cons (ps_set (i := 3) sc.nd rfl (by first | exact Or.inl rfl | exact Or.inr rfl) (pe_mcal c_Book_met W.cl_Book.cls (hr.mono (by decide)) pass0 (pv 0) (pa_cons (pv 2) (pa_cons (pv 1) (pa_cons pe_bl pa_nil)))))
  (pss_cons (ps_expr (pe_bm PySem.F.plainAttrs_list PySem.F.slot_list_insert PySem.F.type_list_insert mt_insert (pe_fld (pv 0) rfl) (pa_cons pe_int (pa_cons (pv 1) pa_nil))))
  (pss_cons (ps_expr (pe_bm PySem.F.plainAttrs_list PySem.F.slot_list_insert PySem.F.type_list_insert mt_insert (pe_fld (pv 0) rfl) (pa_cons pe_int (pa_cons (pe_callB call_len_str (by rfl) W.n_len (by decide +kernel) (pa_cons (pv 2) pa_nil)) pa_nil))))
  (pss_cons (ps_expr (pe_bm PySem.F.plainAttrs_list PySem.F.slot_list_insert PySem.F.type_list_insert mt_insert (pe_fld (pv 0) rfl) (pa_cons pe_int (pa_cons pe_int pa_nil))))
  (pss_cons (ps_set (i := 4) sc.nd rfl (by first | exact Or.inl rfl | exact Or.inr rfl) (pv 2))
  (pss_cons (ps_while (passes_of rfl) (pt_cmpR op_ne (pv 4) (pe_strT (l := []) (by decide +kernel)) (nomark _)) (pss_cons (ps_asg (pe_callB call_len_str (by rfl) W.n_len (by decide +kernel) (pa_cons (pv 4) pa_nil)) (pg_sub (pe_fld (pv 0) rfl) (pe_op op_sub (pe_callB call_len_str (by rfl) W.n_len (by decide +kernel) (pa_cons (pv 4) pa_nil)) pe_int) set_list))
  (pss_one (ps_set (i := 4) sc.nd rfl (by first | exact Or.inl rfl | exact Or.inr rfl) (pe_dget (hu_of hr) (pe_fld (pv 0) rfl) (pv 4) (fun _ _ => rfl))))))
  (pss_one (ps_ret (pe_ifExp (pt_val (pv 3)) (pv 2) pe_non)))))))))))
theorem ok_Book_cut_last {f : Addr} {fd : FuncData} (F : Fun A.K "cut_last" "Book.cut_last" s_Book_cut_last f fd) (W : Wd A mg) (c_Book_need_place : Mcal P w A.K mg base (L2.CX P w) 2 A.cBook "need_place" ["self", "place"] (sp_Book_need_place A)) (c_Book_ends_at : Mcal P w A.K mg base (L2.CX P w) 3 A.cBook "ends_at" ["self", "place"] (sp_Book_ends_at A)) (c_Book_lost : Mcal P w A.K mg base CX0 1 A.cBook "lost" ["self", "word"] (sp_Book_lost A)) : FnOk P w A.K mg base (L2.CX P w) 4 f fd ["self"] (sp_Book_cut_last A) := by
  have sc := sc_Book_cut_last
  refine F.okX sc_Book_cut_last (len_Book_cut_last A) (fun cdv Ar outer s H vs Q E hr h => ⟨t_Book_cut_last A E, ?_, pu_Book_cut_last A W.cl_Book vs H Q E h⟩)
  exact (pss_cons (ps_expr (pe_mcal c_Book_need_place W.cl_Book.cls (hr.mono (by decide)) (passX (takes_of rfl rfl rfl rfl)) (pv 0) (pa_cons (pe_op op_sub (pe_callB call_len_seq (by rfl) W.n_len (by decide +kernel) (pa_cons (pe_fld (pv 0) rfl) pa_nil)) pe_int) pa_nil)))
  (pss_cons (ps_set (i := 1) sc.nd rfl (by first | exact Or.inl rfl | exact Or.inr rfl) (pe_mcal c_Book_ends_at W.cl_Book.cls (hr.mono (by decide)) (passX (takes_of rfl rfl rfl rfl)) (pv 0) (pa_cons (pe_op op_sub (pe_callB call_len_seq (by rfl) W.n_len (by decide +kernel) (pa_cons (pe_fld (pv 0) rfl) pa_nil)) pe_int) pa_nil)))
  (pss_cons (ps_set (i := 2) sc.nd rfl (by first | exact Or.inl rfl | exact Or.inr rfl) (pv 1))
  (pss_cons (ps_while (passes_of rfl) (pt_cmpR op_ne (pv 2) (pe_strT (l := []) (by decide +kernel)) (nomark _)) (pss_cons (ps_asg (pe_callB call_len_str (by rfl) W.n_len (by decide +kernel) (pa_cons (pe_dget (hu_of hr) (pe_fld (pv 0) rfl) (pv 2) (fun _ _ => rfl)) pa_nil)) (pg_sub (pe_fld (pv 0) rfl) (pe_op op_sub (pe_callB call_len_seq (by rfl) W.n_len (by decide +kernel) (pa_cons (pe_fld (pv 0) rfl) pa_nil)) (pe_callB call_len_str (by rfl) W.n_len (by decide +kernel) (pa_cons (pv 2) pa_nil))) set_list))
  (pss_one (ps_set (i := 2) sc.nd rfl (by first | exact Or.inl rfl | exact Or.inr rfl) (pe_dget (hu_of hr) (pe_fld (pv 0) rfl) (pv 2) (fun _ _ => rfl))))))
  (pss_cons (ps_for (passes_of rfl) rfl (pi_tup (pe_tup (pa_cons (pe_fld (pv 0) rfl) (pa_cons (pe_fld (pv 0) rfl) (pa_cons (pe_fld (pv 0) rfl) pa_nil))))) (pg_name (i := 3) sc.nd rfl (by first | exact Or.inl rfl | exact Or.inr rfl)) (pss_one (ps_expr (pe_bm0 PySem.F.plainAttrs_list PySem.F.slot_list_pop PySem.F.type_list_pop mt_pop (pv 3)))))
  (pss_one (ps_ret (pe_ifExp (pt_val (pe_mcal c_Book_lost W.cl_Book.cls (hr.mono (by decide)) pass0 (pv 0) (pa_cons (pv 1) pa_nil))) (pv 1) pe_non))))))))
theorem ok_Book_cut_first {f : Addr} {fd : FuncData} (F : Fun A.K "cut_first" "Book.cut_first" s_Book_cut_first f fd) (W : Wd A mg) (c_Book_need_place : Mcal P w A.K mg base (L2.CX P w) 2 A.cBook "need_place" ["self", "place"] (sp_Book_need_place A)) (c_Book_begins_at : Mcal P w A.K mg base (L2.CX P w) 3 A.cBook "begins_at" ["self", "place"] (sp_Book_begins_at A)) (c_Book_lost : Mcal P w A.K mg base CX0 1 A.cBook "lost" ["self", "word"] (sp_Book_lost A)) : FnOk P w A.K mg base (L2.CX P w) 4 f fd ["self"] (sp_Book_cut_first A) := by
  have sc := sc_Book_cut_first
  refine F.okX sc_Book_cut_first (len_Book_cut_first A) (fun cdv Ar outer s H vs Q E hr h => ⟨t_Book_cut_first A E, ?_, pu_Book_cut_first A W.cl_Book vs H Q E h⟩)
  exact (pss_cons (ps_expr (pe_mcal c_Book_need_place W.cl_Book.cls (hr.mono (by decide)) (passX (takes_of rfl rfl rfl rfl)) (pv 0) (pa_cons pe_int pa_nil)))
  (pss_cons (ps_set (i := 1) sc.nd rfl (by first | exact Or.inl rfl | exact Or.inr rfl) (pe_mcal c_Book_begins_at W.cl_Book.cls (hr.mono (by decide)) (passX (takes_of rfl rfl rfl rfl)) (pv 0) (pa_cons pe_int pa_nil)))
  (pss_cons (ps_set (i := 2) sc.nd rfl (by first | exact Or.inl rfl | exact Or.inr rfl) (pv 1))
  (pss_cons (ps_while (passes_of rfl) (pt_cmpR op_ne (pv 2) (pe_strT (l := []) (by decide +kernel)) (nomark _)) (pss_cons (ps_asg (pe_callB call_len_str (by rfl) W.n_len (by decide +kernel) (pa_cons (pe_dget (hu_of hr) (pe_fld (pv 0) rfl) (pv 2) (fun _ _ => rfl)) pa_nil)) (pg_sub (pe_fld (pv 0) rfl) (pe_op op_sub (pe_callB call_len_str (by rfl) W.n_len (by decide +kernel) (pa_cons (pv 2) pa_nil)) pe_int) set_list))
  (pss_one (ps_set (i := 2) sc.nd rfl (by first | exact Or.inl rfl | exact Or.inr rfl) (pe_dget (hu_of hr) (pe_fld (pv 0) rfl) (pv 2) (fun _ _ => rfl))))))
  (pss_cons (ps_for (passes_of rfl) rfl (pi_tup (pe_tup (pa_cons (pe_fld (pv 0) rfl) (pa_cons (pe_fld (pv 0) rfl) (pa_cons (pe_fld (pv 0) rfl) pa_nil))))) (pg_name (i := 3) sc.nd rfl (by first | exact Or.inl rfl | exact Or.inr rfl)) (pss_one (ps_expr (pe_bm PySem.F.plainAttrs_list PySem.F.slot_list_pop PySem.F.type_list_pop mt_popAt (pv 3) (pa_cons pe_int pa_nil)))))
  (pss_one (ps_ret (pe_ifExp (pt_val (pe_mcal c_Book_lost W.cl_Book.cls (hr.mono (by decide)) pass0 (pv 0) (pa_cons (pv 1) pa_nil))) (pv 1) pe_non))))))))
theorem ok_arm_at {f : Addr} {fd : FuncData} (F : Fun A.K "arm_at" "arm_at" s_arm_at f fd) (W : Wd A mg)  : FnOk P w A.K mg base CX0 1 f fd ["text", "middle"] (sp_arm_at A) := by
  have sc := sc_arm_at
  refine F.ok sc_arm_at (len_arm_at A) (fun cdv Ar outer s H vs Q E hr h => ⟨t_arm_at A, ?_, pu_arm_at A  vs H Q E h⟩)
  exact (pss_cons (ps_set (i := 2) sc.nd rfl (by first | exact Or.inl rfl | exact Or.inr rfl) (pe_op op_fdiv (pe_op op_sub (pv 1) pe_int) pe_int))
  (pss_cons (ps_set (i := 3) sc.nd rfl (by first | exact Or.inl rfl | exact Or.inr rfl) (pe_op op_add (pe_op op_fdiv (pv 1) pe_int) pe_int))
  (pss_cons (ps_set (i := 4) sc.nd rfl (by first | exact Or.inl rfl | exact Or.inr rfl) pe_int)
  (pss_cons (ps_while (PassesOwn.never) (PW.pt (pw_and (pt_cmpR op_ge (pv 2) pe_int (nomark _)) (pw_and (pt_cmpR op_lt (pv 3) (pe_callB call_len_str (by rfl) W.n_len (by decide +kernel) (pa_cons (pv 0) pa_nil)) (nomark _)) (pw_and1 (pt_cmpR op_eq (pe_ix ix_str (pv 0) (pv 2) (fun _ _ => rfl)) (pe_ix ix_str (pv 0) (pv 3) (fun _ _ => rfl)) (nomark _)))))) (pss_cons (ps_set (i := 4) sc.nd rfl (by first | exact Or.inl rfl | exact Or.inr rfl) (pe_op op_add (pv 4) pe_int))
  (pss_cons (ps_set (i := 2) sc.nd rfl (by first | exact Or.inl rfl | exact Or.inr rfl) (pe_op op_sub (pv 2) pe_int))
  (pss_one (ps_set (i := 3) sc.nd rfl (by first | exact Or.inl rfl | exact Or.inr rfl) (pe_op op_add (pv 3) pe_int))))))
  (pss_one (ps_ret (pv 4)))))))
theorem ok_arms_of {f : Addr} {fd : FuncData} (F : Fun A.K "arms_of" "arms_of" s_arms_of f fd) (W : Wd A mg) (c_arm_at : Cal P w A.K mg base CX0 1 "arm_at" ["text", "middle"] (sp_arm_at A)) : FnOk P w A.K mg base CX0 2 f fd ["text"] (sp_arms_of A) := by
  have sc := sc_arms_of
  refine F.ok sc_arms_of (len_arms_of A) (fun cdv Ar outer s H vs Q E hr h => ⟨t_arms_of A, ?_, pu_arms_of A  vs H Q E h⟩)
  exact (pss_cons (ps_set (i := 1) sc.nd rfl (by first | exact Or.inl rfl | exact Or.inr rfl) (pe_lst pa_nil))
  (pss_cons (ps_set (i := 2) sc.nd rfl (by first | exact Or.inl rfl | exact Or.inr rfl) pe_int)
  (pss_cons (ps_set (i := 3) sc.nd rfl (by first | exact Or.inl rfl | exact Or.inr rfl) pe_int)
  (pss_cons (ps_for (PassesOwn.never) rfl (pi_range1 (by rfl) W.n_range (pa_cons (pe_op op_sub (pe_op op_mul pe_int (pe_callB call_len_str (by rfl) W.n_len (by decide +kernel) (pa_cons (pv 0) pa_nil))) pe_int) pa_nil)) (pg_name (i := 4) sc.nd rfl (by first | exact Or.inl rfl | exact Or.inr rfl)) (pss_cons (ps_set (i := 5) sc.nd rfl (by first | exact Or.inl rfl | exact Or.inr rfl) (pe_op op_sub (pe_op op_mul pe_int (pv 2)) (pv 4)))
  (pss_cons (ps_if (PW.pt (pw_and (pt_cmpR op_lt (pv 4) (pe_op op_mul pe_int (pv 3)) (nomark _)) (pw_and (pt_cmpR op_ge (pv 5) pe_int (nomark _)) (pw_and1 (pt_cmpR op_lt (pe_op op_add (pe_op op_fdiv (pe_op op_add (pv 4) pe_int) pe_int) (pe_ix ix_list (pv 1) (pv 5) (fun _ _ => rfl))) (pv 3) (nomark _)))))) (pss_one (ps_expr (pe_bm PySem.F.plainAttrs_list PySem.F.slot_list_append PySem.F.type_list_append mt_append (pv 1) (pa_cons (pe_ix ix_list (pv 1) (pv 5) (fun _ _ => rfl)) pa_nil)))) (pss_one (ps_expr (pe_bm PySem.F.plainAttrs_list PySem.F.slot_list_append PySem.F.type_list_append mt_append (pv 1) (pa_cons (pe_cal c_arm_at (hr.mono (by decide)) (by rfl) pass0 (pa_cons (pv 0) (pa_cons (pv 4) pa_nil))) pa_nil)))))
  (pss_one (ps_if (pt_cmpR op_gt (pe_op op_add (pe_op op_fdiv (pv 4) pe_int) (pe_ix ix_list (pv 1) (pv 4) (fun _ _ => rfl))) (pv 3) (nomark _)) (pss_cons (ps_set (i := 2) sc.nd rfl (by first | exact Or.inl rfl | exact Or.inr rfl) (pv 4))
  (pss_one (ps_set (i := 3) sc.nd rfl (by first | exact Or.inl rfl | exact Or.inr rfl) (pe_op op_add (pe_op op_fdiv (pv 4) pe_int) (pe_ix ix_list (pv 1) (pv 4) (fun _ _ => rfl)))))) pss_nil)))))
  (pss_one (ps_ret (pv 1)))))))
theorem ok_arms {f : Addr} {fd : FuncData} (F : Fun A.K "arms" "arms" s_arms f fd) (W : Wd A mg) (c_need_text : Cal P w A.K mg base (L2.CX P w) 2 "need_text" ["thing"] (sp_need_text A)) (c_arms_of : Cal P w A.K mg base CX0 2 "arms_of" ["text"] (sp_arms_of A)) : FnOk P w A.K mg base (L2.CX P w) 3 f fd ["text"] (sp_arms A) := by
  have sc := sc_arms
  refine F.okX sc_arms (len_arms A) (fun cdv Ar outer s H vs Q E hr h => ⟨t_arms A E, ?_, pu_arms A  vs H Q E h⟩)
  exact (pss_cons (ps_expr (pe_cal c_need_text (hr.mono (by decide)) (by rfl) (passX (takes_of rfl rfl rfl rfl)) (pa_cons (pv 0) pa_nil)))
  (pss_one (ps_ret (pe_cal c_arms_of (hr.mono (by decide)) (by rfl) pass0 (pa_cons (pv 0) pa_nil)))))
theorem ok_reaches {f : Addr} {fd : FuncData} (F : Fun A.K "reaches" "reaches" s_reaches f fd) (W : Wd A mg) (c_arms_of : Cal P w A.K mg base CX0 2 "arms_of" ["text"] (sp_arms_of A)) : FnOk P w A.K mg base CX0 3 f fd ["text"] (sp_reaches A) := by
  have sc := sc_reaches
  refine F.ok sc_reaches (len_reaches A) (fun cdv Ar outer s H vs Q E hr h => ⟨t_reaches A, ?_, pu_reaches A  vs H Q E h⟩)
  exact (pss_cons (ps_setLc (i := 1) (own := [("place", 2)]) (g := (gName 2)) (tt := tYes) rfl sc.nd rfl rfl (sw_true rfl rfl rfl (by decide +kernel)) (pi_str (pv 0)) (blkOk_by (N := ["text", "found", "place", "middle", "arm", "step", "begin", "end", "ends"]) (sc := defScope s_reaches) (by decide +kernel)) (fun _ _ _ _ _ => (pg_name (i := 2) sc.nd rfl (by first | exact Or.inl rfl | exact Or.inr rfl))) (fun _ _ _ _ _ => pts_nil) (fun _ _ _ _ _ => (pe_lst pa_nil)))
  (pss_cons (ps_for (PassesOwn.never) rfl (pi_enum (by rfl) W.n_enumerate (pa_cons (pe_cal c_arms_of (hr.mono (by decide)) (by rfl) pass0 (pa_cons (pv 0) pa_nil)) pa_nil)) (pg_tup rfl (pgs_cons (pg_name (i := 3) sc.nd rfl (by first | exact Or.inl rfl | exact Or.inr rfl)) (pgs_cons (pg_name (i := 4) sc.nd rfl (by first | exact Or.inl rfl | exact Or.inr rfl)) pgs_nil))) (pss_one (ps_for (PassesOwn.never) rfl (pi_range1 (by rfl) W.n_range (pa_cons (pe_op op_add (pv 4) pe_int) pa_nil)) (pg_name (i := 5) sc.nd rfl (by first | exact Or.inl rfl | exact Or.inr rfl)) (pss_cons (ps_set (i := 6) sc.nd rfl (by first | exact Or.inl rfl | exact Or.inr rfl) (pe_op op_sub (pe_op op_fdiv (pe_op op_add (pv 3) pe_int) pe_int) (pv 5)))
  (pss_cons (ps_set (i := 7) sc.nd rfl (by first | exact Or.inl rfl | exact Or.inr rfl) (pe_op op_add (pe_op op_fdiv (pv 3) pe_int) (pv 5)))
  (pss_one (ps_if (pt_cmpR op_le (pv 6) (pv 7) (nomark _)) (pss_one (ps_expr (pe_bm PySem.F.plainAttrs_list PySem.F.slot_list_append PySem.F.type_list_append mt_append (pe_ix ix_list (pv 1) (pv 6) (fun _ _ => rfl)) (pa_cons (pe_op op_add (pv 7) pe_int) pa_nil)))) pss_nil)))))))
  (pss_one (ps_ret (pe_lc (own := [("ends", 8)]) (g := (gName 8)) (tt := tYes) rfl sc.nd (pi_list (pv 1)) (blkOk_by (N := ["text", "found", "place", "middle", "arm", "step", "begin", "end", "ends"]) (sc := defScope s_reaches) (by decide +kernel)) (fun _ _ _ _ _ => (pg_name (i := 8) sc.nd rfl (by first | exact Or.inl rfl | exact Or.inr rfl))) (fun _ _ _ _ _ => pts_nil) (fun _ _ _ _ _ => (pe_callB cr_sortedI (by rfl) W.n_sorted (by decide +kernel) (pa_cons (pv 8) pa_nil))))))))
theorem ok_fewest {f : Addr} {fd : FuncData} (F : Fun A.K "fewest" "fewest" s_fewest f fd) (W : Wd A mg) (c_need_text : Cal P w A.K mg base (L2.CX P w) 2 "need_text" ["thing"] (sp_need_text A)) (c_reaches : Cal P w A.K mg base CX0 3 "reaches" ["text"] (sp_reaches A)) : FnOk P w A.K mg base (L2.CX P w) 4 f fd ["text"] (sp_fewest A) := by
  have sc := sc_fewest
  refine F.okX sc_fewest (len_fewest A) (fun cdv Ar outer s H vs Q E hr h => ⟨t_fewest A E, ?_, pu_fewest A  vs H Q E h⟩)
  exact (pss_cons (ps_expr (pe_cal c_need_text (hr.mono (by decide)) (by rfl) (passX (takes_of rfl rfl rfl rfl)) (pa_cons (pv 0) pa_nil)))
  (pss_cons (ps_set (i := 1) sc.nd rfl (by first | exact Or.inl rfl | exact Or.inr rfl) (pe_cal c_reaches (hr.mono (by decide)) (by rfl) pass0 (pa_cons (pv 0) pa_nil)))
  (pss_cons (ps_set (i := 2) sc.nd rfl (by first | exact Or.inl rfl | exact Or.inr rfl) (pe_op op_rep (pe_lst (pa_cons pe_int pa_nil)) (pe_op op_add (pe_callB call_len_str (by rfl) W.n_len (by decide +kernel) (pa_cons (pv 0) pa_nil)) pe_int)))
  (pss_cons (ps_set (i := 3) sc.nd rfl (by first | exact Or.inl rfl | exact Or.inr rfl) (pe_op op_rep (pe_lst (pa_cons pe_int pa_nil)) (pe_callB call_len_str (by rfl) W.n_len (by decide +kernel) (pa_cons (pv 0) pa_nil))))
  (pss_cons (ps_for (passes_of rfl) rfl (pi_revR (by rfl) W.n_reversed (prg_1 (by rfl) W.n_range (pe_callB call_len_str (by rfl) W.n_len (by decide +kernel) (pa_cons (pv 0) pa_nil)))) (pg_name (i := 4) sc.nd rfl (by first | exact Or.inl rfl | exact Or.inr rfl)) (pss_cons (ps_set (i := 5) sc.nd rfl (by first | exact Or.inl rfl | exact Or.inr rfl) (pe_callB (cr_min rfl) (by rfl) W.n_min (by decide +kernel) (pa_cons (pe_lc (own := [("end", 6)]) (g := (gName 6)) (tt := tYes) rfl sc.nd (pi_list (pe_ix ix_list (pv 1) (pv 4) (fun _ _ => rfl))) (blkOk_by (N := ["text", "ends", "many", "goes", "place", "least", "end", "found"]) (sc := defScope s_fewest) (by decide +kernel)) (fun _ _ _ _ _ => (pg_name (i := 6) sc.nd rfl (by first | exact Or.inl rfl | exact Or.inr rfl))) (fun _ _ _ _ _ => pts_nil) (fun _ _ _ _ _ => (pe_ix ix_list (pv 2) (pv 6) (fun _ _ => rfl)))) pa_nil)))
  (pss_cons (ps_asg (pe_op op_add pe_int (pv 5)) (pg_sub (pv 2) (pv 4) set_list))
  (pss_one (ps_asg (pe_callB (cr_max rfl) (by rfl) W.n_max (by decide +kernel) (pa_cons (pe_lc (own := [("end", 6)]) (g := (gName 6)) (tt := (tTest (tOp rEq (tOp (rIxL A.K) (tVar 2) (tVar 6)) (tVar 5)))) rfl sc.nd (pi_list (pe_ix ix_list (pv 1) (pv 4) (fun _ _ => rfl))) (blkOk_by (N := ["text", "ends", "many", "goes", "place", "least", "end", "found"]) (sc := defScope s_fewest) (by decide +kernel)) (fun _ _ _ _ _ => (pg_name (i := 6) sc.nd rfl (by first | exact Or.inl rfl | exact Or.inr rfl))) (fun _ _ _ _ _ => (pts_one (pt_cmpR op_eq (pe_ix ix_list (pv 2) (pv 6) (fun _ _ => rfl)) (pv 5) (nomark _)))) (fun _ _ _ _ _ => (pv 6))) pa_nil)) (pg_sub (pv 3) (pv 4) set_list))))))
  (pss_cons (ps_set (i := 7) sc.nd rfl (by first | exact Or.inl rfl | exact Or.inr rfl) (pe_lst pa_nil))
  (pss_cons (ps_set (i := 4) sc.nd rfl (by first | exact Or.inl rfl | exact Or.inr rfl) pe_int)
  (pss_cons (ps_while (passes_of rfl) (pt_cmpR op_lt (pv 4) (pe_callB call_len_str (by rfl) W.n_len (by decide +kernel) (pa_cons (pv 0) pa_nil)) (nomark _)) (pss_cons (ps_expr (pe_bm PySem.F.plainAttrs_list PySem.F.slot_list_append PySem.F.type_list_append mt_append (pv 7) (pa_cons (pe_slice sl_str (pv 0) (po_some (pv 4)) (po_some (pe_ix ix_list (pv 3) (pv 4) (fun _ _ => rfl)))) pa_nil)))
  (pss_one (ps_set (i := 4) sc.nd rfl (by first | exact Or.inl rfl | exact Or.inr rfl) (pe_ix ix_list (pv 3) (pv 4) (fun _ _ => rfl))))))
  (pss_one (ps_ret (pv 7)))))))))))
theorem ok_most_arm {f : Addr} {fd : FuncData} (F : Fun A.K "most_arm" "most_arm" s_most_arm f fd) (W : Wd A mg)  : FnOk P w A.K mg base CX0 1 f fd ["middle", "many"] (sp_most_arm A) := by
  have sc := sc_most_arm
  refine F.ok sc_most_arm (len_most_arm A) (fun cdv Ar outer s H vs Q E hr h => ⟨t_most_arm A, ?_, pu_most_arm A  vs H Q E h⟩)
  exact (pss_one (ps_ret (pe_callB (call_min2 rfl) (by rfl) W.n_min (by decide +kernel) (pa_cons (pe_op op_fdiv (pe_op op_add (pv 0) pe_int) pe_int) (pa_cons (pe_op op_sub (pe_op op_sub (pv 1) pe_int) (pe_op op_fdiv (pv 0) pe_int)) pa_nil)))))
theorem ok_is_arms {f : Addr} {fd : FuncData} (F : Fun A.K "is_arms" "is_arms" s_is_arms f fd) (W : Wd A mg) (c_is_whole : Cal P w A.K mg base CX0 1 "is_whole" ["thing"] (sp_is_whole A)) (c_most_arm : Cal P w A.K mg base CX0 1 "most_arm" ["middle", "many"] (sp_most_arm A)) : FnOk P w A.K mg base CX0 2 f fd ["thing"] (sp_is_arms A) := by
  have sc := sc_is_arms
  refine F.ok sc_is_arms (len_is_arms A) (fun cdv Ar outer s H vs Q E hr h => ⟨t_is_arms A, ?_, pu_is_arms A  vs H Q E h⟩)
  exact (pss_cons (ps_if (PW.pt (pw_or (pt_not (pt_val (pe_callB call_isi (by rfl) W.n_isinstance (by decide +kernel) (pa_cons (pv 0) (pa_cons (pe_bltn (by rfl) W.n_list (by decide +kernel) rfl) pa_nil))))) (pw_or (pt_cmpR op_gt (pe_callB call_len_seq (by rfl) W.n_len (by decide +kernel) (pa_cons (pv 0) pa_nil)) (pe_op op_sub (pe_op op_mul pe_int (pe_globI (by rfl) W.g_MOST)) pe_int) (nomark _)) (pw_or1 (PW.pt (pw_and (pt_cmpR (op_neD hr.units) (pv 0) (pe_lst pa_nil) (nomark _)) (pw_and1 (pt_cmpR op_eq (pe_op op_mod (pe_callB call_len_seq (by rfl) W.n_len (by decide +kernel) (pa_cons (pv 0) pa_nil)) pe_int) pe_int (nomark _))))))))) (pss_one (ps_ret pe_bl)) pss_nil)
  (pss_cons (ps_set (i := 1) sc.nd rfl (by first | exact Or.inl rfl | exact Or.inr rfl) (pe_op op_fdiv (pe_op op_add (pe_callB call_len_seq (by rfl) W.n_len (by decide +kernel) (pa_cons (pv 0) pa_nil)) pe_int) pe_int))
  (pss_one (ps_ret (pe_callB (cr_all rfl) (by rfl) W.n_all (by decide +kernel) (pa_cons (pe_lc (own := [("middle", 2), ("arm", 3)]) (g := (gTup A.K 2 (gCons (gName 2) (gCons (gName 3) gNil)))) (tt := tYes) rfl sc.nd (pi_enum (by rfl) W.n_enumerate (pa_cons (pv 0) pa_nil)) (blkOk_by (N := ["thing", "many", "middle", "arm"]) (sc := defScope s_is_arms) (by decide +kernel)) (fun _ _ _ _ _ => (pg_tup rfl (pgs_cons (pg_name (i := 2) sc.nd rfl (by first | exact Or.inl rfl | exact Or.inr rfl)) (pgs_cons (pg_name (i := 3) sc.nd rfl (by first | exact Or.inl rfl | exact Or.inr rfl)) pgs_nil)))) (fun _ _ _ _ _ => pts_nil) (fun _ _ _ _ _ => (pe_and (pe_cal c_is_whole (hr.mono (by decide)) (by rfl) pass0 (pa_cons (pv 3) pa_nil)) (pe_one (pe_chain op_le op_le pe_int (pv 3) (pe_cal c_most_arm (hr.mono (by decide)) (by rfl) pass0 (pa_cons (pv 2) (pa_cons (pv 1) pa_nil)))))))) pa_nil))))))
theorem ok_Groups_init {f : Addr} {fd : FuncData} (F : Fun A.K "__init__" "Groups.__init__" s_Groups_init f fd) (W : Wd A mg)  : FnOk P w A.K mg base CX0 1 f fd ["self", "many"] (sp_Groups_init A) := by
  have sc := sc_Groups_init
  refine F.ok sc_Groups_init (len_Groups_init A) (fun cdv Ar outer s H vs Q E hr h => ⟨t_Groups_init A, ?_, pu_Groups_init A W.cl_Groups vs H Q E h⟩)
  exact (pss_one (ps_fld (pv 0) (pe_listRg rfl (by rfl) W.n_list (prg_1 (by rfl) W.n_range (pv 1))) rfl))
theorem ok_Groups_root {f : Addr} {fd : FuncData} (F : Fun A.K "root" "Groups.root" s_Groups_root f fd) (W : Wd A mg)  : FnOk P w A.K mg base CX0 1 f fd ["self", "place"] (sp_Groups_root A) := by
  have sc := sc_Groups_root
  refine F.ok sc_Groups_root (len_Groups_root A) (fun cdv Ar outer s H vs Q E hr h => ⟨t_Groups_root A, ?_, pu_Groups_root A W.cl_Groups vs H Q E h⟩)
  exact (pss_cons (ps_while (PassesOwn.never) (pt_cmpR op_ne (pe_ix ix_list (pe_fld (pv 0) rfl) (pv 1) (fun _ _ => rfl)) (pv 1) (nomark _)) (pss_one (ps_set (i := 1) sc.nd rfl (by first | exact Or.inl rfl | exact Or.inr rfl) (pe_ix ix_list (pe_fld (pv 0) rfl) (pv 1) (fun _ _ => rfl)))))
  (pss_one (ps_ret (pv 1))))
theorem ok_Groups_tie {f : Addr} {fd : FuncData} (F : Fun A.K "tie" "Groups.tie" s_Groups_tie f fd) (W : Wd A mg) (c_Groups_root : Mcal P w A.K mg base CX0 1 A.cGroups "root" ["self", "place"] (sp_Groups_root A)) : FnOk P w A.K mg base CX0 2 f fd ["self", "one", "other"] (sp_Groups_tie A) := by
  have sc := sc_Groups_tie
  refine F.ok sc_Groups_tie (len_Groups_tie A) (fun cdv Ar outer s H vs Q E hr h => ⟨t_Groups_tie A, ?_, pu_Groups_tie A W.cl_Groups vs H Q E h⟩)
  exact (pss_cons (ps_par rfl sc.nd rfl rfl (by decide) rfl rfl (pa_cons (pe_mcal c_Groups_root W.cl_Groups.cls (hr.mono (by decide)) pass0 (pv 0) (pa_cons (pv 1) pa_nil)) (pa_cons (pe_mcal c_Groups_root W.cl_Groups.cls (hr.mono (by decide)) pass0 (pv 0) (pa_cons (pv 2) pa_nil)) pa_nil)) (by rfl))
  (pss_one (ps_asg (pe_callB (call_min2 rfl) (by rfl) W.n_min (by decide +kernel) (pa_cons (pv 1) (pa_cons (pv 2) pa_nil))) (pg_sub (pe_fld (pv 0) rfl) (pe_callB (call_max2 rfl) (by rfl) W.n_max (by decide +kernel) (pa_cons (pv 1) (pa_cons (pv 2) pa_nil))) set_list))))
theorem ok_tied {f : Addr} {fd : FuncData} (F : Fun A.K "tied" "tied" s_tied f fd) (W : Wd A mg) (c_Groups_init : Mkc P w A.K mg base CX0 1 "Groups" ["self", "many"] A.cGroups (sp_Groups_init A)) (c_Groups_tie : Mcal P w A.K mg base CX0 2 A.cGroups "tie" ["self", "one", "other"] (sp_Groups_tie A)) : FnOk P w A.K mg base CX0 3 f fd ["arms", "many"] (sp_tied A) := by
  have sc := sc_tied
  refine F.ok sc_tied (len_tied A) (fun cdv Ar outer s H vs Q E hr h => ⟨t_tied A, ?_, pu_tied A  vs H Q E h⟩)
  exact (pss_cons (ps_set (i := 2) sc.nd rfl (by first | exact Or.inl rfl | exact Or.inr rfl) (pe_mk c_Groups_init (hr.mono (by decide)) (by rfl) pass0 (pa_cons (pv 1) pa_nil)))
  (pss_cons (ps_for (PassesOwn.never) rfl (pi_enum (by rfl) W.n_enumerate (pa_cons (pv 0) pa_nil)) (pg_tup rfl (pgs_cons (pg_name (i := 3) sc.nd rfl (by first | exact Or.inl rfl | exact Or.inr rfl)) (pgs_cons (pg_name (i := 4) sc.nd rfl (by first | exact Or.inl rfl | exact Or.inr rfl)) pgs_nil))) (pss_one (ps_for (PassesOwn.never) rfl (pi_range1 (by rfl) W.n_range (pa_cons (pv 4) pa_nil)) (pg_name (i := 5) sc.nd rfl (by first | exact Or.inl rfl | exact Or.inr rfl)) (pss_one (ps_expr (pe_mcal c_Groups_tie W.cl_Groups.cls (hr.mono (by decide)) pass0 (pv 2) (pa_cons (pe_op op_sub (pe_op op_fdiv (pe_op op_sub (pv 3) pe_int) pe_int) (pv 5)) (pa_cons (pe_op op_add (pe_op op_add (pe_op op_fdiv (pv 3) pe_int) pe_int) (pv 5)) pa_nil))))))))
  (pss_one (ps_ret (pv 2)))))
theorem ok_foes_of {f : Addr} {fd : FuncData} (F : Fun A.K "foes_of" "foes_of" s_foes_of f fd) (W : Wd A mg) (c_Groups_root : Mcal P w A.K mg base CX0 1 A.cGroups "root" ["self", "place"] (sp_Groups_root A)) : FnOk P w A.K mg base (L2.CX P w) 2 f fd ["arms", "many", "groups"] (sp_foes_of A) := by
  have sc := sc_foes_of
  refine F.okX sc_foes_of (len_foes_of A) (fun cdv Ar outer s H vs Q E hr h => ⟨t_foes_of A E, ?_, pu_foes_of A  vs H Q E h⟩)
  exact (pss_cons (ps_setLc (i := 3) (own := [("place", 4)]) (g := (gName 4)) (tt := tYes) rfl sc.nd rfl rfl (sw_true rfl rfl rfl (by decide +kernel)) (pi_range1 (by rfl) W.n_range (pa_cons (pv 1) pa_nil)) (blkOk_by (N := ["arms", "many", "groups", "foes", "place", "middle", "arm", "left", "right", "one", "other"]) (sc := defScope s_foes_of) (by decide +kernel)) (fun _ _ _ _ _ => (pg_name (i := 4) sc.nd rfl (by first | exact Or.inl rfl | exact Or.inr rfl))) (fun _ _ _ _ _ => pts_nil) (fun _ _ _ _ _ => (pe_lst pa_nil)))
  (pss_cons (ps_for (passes_of rfl) rfl (pi_enum (by rfl) W.n_enumerate (pa_cons (pv 0) pa_nil)) (pg_tup rfl (pgs_cons (pg_name (i := 5) sc.nd rfl (by first | exact Or.inl rfl | exact Or.inr rfl)) (pgs_cons (pg_name (i := 6) sc.nd rfl (by first | exact Or.inl rfl | exact Or.inr rfl)) pgs_nil))) (pss_cons (ps_set (i := 7) sc.nd rfl (by first | exact Or.inl rfl | exact Or.inr rfl) (pe_op op_sub (pe_op op_fdiv (pe_op op_sub (pv 5) pe_int) pe_int) (pv 6)))
  (pss_cons (ps_set (i := 8) sc.nd rfl (by first | exact Or.inl rfl | exact Or.inr rfl) (pe_op op_add (pe_op op_add (pe_op op_fdiv (pv 5) pe_int) pe_int) (pv 6)))
  (pss_one (ps_if (PW.pt (pw_and (pt_cmpR op_ge (pv 7) pe_int (nomark _)) (pw_and1 (pt_cmpR op_lt (pv 8) (pv 1) (nomark _))))) (pss_cons (ps_par rfl sc.nd rfl rfl (by decide) rfl rfl (pa_cons (pe_mcal c_Groups_root W.cl_Groups.cls (hr.mono (by decide)) pass0 (pv 2) (pa_cons (pv 7) pa_nil)) (pa_cons (pe_mcal c_Groups_root W.cl_Groups.cls (hr.mono (by decide)) pass0 (pv 2) (pa_cons (pv 8) pa_nil)) pa_nil)) (by rfl))
  (pss_cons (ps_if (pt_cmpR op_eq (pv 9) (pv 10) (nomark _)) (pss_one (ps_rz rfl W.x_NoText (by rfl) (takes_of rfl rfl rfl rfl))) pss_nil)
  (pss_cons (ps_expr (pe_bm PySem.F.plainAttrs_list PySem.F.slot_list_append PySem.F.type_list_append mt_append (pe_ix ix_list (pv 3) (pv 9) (fun _ _ => rfl)) (pa_cons (pv 10) pa_nil)))
  (pss_one (ps_expr (pe_bm PySem.F.plainAttrs_list PySem.F.slot_list_append PySem.F.type_list_append mt_append (pe_ix ix_list (pv 3) (pv 10) (fun _ _ => rfl)) (pa_cons (pv 9) pa_nil))))))) pss_nil)))))
  (pss_one (ps_ret (pv 3)))))
theorem ok_least_text {f : Addr} {fd : FuncData} (F : Fun A.K "least_text" "least_text" s_least_text f fd) (W : Wd A mg) (c_is_arms : Cal P w A.K mg base CX0 2 "is_arms" ["thing"] (sp_is_arms A)) (c_Groups_root : Mcal P w A.K mg base CX0 1 A.cGroups "root" ["self", "place"] (sp_Groups_root A)) (c_tied : Cal P w A.K mg base CX0 3 "tied" ["arms", "many"] (sp_tied A)) (c_foes_of : Cal P w A.K mg base (L2.CX P w) 2 "foes_of" ["arms", "many", "groups"] (sp_foes_of A)) : FnOk P w A.K mg base (L2.CX P w) 4 f fd ["arms"] (sp_least_text A) := by
  have sc := sc_least_text
  refine F.okX sc_least_text (len_least_text A) (fun cdv Ar outer s H vs Q E hr h => ⟨t_least_text A E, ?_, pu_least_text A  vs H Q E h⟩)
  exact (pss_cons (ps_if (pt_not (pt_val (pe_cal c_is_arms (hr.mono (by decide)) (by rfl) pass0 (pa_cons (pv 0) pa_nil)))) (pss_one (ps_rz rfl W.x_BadArms (by rfl) (takes_of rfl rfl rfl rfl))) pss_nil)
  (pss_cons (ps_set (i := 1) sc.nd rfl (by first | exact Or.inl rfl | exact Or.inr rfl) (pe_op op_fdiv (pe_op op_add (pe_callB call_len_seq (by rfl) W.n_len (by decide +kernel) (pa_cons (pv 0) pa_nil)) pe_int) pe_int))
  (pss_cons (ps_set (i := 2) sc.nd rfl (by first | exact Or.inl rfl | exact Or.inr rfl) (pe_cal c_tied (hr.mono (by decide)) (by rfl) pass0 (pa_cons (pv 0) (pa_cons (pv 1) pa_nil))))
  (pss_cons (ps_set (i := 3) sc.nd rfl (by first | exact Or.inl rfl | exact Or.inr rfl) (pe_cal c_foes_of (hr.mono (by decide)) (by rfl) (passX (takes_of rfl rfl rfl rfl)) (pa_cons (pv 0) (pa_cons (pv 1) (pa_cons (pv 2) pa_nil)))))
  (pss_cons (ps_set (i := 4) sc.nd rfl (by first | exact Or.inl rfl | exact Or.inr rfl) pe_dnewK)
  (pss_cons (ps_for (passes_of rfl) rfl (pi_range1 (by rfl) W.n_range (pa_cons (pv 1) pa_nil)) (pg_name (i := 5) sc.nd rfl (by first | exact Or.inl rfl | exact Or.inr rfl)) (pss_one (ps_if (pt_cmpR op_eq (pe_mcal c_Groups_root W.cl_Groups.cls (hr.mono (by decide)) pass0 (pv 2) (pa_cons (pv 5) pa_nil)) (pv 5) (nomark _)) (pss_cons (ps_set (i := 6) sc.nd rfl (by first | exact Or.inl rfl | exact Or.inr rfl) (pe_lc (own := [("foe", 7)]) (g := (gName 7)) (tt := (tB (tDIn (tVar 7) (tVar 4)))) rfl sc.nd (pi_list (pe_ix ix_list (pv 3) (pv 5) (fun _ _ => rfl))) (blkOk_by (N := ["arms", "many", "groups", "foes", "given", "place", "used", "foe", "letter"]) (sc := defScope s_least_text) (by decide +kernel)) (fun _ _ _ _ _ => (pg_name (i := 7) sc.nd rfl (by first | exact Or.inl rfl | exact Or.inr rfl))) (fun _ _ _ _ _ => (pts_one (pt_cmp (pc_din (hu_of hr) (pv 7) (pv 4)) (by rfl)))) (fun _ _ _ _ _ => (pe_dget (hu_of hr) (pv 4) (pv 7) (fun _ _ => rfl)))))
  (pss_one (ps_dput (hu_of hr) (pv 4) (pv 5) (pe_ix ix_list (pe_lc (own := [("letter", 8)]) (g := (gName 8)) (tt := (tTest (tOp (rIn A.K true) (tVar 8) (tVar 6)))) rfl sc.nd (pi_str (pe_globT (by rfl) W.g_LETTERS)) (blkOk_by (N := ["arms", "many", "groups", "foes", "given", "place", "used", "foe", "letter"]) (sc := defScope s_least_text) (by decide +kernel)) (fun _ _ _ _ _ => (pg_name (i := 8) sc.nd rfl (by first | exact Or.inl rfl | exact Or.inr rfl))) (fun _ _ _ _ _ => (pts_one (pt_cmpR op_notIn_seq (pv 8) (pv 6) (by rfl)))) (fun _ _ _ _ _ => (pv 8))) pe_int (fun _ _ => rfl)) rfl))) pss_nil)))
  (pss_one (ps_ret (pe_join (pe_strT (l := []) (by decide +kernel)) (pe_lc (own := [("place", 5)]) (g := (gName 5)) (tt := tYes) rfl sc.nd (pi_range1 (by rfl) W.n_range (pa_cons (pv 1) pa_nil)) (blkOk_by (N := ["arms", "many", "groups", "foes", "given", "place", "used", "foe", "letter"]) (sc := defScope s_least_text) (by decide +kernel)) (fun _ _ _ _ _ => (pg_name (i := 5) sc.nd rfl (by first | exact Or.inl rfl | exact Or.inr rfl))) (fun _ _ _ _ _ => pts_nil) (fun _ _ _ _ _ => (pe_dget (hu_of hr) (pv 4) (pe_mcal c_Groups_root W.cl_Groups.cls (hr.mono (by decide)) pass0 (pv 2) (pa_cons (pv 5) pa_nil)) (fun _ _ => rfl)))))))))))))
theorem ok__law_draw {f : Addr} {fd : FuncData} (F : Fun A.K "_law_draw" "_law_draw" s__law_draw f fd) (W : Wd A mg)  : FnOk P w A.K mg base CX0 1 f fd ["_law_script", "_law_k"] (sp__law_draw A) := by
  have sc := sc__law_draw
  refine F.ok sc__law_draw (len__law_draw A) (fun cdv Ar outer s H vs Q E hr h => ⟨t__law_draw A, ?_, pu__law_draw A  vs H Q E h⟩)
  exact (pss_one (ps_ret (pe_ifExp (pt_cmpR op_gt (pe_callB call_len_seq (by rfl) W.n_len (by decide +kernel) (pa_cons (pv 0) pa_nil)) (pv 1) (nomark _)) (pe_ix ix_list (pv 0) (pv 1) (fun _ _ => rfl)) pe_int)))
theorem ok__law_text {f : Addr} {fd : FuncData} (F : Fun A.K "_law_text" "_law_text" s__law_text f fd) (W : Wd A mg) (c__law_draw : Cal P w A.K mg base CX0 1 "_law_draw" ["_law_script", "_law_k"] (sp__law_draw A)) : FnOk P w A.K mg base CX0 2 f fd ["_law_script", "_law_first", "_law_most"] (sp__law_text A) := by
  have sc := sc__law_text
  refine F.ok sc__law_text (len__law_text A) (fun cdv Ar outer s H vs Q E hr h => ⟨t__law_text A, ?_, pu__law_text A  vs H Q E h⟩)
  exact (pss_cons (ps_set (i := 3) sc.nd rfl (by first | exact Or.inl rfl | exact Or.inr rfl) (pe_op op_mod (pe_cal c__law_draw (hr.mono (by decide)) (by rfl) pass0 (pa_cons (pv 0) (pa_cons pe_int pa_nil))) pe_int))
  (pss_cons (ps_set (i := 4) sc.nd rfl (by first | exact Or.inl rfl | exact Or.inr rfl) (pe_ix ix_list (pe_lst (pa_cons pe_int (pa_cons pe_int (pa_cons pe_int (pa_cons pe_int (pa_cons pe_int (pa_cons pe_int pa_nil))))))) (pe_op op_mod (pe_op op_fdiv (pe_cal c__law_draw (hr.mono (by decide)) (by rfl) pass0 (pa_cons (pv 0) (pa_cons pe_int pa_nil))) pe_int) pe_int) (fun _ _ => rfl)))
  (pss_cons (ps_set (i := 5) sc.nd rfl (by first | exact Or.inl rfl | exact Or.inr rfl) (pe_strT (l := letters) (by decide +kernel)))
  (pss_cons (ps_set (i := 6) sc.nd rfl (by first | exact Or.inl rfl | exact Or.inr rfl) (pe_op op_mod (pe_op op_fdiv (pe_cal c__law_draw (hr.mono (by decide)) (by rfl) pass0 (pa_cons (pv 0) (pa_cons pe_int pa_nil))) pe_int) pe_int))
  (pss_cons (ps_set (i := 7) sc.nd rfl (by first | exact Or.inl rfl | exact Or.inr rfl) (pe_join (pe_strT (l := []) (by decide +kernel)) (pe_lc (own := [("_law_cell", 8)]) (g := (gName 8)) (tt := tYes) rfl sc.nd (pi_list (pe_slice sl_list (pv 0) (po_some (pv 1)) (po_some (pe_op op_add (pv 1) (pv 2))))) (blkOk_by (N := ["_law_script", "_law_first", "_law_most", "_law_way", "_law_many", "_law_letters", "_law_start", "_law_word", "_law_cell", "_law_half"]) (sc := defScope s__law_text) (by decide +kernel)) (fun _ _ _ _ _ => (pg_name (i := 8) sc.nd rfl (by first | exact Or.inl rfl | exact Or.inr rfl))) (fun _ _ _ _ _ => pts_nil) (fun _ _ _ _ _ => (pe_ix ix_str (pv 5) (pe_op op_mod (pe_op op_add (pv 6) (pe_op op_mod (pe_op op_fdiv (pv 8) pe_int) (pv 4))) pe_int) (fun _ _ => rfl))))))
  (pss_cons (ps_set (i := 9) sc.nd rfl (by first | exact Or.inl rfl | exact Or.inr rfl) (pe_slice sl_str (pv 7) po_none (po_some (pe_op op_fdiv (pe_callB call_len_str (by rfl) W.n_len (by decide +kernel) (pa_cons (pv 7) pa_nil)) pe_int))))
  (pss_cons (ps_if (pt_cmpR op_eq (pv 3) pe_int (nomark _)) (pss_one (ps_ret (pe_op op_add_str (pv 9) (pv 9)))) pss_nil)
  (pss_cons (ps_if (pt_cmpR op_eq (pv 3) pe_int (nomark _)) (pss_one (ps_ret (pe_op op_add_str (pv 9) (pe_revT (pv 9))))) pss_nil)
  (pss_cons (ps_if (pt_cmpR op_eq (pv 3) pe_int (nomark _)) (pss_one (ps_ret (pe_op op_add_str (pe_op op_add_str (pv 9) (pe_slice sl_str (pv 7) (po_some (pe_callB call_len_str (by rfl) W.n_len (by decide +kernel) (pa_cons (pv 9) pa_nil))) (po_some (pe_op op_add (pe_callB call_len_str (by rfl) W.n_len (by decide +kernel) (pa_cons (pv 9) pa_nil)) pe_int)))) (pe_revT (pv 9))))) pss_nil)
  (pss_cons (ps_if (pt_cmpR op_eq (pv 3) pe_int (nomark _)) (pss_one (ps_ret (pe_slice sl_str (pe_op op_mulT (pe_slice sl_str (pv 7) po_none (po_some (pe_op op_add pe_int (pe_op op_fdiv (pe_callB call_len_str (by rfl) W.n_len (by decide +kernel) (pa_cons (pv 7) pa_nil)) pe_int)))) pe_int) po_none (po_some (pe_callB call_len_str (by rfl) W.n_len (by decide +kernel) (pa_cons (pv 7) pa_nil)))))) pss_nil)
  (pss_one (ps_ret (pv 7)))))))))))))
theorem ok__law_grown {f : Addr} {fd : FuncData} (F : Fun A.K "_law_grown" "_law_grown" s__law_grown f fd) (W : Wd A mg) (c_Book_init : MkcD P w A.K mg base (L2.CX P w) 5 "Book" ["self", "text"] A.cBook (sp_Book_init A) [tS []]) (c_Book_put_last : Mcal P w A.K mg base (L2.CX P w) 4 A.cBook "put_last" ["self", "letter"] (sp_Book_put_last A)) (c_Book_put_first : Mcal P w A.K mg base (L2.CX P w) 4 A.cBook "put_first" ["self", "letter"] (sp_Book_put_first A)) : FnOk P w A.K mg base CX0 7 f fd ["_law_text_here", "_law_at", "_law_cell"] (sp__law_grown A) := by
  have sc := sc__law_grown
  refine F.ok sc__law_grown (len__law_grown A) (fun cdv Ar outer s H vs Q E hr h => ⟨t__law_grown A, ?_, pu__law_grown A  vs H Q E h⟩)
  exact (pss_cons (ps_set (i := 3) sc.nd rfl (by first | exact Or.inl rfl | exact Or.inr rfl) (pe_mk0 c_Book_init.dflt (hr.mono (by decide)) (by rfl) passL))
  (pss_cons (ps_set (i := 4) sc.nd rfl (by first | exact Or.inl rfl | exact Or.inr rfl) (pv 1))
  (pss_cons (ps_set (i := 5) sc.nd rfl (by first | exact Or.inl rfl | exact Or.inr rfl) (pv 1))
  (pss_cons (ps_while (PassesOwn.never) (PW.pt (pw_or (pt_cmpR op_gt (pv 4) pe_int (nomark _)) (pw_or1 (pt_cmpR op_lt (pv 5) (pe_callB call_len_str (by rfl) W.n_len (by decide +kernel) (pa_cons (pv 0) pa_nil)) (nomark _))))) (pss_cons (ps_set (i := 2) sc.nd rfl (by first | exact Or.inl rfl | exact Or.inr rfl) (pe_op op_mod (pe_op op_add (pe_op op_mul (pv 2) pe_int) pe_int) pe_int))
  (pss_one (ps_if (PW.pt (pw_and (pt_cmpR op_lt (pv 5) (pe_callB call_len_str (by rfl) W.n_len (by decide +kernel) (pa_cons (pv 0) pa_nil)) (nomark _)) (pw_and1 (PW.pt (pw_or (pt_cmpR op_eq (pv 4) pe_int (nomark _)) (pw_or1 (pt_cmpR op_eq (pe_op op_mod (pe_op op_fdiv (pv 2) pe_int) pe_int) pe_int (nomark _)))))))) (pss_cons (ps_expr (pe_mcal c_Book_put_last W.cl_Book.cls (hr.mono (by decide)) passL (pv 3) (pa_cons (pe_ix ix_str (pv 0) (pv 5) (fun _ _ => rfl)) pa_nil)))
  (pss_one (ps_set (i := 5) sc.nd rfl (by first | exact Or.inl rfl | exact Or.inr rfl) (pe_op op_add (pv 5) pe_int)))) (pss_cons (ps_set (i := 4) sc.nd rfl (by first | exact Or.inl rfl | exact Or.inr rfl) (pe_op op_sub (pv 4) pe_int))
  (pss_one (ps_expr (pe_mcal c_Book_put_first W.cl_Book.cls (hr.mono (by decide)) passL (pv 3) (pa_cons (pe_ix ix_str (pv 0) (pv 4) (fun _ _ => rfl)) pa_nil)))))))))
  (pss_one (ps_ret (pv 3)))))))
theorem ok__law_lengths {f : Addr} {fd : FuncData} (F : Fun A.K "_law_lengths" "_law_lengths" s__law_lengths f fd) (W : Wd A mg) (c_arms : Cal P w A.K mg base (L2.CX P w) 3 "arms" ["text"] (sp_arms A)) : FnOk P w A.K mg base CX0 4 f fd ["_law_text_here"] (sp__law_lengths A) := by
  have sc := sc__law_lengths
  refine F.ok sc__law_lengths (len__law_lengths A) (fun cdv Ar outer s H vs Q E hr h => ⟨t__law_lengths A, ?_, pu__law_lengths A  vs H Q E h⟩)
  exact (pss_cons (ps_set (i := 1) sc.nd rfl (by first | exact Or.inl rfl | exact Or.inr rfl) pe_dnewK)
  (pss_cons (ps_for (PassesOwn.never) rfl (pi_enum (by rfl) W.n_enumerate (pa_cons (pe_cal c_arms (hr.mono (by decide)) (by rfl) passL (pa_cons (pv 0) pa_nil)) pa_nil)) (pg_tup rfl (pgs_cons (pg_name (i := 2) sc.nd rfl (by first | exact Or.inl rfl | exact Or.inr rfl)) (pgs_cons (pg_name (i := 3) sc.nd rfl (by first | exact Or.inl rfl | exact Or.inr rfl)) pgs_nil))) (pss_one (ps_for (PassesOwn.never) rfl (pi_range1 (by rfl) W.n_range (pa_cons (pe_op op_add (pe_op op_sub pe_int (pe_op op_mod (pv 2) pe_int)) (pv 3)) pa_nil)) (pg_name (i := 4) sc.nd rfl (by first | exact Or.inl rfl | exact Or.inr rfl)) (pss_cons (ps_set (i := 5) sc.nd rfl (by first | exact Or.inl rfl | exact Or.inr rfl) (pe_op op_sub (pe_op op_add (pe_op op_mul pe_int (pe_op op_add (pv 4) (pe_op op_mod (pv 2) pe_int))) pe_int) (pe_op op_mod (pv 2) pe_int)))
  (pss_one (ps_dput (hu_of hr) (pv 1) (pv 5) (pe_op op_add (pe_dget2 (hu_of hr) (pv 1) (pv 5) pe_int ⟨by rfl, by rfl, by rfl, by rfl⟩) pe_int) rfl))))))
  (pss_one (ps_ret (pv 1)))))
theorem ok__law_told {f : Addr} {fd : FuncData} (F : Fun A.K "_law_told" "_law_told" s__law_told f fd) (W : Wd A mg) (c_Book_words : Mcal P w A.K mg base CX0 1 A.cBook "words" ["self"] (sp_Book_words A)) (c_Book_count : Mcal P w A.K mg base (L2.CX P w) 4 A.cBook "count" ["self", "word"] (sp_Book_count A)) : FnOk P w A.K mg base CX0 5 f fd ["_law_book"] (sp__law_told A) := by
  have sc := sc__law_told
  refine F.ok sc__law_told (len__law_told A) (fun cdv Ar outer s H vs Q E hr h => ⟨t__law_told A, ?_, pu__law_told A  vs H Q E h⟩)
  exact (pss_cons (ps_set (i := 1) sc.nd rfl (by first | exact Or.inl rfl | exact Or.inr rfl) pe_dnewK)
  (pss_cons (ps_for (PassesOwn.never) rfl (pi_list (pe_mcal0 c_Book_words W.cl_Book.cls (hr.mono (by decide)) pass0 (pv 0))) (pg_name (i := 2) sc.nd rfl (by first | exact Or.inl rfl | exact Or.inr rfl)) (pss_one (ps_dput (hu_of hr) (pv 1) (pe_callB call_len_str (by rfl) W.n_len (by decide +kernel) (pa_cons (pv 2) pa_nil)) (pe_op op_add (pe_dget2 (hu_of hr) (pv 1) (pe_callB call_len_str (by rfl) W.n_len (by decide +kernel) (pa_cons (pv 2) pa_nil)) pe_int ⟨by rfl, by rfl, by rfl, by rfl⟩) (pe_mcal c_Book_count W.cl_Book.cls (hr.mono (by decide)) passL (pv 0) (pa_cons (pv 2) pa_nil))) rfl)))
  (pss_one (ps_ret (pv 1)))))
theorem ok__law_right {f : Addr} {fd : FuncData} (F : Fun A.K "_law_right" "_law_right" s__law_right f fd) (W : Wd A mg) (c_Book_whole : Mcal P w A.K mg base CX0 1 A.cBook "whole" ["self"] (sp_Book_whole A)) (c_Book_words : Mcal P w A.K mg base CX0 1 A.cBook "words" ["self"] (sp_Book_words A)) (c_Book_longest : Mcal P w A.K mg base (L2.CX P w) 4 A.cBook "longest" ["self"] (sp_Book_longest A)) (c_arms : Cal P w A.K mg base (L2.CX P w) 3 "arms" ["text"] (sp_arms A)) (c_fewest : Cal P w A.K mg base (L2.CX P w) 4 "fewest" ["text"] (sp_fewest A)) (c_least_text : Cal P w A.K mg base (L2.CX P w) 4 "least_text" ["arms"] (sp_least_text A)) (c__law_lengths : Cal P w A.K mg base CX0 4 "_law_lengths" ["_law_text_here"] (sp__law_lengths A)) (c__law_told : Cal P w A.K mg base CX0 5 "_law_told" ["_law_book"] (sp__law_told A)) : FnOk P w A.K mg base CX0 6 f fd ["_law_book", "_law_text_here"] (sp__law_right A) := by
  have sc := sc__law_right
  refine F.ok sc__law_right (len__law_right A) (fun cdv Ar outer s H vs Q E hr h => ⟨t__law_right A, ?_, pu__law_right A  vs H Q E h⟩)
  exact (pss_cons (ps_set (i := 2) sc.nd rfl (by first | exact Or.inl rfl | exact Or.inr rfl) (pe_mcal0 c_Book_words W.cl_Book.cls (hr.mono (by decide)) pass0 (pv 0)))
  (pss_cons (ps_if (PW.pt (pw_or (pt_cmpR op_ne (pe_mcal0 c_Book_whole W.cl_Book.cls (hr.mono (by decide)) pass0 (pv 0)) (pv 1) (nomark _)) (pw_or (pt_cmpR op_gt (pe_callB call_len_seq (by rfl) W.n_len (by decide +kernel) (pa_cons (pv 2) pa_nil)) (pe_callB call_len_str (by rfl) W.n_len (by decide +kernel) (pa_cons (pv 1) pa_nil)) (nomark _)) (pw_or1 (pt_cmpR (op_ne_dictA (Nat.lt_of_le_of_lt (Nat.le_add_right _ 64) hr.units)) (pe_cal c__law_told (hr.mono (by decide)) (by rfl) pass0 (pa_cons (pv 0) pa_nil)) (pe_cal c__law_lengths (hr.mono (by decide)) (by rfl) pass0 (pa_cons (pv 1) pa_nil)) (by rfl)))))) (pss_one (ps_ret pe_bl)) pss_nil)
  (pss_cons (ps_set (i := 3) sc.nd rfl (by first | exact Or.inl rfl | exact Or.inr rfl) (pe_cal c_fewest (hr.mono (by decide)) (by rfl) passL (pa_cons (pv 1) pa_nil)))
  (pss_cons (ps_if (PW.pt (pw_or (pt_cmpR op_ne (pe_join (pe_strT (l := []) (by decide +kernel)) (pv 3)) (pv 1) (nomark _)) (pw_or1 (pt_cmpR (op_neD hr.units) (pe_lc (own := [("_law_part", 4)]) (g := (gName 4)) (tt := (tTest (tOp (rIn A.K true) (tVar 4) (tVar 2)))) rfl sc.nd (pi_list (pv 3)) (blkOk_by (N := ["_law_book", "_law_text_here", "_law_words", "_law_parts", "_law_part", "_law_most", "_law_word"]) (sc := defScope s__law_right) (by decide +kernel)) (fun _ _ _ _ _ => (pg_name (i := 4) sc.nd rfl (by first | exact Or.inl rfl | exact Or.inr rfl))) (fun _ _ _ _ _ => (pts_one (pt_cmpR op_notIn_seq (pv 4) (pv 2) (by rfl)))) (fun _ _ _ _ _ => (pv 4))) (pe_lst pa_nil) (nomark _))))) (pss_one (ps_ret pe_bl)) pss_nil)
  (pss_cons (ps_set (i := 5) sc.nd rfl (by first | exact Or.inl rfl | exact Or.inr rfl) (pe_callBK (cr_maxDI rfl hr.units) (by rfl) W.n_max (by decide +kernel) (pa_cons (pe_lc (own := [("_law_word", 6)]) (g := (gName 6)) (tt := tYes) rfl sc.nd (pi_list (pv 2)) (blkOk_by (N := ["_law_book", "_law_text_here", "_law_words", "_law_parts", "_law_part", "_law_most", "_law_word"]) (sc := defScope s__law_right) (by decide +kernel)) (fun _ _ _ _ _ => (pg_name (i := 6) sc.nd rfl (by first | exact Or.inl rfl | exact Or.inr rfl))) (fun _ _ _ _ _ => pts_nil) (fun _ _ _ _ _ => (pe_callB call_len_str (by rfl) W.n_len (by decide +kernel) (pa_cons (pv 6) pa_nil)))) pa_nil) (pk_cons pe_int pk_nil)))
  (pss_cons (ps_if (pt_cmpR op_ne (pe_callB call_len_str (by rfl) W.n_len (by decide +kernel) (pa_cons (pe_mcal0 c_Book_longest W.cl_Book.cls (hr.mono (by decide)) passL (pv 0)) pa_nil)) (pv 5) (nomark _)) (pss_one (ps_ret pe_bl)) pss_nil)
  (pss_one (ps_ret (pe_cmpR (op_eq_dictA (Nat.lt_of_le_of_lt (Nat.le_add_right _ 64) hr.units)) (pe_cal c__law_lengths (hr.mono (by decide)) (by rfl) pass0 (pa_cons (pe_cal c_least_text (hr.mono (by decide)) (by rfl) passL (pa_cons (pe_cal c_arms (hr.mono (by decide)) (by rfl) passL (pa_cons (pv 1) pa_nil)) pa_nil)) pa_nil)) (pe_cal c__law_lengths (hr.mono (by decide)) (by rfl) pass0 (pa_cons (pv 1) pa_nil)) (by rfl))))))))))
theorem ok_law {f : Addr} {fd : FuncData} (F : Fun A.K "law" "law" s_law f fd) (W : Wd A mg) (c_Book_words : Mcal P w A.K mg base CX0 1 A.cBook "words" ["self"] (sp_Book_words A)) (c_Book_put_last : Mcal P w A.K mg base (L2.CX P w) 4 A.cBook "put_last" ["self", "letter"] (sp_Book_put_last A)) (c_Book_put_first : Mcal P w A.K mg base (L2.CX P w) 4 A.cBook "put_first" ["self", "letter"] (sp_Book_put_first A)) (c_Book_cut_last : Mcal P w A.K mg base (L2.CX P w) 4 A.cBook "cut_last" ["self"] (sp_Book_cut_last A)) (c_Book_cut_first : Mcal P w A.K mg base (L2.CX P w) 4 A.cBook "cut_first" ["self"] (sp_Book_cut_first A)) (c__law_draw : Cal P w A.K mg base CX0 1 "_law_draw" ["_law_script", "_law_k"] (sp__law_draw A)) (c__law_text : Cal P w A.K mg base CX0 2 "_law_text" ["_law_script", "_law_first", "_law_most"] (sp__law_text A)) (c__law_grown : Cal P w A.K mg base CX0 7 "_law_grown" ["_law_text_here", "_law_at", "_law_cell"] (sp__law_grown A)) (c__law_right : Cal P w A.K mg base CX0 6 "_law_right" ["_law_book", "_law_text_here"] (sp__law_right A)) : FnOk P w A.K mg base CX0 8 f fd ["_law_script"] (sp_law A) := by
  have sc := sc_law
  refine F.ok sc_law (len_law A) (fun cdv Ar outer s H vs Q E hr h => ⟨t_law A, ?_, pu_law A  vs H Q E h⟩)
  exact (pss_cons (ps_set (i := 1) sc.nd rfl (by first | exact Or.inl rfl | exact Or.inr rfl) (pe_cal c__law_text (hr.mono (by decide)) (by rfl) pass0 (pa_cons (pv 0) (pa_cons pe_int (pa_cons pe_int pa_nil)))))
  (pss_cons (ps_set (i := 2) sc.nd rfl (by first | exact Or.inl rfl | exact Or.inr rfl) (pe_cal c__law_draw (hr.mono (by decide)) (by rfl) pass0 (pa_cons (pv 0) (pa_cons pe_int pa_nil))))
  (pss_cons (ps_set (i := 3) sc.nd rfl (by first | exact Or.inl rfl | exact Or.inr rfl) (pe_cal c__law_grown (hr.mono (by decide)) (by rfl) pass0 (pa_cons (pv 1) (pa_cons (pe_op op_mod (pv 2) (pe_op op_add (pe_callB call_len_str (by rfl) W.n_len (by decide +kernel) (pa_cons (pv 1) pa_nil)) pe_int)) (pa_cons (pe_cal c__law_draw (hr.mono (by decide)) (by rfl) pass0 (pa_cons (pv 0) (pa_cons pe_int pa_nil))) pa_nil)))))
  (pss_cons (ps_set (i := 4) sc.nd rfl (by first | exact Or.inl rfl | exact Or.inr rfl) (pe_cal c__law_grown (hr.mono (by decide)) (by rfl) pass0 (pa_cons (pv 1) (pa_cons (pe_op op_mod (pe_op op_fdiv (pv 2) pe_int) (pe_op op_add (pe_callB call_len_str (by rfl) W.n_len (by decide +kernel) (pa_cons (pv 1) pa_nil)) pe_int)) (pa_cons (pe_op op_add (pe_cal c__law_draw (hr.mono (by decide)) (by rfl) pass0 (pa_cons (pv 0) (pa_cons pe_int pa_nil))) pe_int) pa_nil)))))
  (pss_cons (ps_if (PW.pt (pw_or (pt_not (pt_val (pe_cal c__law_right (hr.mono (by decide)) (by rfl) pass0 (pa_cons (pv 3) (pa_cons (pv 1) pa_nil))))) (pw_or1 (pt_cmpR (op_neD hr.units) (pe_mcal0 c_Book_words W.cl_Book.cls (hr.mono (by decide)) pass0 (pv 3)) (pe_mcal0 c_Book_words W.cl_Book.cls (hr.mono (by decide)) pass0 (pv 4)) (nomark _))))) (pss_one (ps_ret pe_bl)) pss_nil)
  (pss_cons (ps_set (i := 5) sc.nd rfl (by first | exact Or.inl rfl | exact Or.inr rfl) (pe_op op_mod (pe_op op_fdiv (pv 2) pe_int) (pe_op op_add (pe_callB call_len_str (by rfl) W.n_len (by decide +kernel) (pa_cons (pv 1) pa_nil)) pe_int)))
  (pss_cons (ps_set (i := 6) sc.nd rfl (by first | exact Or.inl rfl | exact Or.inr rfl) (pe_op op_add (pv 5) (pe_op op_mod (pe_op op_fdiv (pv 2) pe_int) (pe_op op_add (pe_op op_sub (pe_callB call_len_str (by rfl) W.n_len (by decide +kernel) (pa_cons (pv 1) pa_nil)) (pv 5)) pe_int))))
  (pss_cons (ps_for (PassesOwn.never) rfl (pi_range1 (by rfl) W.n_range (pa_cons (pv 5) pa_nil)) (pg_name (i := 7) sc.nd rfl (by first | exact Or.inl rfl | exact Or.inr rfl)) (pss_one (ps_expr (pe_mcal0 c_Book_cut_first W.cl_Book.cls (hr.mono (by decide)) passL (pv 4)))))
  (pss_cons (ps_for (PassesOwn.never) rfl (pi_range1 (by rfl) W.n_range (pa_cons (pe_op op_sub (pe_callB call_len_str (by rfl) W.n_len (by decide +kernel) (pa_cons (pv 1) pa_nil)) (pv 6)) pa_nil)) (pg_name (i := 7) sc.nd rfl (by first | exact Or.inl rfl | exact Or.inr rfl)) (pss_one (ps_expr (pe_mcal0 c_Book_cut_last W.cl_Book.cls (hr.mono (by decide)) passL (pv 4)))))
  (pss_cons (ps_if (PW.pt (pw_or (pt_not (pt_val (pe_cal c__law_right (hr.mono (by decide)) (by rfl) pass0 (pa_cons (pv 4) (pa_cons (pe_slice sl_str (pv 1) (po_some (pv 5)) (po_some (pv 6))) pa_nil))))) (pw_or1 (pt_not (pt_val (pe_cal c__law_right (hr.mono (by decide)) (by rfl) pass0 (pa_cons (pv 3) (pa_cons (pv 1) pa_nil)))))))) (pss_one (ps_ret pe_bl)) pss_nil)
  (pss_cons (ps_if (pt_cmpR op_eq (pv 1) (pe_strT (l := []) (by decide +kernel)) (nomark _)) (pss_one (ps_ret (pe_and (pe_cmpR op_eq (pe_mcal c_Book_put_first W.cl_Book.cls (hr.mono (by decide)) passL (pv 3) (pa_cons (pe_strT (l := [98]) (by decide +kernel)) pa_nil)) (pe_strT (l := [98]) (by decide +kernel)) (nomark _)) (pe_one (pe_cal c__law_right (hr.mono (by decide)) (by rfl) pass0 (pa_cons (pv 3) (pa_cons (pe_strT (l := [98]) (by decide +kernel)) pa_nil))))))) pss_nil)
  (pss_cons (ps_expr (pe_mcal0 c_Book_cut_first W.cl_Book.cls (hr.mono (by decide)) passL (pv 3)))
  (pss_cons (ps_expr (pe_mcal c_Book_put_last W.cl_Book.cls (hr.mono (by decide)) passL (pv 3) (pa_cons (pe_ix ix_str (pv 1) (pe_op op_mod (pv 2) (pe_callB call_len_str (by rfl) W.n_len (by decide +kernel) (pa_cons (pv 1) pa_nil))) (fun _ _ => rfl)) pa_nil)))
  (pss_cons (ps_expr (pe_mcal c_Book_put_first W.cl_Book.cls (hr.mono (by decide)) passL (pv 4) (pa_cons (pe_strT (l := [98]) (by decide +kernel)) pa_nil)))
  (pss_one (ps_ret (pe_and (pe_cal c__law_right (hr.mono (by decide)) (by rfl) pass0 (pa_cons (pv 3) (pa_cons (pe_op op_add_str (pe_slice sl_str (pv 1) (po_some pe_int) po_none) (pe_ix ix_str (pv 1) (pe_op op_mod (pv 2) (pe_callB call_len_str (by rfl) W.n_len (by decide +kernel) (pa_cons (pv 1) pa_nil))) (fun _ _ => rfl))) pa_nil))) (pe_one (pe_cal c__law_right (hr.mono (by decide)) (by rfl) pass0 (pa_cons (pv 4) (pa_cons (pe_op op_add_str (pe_strT (l := [98]) (by decide +kernel)) (pe_slice sl_str (pv 1) (po_some (pv 5)) (po_some (pv 6)))) pa_nil)))))))))))))))))))))
end
def spL0 (K : PySem.W.Frag) : Sp := fun vs H Q _ => ∃ (a : Addr) (ns : List Int), vs = [.ref a] ∧ SqL K H a (ns.map V.int) ∧ ns.length ≤ 63 ∧ ∀ H', Q (.bl true) H'
theorem all_mk {l : PySem.W.OpenLaw} {w : World} {K : PySem.W.Frag} {h : Heap} {mg : Str → Option Value} {fa f0 f1 f2 f3 f4 f5 f6 f7 f8 f9 f10 f11 f12 f13 f14 f15 f16 f17 f18 f19 f20 f21 f22 f23 f24 f25 f26 f27 f28 f29 f30 f31 f32 f33 f34 f35 f36 f37 f38 f39 f40 f41 f42 e_cME e_cBT e_cBL e_cBW e_cBA e_cNT e_cNP e_cFu e_cBook e_cGroups : Addr} {od0 an0 od1 an1 od2 an2 od3 an3 od4 an4 od5 an5 od6 an6 od7 an7 od8 an8 od9 an9 od10 an10 od11 an11 od12 an12 od13 an13 od14 an14 od15 an15 od16 an16 od17 an17 od18 an18 od19 an19 od20 an20 od21 an21 od22 an22 od23 an23 od24 an24 od25 an25 od26 an26 od27 an27 od28 an28 od29 an29 od30 an30 od31 an31 od32 an32 od33 an33 od34 an34 od35 an35 od36 an36 od37 an37 od38 an38 od39 an39 od40 an40 od41 an41 od42 an42 : Option Addr} {sl0 sl1 sl2 sl3 sl4 sl5 sl6 sl7 sl8 sl9 sl10 sl11 sl12 sl13 sl14 sl15 sl16 sl17 sl18 sl19 sl20 sl21 sl22 sl23 sl24 sl25 sl26 sl27 sl28 sl29 sl30 sl31 sl32 sl33 sl34 sl35 sl36 sl37 sl38 sl39 sl40 sl41 sl42 : Array (Option Value)} {oc0 kV0 dc0 pm0 cd0 ct0 oc1 kV1 dc1 pm1 cd1 ct1 oc2 kV2 dc2 pm2 cd2 ct2 oc3 kV3 dc3 pm3 cd3 ct3 oc4 kV4 dc4 pm4 cd4 ct4 oc5 kV5 dc5 pm5 cd5 ct5 oc6 kV6 dc6 pm6 cd6 ct6 oc7 kV7 dc7 pm7 cd7 ct7 oc8 kV8 dc8 pm8 cd8 ct8 oc9 kV9 dc9 pm9 cd9 ct9 oc10 kV10 dc10 pm10 cd10 ct10 oc11 kV11 dc11 pm11 cd11 ct11 oc12 kV12 dc12 pm12 cd12 ct12 oc13 kV13 dc13 pm13 cd13 ct13 oc14 kV14 dc14 pm14 cd14 ct14 oc15 kV15 dc15 pm15 cd15 ct15 oc16 kV16 dc16 pm16 cd16 ct16 oc17 kV17 dc17 pm17 cd17 ct17 oc18 kV18 dc18 pm18 cd18 ct18 oc19 kV19 dc19 pm19 cd19 ct19 oc20 kV20 dc20 pm20 cd20 ct20 oc21 kV21 dc21 pm21 cd21 ct21 oc22 kV22 dc22 pm22 cd22 ct22 oc23 kV23 dc23 pm23 cd23 ct23 oc24 kV24 dc24 pm24 cd24 ct24 oc25 kV25 dc25 pm25 cd25 ct25 oc26 kV26 dc26 pm26 cd26 ct26 oc27 kV27 dc27 pm27 cd27 ct27 oc28 kV28 dc28 pm28 cd28 ct28 oc29 kV29 dc29 pm29 cd29 ct29 oc30 kV30 dc30 pm30 cd30 ct30 oc31 kV31 dc31 pm31 cd31 ct31 oc32 kV32 dc32 pm32 cd32 ct32 oc33 kV33 dc33 pm33 cd33 ct33 oc34 kV34 dc34 pm34 cd34 ct34 oc35 kV35 dc35 pm35 cd35 ct35 oc36 kV36 dc36 pm36 cd36 ct36 oc37 kV37 dc37 pm37 cd37 ct37 oc38 kV38 dc38 pm38 cd38 ct38 oc39 kV39 dc39 pm39 cd39 ct39 oc40 kV40 dc40 pm40 cd40 ct40 oc41 kV41 dc41 pm41 cd41 ct41 oc42 kV42 dc42 pm42 cd42 ct42 : Value} {t_LETTERS t_MOST : Tok} {dT6 : Addr} {tc6 : Value} {td6 : Option Addr} {tn6 : Nat} {ts6 : Array (Option Value)} {tt6 : Tok} (X : K.In h) (G : h.Ns mainGlobals mg) (hfa : mg "law" = some (.ref fa))
    (g_MirrorError : PySem.W.nsIn K mainGlobals "MirrorError" = some (some (.ref e_cME)))
    (g_BadText : PySem.W.nsIn K mainGlobals "BadText" = some (some (.ref e_cBT)))
    (g_BadLetter : PySem.W.nsIn K mainGlobals "BadLetter" = some (some (.ref e_cBL)))
    (g_BadWord : PySem.W.nsIn K mainGlobals "BadWord" = some (some (.ref e_cBW)))
    (g_BadArms : PySem.W.nsIn K mainGlobals "BadArms" = some (some (.ref e_cBA)))
    (g_NoText : PySem.W.nsIn K mainGlobals "NoText" = some (some (.ref e_cNT)))
    (g_NoPlace : PySem.W.nsIn K mainGlobals "NoPlace" = some (some (.ref e_cNP)))
    (g_Full : PySem.W.nsIn K mainGlobals "Full" = some (some (.ref e_cFu)))
    (g_Book : PySem.W.nsIn K mainGlobals "Book" = some (some (.ref e_cBook)))
    (g_Groups : PySem.W.nsIn K mainGlobals "Groups" = some (some (.ref e_cGroups)))
    (a0 : PySem.W.nsIn K mainGlobals "is_whole" = some (some (.ref f0)))
    (l0 : K.lookup f0 = some ⟨oc0, od0, .func (PySem.W.fnOf "is_whole" "is_whole" (defArgs s_is_whole) (defBody s_is_whole) (defScope s_is_whole) .none kV0 dc0 pm0 an0 cd0 ct0), sl0⟩)
    (c0 : PySem.W.codeIn K cd0 "is_whole" = true)
    (k0 : PySem.W.keepIn K (.ref f0) = true)
    (a1 : PySem.W.nsIn K mainGlobals "is_letter" = some (some (.ref f1)))
    (l1 : K.lookup f1 = some ⟨oc1, od1, .func (PySem.W.fnOf "is_letter" "is_letter" (defArgs s_is_letter) (defBody s_is_letter) (defScope s_is_letter) .none kV1 dc1 pm1 an1 cd1 ct1), sl1⟩)
    (c1 : PySem.W.codeIn K cd1 "is_letter" = true)
    (k1 : PySem.W.keepIn K (.ref f1) = true)
    (a2 : PySem.W.nsIn K mainGlobals "is_text" = some (some (.ref f2)))
    (l2 : K.lookup f2 = some ⟨oc2, od2, .func (PySem.W.fnOf "is_text" "is_text" (defArgs s_is_text) (defBody s_is_text) (defScope s_is_text) .none kV2 dc2 pm2 an2 cd2 ct2), sl2⟩)
    (c2 : PySem.W.codeIn K cd2 "is_text" = true)
    (k2 : PySem.W.keepIn K (.ref f2) = true)
    (a3 : PySem.W.nsIn K mainGlobals "need_text" = some (some (.ref f3)))
    (l3 : K.lookup f3 = some ⟨oc3, od3, .func (PySem.W.fnOf "need_text" "need_text" (defArgs s_need_text) (defBody s_need_text) (defScope s_need_text) .none kV3 dc3 pm3 an3 cd3 ct3), sl3⟩)
    (c3 : PySem.W.codeIn K cd3 "need_text" = true)
    (k3 : PySem.W.keepIn K (.ref f3) = true)
    (a4 : PySem.W.nsIn K mainGlobals "is_mirror" = some (some (.ref f4)))
    (l4 : K.lookup f4 = some ⟨oc4, od4, .func (PySem.W.fnOf "is_mirror" "is_mirror" (defArgs s_is_mirror) (defBody s_is_mirror) (defScope s_is_mirror) .none kV4 dc4 pm4 an4 cd4 ct4), sl4⟩)
    (c4 : PySem.W.codeIn K cd4 "is_mirror" = true)
    (k4 : PySem.W.keepIn K (.ref f4) = true)
    (a5 : PySem.W.nsIn K mainGlobals "need_mirror" = some (some (.ref f5)))
    (l5 : K.lookup f5 = some ⟨oc5, od5, .func (PySem.W.fnOf "need_mirror" "need_mirror" (defArgs s_need_mirror) (defBody s_need_mirror) (defScope s_need_mirror) .none kV5 dc5 pm5 an5 cd5 ct5), sl5⟩)
    (c5 : PySem.W.codeIn K cd5 "need_mirror" = true)
    (k5 : PySem.W.keepIn K (.ref f5) = true)
    (a6 : PySem.W.findIn K (.ref e_cBook) "__init__" = some (some (.ref f6)))
    (i6 : PySem.W.isFn K (.ref f6) = true)
    (l6 : K.lookup f6 = some ⟨oc6, od6, .func (PySem.W.fnOf "__init__" "Book.__init__" (defArgs s_Book_init) (defBody s_Book_init) (defScope s_Book_init) (.ref dT6) kV6 dc6 pm6 an6 cd6 ct6), sl6⟩)
    (lt6 : K.lookup dT6 = some ⟨tc6, td6, .seq #[.str (PySem.Str.ofString "") tt6] tn6, ts6⟩)
    (c6 : PySem.W.codeIn K cd6 "Book.__init__" = true)
    (k6 : PySem.W.keepIn K (.ref f6) = true)
    (a7 : PySem.W.findIn K (.ref e_cBook) "whole" = some (some (.ref f7)))
    (i7 : PySem.W.isFn K (.ref f7) = true)
    (l7 : K.lookup f7 = some ⟨oc7, od7, .func (PySem.W.fnOf "whole" "Book.whole" (defArgs s_Book_whole) (defBody s_Book_whole) (defScope s_Book_whole) .none kV7 dc7 pm7 an7 cd7 ct7), sl7⟩)
    (c7 : PySem.W.codeIn K cd7 "Book.whole" = true)
    (k7 : PySem.W.keepIn K (.ref f7) = true)
    (a8 : PySem.W.findIn K (.ref e_cBook) "words" = some (some (.ref f8)))
    (i8 : PySem.W.isFn K (.ref f8) = true)
    (l8 : K.lookup f8 = some ⟨oc8, od8, .func (PySem.W.fnOf "words" "Book.words" (defArgs s_Book_words) (defBody s_Book_words) (defScope s_Book_words) .none kV8 dc8 pm8 an8 cd8 ct8), sl8⟩)
    (c8 : PySem.W.codeIn K cd8 "Book.words" = true)
    (k8 : PySem.W.keepIn K (.ref f8) = true)
    (a9 : PySem.W.findIn K (.ref e_cBook) "many" = some (some (.ref f9)))
    (i9 : PySem.W.isFn K (.ref f9) = true)
    (l9 : K.lookup f9 = some ⟨oc9, od9, .func (PySem.W.fnOf "many" "Book.many" (defArgs s_Book_many) (defBody s_Book_many) (defScope s_Book_many) .none kV9 dc9 pm9 an9 cd9 ct9), sl9⟩)
    (c9 : PySem.W.codeIn K cd9 "Book.many" = true)
    (k9 : PySem.W.keepIn K (.ref f9) = true)
    (a10 : PySem.W.findIn K (.ref e_cBook) "count" = some (some (.ref f10)))
    (i10 : PySem.W.isFn K (.ref f10) = true)
    (l10 : K.lookup f10 = some ⟨oc10, od10, .func (PySem.W.fnOf "count" "Book.count" (defArgs s_Book_count) (defBody s_Book_count) (defScope s_Book_count) .none kV10 dc10 pm10 an10 cd10 ct10), sl10⟩)
    (c10 : PySem.W.codeIn K cd10 "Book.count" = true)
    (k10 : PySem.W.keepIn K (.ref f10) = true)
    (a11 : PySem.W.findIn K (.ref e_cBook) "need_place" = some (some (.ref f11)))
    (i11 : PySem.W.isFn K (.ref f11) = true)
    (l11 : K.lookup f11 = some ⟨oc11, od11, .func (PySem.W.fnOf "need_place" "Book.need_place" (defArgs s_Book_need_place) (defBody s_Book_need_place) (defScope s_Book_need_place) .none kV11 dc11 pm11 an11 cd11 ct11), sl11⟩)
    (c11 : PySem.W.codeIn K cd11 "Book.need_place" = true)
    (k11 : PySem.W.keepIn K (.ref f11) = true)
    (a12 : PySem.W.findIn K (.ref e_cBook) "begins_at" = some (some (.ref f12)))
    (i12 : PySem.W.isFn K (.ref f12) = true)
    (l12 : K.lookup f12 = some ⟨oc12, od12, .func (PySem.W.fnOf "begins_at" "Book.begins_at" (defArgs s_Book_begins_at) (defBody s_Book_begins_at) (defScope s_Book_begins_at) .none kV12 dc12 pm12 an12 cd12 ct12), sl12⟩)
    (c12 : PySem.W.codeIn K cd12 "Book.begins_at" = true)
    (k12 : PySem.W.keepIn K (.ref f12) = true)
    (a13 : PySem.W.findIn K (.ref e_cBook) "ends_at" = some (some (.ref f13)))
    (i13 : PySem.W.isFn K (.ref f13) = true)
    (l13 : K.lookup f13 = some ⟨oc13, od13, .func (PySem.W.fnOf "ends_at" "Book.ends_at" (defArgs s_Book_ends_at) (defBody s_Book_ends_at) (defScope s_Book_ends_at) .none kV13 dc13 pm13 an13 cd13 ct13), sl13⟩)
    (c13 : PySem.W.codeIn K cd13 "Book.ends_at" = true)
    (k13 : PySem.W.keepIn K (.ref f13) = true)
    (a14 : PySem.W.findIn K (.ref e_cBook) "longest" = some (some (.ref f14)))
    (i14 : PySem.W.isFn K (.ref f14) = true)
    (l14 : K.lookup f14 = some ⟨oc14, od14, .func (PySem.W.fnOf "longest" "Book.longest" (defArgs s_Book_longest) (defBody s_Book_longest) (defScope s_Book_longest) .none kV14 dc14 pm14 an14 cd14 ct14), sl14⟩)
    (c14 : PySem.W.codeIn K cd14 "Book.longest" = true)
    (k14 : PySem.W.keepIn K (.ref f14) = true)
    (a15 : PySem.W.findIn K (.ref e_cBook) "need_room" = some (some (.ref f15)))
    (i15 : PySem.W.isFn K (.ref f15) = true)
    (l15 : K.lookup f15 = some ⟨oc15, od15, .func (PySem.W.fnOf "need_room" "Book.need_room" (defArgs s_Book_need_room) (defBody s_Book_need_room) (defScope s_Book_need_room) .none kV15 dc15 pm15 an15 cd15 ct15), sl15⟩)
    (c15 : PySem.W.codeIn K cd15 "Book.need_room" = true)
    (k15 : PySem.W.keepIn K (.ref f15) = true)
    (a16 : PySem.W.findIn K (.ref e_cBook) "grown" = some (some (.ref f16)))
    (i16 : PySem.W.isFn K (.ref f16) = true)
    (l16 : K.lookup f16 = some ⟨oc16, od16, .func (PySem.W.fnOf "grown" "Book.grown" (defArgs s_Book_grown) (defBody s_Book_grown) (defScope s_Book_grown) .none kV16 dc16 pm16 an16 cd16 ct16), sl16⟩)
    (c16 : PySem.W.codeIn K cd16 "Book.grown" = true)
    (k16 : PySem.W.keepIn K (.ref f16) = true)
    (a17 : PySem.W.findIn K (.ref e_cBook) "met" = some (some (.ref f17)))
    (i17 : PySem.W.isFn K (.ref f17) = true)
    (l17 : K.lookup f17 = some ⟨oc17, od17, .func (PySem.W.fnOf "met" "Book.met" (defArgs s_Book_met) (defBody s_Book_met) (defScope s_Book_met) .none kV17 dc17 pm17 an17 cd17 ct17), sl17⟩)
    (c17 : PySem.W.codeIn K cd17 "Book.met" = true)
    (k17 : PySem.W.keepIn K (.ref f17) = true)
    (a18 : PySem.W.findIn K (.ref e_cBook) "lost" = some (some (.ref f18)))
    (i18 : PySem.W.isFn K (.ref f18) = true)
    (l18 : K.lookup f18 = some ⟨oc18, od18, .func (PySem.W.fnOf "lost" "Book.lost" (defArgs s_Book_lost) (defBody s_Book_lost) (defScope s_Book_lost) .none kV18 dc18 pm18 an18 cd18 ct18), sl18⟩)
    (c18 : PySem.W.codeIn K cd18 "Book.lost" = true)
    (k18 : PySem.W.keepIn K (.ref f18) = true)
    (a19 : PySem.W.findIn K (.ref e_cBook) "put_last" = some (some (.ref f19)))
    (i19 : PySem.W.isFn K (.ref f19) = true)
    (l19 : K.lookup f19 = some ⟨oc19, od19, .func (PySem.W.fnOf "put_last" "Book.put_last" (defArgs s_Book_put_last) (defBody s_Book_put_last) (defScope s_Book_put_last) .none kV19 dc19 pm19 an19 cd19 ct19), sl19⟩)
    (c19 : PySem.W.codeIn K cd19 "Book.put_last" = true)
    (k19 : PySem.W.keepIn K (.ref f19) = true)
    (a20 : PySem.W.findIn K (.ref e_cBook) "put_first" = some (some (.ref f20)))
    (i20 : PySem.W.isFn K (.ref f20) = true)
    (l20 : K.lookup f20 = some ⟨oc20, od20, .func (PySem.W.fnOf "put_first" "Book.put_first" (defArgs s_Book_put_first) (defBody s_Book_put_first) (defScope s_Book_put_first) .none kV20 dc20 pm20 an20 cd20 ct20), sl20⟩)
    (c20 : PySem.W.codeIn K cd20 "Book.put_first" = true)
    (k20 : PySem.W.keepIn K (.ref f20) = true)
    (a21 : PySem.W.findIn K (.ref e_cBook) "cut_last" = some (some (.ref f21)))
    (i21 : PySem.W.isFn K (.ref f21) = true)
    (l21 : K.lookup f21 = some ⟨oc21, od21, .func (PySem.W.fnOf "cut_last" "Book.cut_last" (defArgs s_Book_cut_last) (defBody s_Book_cut_last) (defScope s_Book_cut_last) .none kV21 dc21 pm21 an21 cd21 ct21), sl21⟩)
    (c21 : PySem.W.codeIn K cd21 "Book.cut_last" = true)
    (k21 : PySem.W.keepIn K (.ref f21) = true)
    (a22 : PySem.W.findIn K (.ref e_cBook) "cut_first" = some (some (.ref f22)))
    (i22 : PySem.W.isFn K (.ref f22) = true)
    (l22 : K.lookup f22 = some ⟨oc22, od22, .func (PySem.W.fnOf "cut_first" "Book.cut_first" (defArgs s_Book_cut_first) (defBody s_Book_cut_first) (defScope s_Book_cut_first) .none kV22 dc22 pm22 an22 cd22 ct22), sl22⟩)
    (c22 : PySem.W.codeIn K cd22 "Book.cut_first" = true)
    (k22 : PySem.W.keepIn K (.ref f22) = true)
    (a23 : PySem.W.nsIn K mainGlobals "arm_at" = some (some (.ref f23)))
    (l23 : K.lookup f23 = some ⟨oc23, od23, .func (PySem.W.fnOf "arm_at" "arm_at" (defArgs s_arm_at) (defBody s_arm_at) (defScope s_arm_at) .none kV23 dc23 pm23 an23 cd23 ct23), sl23⟩)
    (c23 : PySem.W.codeIn K cd23 "arm_at" = true)
    (k23 : PySem.W.keepIn K (.ref f23) = true)
    (a24 : PySem.W.nsIn K mainGlobals "arms_of" = some (some (.ref f24)))
    (l24 : K.lookup f24 = some ⟨oc24, od24, .func (PySem.W.fnOf "arms_of" "arms_of" (defArgs s_arms_of) (defBody s_arms_of) (defScope s_arms_of) .none kV24 dc24 pm24 an24 cd24 ct24), sl24⟩)
    (c24 : PySem.W.codeIn K cd24 "arms_of" = true)
    (k24 : PySem.W.keepIn K (.ref f24) = true)
    (a25 : PySem.W.nsIn K mainGlobals "arms" = some (some (.ref f25)))
    (l25 : K.lookup f25 = some ⟨oc25, od25, .func (PySem.W.fnOf "arms" "arms" (defArgs s_arms) (defBody s_arms) (defScope s_arms) .none kV25 dc25 pm25 an25 cd25 ct25), sl25⟩)
    (c25 : PySem.W.codeIn K cd25 "arms" = true)
    (k25 : PySem.W.keepIn K (.ref f25) = true)
    (a26 : PySem.W.nsIn K mainGlobals "reaches" = some (some (.ref f26)))
    (l26 : K.lookup f26 = some ⟨oc26, od26, .func (PySem.W.fnOf "reaches" "reaches" (defArgs s_reaches) (defBody s_reaches) (defScope s_reaches) .none kV26 dc26 pm26 an26 cd26 ct26), sl26⟩)
    (c26 : PySem.W.codeIn K cd26 "reaches" = true)
    (k26 : PySem.W.keepIn K (.ref f26) = true)
    (a27 : PySem.W.nsIn K mainGlobals "fewest" = some (some (.ref f27)))
    (l27 : K.lookup f27 = some ⟨oc27, od27, .func (PySem.W.fnOf "fewest" "fewest" (defArgs s_fewest) (defBody s_fewest) (defScope s_fewest) .none kV27 dc27 pm27 an27 cd27 ct27), sl27⟩)
    (c27 : PySem.W.codeIn K cd27 "fewest" = true)
    (k27 : PySem.W.keepIn K (.ref f27) = true)
    (a28 : PySem.W.nsIn K mainGlobals "most_arm" = some (some (.ref f28)))
    (l28 : K.lookup f28 = some ⟨oc28, od28, .func (PySem.W.fnOf "most_arm" "most_arm" (defArgs s_most_arm) (defBody s_most_arm) (defScope s_most_arm) .none kV28 dc28 pm28 an28 cd28 ct28), sl28⟩)
    (c28 : PySem.W.codeIn K cd28 "most_arm" = true)
    (k28 : PySem.W.keepIn K (.ref f28) = true)
    (a29 : PySem.W.nsIn K mainGlobals "is_arms" = some (some (.ref f29)))
    (l29 : K.lookup f29 = some ⟨oc29, od29, .func (PySem.W.fnOf "is_arms" "is_arms" (defArgs s_is_arms) (defBody s_is_arms) (defScope s_is_arms) .none kV29 dc29 pm29 an29 cd29 ct29), sl29⟩)
    (c29 : PySem.W.codeIn K cd29 "is_arms" = true)
    (k29 : PySem.W.keepIn K (.ref f29) = true)
    (a30 : PySem.W.findIn K (.ref e_cGroups) "__init__" = some (some (.ref f30)))
    (i30 : PySem.W.isFn K (.ref f30) = true)
    (l30 : K.lookup f30 = some ⟨oc30, od30, .func (PySem.W.fnOf "__init__" "Groups.__init__" (defArgs s_Groups_init) (defBody s_Groups_init) (defScope s_Groups_init) .none kV30 dc30 pm30 an30 cd30 ct30), sl30⟩)
    (c30 : PySem.W.codeIn K cd30 "Groups.__init__" = true)
    (k30 : PySem.W.keepIn K (.ref f30) = true)
    (a31 : PySem.W.findIn K (.ref e_cGroups) "root" = some (some (.ref f31)))
    (i31 : PySem.W.isFn K (.ref f31) = true)
    (l31 : K.lookup f31 = some ⟨oc31, od31, .func (PySem.W.fnOf "root" "Groups.root" (defArgs s_Groups_root) (defBody s_Groups_root) (defScope s_Groups_root) .none kV31 dc31 pm31 an31 cd31 ct31), sl31⟩)
    (c31 : PySem.W.codeIn K cd31 "Groups.root" = true)
    (k31 : PySem.W.keepIn K (.ref f31) = true)
    (a32 : PySem.W.findIn K (.ref e_cGroups) "tie" = some (some (.ref f32)))
    (i32 : PySem.W.isFn K (.ref f32) = true)
    (l32 : K.lookup f32 = some ⟨oc32, od32, .func (PySem.W.fnOf "tie" "Groups.tie" (defArgs s_Groups_tie) (defBody s_Groups_tie) (defScope s_Groups_tie) .none kV32 dc32 pm32 an32 cd32 ct32), sl32⟩)
    (c32 : PySem.W.codeIn K cd32 "Groups.tie" = true)
    (k32 : PySem.W.keepIn K (.ref f32) = true)
    (a33 : PySem.W.nsIn K mainGlobals "tied" = some (some (.ref f33)))
    (l33 : K.lookup f33 = some ⟨oc33, od33, .func (PySem.W.fnOf "tied" "tied" (defArgs s_tied) (defBody s_tied) (defScope s_tied) .none kV33 dc33 pm33 an33 cd33 ct33), sl33⟩)
    (c33 : PySem.W.codeIn K cd33 "tied" = true)
    (k33 : PySem.W.keepIn K (.ref f33) = true)
    (a34 : PySem.W.nsIn K mainGlobals "foes_of" = some (some (.ref f34)))
    (l34 : K.lookup f34 = some ⟨oc34, od34, .func (PySem.W.fnOf "foes_of" "foes_of" (defArgs s_foes_of) (defBody s_foes_of) (defScope s_foes_of) .none kV34 dc34 pm34 an34 cd34 ct34), sl34⟩)
    (c34 : PySem.W.codeIn K cd34 "foes_of" = true)
    (k34 : PySem.W.keepIn K (.ref f34) = true)
    (a35 : PySem.W.nsIn K mainGlobals "least_text" = some (some (.ref f35)))
    (l35 : K.lookup f35 = some ⟨oc35, od35, .func (PySem.W.fnOf "least_text" "least_text" (defArgs s_least_text) (defBody s_least_text) (defScope s_least_text) .none kV35 dc35 pm35 an35 cd35 ct35), sl35⟩)
    (c35 : PySem.W.codeIn K cd35 "least_text" = true)
    (k35 : PySem.W.keepIn K (.ref f35) = true)
    (a36 : PySem.W.nsIn K mainGlobals "_law_draw" = some (some (.ref f36)))
    (l36 : K.lookup f36 = some ⟨oc36, od36, .func (PySem.W.fnOf "_law_draw" "_law_draw" (defArgs s__law_draw) (defBody s__law_draw) (defScope s__law_draw) .none kV36 dc36 pm36 an36 cd36 ct36), sl36⟩)
    (c36 : PySem.W.codeIn K cd36 "_law_draw" = true)
    (k36 : PySem.W.keepIn K (.ref f36) = true)
    (a37 : PySem.W.nsIn K mainGlobals "_law_text" = some (some (.ref f37)))
    (l37 : K.lookup f37 = some ⟨oc37, od37, .func (PySem.W.fnOf "_law_text" "_law_text" (defArgs s__law_text) (defBody s__law_text) (defScope s__law_text) .none kV37 dc37 pm37 an37 cd37 ct37), sl37⟩)
    (c37 : PySem.W.codeIn K cd37 "_law_text" = true)
    (k37 : PySem.W.keepIn K (.ref f37) = true)
    (a38 : PySem.W.nsIn K mainGlobals "_law_grown" = some (some (.ref f38)))
    (l38 : K.lookup f38 = some ⟨oc38, od38, .func (PySem.W.fnOf "_law_grown" "_law_grown" (defArgs s__law_grown) (defBody s__law_grown) (defScope s__law_grown) .none kV38 dc38 pm38 an38 cd38 ct38), sl38⟩)
    (c38 : PySem.W.codeIn K cd38 "_law_grown" = true)
    (k38 : PySem.W.keepIn K (.ref f38) = true)
    (a39 : PySem.W.nsIn K mainGlobals "_law_lengths" = some (some (.ref f39)))
    (l39 : K.lookup f39 = some ⟨oc39, od39, .func (PySem.W.fnOf "_law_lengths" "_law_lengths" (defArgs s__law_lengths) (defBody s__law_lengths) (defScope s__law_lengths) .none kV39 dc39 pm39 an39 cd39 ct39), sl39⟩)
    (c39 : PySem.W.codeIn K cd39 "_law_lengths" = true)
    (k39 : PySem.W.keepIn K (.ref f39) = true)
    (a40 : PySem.W.nsIn K mainGlobals "_law_told" = some (some (.ref f40)))
    (l40 : K.lookup f40 = some ⟨oc40, od40, .func (PySem.W.fnOf "_law_told" "_law_told" (defArgs s__law_told) (defBody s__law_told) (defScope s__law_told) .none kV40 dc40 pm40 an40 cd40 ct40), sl40⟩)
    (c40 : PySem.W.codeIn K cd40 "_law_told" = true)
    (k40 : PySem.W.keepIn K (.ref f40) = true)
    (a41 : PySem.W.nsIn K mainGlobals "_law_right" = some (some (.ref f41)))
    (l41 : K.lookup f41 = some ⟨oc41, od41, .func (PySem.W.fnOf "_law_right" "_law_right" (defArgs s__law_right) (defBody s__law_right) (defScope s__law_right) .none kV41 dc41 pm41 an41 cd41 ct41), sl41⟩)
    (c41 : PySem.W.codeIn K cd41 "_law_right" = true)
    (k41 : PySem.W.keepIn K (.ref f41) = true)
    (a42 : PySem.W.nsIn K mainGlobals "law" = some (some (.ref f42)))
    (l42 : K.lookup f42 = some ⟨oc42, od42, .func (PySem.W.fnOf "law" "law" (defArgs s_law) (defBody s_law) (defScope s_law) .none kV42 dc42 pm42 an42 cd42 ct42), sl42⟩)
    (c42 : PySem.W.codeIn K cd42 "law" = true)
    (k42 : PySem.W.keepIn K (.ref f42) = true)
    (n_all : PySem.W.nsIn K mainGlobals "all" = some none)
    (n_bool : PySem.W.nsIn K mainGlobals "bool" = some none)
    (n_enumerate : PySem.W.nsIn K mainGlobals "enumerate" = some none)
    (n_int : PySem.W.nsIn K mainGlobals "int" = some none)
    (n_isinstance : PySem.W.nsIn K mainGlobals "isinstance" = some none)
    (n_len : PySem.W.nsIn K mainGlobals "len" = some none)
    (n_list : PySem.W.nsIn K mainGlobals "list" = some none)
    (n_max : PySem.W.nsIn K mainGlobals "max" = some none)
    (n_min : PySem.W.nsIn K mainGlobals "min" = some none)
    (n_range : PySem.W.nsIn K mainGlobals "range" = some none)
    (n_reversed : PySem.W.nsIn K mainGlobals "reversed" = some none)
    (n_sorted : PySem.W.nsIn K mainGlobals "sorted" = some none)
    (n_str : PySem.W.nsIn K mainGlobals "str" = some none)
    (g_LETTERS : PySem.W.nsIn K mainGlobals "LETTERS" = some (some (.str (PySem.Str.ofString "abcdefghijklmnopqrstuvwxyz") t_LETTERS)))
    (g_MOST : PySem.W.nsIn K mainGlobals "MOST" = some (some (.int 200 t_MOST)))
    (xx_BadArms : PySem.W.excIn K e_cBA [.type "ValueError", .type "Exception", .type "BaseException", .type "object"] "ValueError.__new__" = true)
    (xk_BadArms : PySem.W.keepIn K (.ref e_cBA) = true)
    (xs_BadArms : PySem.W.subIn K (.ref e_cBA) (.type "BaseException") = some true)
    (xt_BadArms : PySem.W.typeIn K (.ref e_cBA) = some (.type "type"))
    (xx_BadLetter : PySem.W.excIn K e_cBL [.type "ValueError", .type "Exception", .type "BaseException", .type "object"] "ValueError.__new__" = true)
    (xk_BadLetter : PySem.W.keepIn K (.ref e_cBL) = true)
    (xs_BadLetter : PySem.W.subIn K (.ref e_cBL) (.type "BaseException") = some true)
    (xt_BadLetter : PySem.W.typeIn K (.ref e_cBL) = some (.type "type"))
    (xx_BadText : PySem.W.excIn K e_cBT [.type "ValueError", .type "Exception", .type "BaseException", .type "object"] "ValueError.__new__" = true)
    (xk_BadText : PySem.W.keepIn K (.ref e_cBT) = true)
    (xs_BadText : PySem.W.subIn K (.ref e_cBT) (.type "BaseException") = some true)
    (xt_BadText : PySem.W.typeIn K (.ref e_cBT) = some (.type "type"))
    (xx_BadWord : PySem.W.excIn K e_cBW [.type "ValueError", .type "Exception", .type "BaseException", .type "object"] "ValueError.__new__" = true)
    (xk_BadWord : PySem.W.keepIn K (.ref e_cBW) = true)
    (xs_BadWord : PySem.W.subIn K (.ref e_cBW) (.type "BaseException") = some true)
    (xt_BadWord : PySem.W.typeIn K (.ref e_cBW) = some (.type "type"))
    (xx_Full : PySem.W.excIn K e_cFu [.type "ValueError", .type "Exception", .type "BaseException", .type "object"] "ValueError.__new__" = true)
    (xk_Full : PySem.W.keepIn K (.ref e_cFu) = true)
    (xs_Full : PySem.W.subIn K (.ref e_cFu) (.type "BaseException") = some true)
    (xt_Full : PySem.W.typeIn K (.ref e_cFu) = some (.type "type"))
    (xx_NoPlace : PySem.W.excIn K e_cNP [.type "ValueError", .type "Exception", .type "BaseException", .type "object"] "ValueError.__new__" = true)
    (xk_NoPlace : PySem.W.keepIn K (.ref e_cNP) = true)
    (xs_NoPlace : PySem.W.subIn K (.ref e_cNP) (.type "BaseException") = some true)
    (xt_NoPlace : PySem.W.typeIn K (.ref e_cNP) = some (.type "type"))
    (xx_NoText : PySem.W.excIn K e_cNT [.type "ValueError", .type "Exception", .type "BaseException", .type "object"] "ValueError.__new__" = true)
    (xk_NoText : PySem.W.keepIn K (.ref e_cNT) = true)
    (xs_NoText : PySem.W.subIn K (.ref e_cNT) (.type "BaseException") = some true)
    (xt_NoText : PySem.W.typeIn K (.ref e_cNT) = some (.type "type"))
    (pg_Book : PySem.W.plainGet K e_cBook Str.empty = true)
    (hd_Book : PySem.W.hasDictIn K e_cBook = true)
    (po_Book : PySem.W.plainOver K e_cBook = true)
    (sa_Book : PySem.W.findIn K (.ref e_cBook) "__setattr__" = some (some (.builtin "object.__setattr__")))
    (mk_Book : PySem.W.makesIn K e_cBook = true)
    (kc_Book : PySem.W.keepIn K (.ref e_cBook) = true)
    (na_Book_letters : PySem.W.findIn K (.ref e_cBook) "letters" = some none)
    (na_Book_heads : PySem.W.findIn K (.ref e_cBook) "heads" = some none)
    (na_Book_ends : PySem.W.findIn K (.ref e_cBook) "ends" = some none)
    (na_Book_told : PySem.W.findIn K (.ref e_cBook) "told" = some none)
    (na_Book_tails : PySem.W.findIn K (.ref e_cBook) "tails" = some none)
    (pg_Groups : PySem.W.plainGet K e_cGroups Str.empty = true)
    (hd_Groups : PySem.W.hasDictIn K e_cGroups = true)
    (po_Groups : PySem.W.plainOver K e_cGroups = true)
    (sa_Groups : PySem.W.findIn K (.ref e_cGroups) "__setattr__" = some (some (.builtin "object.__setattr__")))
    (mk_Groups : PySem.W.makesIn K e_cGroups = true)
    (kc_Groups : PySem.W.keepIn K (.ref e_cGroups) = true)
    (na_Groups_first : PySem.W.findIn K (.ref e_cGroups) "first" = some none)
    : ∃ fd : FuncData, (∀ (s : Shared) (v : Value), BindsTo s fd ⟨[v], []⟩ [("_law_script", v)]) ∧ ∀ base : Heap, K.In base → base.Ns mainGlobals mg → FnOk l.prog w K mg base CX0 8 fa fd ["_law_script"] (spL0 K) := by
  have e := hfa.symm.trans (PySem.W.mg_of X G a42)
  cases e
  have W : Wd (⟨K, e_cME, e_cBT, e_cBL, e_cBW, e_cBA, e_cNT, e_cNP, e_cFu, e_cBook, e_cGroups⟩ : Ad) mg := { n_all := PySem.W.mg_none_of X G n_all, n_bool := PySem.W.mg_none_of X G n_bool, n_enumerate := PySem.W.mg_none_of X G n_enumerate, n_int := PySem.W.mg_none_of X G n_int, n_isinstance := PySem.W.mg_none_of X G n_isinstance, n_len := PySem.W.mg_none_of X G n_len, n_list := PySem.W.mg_none_of X G n_list, n_max := PySem.W.mg_none_of X G n_max, n_min := PySem.W.mg_none_of X G n_min, n_range := PySem.W.mg_none_of X G n_range, n_reversed := PySem.W.mg_none_of X G n_reversed, n_sorted := PySem.W.mg_none_of X G n_sorted, n_str := PySem.W.mg_none_of X G n_str, g_LETTERS := ⟨t_LETTERS, (PySem.W.mg_of X G g_LETTERS).trans (by rw [show PySem.Str.ofString "abcdefghijklmnopqrstuvwxyz" = T letters by decide +kernel])⟩, g_MOST := ⟨t_MOST, PySem.W.mg_of X G g_MOST⟩, g_MirrorError := PySem.W.mg_of X G g_MirrorError, g_BadText := PySem.W.mg_of X G g_BadText, g_BadLetter := PySem.W.mg_of X G g_BadLetter, g_BadWord := PySem.W.mg_of X G g_BadWord, g_BadArms := PySem.W.mg_of X G g_BadArms, g_NoText := PySem.W.mg_of X G g_NoText, g_NoPlace := PySem.W.mg_of X G g_NoPlace, g_Full := PySem.W.mg_of X G g_Full, x_BadArms := ⟨PySem.W.mg_of X G g_BadArms, xx_BadArms, xk_BadArms, xs_BadArms, xt_BadArms⟩, x_BadLetter := ⟨PySem.W.mg_of X G g_BadLetter, xx_BadLetter, xk_BadLetter, xs_BadLetter, xt_BadLetter⟩, x_BadText := ⟨PySem.W.mg_of X G g_BadText, xx_BadText, xk_BadText, xs_BadText, xt_BadText⟩, x_BadWord := ⟨PySem.W.mg_of X G g_BadWord, xx_BadWord, xk_BadWord, xs_BadWord, xt_BadWord⟩, x_Full := ⟨PySem.W.mg_of X G g_Full, xx_Full, xk_Full, xs_Full, xt_Full⟩, x_NoPlace := ⟨PySem.W.mg_of X G g_NoPlace, xx_NoPlace, xk_NoPlace, xs_NoPlace, xt_NoPlace⟩, x_NoText := ⟨PySem.W.mg_of X G g_NoText, xx_NoText, xk_NoText, xs_NoText, xt_NoText⟩, cl_Book := ⟨⟨pg_Book, hd_Book, po_Book, sa_Book⟩, na_Book_letters, na_Book_heads, na_Book_ends, na_Book_told, na_Book_tails⟩, cl_Groups := ⟨⟨pg_Groups, hd_Groups, po_Groups, sa_Groups⟩, na_Groups_first⟩ }
  refine ⟨PySem.W.fnOf "law" "law" (defArgs s_law) (defBody s_law) (defScope s_law) .none kV42 dc42 pm42 an42 cd42 ct42, fun s v => .of_eq rfl, fun base _ _ => ?_⟩
  have F0 := fun_mk (st := s_is_whole) l0 c0 k0
  have O0 := ok_is_whole (P := l.prog) (w := w) (A := ⟨K, e_cME, e_cBT, e_cBL, e_cBW, e_cBA, e_cNT, e_cNP, e_cFu, e_cBook, e_cGroups⟩) (mg := mg) (base := base) F0 W 
  have b0 := F0.binds (ps := ["thing"]) fun _ _ _ _ _ _ us hl => match us, hl with | [_], _ => rfl
  have C0 : Cal l.prog w K mg base CX0 1 "is_whole" ["thing"] (sp_is_whole ⟨K, e_cME, e_cBT, e_cBL, e_cBW, e_cBA, e_cNT, e_cNP, e_cFu, e_cBook, e_cGroups⟩) := ⟨⟨f0, _, O0, PySem.W.mg_of X G a0, k0, b0⟩⟩
  have F1 := fun_mk (st := s_is_letter) l1 c1 k1
  have O1 := ok_is_letter (P := l.prog) (w := w) (A := ⟨K, e_cME, e_cBT, e_cBL, e_cBW, e_cBA, e_cNT, e_cNP, e_cFu, e_cBook, e_cGroups⟩) (mg := mg) (base := base) F1 W 
  have b1 := F1.binds (ps := ["thing"]) fun _ _ _ _ _ _ us hl => match us, hl with | [_], _ => rfl
  have C1 : Cal l.prog w K mg base CX0 1 "is_letter" ["thing"] (sp_is_letter ⟨K, e_cME, e_cBT, e_cBL, e_cBW, e_cBA, e_cNT, e_cNP, e_cFu, e_cBook, e_cGroups⟩) := ⟨⟨f1, _, O1, PySem.W.mg_of X G a1, k1, b1⟩⟩
  have F2 := fun_mk (st := s_is_text) l2 c2 k2
  have O2 := ok_is_text (P := l.prog) (w := w) (A := ⟨K, e_cME, e_cBT, e_cBL, e_cBW, e_cBA, e_cNT, e_cNP, e_cFu, e_cBook, e_cGroups⟩) (mg := mg) (base := base) F2 W 
  have b2 := F2.binds (ps := ["thing"]) fun _ _ _ _ _ _ us hl => match us, hl with | [_], _ => rfl
  have C2 : Cal l.prog w K mg base CX0 1 "is_text" ["thing"] (sp_is_text ⟨K, e_cME, e_cBT, e_cBL, e_cBW, e_cBA, e_cNT, e_cNP, e_cFu, e_cBook, e_cGroups⟩) := ⟨⟨f2, _, O2, PySem.W.mg_of X G a2, k2, b2⟩⟩
  have F7 := fun_mk (st := s_Book_whole) l7 c7 k7
  have O7 := ok_Book_whole (P := l.prog) (w := w) (A := ⟨K, e_cME, e_cBT, e_cBL, e_cBW, e_cBA, e_cNT, e_cNP, e_cFu, e_cBook, e_cGroups⟩) (mg := mg) (base := base) F7 W 
  have b7 := F7.binds (ps := ["self"]) fun _ _ _ _ _ _ us hl => match us, hl with | [_], _ => rfl
  have C7 : Mcal l.prog w K mg base CX0 1 e_cBook "whole" ["self"] (sp_Book_whole ⟨K, e_cME, e_cBT, e_cBL, e_cBW, e_cBA, e_cNT, e_cNP, e_cFu, e_cBook, e_cGroups⟩) := ⟨⟨f7, _, O7, ⟨a7, i7, k7⟩, b7⟩⟩
  have F8 := fun_mk (st := s_Book_words) l8 c8 k8
  have O8 := ok_Book_words (P := l.prog) (w := w) (A := ⟨K, e_cME, e_cBT, e_cBL, e_cBW, e_cBA, e_cNT, e_cNP, e_cFu, e_cBook, e_cGroups⟩) (mg := mg) (base := base) F8 W 
  have b8 := F8.binds (ps := ["self"]) fun _ _ _ _ _ _ us hl => match us, hl with | [_], _ => rfl
  have C8 : Mcal l.prog w K mg base CX0 1 e_cBook "words" ["self"] (sp_Book_words ⟨K, e_cME, e_cBT, e_cBL, e_cBW, e_cBA, e_cNT, e_cNP, e_cFu, e_cBook, e_cGroups⟩) := ⟨⟨f8, _, O8, ⟨a8, i8, k8⟩, b8⟩⟩
  have F9 := fun_mk (st := s_Book_many) l9 c9 k9
  have O9 := ok_Book_many (P := l.prog) (w := w) (A := ⟨K, e_cME, e_cBT, e_cBL, e_cBW, e_cBA, e_cNT, e_cNP, e_cFu, e_cBook, e_cGroups⟩) (mg := mg) (base := base) F9 W 
  have b9 := F9.binds (ps := ["self"]) fun _ _ _ _ _ _ us hl => match us, hl with | [_], _ => rfl
  have C9 : Mcal l.prog w K mg base CX0 1 e_cBook "many" ["self"] (sp_Book_many ⟨K, e_cME, e_cBT, e_cBL, e_cBW, e_cBA, e_cNT, e_cNP, e_cFu, e_cBook, e_cGroups⟩) := ⟨⟨f9, _, O9, ⟨a9, i9, k9⟩, b9⟩⟩
  have F16 := fun_mk (st := s_Book_grown) l16 c16 k16
  have O16 := ok_Book_grown (P := l.prog) (w := w) (A := ⟨K, e_cME, e_cBT, e_cBL, e_cBW, e_cBA, e_cNT, e_cNP, e_cFu, e_cBook, e_cGroups⟩) (mg := mg) (base := base) F16 W 
  have b16 := F16.binds (ps := ["self", "word", "letter", "behind"]) fun _ _ _ _ _ _ us hl => match us, hl with | [_, _, _, _], _ => rfl
  have C16 : Mcal l.prog w K mg base CX0 1 e_cBook "grown" ["self", "word", "letter", "behind"] (sp_Book_grown ⟨K, e_cME, e_cBT, e_cBL, e_cBW, e_cBA, e_cNT, e_cNP, e_cFu, e_cBook, e_cGroups⟩) := ⟨⟨f16, _, O16, ⟨a16, i16, k16⟩, b16⟩⟩
  have F18 := fun_mk (st := s_Book_lost) l18 c18 k18
  have O18 := ok_Book_lost (P := l.prog) (w := w) (A := ⟨K, e_cME, e_cBT, e_cBL, e_cBW, e_cBA, e_cNT, e_cNP, e_cFu, e_cBook, e_cGroups⟩) (mg := mg) (base := base) F18 W 
  have b18 := F18.binds (ps := ["self", "word"]) fun _ _ _ _ _ _ us hl => match us, hl with | [_, _], _ => rfl
  have C18 : Mcal l.prog w K mg base CX0 1 e_cBook "lost" ["self", "word"] (sp_Book_lost ⟨K, e_cME, e_cBT, e_cBL, e_cBW, e_cBA, e_cNT, e_cNP, e_cFu, e_cBook, e_cGroups⟩) := ⟨⟨f18, _, O18, ⟨a18, i18, k18⟩, b18⟩⟩
  have F23 := fun_mk (st := s_arm_at) l23 c23 k23
  have O23 := ok_arm_at (P := l.prog) (w := w) (A := ⟨K, e_cME, e_cBT, e_cBL, e_cBW, e_cBA, e_cNT, e_cNP, e_cFu, e_cBook, e_cGroups⟩) (mg := mg) (base := base) F23 W 
  have b23 := F23.binds (ps := ["text", "middle"]) fun _ _ _ _ _ _ us hl => match us, hl with | [_, _], _ => rfl
  have C23 : Cal l.prog w K mg base CX0 1 "arm_at" ["text", "middle"] (sp_arm_at ⟨K, e_cME, e_cBT, e_cBL, e_cBW, e_cBA, e_cNT, e_cNP, e_cFu, e_cBook, e_cGroups⟩) := ⟨⟨f23, _, O23, PySem.W.mg_of X G a23, k23, b23⟩⟩
  have F28 := fun_mk (st := s_most_arm) l28 c28 k28
  have O28 := ok_most_arm (P := l.prog) (w := w) (A := ⟨K, e_cME, e_cBT, e_cBL, e_cBW, e_cBA, e_cNT, e_cNP, e_cFu, e_cBook, e_cGroups⟩) (mg := mg) (base := base) F28 W 
  have b28 := F28.binds (ps := ["middle", "many"]) fun _ _ _ _ _ _ us hl => match us, hl with | [_, _], _ => rfl
  have C28 : Cal l.prog w K mg base CX0 1 "most_arm" ["middle", "many"] (sp_most_arm ⟨K, e_cME, e_cBT, e_cBL, e_cBW, e_cBA, e_cNT, e_cNP, e_cFu, e_cBook, e_cGroups⟩) := ⟨⟨f28, _, O28, PySem.W.mg_of X G a28, k28, b28⟩⟩
  have F30 := fun_mk (st := s_Groups_init) l30 c30 k30
  have O30 := ok_Groups_init (P := l.prog) (w := w) (A := ⟨K, e_cME, e_cBT, e_cBL, e_cBW, e_cBA, e_cNT, e_cNP, e_cFu, e_cBook, e_cGroups⟩) (mg := mg) (base := base) F30 W 
  have b30 := F30.binds (ps := ["self", "many"]) fun _ _ _ _ _ _ us hl => match us, hl with | [_, _], _ => rfl
  have C30 : Mkc l.prog w K mg base CX0 1 "Groups" ["self", "many"] e_cGroups (sp_Groups_init ⟨K, e_cME, e_cBT, e_cBL, e_cBW, e_cBA, e_cNT, e_cNP, e_cFu, e_cBook, e_cGroups⟩) := ⟨⟨f30, _, O30, PySem.W.mg_of X G g_Groups, ⟨mk_Groups, a30, i30, kc_Groups⟩, b30⟩⟩
  have F31 := fun_mk (st := s_Groups_root) l31 c31 k31
  have O31 := ok_Groups_root (P := l.prog) (w := w) (A := ⟨K, e_cME, e_cBT, e_cBL, e_cBW, e_cBA, e_cNT, e_cNP, e_cFu, e_cBook, e_cGroups⟩) (mg := mg) (base := base) F31 W 
  have b31 := F31.binds (ps := ["self", "place"]) fun _ _ _ _ _ _ us hl => match us, hl with | [_, _], _ => rfl
  have C31 : Mcal l.prog w K mg base CX0 1 e_cGroups "root" ["self", "place"] (sp_Groups_root ⟨K, e_cME, e_cBT, e_cBL, e_cBW, e_cBA, e_cNT, e_cNP, e_cFu, e_cBook, e_cGroups⟩) := ⟨⟨f31, _, O31, ⟨a31, i31, k31⟩, b31⟩⟩
  have F36 := fun_mk (st := s__law_draw) l36 c36 k36
  have O36 := ok__law_draw (P := l.prog) (w := w) (A := ⟨K, e_cME, e_cBT, e_cBL, e_cBW, e_cBA, e_cNT, e_cNP, e_cFu, e_cBook, e_cGroups⟩) (mg := mg) (base := base) F36 W 
  have b36 := F36.binds (ps := ["_law_script", "_law_k"]) fun _ _ _ _ _ _ us hl => match us, hl with | [_, _], _ => rfl
  have C36 : Cal l.prog w K mg base CX0 1 "_law_draw" ["_law_script", "_law_k"] (sp__law_draw ⟨K, e_cME, e_cBT, e_cBL, e_cBW, e_cBA, e_cNT, e_cNP, e_cFu, e_cBook, e_cGroups⟩) := ⟨⟨f36, _, O36, PySem.W.mg_of X G a36, k36, b36⟩⟩
  have F3 := fun_mk (st := s_need_text) l3 c3 k3
  have O3 := ok_need_text (P := l.prog) (w := w) (A := ⟨K, e_cME, e_cBT, e_cBL, e_cBW, e_cBA, e_cNT, e_cNP, e_cFu, e_cBook, e_cGroups⟩) (mg := mg) (base := base) F3 W C2
  have b3 := F3.binds (ps := ["thing"]) fun _ _ _ _ _ _ us hl => match us, hl with | [_], _ => rfl
  have C3 : Cal l.prog w K mg base (L2.CX l.prog w) 2 "need_text" ["thing"] (sp_need_text ⟨K, e_cME, e_cBT, e_cBL, e_cBW, e_cBA, e_cNT, e_cNP, e_cFu, e_cBook, e_cGroups⟩) := ⟨⟨f3, _, O3, PySem.W.mg_of X G a3, k3, b3⟩⟩
  have F4 := fun_mk (st := s_is_mirror) l4 c4 k4
  have O4 := ok_is_mirror (P := l.prog) (w := w) (A := ⟨K, e_cME, e_cBT, e_cBL, e_cBW, e_cBA, e_cNT, e_cNP, e_cFu, e_cBook, e_cGroups⟩) (mg := mg) (base := base) F4 W C2
  have b4 := F4.binds (ps := ["thing"]) fun _ _ _ _ _ _ us hl => match us, hl with | [_], _ => rfl
  have C4 : Cal l.prog w K mg base CX0 2 "is_mirror" ["thing"] (sp_is_mirror ⟨K, e_cME, e_cBT, e_cBL, e_cBW, e_cBA, e_cNT, e_cNP, e_cFu, e_cBook, e_cGroups⟩) := ⟨⟨f4, _, O4, PySem.W.mg_of X G a4, k4, b4⟩⟩
  have F11 := fun_mk (st := s_Book_need_place) l11 c11 k11
  have O11 := ok_Book_need_place (P := l.prog) (w := w) (A := ⟨K, e_cME, e_cBT, e_cBL, e_cBW, e_cBA, e_cNT, e_cNP, e_cFu, e_cBook, e_cGroups⟩) (mg := mg) (base := base) F11 W C0
  have b11 := F11.binds (ps := ["self", "place"]) fun _ _ _ _ _ _ us hl => match us, hl with | [_, _], _ => rfl
  have C11 : Mcal l.prog w K mg base (L2.CX l.prog w) 2 e_cBook "need_place" ["self", "place"] (sp_Book_need_place ⟨K, e_cME, e_cBT, e_cBL, e_cBW, e_cBA, e_cNT, e_cNP, e_cFu, e_cBook, e_cGroups⟩) := ⟨⟨f11, _, O11, ⟨a11, i11, k11⟩, b11⟩⟩
  have F15 := fun_mk (st := s_Book_need_room) l15 c15 k15
  have O15 := ok_Book_need_room (P := l.prog) (w := w) (A := ⟨K, e_cME, e_cBT, e_cBL, e_cBW, e_cBA, e_cNT, e_cNP, e_cFu, e_cBook, e_cGroups⟩) (mg := mg) (base := base) F15 W C1
  have b15 := F15.binds (ps := ["self", "letter"]) fun _ _ _ _ _ _ us hl => match us, hl with | [_, _], _ => rfl
  have C15 : Mcal l.prog w K mg base (L2.CX l.prog w) 2 e_cBook "need_room" ["self", "letter"] (sp_Book_need_room ⟨K, e_cME, e_cBT, e_cBL, e_cBW, e_cBA, e_cNT, e_cNP, e_cFu, e_cBook, e_cGroups⟩) := ⟨⟨f15, _, O15, ⟨a15, i15, k15⟩, b15⟩⟩
  have F17 := fun_mk (st := s_Book_met) l17 c17 k17
  have O17 := ok_Book_met (P := l.prog) (w := w) (A := ⟨K, e_cME, e_cBT, e_cBL, e_cBW, e_cBA, e_cNT, e_cNP, e_cFu, e_cBook, e_cGroups⟩) (mg := mg) (base := base) F17 W C16
  have b17 := F17.binds (ps := ["self", "word", "letter", "behind"]) fun _ _ _ _ _ _ us hl => match us, hl with | [_, _, _, _], _ => rfl
  have C17 : Mcal l.prog w K mg base CX0 2 e_cBook "met" ["self", "word", "letter", "behind"] (sp_Book_met ⟨K, e_cME, e_cBT, e_cBL, e_cBW, e_cBA, e_cNT, e_cNP, e_cFu, e_cBook, e_cGroups⟩) := ⟨⟨f17, _, O17, ⟨a17, i17, k17⟩, b17⟩⟩
  have F24 := fun_mk (st := s_arms_of) l24 c24 k24
  have O24 := ok_arms_of (P := l.prog) (w := w) (A := ⟨K, e_cME, e_cBT, e_cBL, e_cBW, e_cBA, e_cNT, e_cNP, e_cFu, e_cBook, e_cGroups⟩) (mg := mg) (base := base) F24 W C23
  have b24 := F24.binds (ps := ["text"]) fun _ _ _ _ _ _ us hl => match us, hl with | [_], _ => rfl
  have C24 : Cal l.prog w K mg base CX0 2 "arms_of" ["text"] (sp_arms_of ⟨K, e_cME, e_cBT, e_cBL, e_cBW, e_cBA, e_cNT, e_cNP, e_cFu, e_cBook, e_cGroups⟩) := ⟨⟨f24, _, O24, PySem.W.mg_of X G a24, k24, b24⟩⟩
  have F29 := fun_mk (st := s_is_arms) l29 c29 k29
  have O29 := ok_is_arms (P := l.prog) (w := w) (A := ⟨K, e_cME, e_cBT, e_cBL, e_cBW, e_cBA, e_cNT, e_cNP, e_cFu, e_cBook, e_cGroups⟩) (mg := mg) (base := base) F29 W C0 C28
  have b29 := F29.binds (ps := ["thing"]) fun _ _ _ _ _ _ us hl => match us, hl with | [_], _ => rfl
  have C29 : Cal l.prog w K mg base CX0 2 "is_arms" ["thing"] (sp_is_arms ⟨K, e_cME, e_cBT, e_cBL, e_cBW, e_cBA, e_cNT, e_cNP, e_cFu, e_cBook, e_cGroups⟩) := ⟨⟨f29, _, O29, PySem.W.mg_of X G a29, k29, b29⟩⟩
  have F32 := fun_mk (st := s_Groups_tie) l32 c32 k32
  have O32 := ok_Groups_tie (P := l.prog) (w := w) (A := ⟨K, e_cME, e_cBT, e_cBL, e_cBW, e_cBA, e_cNT, e_cNP, e_cFu, e_cBook, e_cGroups⟩) (mg := mg) (base := base) F32 W C31
  have b32 := F32.binds (ps := ["self", "one", "other"]) fun _ _ _ _ _ _ us hl => match us, hl with | [_, _, _], _ => rfl
  have C32 : Mcal l.prog w K mg base CX0 2 e_cGroups "tie" ["self", "one", "other"] (sp_Groups_tie ⟨K, e_cME, e_cBT, e_cBL, e_cBW, e_cBA, e_cNT, e_cNP, e_cFu, e_cBook, e_cGroups⟩) := ⟨⟨f32, _, O32, ⟨a32, i32, k32⟩, b32⟩⟩
  have F34 := fun_mk (st := s_foes_of) l34 c34 k34
  have O34 := ok_foes_of (P := l.prog) (w := w) (A := ⟨K, e_cME, e_cBT, e_cBL, e_cBW, e_cBA, e_cNT, e_cNP, e_cFu, e_cBook, e_cGroups⟩) (mg := mg) (base := base) F34 W C31
  have b34 := F34.binds (ps := ["arms", "many", "groups"]) fun _ _ _ _ _ _ us hl => match us, hl with | [_, _, _], _ => rfl
  have C34 : Cal l.prog w K mg base (L2.CX l.prog w) 2 "foes_of" ["arms", "many", "groups"] (sp_foes_of ⟨K, e_cME, e_cBT, e_cBL, e_cBW, e_cBA, e_cNT, e_cNP, e_cFu, e_cBook, e_cGroups⟩) := ⟨⟨f34, _, O34, PySem.W.mg_of X G a34, k34, b34⟩⟩
  have F37 := fun_mk (st := s__law_text) l37 c37 k37
  have O37 := ok__law_text (P := l.prog) (w := w) (A := ⟨K, e_cME, e_cBT, e_cBL, e_cBW, e_cBA, e_cNT, e_cNP, e_cFu, e_cBook, e_cGroups⟩) (mg := mg) (base := base) F37 W C36
  have b37 := F37.binds (ps := ["_law_script", "_law_first", "_law_most"]) fun _ _ _ _ _ _ us hl => match us, hl with | [_, _, _], _ => rfl
  have C37 : Cal l.prog w K mg base CX0 2 "_law_text" ["_law_script", "_law_first", "_law_most"] (sp__law_text ⟨K, e_cME, e_cBT, e_cBL, e_cBW, e_cBA, e_cNT, e_cNP, e_cFu, e_cBook, e_cGroups⟩) := ⟨⟨f37, _, O37, PySem.W.mg_of X G a37, k37, b37⟩⟩
  have F5 := fun_mk (st := s_need_mirror) l5 c5 k5
  have O5 := ok_need_mirror (P := l.prog) (w := w) (A := ⟨K, e_cME, e_cBT, e_cBL, e_cBW, e_cBA, e_cNT, e_cNP, e_cFu, e_cBook, e_cGroups⟩) (mg := mg) (base := base) F5 W C4
  have b5 := F5.binds (ps := ["thing"]) fun _ _ _ _ _ _ us hl => match us, hl with | [_], _ => rfl
  have C5 : Cal l.prog w K mg base (L2.CX l.prog w) 3 "need_mirror" ["thing"] (sp_need_mirror ⟨K, e_cME, e_cBT, e_cBL, e_cBW, e_cBA, e_cNT, e_cNP, e_cFu, e_cBook, e_cGroups⟩) := ⟨⟨f5, _, O5, PySem.W.mg_of X G a5, k5, b5⟩⟩
  have F12 := fun_mk (st := s_Book_begins_at) l12 c12 k12
  have O12 := ok_Book_begins_at (P := l.prog) (w := w) (A := ⟨K, e_cME, e_cBT, e_cBL, e_cBW, e_cBA, e_cNT, e_cNP, e_cFu, e_cBook, e_cGroups⟩) (mg := mg) (base := base) F12 W C7 C11
  have b12 := F12.binds (ps := ["self", "place"]) fun _ _ _ _ _ _ us hl => match us, hl with | [_, _], _ => rfl
  have C12 : Mcal l.prog w K mg base (L2.CX l.prog w) 3 e_cBook "begins_at" ["self", "place"] (sp_Book_begins_at ⟨K, e_cME, e_cBT, e_cBL, e_cBW, e_cBA, e_cNT, e_cNP, e_cFu, e_cBook, e_cGroups⟩) := ⟨⟨f12, _, O12, ⟨a12, i12, k12⟩, b12⟩⟩
  have F13 := fun_mk (st := s_Book_ends_at) l13 c13 k13
  have O13 := ok_Book_ends_at (P := l.prog) (w := w) (A := ⟨K, e_cME, e_cBT, e_cBL, e_cBW, e_cBA, e_cNT, e_cNP, e_cFu, e_cBook, e_cGroups⟩) (mg := mg) (base := base) F13 W C7 C11
  have b13 := F13.binds (ps := ["self", "place"]) fun _ _ _ _ _ _ us hl => match us, hl with | [_, _], _ => rfl
  have C13 : Mcal l.prog w K mg base (L2.CX l.prog w) 3 e_cBook "ends_at" ["self", "place"] (sp_Book_ends_at ⟨K, e_cME, e_cBT, e_cBL, e_cBW, e_cBA, e_cNT, e_cNP, e_cFu, e_cBook, e_cGroups⟩) := ⟨⟨f13, _, O13, ⟨a13, i13, k13⟩, b13⟩⟩
  have F25 := fun_mk (st := s_arms) l25 c25 k25
  have O25 := ok_arms (P := l.prog) (w := w) (A := ⟨K, e_cME, e_cBT, e_cBL, e_cBW, e_cBA, e_cNT, e_cNP, e_cFu, e_cBook, e_cGroups⟩) (mg := mg) (base := base) F25 W C3 C24
  have b25 := F25.binds (ps := ["text"]) fun _ _ _ _ _ _ us hl => match us, hl with | [_], _ => rfl
  have C25 : Cal l.prog w K mg base (L2.CX l.prog w) 3 "arms" ["text"] (sp_arms ⟨K, e_cME, e_cBT, e_cBL, e_cBW, e_cBA, e_cNT, e_cNP, e_cFu, e_cBook, e_cGroups⟩) := ⟨⟨f25, _, O25, PySem.W.mg_of X G a25, k25, b25⟩⟩
  have F26 := fun_mk (st := s_reaches) l26 c26 k26
  have O26 := ok_reaches (P := l.prog) (w := w) (A := ⟨K, e_cME, e_cBT, e_cBL, e_cBW, e_cBA, e_cNT, e_cNP, e_cFu, e_cBook, e_cGroups⟩) (mg := mg) (base := base) F26 W C24
  have b26 := F26.binds (ps := ["text"]) fun _ _ _ _ _ _ us hl => match us, hl with | [_], _ => rfl
  have C26 : Cal l.prog w K mg base CX0 3 "reaches" ["text"] (sp_reaches ⟨K, e_cME, e_cBT, e_cBL, e_cBW, e_cBA, e_cNT, e_cNP, e_cFu, e_cBook, e_cGroups⟩) := ⟨⟨f26, _, O26, PySem.W.mg_of X G a26, k26, b26⟩⟩
  have F33 := fun_mk (st := s_tied) l33 c33 k33
  have O33 := ok_tied (P := l.prog) (w := w) (A := ⟨K, e_cME, e_cBT, e_cBL, e_cBW, e_cBA, e_cNT, e_cNP, e_cFu, e_cBook, e_cGroups⟩) (mg := mg) (base := base) F33 W C30 C32
  have b33 := F33.binds (ps := ["arms", "many"]) fun _ _ _ _ _ _ us hl => match us, hl with | [_, _], _ => rfl
  have C33 : Cal l.prog w K mg base CX0 3 "tied" ["arms", "many"] (sp_tied ⟨K, e_cME, e_cBT, e_cBL, e_cBW, e_cBA, e_cNT, e_cNP, e_cFu, e_cBook, e_cGroups⟩) := ⟨⟨f33, _, O33, PySem.W.mg_of X G a33, k33, b33⟩⟩
  have F10 := fun_mk (st := s_Book_count) l10 c10 k10
  have O10 := ok_Book_count (P := l.prog) (w := w) (A := ⟨K, e_cME, e_cBT, e_cBL, e_cBW, e_cBA, e_cNT, e_cNP, e_cFu, e_cBook, e_cGroups⟩) (mg := mg) (base := base) F10 W C5
  have b10 := F10.binds (ps := ["self", "word"]) fun _ _ _ _ _ _ us hl => match us, hl with | [_, _], _ => rfl
  have C10 : Mcal l.prog w K mg base (L2.CX l.prog w) 4 e_cBook "count" ["self", "word"] (sp_Book_count ⟨K, e_cME, e_cBT, e_cBL, e_cBW, e_cBA, e_cNT, e_cNP, e_cFu, e_cBook, e_cGroups⟩) := ⟨⟨f10, _, O10, ⟨a10, i10, k10⟩, b10⟩⟩
  have F14 := fun_mk (st := s_Book_longest) l14 c14 k14
  have O14 := ok_Book_longest (P := l.prog) (w := w) (A := ⟨K, e_cME, e_cBT, e_cBL, e_cBW, e_cBA, e_cNT, e_cNP, e_cFu, e_cBook, e_cGroups⟩) (mg := mg) (base := base) F14 W C12
  have b14 := F14.binds (ps := ["self"]) fun _ _ _ _ _ _ us hl => match us, hl with | [_], _ => rfl
  have C14 : Mcal l.prog w K mg base (L2.CX l.prog w) 4 e_cBook "longest" ["self"] (sp_Book_longest ⟨K, e_cME, e_cBT, e_cBL, e_cBW, e_cBA, e_cNT, e_cNP, e_cFu, e_cBook, e_cGroups⟩) := ⟨⟨f14, _, O14, ⟨a14, i14, k14⟩, b14⟩⟩
  have F19 := fun_mk (st := s_Book_put_last) l19 c19 k19
  have O19 := ok_Book_put_last (P := l.prog) (w := w) (A := ⟨K, e_cME, e_cBT, e_cBL, e_cBW, e_cBA, e_cNT, e_cNP, e_cFu, e_cBook, e_cGroups⟩) (mg := mg) (base := base) F19 W C13 C15 C16 C17
  have b19 := F19.binds (ps := ["self", "letter"]) fun _ _ _ _ _ _ us hl => match us, hl with | [_, _], _ => rfl
  have C19 : Mcal l.prog w K mg base (L2.CX l.prog w) 4 e_cBook "put_last" ["self", "letter"] (sp_Book_put_last ⟨K, e_cME, e_cBT, e_cBL, e_cBW, e_cBA, e_cNT, e_cNP, e_cFu, e_cBook, e_cGroups⟩) := ⟨⟨f19, _, O19, ⟨a19, i19, k19⟩, b19⟩⟩
  have F20 := fun_mk (st := s_Book_put_first) l20 c20 k20
  have O20 := ok_Book_put_first (P := l.prog) (w := w) (A := ⟨K, e_cME, e_cBT, e_cBL, e_cBW, e_cBA, e_cNT, e_cNP, e_cFu, e_cBook, e_cGroups⟩) (mg := mg) (base := base) F20 W C12 C15 C16 C17
  have b20 := F20.binds (ps := ["self", "letter"]) fun _ _ _ _ _ _ us hl => match us, hl with | [_, _], _ => rfl
  have C20 : Mcal l.prog w K mg base (L2.CX l.prog w) 4 e_cBook "put_first" ["self", "letter"] (sp_Book_put_first ⟨K, e_cME, e_cBT, e_cBL, e_cBW, e_cBA, e_cNT, e_cNP, e_cFu, e_cBook, e_cGroups⟩) := ⟨⟨f20, _, O20, ⟨a20, i20, k20⟩, b20⟩⟩
  have F21 := fun_mk (st := s_Book_cut_last) l21 c21 k21
  have O21 := ok_Book_cut_last (P := l.prog) (w := w) (A := ⟨K, e_cME, e_cBT, e_cBL, e_cBW, e_cBA, e_cNT, e_cNP, e_cFu, e_cBook, e_cGroups⟩) (mg := mg) (base := base) F21 W C11 C13 C18
  have b21 := F21.binds (ps := ["self"]) fun _ _ _ _ _ _ us hl => match us, hl with | [_], _ => rfl
  have C21 : Mcal l.prog w K mg base (L2.CX l.prog w) 4 e_cBook "cut_last" ["self"] (sp_Book_cut_last ⟨K, e_cME, e_cBT, e_cBL, e_cBW, e_cBA, e_cNT, e_cNP, e_cFu, e_cBook, e_cGroups⟩) := ⟨⟨f21, _, O21, ⟨a21, i21, k21⟩, b21⟩⟩
  have F22 := fun_mk (st := s_Book_cut_first) l22 c22 k22
  have O22 := ok_Book_cut_first (P := l.prog) (w := w) (A := ⟨K, e_cME, e_cBT, e_cBL, e_cBW, e_cBA, e_cNT, e_cNP, e_cFu, e_cBook, e_cGroups⟩) (mg := mg) (base := base) F22 W C11 C12 C18
  have b22 := F22.binds (ps := ["self"]) fun _ _ _ _ _ _ us hl => match us, hl with | [_], _ => rfl
  have C22 : Mcal l.prog w K mg base (L2.CX l.prog w) 4 e_cBook "cut_first" ["self"] (sp_Book_cut_first ⟨K, e_cME, e_cBT, e_cBL, e_cBW, e_cBA, e_cNT, e_cNP, e_cFu, e_cBook, e_cGroups⟩) := ⟨⟨f22, _, O22, ⟨a22, i22, k22⟩, b22⟩⟩
  have F27 := fun_mk (st := s_fewest) l27 c27 k27
  have O27 := ok_fewest (P := l.prog) (w := w) (A := ⟨K, e_cME, e_cBT, e_cBL, e_cBW, e_cBA, e_cNT, e_cNP, e_cFu, e_cBook, e_cGroups⟩) (mg := mg) (base := base) F27 W C3 C26
  have b27 := F27.binds (ps := ["text"]) fun _ _ _ _ _ _ us hl => match us, hl with | [_], _ => rfl
  have C27 : Cal l.prog w K mg base (L2.CX l.prog w) 4 "fewest" ["text"] (sp_fewest ⟨K, e_cME, e_cBT, e_cBL, e_cBW, e_cBA, e_cNT, e_cNP, e_cFu, e_cBook, e_cGroups⟩) := ⟨⟨f27, _, O27, PySem.W.mg_of X G a27, k27, b27⟩⟩
  have F35 := fun_mk (st := s_least_text) l35 c35 k35
  have O35 := ok_least_text (P := l.prog) (w := w) (A := ⟨K, e_cME, e_cBT, e_cBL, e_cBW, e_cBA, e_cNT, e_cNP, e_cFu, e_cBook, e_cGroups⟩) (mg := mg) (base := base) F35 W C29 C31 C33 C34
  have b35 := F35.binds (ps := ["arms"]) fun _ _ _ _ _ _ us hl => match us, hl with | [_], _ => rfl
  have C35 : Cal l.prog w K mg base (L2.CX l.prog w) 4 "least_text" ["arms"] (sp_least_text ⟨K, e_cME, e_cBT, e_cBL, e_cBW, e_cBA, e_cNT, e_cNP, e_cFu, e_cBook, e_cGroups⟩) := ⟨⟨f35, _, O35, PySem.W.mg_of X G a35, k35, b35⟩⟩
  have F39 := fun_mk (st := s__law_lengths) l39 c39 k39
  have O39 := ok__law_lengths (P := l.prog) (w := w) (A := ⟨K, e_cME, e_cBT, e_cBL, e_cBW, e_cBA, e_cNT, e_cNP, e_cFu, e_cBook, e_cGroups⟩) (mg := mg) (base := base) F39 W C25
  have b39 := F39.binds (ps := ["_law_text_here"]) fun _ _ _ _ _ _ us hl => match us, hl with | [_], _ => rfl
  have C39 : Cal l.prog w K mg base CX0 4 "_law_lengths" ["_law_text_here"] (sp__law_lengths ⟨K, e_cME, e_cBT, e_cBL, e_cBW, e_cBA, e_cNT, e_cNP, e_cFu, e_cBook, e_cGroups⟩) := ⟨⟨f39, _, O39, PySem.W.mg_of X G a39, k39, b39⟩⟩
  have F6 := fund_mk (st := s_Book_init) l6 c6 k6 lt6
  have O6 := ok_Book_init (P := l.prog) (w := w) (A := ⟨K, e_cME, e_cBT, e_cBL, e_cBW, e_cBA, e_cNT, e_cNP, e_cFu, e_cBook, e_cGroups⟩) (mg := mg) (base := base) F6 W C3 C19
  have b6 := binds_nil (F6.binds1 (ps := ["self", "text"]) 2 1 (by simp) rfl fun _ _ _ _ _ _ _ us its h1 h2 => match us, its, h1, h2 with | [_, _], [_], _, _ => ⟨_, rfl, rfl⟩)
  have B6 := F6.binds1 (ps := ["self", "text"]) 1 0 (by simp) rfl fun _ _ _ _ _ _ _ us its h1 h2 => match us, its, h1, h2 with | [_], [_], _, _ => ⟨_, rfl, rfl⟩
  have C6 : MkcD l.prog w K mg base (L2.CX l.prog w) 5 "Book" ["self", "text"] e_cBook (sp_Book_init ⟨K, e_cME, e_cBT, e_cBL, e_cBW, e_cBA, e_cNT, e_cNP, e_cFu, e_cBook, e_cGroups⟩) [tS []] := ⟨⟨⟨f6, _, O6, PySem.W.mg_of X G g_Book, ⟨mk_Book, a6, i6, kc_Book⟩, b6⟩⟩, by obtain ⟨ds, v1, v2⟩ := B6; exact ⟨⟨f6, _, ds, O6, PySem.W.mg_of X G g_Book, ⟨mk_Book, a6, i6, kc_Book⟩, v1, v2⟩⟩⟩
  have F40 := fun_mk (st := s__law_told) l40 c40 k40
  have O40 := ok__law_told (P := l.prog) (w := w) (A := ⟨K, e_cME, e_cBT, e_cBL, e_cBW, e_cBA, e_cNT, e_cNP, e_cFu, e_cBook, e_cGroups⟩) (mg := mg) (base := base) F40 W C8 C10
  have b40 := F40.binds (ps := ["_law_book"]) fun _ _ _ _ _ _ us hl => match us, hl with | [_], _ => rfl
  have C40 : Cal l.prog w K mg base CX0 5 "_law_told" ["_law_book"] (sp__law_told ⟨K, e_cME, e_cBT, e_cBL, e_cBW, e_cBA, e_cNT, e_cNP, e_cFu, e_cBook, e_cGroups⟩) := ⟨⟨f40, _, O40, PySem.W.mg_of X G a40, k40, b40⟩⟩
  have F41 := fun_mk (st := s__law_right) l41 c41 k41
  have O41 := ok__law_right (P := l.prog) (w := w) (A := ⟨K, e_cME, e_cBT, e_cBL, e_cBW, e_cBA, e_cNT, e_cNP, e_cFu, e_cBook, e_cGroups⟩) (mg := mg) (base := base) F41 W C7 C8 C14 C25 C27 C35 C39 C40
  have b41 := F41.binds (ps := ["_law_book", "_law_text_here"]) fun _ _ _ _ _ _ us hl => match us, hl with | [_, _], _ => rfl
  have C41 : Cal l.prog w K mg base CX0 6 "_law_right" ["_law_book", "_law_text_here"] (sp__law_right ⟨K, e_cME, e_cBT, e_cBL, e_cBW, e_cBA, e_cNT, e_cNP, e_cFu, e_cBook, e_cGroups⟩) := ⟨⟨f41, _, O41, PySem.W.mg_of X G a41, k41, b41⟩⟩
  have F38 := fun_mk (st := s__law_grown) l38 c38 k38
  have O38 := ok__law_grown (P := l.prog) (w := w) (A := ⟨K, e_cME, e_cBT, e_cBL, e_cBW, e_cBA, e_cNT, e_cNP, e_cFu, e_cBook, e_cGroups⟩) (mg := mg) (base := base) F38 W C6 C19 C20
  have b38 := F38.binds (ps := ["_law_text_here", "_law_at", "_law_cell"]) fun _ _ _ _ _ _ us hl => match us, hl with | [_, _, _], _ => rfl
  have C38 : Cal l.prog w K mg base CX0 7 "_law_grown" ["_law_text_here", "_law_at", "_law_cell"] (sp__law_grown ⟨K, e_cME, e_cBT, e_cBL, e_cBW, e_cBA, e_cNT, e_cNP, e_cFu, e_cBook, e_cGroups⟩) := ⟨⟨f38, _, O38, PySem.W.mg_of X G a38, k38, b38⟩⟩
  have F42 := fun_mk (st := s_law) l42 c42 k42
  have O42 := ok_law (P := l.prog) (w := w) (A := ⟨K, e_cME, e_cBT, e_cBL, e_cBW, e_cBA, e_cNT, e_cNP, e_cFu, e_cBook, e_cGroups⟩) (mg := mg) (base := base) F42 W C8 C19 C20 C21 C22 C36 C37 C38 C41
  exact O42
end Mw
open PySem PySem.W PyProof.Rows
set_option maxRecDepth 100000 in
set_option maxHeartbeats 0 in
theorem PySem.Challenge.cw_mirrorwords_k10_whole_books_and_arms_holds : PySem.Challenge.rw_mirrorwords_k10_whole_books_and_arms.Holds := by
  w_on; o_law; k_head; (case hw => w_witness2)
  k_fill
  refine L2.walk_of (l := PySem.Challenge.rw_mirrorwords_k10_whole_books_and_arms) (n := 63) (k := 8) (x := "_law_script") (CX := fun _ => L2.CX0) (sp := fun w => Mw.spL0 _) rfl (by decide) rfl ⟨rfl, by decide, by decide⟩ (fun w h Y => PySem.W.kIn_of Y) ?F (fun _ _ a ns hl _ hS => ⟨a, ns, rfl, hS, hl, fun _ => rfl⟩) (fun _ _ _ _ _ h => h)
  case F =>
    intro w mg fa h KX G hmg
    refine' Mw.all_mk KX G hmg ?g_MirrorError ?g_BadText ?g_BadLetter ?g_BadWord ?g_BadArms ?g_NoText ?g_NoPlace ?g_Full ?g_Book ?g_Groups ?a0 ?l0 ?c0 ?k0 ?a1 ?l1 ?c1 ?k1 ?a2 ?l2 ?c2 ?k2 ?a3 ?l3 ?c3 ?k3 ?a4 ?l4 ?c4 ?k4 ?a5 ?l5 ?c5 ?k5 ?a6 ?i6 ?l6 ?lt6 ?c6 ?k6 ?a7 ?i7 ?l7 ?c7 ?k7 ?a8 ?i8 ?l8 ?c8 ?k8 ?a9 ?i9 ?l9 ?c9 ?k9 ?a10 ?i10 ?l10 ?c10 ?k10 ?a11 ?i11 ?l11 ?c11 ?k11 ?a12 ?i12 ?l12 ?c12 ?k12 ?a13 ?i13 ?l13 ?c13 ?k13 ?a14 ?i14 ?l14 ?c14 ?k14 ?a15 ?i15 ?l15 ?c15 ?k15 ?a16 ?i16 ?l16 ?c16 ?k16 ?a17 ?i17 ?l17 ?c17 ?k17 ?a18 ?i18 ?l18 ?c18 ?k18 ?a19 ?i19 ?l19 ?c19 ?k19 ?a20 ?i20 ?l20 ?c20 ?k20 ?a21 ?i21 ?l21 ?c21 ?k21 ?a22 ?i22 ?l22 ?c22 ?k22 ?a23 ?l23 ?c23 ?k23 ?a24 ?l24 ?c24 ?k24 ?a25 ?l25 ?c25 ?k25 ?a26 ?l26 ?c26 ?k26 ?a27 ?l27 ?c27 ?k27 ?a28 ?l28 ?c28 ?k28 ?a29 ?l29 ?c29 ?k29 ?a30 ?i30 ?l30 ?c30 ?k30 ?a31 ?i31 ?l31 ?c31 ?k31 ?a32 ?i32 ?l32 ?c32 ?k32 ?a33 ?l33 ?c33 ?k33 ?a34 ?l34 ?c34 ?k34 ?a35 ?l35 ?c35 ?k35 ?a36 ?l36 ?c36 ?k36 ?a37 ?l37 ?c37 ?k37 ?a38 ?l38 ?c38 ?k38 ?a39 ?l39 ?c39 ?k39 ?a40 ?l40 ?c40 ?k40 ?a41 ?l41 ?c41 ?k41 ?a42 ?l42 ?c42 ?k42 ?n_all ?n_bool ?n_enumerate ?n_int ?n_isinstance ?n_len ?n_list ?n_max ?n_min ?n_range ?n_reversed ?n_sorted ?n_str ?g_LETTERS ?g_MOST ?xx_BadArms ?xk_BadArms ?xs_BadArms ?xt_BadArms ?xx_BadLetter ?xk_BadLetter ?xs_BadLetter ?xt_BadLetter ?xx_BadText ?xk_BadText ?xs_BadText ?xt_BadText ?xx_BadWord ?xk_BadWord ?xs_BadWord ?xt_BadWord ?xx_Full ?xk_Full ?xs_Full ?xt_Full ?xx_NoPlace ?xk_NoPlace ?xs_NoPlace ?xt_NoPlace ?xx_NoText ?xk_NoText ?xs_NoText ?xt_NoText ?pg_Book ?hd_Book ?po_Book ?sa_Book ?mk_Book ?kc_Book ?na_Book_letters ?na_Book_heads ?na_Book_ends ?na_Book_told ?na_Book_tails ?pg_Groups ?hd_Groups ?po_Groups ?sa_Groups ?mk_Groups ?kc_Groups ?na_Groups_first
    (case g_MirrorError => k_is)
    (case g_BadText => k_is)
    (case g_BadLetter => k_is)
    (case g_BadWord => k_is)
    (case g_BadArms => k_is)
    (case g_NoText => k_is)
    (case g_NoPlace => k_is)
    (case g_Full => k_is)
    (case g_Book => k_is)
    (case g_Groups => k_is)
    (case a0 => k_is)
    (case l0 => k_is)
    (case c0 => k_is)
    (case k0 => k_is)
    (case a1 => k_is)
    (case l1 => k_is)
    (case c1 => k_is)
    (case k1 => k_is)
    (case a2 => k_is)
    (case l2 => k_is)
    (case c2 => k_is)
    (case k2 => k_is)
    (case a3 => k_is)
    (case l3 => k_is)
    (case c3 => k_is)
    (case k3 => k_is)
    (case a4 => k_is)
    (case l4 => k_is)
    (case c4 => k_is)
    (case k4 => k_is)
    (case a5 => k_is)
    (case l5 => k_is)
    (case c5 => k_is)
    (case k5 => k_is)
    (case a6 => k_is)
    (case i6 => k_is)
    (case l6 => k_is)
    (case lt6 => k_is)
    (case c6 => k_is)
    (case k6 => k_is)
    (case a7 => k_is)
    (case i7 => k_is)
    (case l7 => k_is)
    (case c7 => k_is)
    (case k7 => k_is)
    (case a8 => k_is)
    (case i8 => k_is)
    (case l8 => k_is)
    (case c8 => k_is)
    (case k8 => k_is)
    (case a9 => k_is)
    (case i9 => k_is)
    (case l9 => k_is)
    (case c9 => k_is)
    (case k9 => k_is)
    (case a10 => k_is)
    (case i10 => k_is)
    (case l10 => k_is)
    (case c10 => k_is)
    (case k10 => k_is)
    (case a11 => k_is)
    (case i11 => k_is)
    (case l11 => k_is)
    (case c11 => k_is)
    (case k11 => k_is)
    (case a12 => k_is)
    (case i12 => k_is)
    (case l12 => k_is)
    (case c12 => k_is)
    (case k12 => k_is)
    (case a13 => k_is)
    (case i13 => k_is)
    (case l13 => k_is)
    (case c13 => k_is)
    (case k13 => k_is)
    (case a14 => k_is)
    (case i14 => k_is)
    (case l14 => k_is)
    (case c14 => k_is)
    (case k14 => k_is)
    (case a15 => k_is)
    (case i15 => k_is)
    (case l15 => k_is)
    (case c15 => k_is)
    (case k15 => k_is)
    (case a16 => k_is)
    (case i16 => k_is)
    (case l16 => k_is)
    (case c16 => k_is)
    (case k16 => k_is)
    (case a17 => k_is)
    (case i17 => k_is)
    (case l17 => k_is)
    (case c17 => k_is)
    (case k17 => k_is)
    (case a18 => k_is)
    (case i18 => k_is)
    (case l18 => k_is)
    (case c18 => k_is)
    (case k18 => k_is)
    (case a19 => k_is)
    (case i19 => k_is)
    (case l19 => k_is)
    (case c19 => k_is)
    (case k19 => k_is)
    (case a20 => k_is)
    (case i20 => k_is)
    (case l20 => k_is)
    (case c20 => k_is)
    (case k20 => k_is)
    (case a21 => k_is)
    (case i21 => k_is)
    (case l21 => k_is)
    (case c21 => k_is)
    (case k21 => k_is)
    (case a22 => k_is)
    (case i22 => k_is)
    (case l22 => k_is)
    (case c22 => k_is)
    (case k22 => k_is)
    (case a23 => k_is)
    (case l23 => k_is)
    (case c23 => k_is)
    (case k23 => k_is)
    (case a24 => k_is)
    (case l24 => k_is)
    (case c24 => k_is)
    (case k24 => k_is)
    (case a25 => k_is)
    (case l25 => k_is)
    (case c25 => k_is)
    (case k25 => k_is)
    (case a26 => k_is)
    (case l26 => k_is)
    (case c26 => k_is)
    (case k26 => k_is)
    (case a27 => k_is)
    (case l27 => k_is)
    (case c27 => k_is)
    (case k27 => k_is)
    (case a28 => k_is)
    (case l28 => k_is)
    (case c28 => k_is)
    (case k28 => k_is)
    (case a29 => k_is)
    (case l29 => k_is)
    (case c29 => k_is)
    (case k29 => k_is)
    (case a30 => k_is)
    (case i30 => k_is)
    (case l30 => k_is)
    (case c30 => k_is)
    (case k30 => k_is)
    (case a31 => k_is)
    (case i31 => k_is)
    (case l31 => k_is)
    (case c31 => k_is)
    (case k31 => k_is)
    (case a32 => k_is)
    (case i32 => k_is)
    (case l32 => k_is)
    (case c32 => k_is)
    (case k32 => k_is)
    (case a33 => k_is)
    (case l33 => k_is)
    (case c33 => k_is)
    (case k33 => k_is)
    (case a34 => k_is)
    (case l34 => k_is)
    (case c34 => k_is)
    (case k34 => k_is)
    (case a35 => k_is)
    (case l35 => k_is)
    (case c35 => k_is)
    (case k35 => k_is)
    (case a36 => k_is)
    (case l36 => k_is)
    (case c36 => k_is)
    (case k36 => k_is)
    (case a37 => k_is)
    (case l37 => k_is)
    (case c37 => k_is)
    (case k37 => k_is)
    (case a38 => k_is)
    (case l38 => k_is)
    (case c38 => k_is)
    (case k38 => k_is)
    (case a39 => k_is)
    (case l39 => k_is)
    (case c39 => k_is)
    (case k39 => k_is)
    (case a40 => k_is)
    (case l40 => k_is)
    (case c40 => k_is)
    (case k40 => k_is)
    (case a41 => k_is)
    (case l41 => k_is)
    (case c41 => k_is)
    (case k41 => k_is)
    (case a42 => k_is)
    (case l42 => k_is)
    (case c42 => k_is)
    (case k42 => k_is)
    (case n_all => k_is)
    (case n_bool => k_is)
    (case n_enumerate => k_is)
    (case n_int => k_is)
    (case n_isinstance => k_is)
    (case n_len => k_is)
    (case n_list => k_is)
    (case n_max => k_is)
    (case n_min => k_is)
    (case n_range => k_is)
    (case n_reversed => k_is)
    (case n_sorted => k_is)
    (case n_str => k_is)
    (case g_LETTERS => k_is)
    (case g_MOST => k_is)
    (case xx_BadArms => k_exc)
    (case xk_BadArms => k_is)
    (case xs_BadArms => k_is)
    (case xt_BadArms => k_is)
    (case xx_BadLetter => k_exc)
    (case xk_BadLetter => k_is)
    (case xs_BadLetter => k_is)
    (case xt_BadLetter => k_is)
    (case xx_BadText => k_exc)
    (case xk_BadText => k_is)
    (case xs_BadText => k_is)
    (case xt_BadText => k_is)
    (case xx_BadWord => k_exc)
    (case xk_BadWord => k_is)
    (case xs_BadWord => k_is)
    (case xt_BadWord => k_is)
    (case xx_Full => k_exc)
    (case xk_Full => k_is)
    (case xs_Full => k_is)
    (case xt_Full => k_is)
    (case xx_NoPlace => k_exc)
    (case xk_NoPlace => k_is)
    (case xs_NoPlace => k_is)
    (case xt_NoPlace => k_is)
    (case xx_NoText => k_exc)
    (case xk_NoText => k_is)
    (case xs_NoText => k_is)
    (case xt_NoText => k_is)
    (case pg_Book => k_is)
    (case hd_Book => k_is)
    (case po_Book => k_is)
    (case sa_Book => k_is)
    (case mk_Book => k_is)
    (case kc_Book => k_is)
    (case na_Book_letters => k_is)
    (case na_Book_heads => k_is)
    (case na_Book_ends => k_is)
    (case na_Book_told => k_is)
    (case na_Book_tails => k_is)
    (case pg_Groups => k_is)
    (case hd_Groups => k_is)
    (case po_Groups => k_is)
    (case sa_Groups => k_is)
    (case mk_Groups => k_is)
    (case kc_Groups => k_is)
    (case na_Groups_first => k_is)
