import PyProof.Rows.All
import Wide.All
import OpenK.AllK
import Wide.FinOn
import HandS.ForMost
import HandS.Wide
import HandS.IsInst
import HandS.ForExc
import HandS.Evl
import PyProof.EqAt
import PyProof.EqKinds
import HandS.HotCalls
import HandS.EndBits
import HandS.ExcIs
import HandS.TryOnly
import HandS.TryMany
import HandS.SetFor
import HandS.WordsExc
import KE.GoesRaise
import HandS.Walk
import PySem.Challenge.RW_coinjudge_k09_written_and_read
set_option Elab.async false
set_option linter.all false
set_option maxRecDepth 100000
set_option maxHeartbeats 4000000
/-! # Words for readings: run them from the left -/
namespace Cj
open PySem PySem.Spec PyProof.Rows L2
section
variable {K : PySem.W.Frag} {σ : L2.St} {H : Hp} {ta tb te : TE} {t u : TT} {Q : VK} {D : Ends} {tu tz tw : TS} {QB : Bool → Hp → Prop} {g : TG}
theorem g_start {ts : TS} {N : List Str} {vs : List V} (σ : L2.St) (h : L2.start N vs = σ) (q : ts D σ H) : ts D (L2.start N vs) H := by
  rw [h]; exact q
theorem g_var {i : Nat} {v : V} (h : σ[i]? = some (some v)) (q : Q v H) : tVar i σ H Q := ⟨v, h, q⟩
theorem g_c {v : V} (q : Q v H) : tC v σ H Q := q
theorem g_op {r : R2} (h : ta σ H fun x H1 => tb σ H1 fun y H2 => r x y H2 Q) : tOp r ta tb σ H Q := h
theorem g_un {r : V → Hp → VK → Prop} (h : ta σ H fun x H1 => r x H1 Q) : tUn r ta σ H Q := h
theorem g_I0 {f : Int → Int → V} {i j : Int} (q : Q (f i j) H) : rI0 f (.int i) (.int j) H Q := ⟨i, j, rfl, rfl, q⟩
theorem g_I {C : Int → Int → Prop} {f : Int → Int → V} {i j : Int} (c : C i j) (q : Q (f i j) H) : rI C f (.int i) (.int j) H Q := ⟨i, j, rfl, rfl, c, q⟩
theorem g_U {f : Int → V} {i : Int} (q : Q (f i) H) : rU f (.int i) H Q := ⟨i, rfl, q⟩
theorem g_eqI {i j : Int} (q : Q (.bl (decide (i = j))) H) : rEq (.int i) (.int j) H Q := ⟨rfl, by
  have e : decide (V.int i = V.int j) = decide (i = j) := by simp
  rw [e]; exact q⟩
theorem g_neI {i j : Int} (q : Q (.bl (!decide (i = j))) H) : rNe (.int i) (.int j) H Q := ⟨rfl, by
  have e : decide (V.int i = V.int j) = decide (i = j) := by simp
  rw [e]; exact q⟩
theorem g_ix {p : Addr} {xs : List V} {i : Int} {v : V} (h : SqL K H p xs) (ha : atI xs i = some v) (q : Q v H) : rIxL K (.ref p) (.int i) H Q := ⟨p, xs, i, v, rfl, rfl, h, ha, q⟩
theorem g_ixT {p : Addr} {xs : List V} {i : Int} {v : V} (h : SqT K H p xs) (ha : atI xs i = some v) (q : Q v H) : rIxT K (.ref p) (.int i) H Q := ⟨p, xs, i, v, rfl, rfl, h, ha, q⟩
theorem g_test {b : Bool} (q : QB b H) : (fun x H' => ∃ k, x = V.bl k ∧ QB k H') (V.bl b) H := ⟨b, rfl, q⟩
theorem g_tTest (h : te σ H fun x H' => ∃ k, x = V.bl k ∧ QB k H') : tTest te σ H QB := h
theorem g_tB (h : te σ H fun x H' => ∃ k, x = V.bl k ∧ QB k H') : tB te σ H QB := h
theorem g_bl {b : Bool} {P : Bool → Prop} (q : P b) : ∃ k, V.bl b = V.bl k ∧ P k := ⟨b, rfl, q⟩
theorem g_and (h : t σ H fun c H1 => if c = true then u σ H1 QB else QB false H1) : tAnd t u σ H QB := h
theorem g_or (h : t σ H fun c H1 => if c = true then QB true H1 else u σ H1 QB) : tOr t u σ H QB := h
theorem g_not (h : t σ H fun c H1 => QB (!c) H1) : tNot t σ H QB := h
theorem g_andV (h : ta σ H fun x H1 => ∃ c, x = .bl c ∧ if c = true then tb σ H1 Q else Q (.bl false) H1) : tAndV ta tb σ H Q := h
theorem g_orV (h : ta σ H fun x H1 => ∃ c, x = .bl c ∧ if c = true then Q (.bl true) H1 else tb σ H1 Q) : tOrV ta tb σ H Q := h
theorem g_notV (h : ta σ H fun x H1 => ∃ c, x = .bl c ∧ Q (.bl (!c)) H1) : tNotV ta σ H Q := h
/-! arguments -/
variable {QA : List V → Hp → Prop} {tA : TA}
theorem g_nil (q : QA [] H) : tNil σ H QA := q
theorem g_cons (h : ta σ H fun x H1 => tA σ H1 fun xs H2 => QA (x :: xs) H2) : tCons ta tA σ H QA := h
theorem g_cb {r : List V → Hp → VK → Prop} (h : tA σ H fun vs H1 => r vs H1 Q) : tCB r tA σ H Q := h
theorem g_call {sp : Sp} {dvs : List V} {E : XK} (h : tA σ H fun vs H1 => sp (vs ++ dvs) H1 Q E) : tCall sp dvs E tA σ H Q := h
theorem g_bm {T : String} {r : V → List V → Hp → VK → Prop} (h : ta σ H fun x H1 => tyV K T x H1 ∧ tA σ H1 fun xs H2 => r x xs H2 Q) : tBM K T r ta tA σ H Q := h
theorem g_bm0 {T : String} {r : V → List V → Hp → VK → Prop} (h : ta σ H fun x H1 => tyV K T x H1 ∧ r x [] H1 Q) : tBM0 K T r ta σ H Q := h
theorem g_tup (h : tA σ H fun xs H1 => xs.length ≤ sizeLine ∧ ∀ p, H1 p = none → Q (.ref p) (upd H1 p (.tup xs))) : tTup tA σ H Q := h
theorem g_lst (h : tA σ H fun xs H1 => xs.length ≤ sizeLine ∧ ∀ p, H1 p = none → Q (.ref p) (upd H1 p (.lst xs))) : tLst tA σ H Q := h
/-! statements -/
theorem g_asg (h : te σ H fun v H1 => g v σ H1 D.nx) : tAsg te g D σ H := h
theorem g_name {i : Nat} {v : V} {R : L2.St → Hp → Prop} (q : R (σ.set i (some v)) H) : gName i v σ H R := q
theorem g_sub {to ti : TE} {ts : TSet} {v : V} {R : L2.St → Hp → Prop} (h : to σ H fun o H1 => ti σ H1 fun i H2 => ts o i v H2 fun H3 => R σ H3) : gSub to ti ts v σ H R := h
theorem g_seq (h : tu { D with nx := tz D } σ H) : tSeq tu tz D σ H := h
theorem g_drop (h : te σ H fun _ H1 => D.nx σ H1) : tDrop te D σ H := h
theorem g_ret (h : te σ H D.rt) : tRet te D σ H := h
theorem g_retN (h : D.rt .non H) : tRetN D σ H := h
theorem g_if (h : t σ H fun b H1 => if b = true then tu D σ H1 else tw D σ H1) : tIfS t tu tw D σ H := h
theorem g_next (h : D.nx σ H) : tNext D σ H := h
theorem g_nx {a c d : L2.St → Hp → Prop} {b : VK} (h : a σ H) : Ends.nx ⟨a, b, c, d⟩ σ H := h
theorem g_rt {a c d : L2.St → Hp → Prop} {b : VK} {v : V} (h : b v H) : Ends.rt ⟨a, b, c, d⟩ v H := h
theorem g_ite {c : Bool} {A B : Prop} (h1 : c = true → A) (h2 : c = false → B) : if c = true then A else B := by
  cases c with
  | true => exact h1 rfl
  | false => exact h2 rfl
theorem g_iteNT {A B : Prop} (h : B) : if (!true) = true then A else B := h
theorem g_iteNF {A B : Prop} (h : A) : if (!false) = true then A else B := h
theorem g_iteD {c : Prop} [Decidable c] {A B : Prop} (h1 : c → A) (h2 : ¬ c → B) : if decide c = true then A else B := by
  by_cases h : c
  · rw [decide_eq_true h]; exact h1 h
  · rw [decide_eq_false h]; exact h2 h
theorem g_iteN {c : Prop} [Decidable c] {A B : Prop} (h1 : ¬ c → A) (h2 : c → B) : if (!decide c) = true then A else B := by
  by_cases h : c
  · rw [decide_eq_true h]; exact h2 h
  · rw [decide_eq_false h]; exact h1 h
theorem g_cut (Mid : L2.St → Hp → Prop) (h : tu { D with nx := Mid } σ H) (k : ∀ σ' H', Mid σ' H' → tz D σ' H') : Evl.tCut tu tz D σ H := ⟨Mid, h, k⟩
end
/-! loops -/
section
variable {K : PySem.W.Frag} {σ : L2.St} {H : Hp} {te : TE} {D : Ends} {tu : TS} {tA : TA}
theorem f_R1 {j : Nat} {n : Int} (hn : -(2 ^ 62) ≤ n ∧ n < 2 ^ 62) (Pv : Nat → L2.St → Hp → Prop) (h0 : Pv 0 σ H)
    (hs : ∀ (i : Nat) σ' H', (i : Int) < n → Pv i σ' H' → tu { D with nx := Pv (i + 1), ct := Pv (i + 1), bk := D.nx } (σ'.set j (some (.int (i : Int)))) H')
    (hd : ∀ σ' H', Pv n.toNat σ' H' → D.nx σ' H') (ht : ∀ Q : List V → Hp → Prop, Q [.int n] H → tA σ H Q) : tFor (iRng1 tA) (gName j) tu D σ H :=
  ht _ ⟨n, rfl, hn.1, hn.2, for_range (lo := 0) (n := n.toNat) Pv h0 (fun i σ' H' hi p => by
    have e0 : (0 : Int) + (i : Int) = (i : Int) := Int.zero_add _
    show tu { D with nx := Pv (i + 1), ct := Pv (i + 1), bk := D.nx } (σ'.set j (some (.int ((0 : Int) + (i : Int))))) H'
    rw [e0]
    exact hs i σ' H' (by omega) p) hd⟩
theorem f_R2 {j : Nat} {lo n : Int} (hn : -(2 ^ 62) ≤ lo ∧ lo < 2 ^ 62 ∧ -(2 ^ 62) ≤ n ∧ n < 2 ^ 62) (Pv : Nat → L2.St → Hp → Prop) (h0 : Pv 0 σ H)
    (hs : ∀ (i : Nat) σ' H', lo + (i : Int) < n → Pv i σ' H' → tu { D with nx := Pv (i + 1), ct := Pv (i + 1), bk := D.nx } (σ'.set j (some (.int (lo + (i : Int))))) H')
    (hd : ∀ σ' H', Pv (n - lo).toNat σ' H' → D.nx σ' H') (ht : ∀ Q : List V → Hp → Prop, Q [.int lo, .int n] H → tA σ H Q) : tFor (iRng2 tA) (gName j) tu D σ H :=
  ht _ ⟨lo, n, rfl, hn, for_range (lo := lo) (n := (n - lo).toNat) Pv h0 (fun i σ' H' hi p => hs i σ' H' (by omega) p) hd⟩
/-- range(n - 1, -1, -1), by the places from above -/
theorem f_Dn {j : Nat} {n : Nat} (hn : (n : Int) < 2 ^ 62) (Pv : Nat → L2.St → Hp → Prop) (h0 : Pv n σ H)
    (hs : ∀ (k : Nat) σ' H', k < n → Pv (k + 1) σ' H' → tu { D with nx := Pv k, ct := Pv k, bk := D.nx } (σ'.set j (some (.int (k : Int)))) H')
    (hd : ∀ σ' H', Pv 0 σ' H' → D.nx σ' H') (ht : ∀ Q : List V → Hp → Prop, Q [.int ((n : Int) - 1), .int (-1), .int (-1)] H → tA σ H Q) : tFor (iRng3 tA) (gName j) tu D σ H :=
  ht _ ⟨(n : Int) - 1, -1, -1, ((n : Int) - 1 - -1).toNat, rfl, RgC.neg (by omega) (by omega) (by decide) (by decide), by
    have en : ((n : Int) - 1 - -1).toNat = n := by omega
    rw [en]
    refine for_rangeC (lo := (n : Int) - 1) (c := -1) (n := n) (fun i => Pv (n - i)) h0 (fun i σ' H' hi p => ?_) fun σ' H' p => ?_
    · have ek : (n : Int) - 1 + (i : Int) * -1 = ((n - 1 - i : Nat) : Int) := by omega
      have e1 : n - (i + 1) = n - 1 - i := by omega
      have e2 : n - i = n - 1 - i + 1 := by omega
      show tu { D with nx := Pv (n - (i + 1)), ct := Pv (n - (i + 1)), bk := D.nx } (σ'.set j (some (.int ((n : Int) - 1 + (i : Int) * -1)))) H'
      rw [ek, e1]
      exact hs (n - 1 - i) σ' H' (by omega) (by rw [← e2]; exact p)
    · rw [Nat.sub_self] at p
      exact hd σ' H' p⟩
theorem f_L {a : Addr} {xs : List V} {j : Nat} (hx : SqL K H a xs) (Pv : Nat → L2.St → Hp → Prop) (h0 : Pv 0 σ H) (hl : ∀ i σ' H', i ≤ xs.length → Pv i σ' H' → SqL K H' a xs)
    (hs : ∀ i x σ' H', xs[i]? = some x → Pv i σ' H' → tu { D with nx := Pv (i + 1), ct := Pv (i + 1), bk := D.nx } (σ'.set j (some x)) H')
    (hd : ∀ σ' H', Pv xs.length σ' H' → D.nx σ' H') (ht : ∀ Q : VK, Q (.ref a) H → te σ H Q) : tFor (iList K te) (gName j) tu D σ H :=
  ht _ ⟨a, rfl, ⟨xs, hx⟩, for_list Pv h0 hl hs hd⟩
theorem g_forL {j : Nat} (h : te σ H fun x H1 => ∃ a, x = .ref a ∧ (∃ xs, SqL K H1 a xs) ∧ ∃ W : Nat → Nat → L2.St → Hp → Prop, (∃ m, W 0 m σ H1) ∧ ∀ i m σ H, W i m σ H →
      ((Itl K a).stop i H ∧ D.nx σ H) ∨ ((Itl K a).go i H ∧ ∃ N : L2.St → Hp → Prop, (∀ σ' H', N σ' H' → ∃ m', m' < m ∧ W (i + 1) m' σ' H') ∧ ∀ x H', (Itl K a).yld i H x H' → gName j x σ H' fun σ2 H2 => tu { D with nx := N, ct := N, bk := D.nx } σ2 H2)) :
    tFor (iList K te) (gName j) tu D σ H := h
theorem f_L1 {a : Addr} {xs : List V} {j : Nat} (hx : SqL K H a xs) (Pv : Nat → L2.St → Hp → Prop) (h0 : Pv 0 σ H) (hl : ∀ i σ' H', i ≤ xs.length → Pv i σ' H' → SqL K H' a xs)
    (hs : ∀ i x σ' H', xs[i]? = some x → Pv i σ' H' → tu { D with nx := Pv (i + 1), ct := Pv (i + 1), bk := D.nx } (σ'.set j (some x)) H')
    (hd : ∀ σ' H', Pv xs.length σ' H' → D.nx σ' H') : ∃ a', V.ref a = .ref a' ∧ (∃ xs, SqL K H a' xs) ∧ ∃ W : Nat → Nat → L2.St → Hp → Prop, (∃ m, W 0 m σ H) ∧ ∀ i m σ H, W i m σ H →
      ((Itl K a').stop i H ∧ D.nx σ H) ∨ ((Itl K a').go i H ∧ ∃ N : L2.St → Hp → Prop, (∀ σ' H', N σ' H' → ∃ m', m' < m ∧ W (i + 1) m' σ' H') ∧ ∀ x H', (Itl K a').yld i H x H' → gName j x σ H' fun σ2 H2 => tu { D with nx := N, ct := N, bk := D.nx } σ2 H2) :=
  ⟨a, rfl, ⟨xs, hx⟩, for_list Pv h0 hl hs hd⟩
end
/-! heaps, lists -/
section
variable {K : PySem.W.Frag} {H H' H1 H2 : Hp} {a p q : Addr} {o : HO} {xs : List V}
theorem same_new (h : H p = none) : Same H (upd H p o) := fun b x e => by
  rw [upd_ne (ne_of_none e h)]; exact e
/-- what H does not know may change -/
theorem same_mut (e : Same H H') (h : H p = none) : Same H (upd H' p o) := fun b x hb => by
  rw [upd_ne (ne_of_none hb h)]; exact e b x hb
theorem upd_self (h : H p = some o) : upd H p o = H := by
  funext b
  by_cases e : b = p
  · rw [e, upd_same, h]
  · rw [upd_ne e]
theorem sq_of (h : H a = some (.lst xs)) : SqL K H a xs := .inl (.inl h)
theorem sqt_of (h : H a = some (.tup xs)) : SqT K H a xs := .inl (.inl h)
theorem seqT (e : Same H H') (h : SqT K H a xs) : SqT K H' a xs := by
  rcases h with (h | ⟨o, h⟩) | h
  · exact .inl (.inl (e _ _ h))
  · exact .inl (.inr ⟨o, e _ _ h⟩)
  · exact .inr h
/-- another address is written -/
theorem sq_upd (h : SqL K H a xs) (ne : a ≠ p) : SqL K (upd H p o) a xs := by
  rcases h with (h | ⟨o', h⟩) | h
  · exact .inl (.inl (by rw [upd_ne ne]; exact h))
  · exact .inl (.inr ⟨o', by rw [upd_ne ne]; exact h⟩)
  · exact .inr h
theorem at_int {ns : List Int} {k : Nat} (h : k < ns.length) : atI (ns.map V.int) (k : Int) = some (.int (ns.getD k 0)) := atI_nat (by
  rw [List.getElem?_map, List.getD_eq_getElem?_getD, List.getElem?_eq_getElem h]; rfl)
theorem at_val {ns : List Int} {k : Nat} {x : Int} (h : ns[k]? = some x) : atI (ns.map V.int) (k : Int) = some (.int x) := atI_nat (by rw [List.getElem?_map, h]; rfl)
theorem at_neg1 {ns : List Int} {x : Int} (h : ns[ns.length - 1]? = some x) : atI (ns.map V.int) (-1) = some (.int x) := by
  have hl := (List.getElem?_eq_some_iff.mp h).1
  unfold atI ixN
  rw [List.length_map, if_neg (by decide), if_pos (by omega)]
  show (ns.map V.int)[((-1 : Int) + (ns.length : Int)).toNat]? = _
  rw [show ((-1 : Int) + (ns.length : Int)).toNat = ns.length - 1 by omega, List.getElem?_map, h]
  rfl
theorem at_neg2 {ns : List Int} {x : Int} (h : ns[ns.length - 2]? = some x) (h2 : 2 ≤ ns.length := by omega) : atI (ns.map V.int) (-2) = some (.int x) := by
  unfold atI ixN
  rw [List.length_map, if_neg (by decide), if_pos (by omega)]
  show (ns.map V.int)[((-2 : Int) + (ns.length : Int)).toNat]? = _
  rw [show ((-2 : Int) + (ns.length : Int)).toNat = ns.length - 2 by omega, List.getElem?_map, h]
  rfl
theorem at_intZ {ns : List Int} {z : Int} (h0 : 0 ≤ z) (h : z < (ns.length : Int)) : atI (ns.map V.int) z = some (.int (ns.getD z.toNat 0)) := by
  have e : z = (z.toNat : Int) := by omega
  have l : z.toNat < ns.length := by omega
  have q := at_int l
  rw [← e] at q
  exact q
theorem getD_map {ns : List Int} {i : Nat} {x : V} (h : (ns.map V.int)[i]? = some x) : ∃ z, x = .int z ∧ ns[i]? = some z := by
  rw [List.getElem?_map] at h
  cases e : ns[i]? with
  | none => rw [e] at h; cases h
  | some z => rw [e] at h; exact ⟨z, (Option.some.inj h).symm, rfl⟩
theorem ixN_nat {n j : Nat} (hj : j < n) : ixN n (j : Int) = some j := by
  unfold ixN
  rw [if_pos (by omega), if_pos (by omega)]
  simp
theorem small_le {n : Nat} (h : n ≤ 100000) : n ≤ sizeLine := Nat.le_trans h (by decide)
theorem small_lt {n : Nat} (h : n < 100000) : n < sizeLine := Nat.lt_of_lt_of_le h (by decide)
end
/-! a def that may be called -/
structure Cal (P : Program) (w : World) (K : PySem.W.Frag) (mg : Str → Option Value) (base : Heap) (k : Nat) (x : Str) (ps : List Str) (sp : Sp) : Prop where
  ex : ∃ f fd, FnOk P w K mg base CX0 k f fd ps sp ∧ mg x = some (.ref f) ∧ PySem.W.keepIn K (.ref f) = true ∧ Binds K fd ps []
section
variable {X : Cx} {k j : Nat} {x : Str} {ps : List Str} {sp : Sp} {e : Expr} {es : List Expr} {t : TA} {p pos : Pos}
theorem pe_cal (c : Cal X.prog X.w X.K X.mg X.base k x ps sp) (hr : Room j X.A) (hk : k ≤ j) (ha : PA X (e :: es) t) (hg : Gl X x := by rfl) (hdb : (x == ("__debug__" : Str)) = false := by decide)
    (he : starEach (e :: es) X.env = (false, eval e X.env) :: starEach es X.env := by rfl) (hpl : (backTo pos (starEach es X.env)).any (·.1) = false := by rfl) :
    PE X (.Call (.Name x p) (e :: es) [] pos) (tCall sp [] E0 t) := by
  obtain ⟨f, fd, F, hm, hkp, hb⟩ := c.ex
  exact pe_call F (hr.mono hk) hg hm hkp hb .nil pass0 ha hdb he hpl
end
end Cj
namespace Cj
open PySem
/-- the built-in names that the text does not bind -/
structure Bn (mg : Str → Option Value) : Prop where
  m_len : mg "len" = none
  m_range : mg "range" = none
  m_list : mg "list" = none
  m_sum : mg "sum" = none
  m_min : mg "min" = none
  m_max : mg "max" = none
  m_isinstance : mg "isinstance" = none
  m_str : mg "str" = none
  m_int : mg "int" = none
  m_bool : mg "bool" = none
  m_tuple : mg "tuple" = none
  m_ValueError : mg "ValueError" = none
end Cj
namespace Cj
open PySem PySem.Spec PyProof.Rows L2
/-! readings by names -/
def rLn (K : PySem.W.Frag) : List V → Hp → VK → Prop := fun xs H Q => ∃ p ys, xs = [.ref p] ∧ (SqL K H p ys ∨ SqT K H p ys) ∧ Q (.int ys.length) H
def rLs (K : PySem.W.Frag) : List V → Hp → VK → Prop := fun xs H Q => ∃ p ys, xs = [.ref p] ∧ (SqL K H p ys ∨ SqT K H p ys) ∧ ∀ l, H l = none → Q (.ref l) (upd H l (.lst ys))
def rIsN : R2 := fun x y H Q => y = .non ∧ Q (.bl (decide (x = .non))) H
def rNotN : R2 := fun x y H Q => y = .non ∧ Q (.bl (!decide (x = .non))) H
section
variable {X : Cx}
theorem ix_listK {K : PySem.W.Frag} (h : X.K = K) : IxR X (rIxL K) := by
  rw [← h]; exact ix_list
theorem call_ln : CallR X (.builtin "len") (rLn X.K) := call_len_seq
theorem call_ls : CallR X (.type "list") (rLs X.K) := call_list_of
theorem op_is1 : OpR X (compareOp .Is) rIsN := op_isN
theorem op_isn1 : OpR X (compareOp .IsNot) rNotN := op_notN
end
section
variable {K : PySem.W.Frag} {H : Hp} {Q : VK}
theorem g_ln {p : Addr} {xs : List V} (h : SqL K H p xs) (q : Q (.int xs.length) H) : rLn K [.ref p] H Q := ⟨p, xs, rfl, .inl h, q⟩
theorem g_lnI {p : Addr} {ns : List Int} (h : SqL K H p (ns.map V.int)) (q : Q (.int ns.length) H) : rLn K [.ref p] H Q := ⟨p, _, rfl, .inl h, by rw [List.length_map]; exact q⟩
theorem g_lnT {p : Addr} {xs : List V} (h : SqT K H p xs) (q : Q (.int xs.length) H) : rLn K [.ref p] H Q := ⟨p, xs, rfl, .inr h, q⟩
theorem g_ls {p : Addr} {xs : List V} (h : SqL K H p xs) (q : ∀ l, H l = none → Q (.ref l) (upd H l (.lst xs))) : rLs K [.ref p] H Q := ⟨p, xs, rfl, .inl h, q⟩
theorem g_isN {x : V} (q : Q (.bl (decide (x = .non))) H) : rIsN x .non H Q := ⟨rfl, q⟩
theorem g_notN {x : V} (q : Q (.bl (!decide (x = .non))) H) : rNotN x .non H Q := ⟨rfl, q⟩
theorem g_app {l : Addr} {xs : List V} {y : V} (h : H l = some (.lst xs)) (hz : xs.length < sizeLine) (q : Q .non (upd H l (.lst (xs ++ [y])))) : rAppend (.ref l) [y] H Q := ⟨l, xs, y, rfl, rfl, h, hz, q⟩
theorem g_setL {l : Addr} {xs : List V} {k : Int} {j : Nat} {v : V} {R : Hp → Prop} (h : H l = some (.lst xs)) (hk : ixN xs.length k = some j) (q : R (upd H l (.lst (xs.set j v)))) : rSetL (.ref l) (.int k) v H R := ⟨l, xs, k, j, rfl, rfl, h, hk, q⟩
theorem g_sum {p : Addr} {ns : List Int} (h : SqL K H p (ns.map V.int)) (q : Q (.int ns.sum) H) : rSum K [.ref p] H Q := ⟨p, ns, rfl, h, q⟩
end
end Cj
namespace Cj
open PySem PySem.Spec PyProof.Rows L2
/-! comprehensions: G i is what stands behind i turns -/
section
variable {K : PySem.W.Frag} {σ : L2.St} {H : Hp} {te tl : TE} {tt : TT} {Q : VK} {tA : TA} {QB : Bool → Hp → Prop}
theorem g_yes (q : QB true H) : tYes σ H QB := q
theorem lc_end {D : Addr} {G : Nat → List V} {i : Nat} {y : V} (hs : (G i).length < sizeLine) (hG : G (i + 1) = G i ++ [y]) :
    ∃ acc, (upd H D (.lst (G i))) D = some (.lst acc) ∧ acc.length < sizeLine ∧ upd (upd H D (.lst (G i))) D (.lst (acc ++ [y])) = upd H D (.lst (G (i + 1))) :=
  ⟨G i, upd_same, hs, by rw [upd_upd, hG]⟩
theorem g_lcL {a : Addr} {xs : List V} {j : Nat} {vs : List Nat} (G : Nat → List V) (hG : G 0 = []) (hx : SqL K H a xs) (hw : ∀ x, wipe ((wipe σ vs).set j (some x)) vs = wipe σ vs)
    (hs : ∀ (i : Nat) (x : V) (D : Addr), xs[i]? = some x → H D = none → SqL K (upd H D (.lst (G i))) a xs → tt ((wipe σ vs).set j (some x)) (upd H D (.lst (G i))) fun b H3 =>
      if b = true then te ((wipe σ vs).set j (some x)) H3 fun y H4 => ∃ acc, H4 D = some (.lst acc) ∧ acc.length < sizeLine ∧ upd H4 D (.lst (acc ++ [y])) = upd H D (.lst (G (i + 1))) else H3 = upd H D (.lst (G (i + 1))))
    (q : ∀ D, H D = none → Q (.ref D) (upd H D (.lst (G xs.length)))) (ht : ∀ Q : VK, Q (.ref a) H → tl σ H Q) : tLc (iList K tl) (gName j) tt te vs σ H Q :=
  ht _ ⟨a, rfl, ⟨xs, hx⟩, fun D hD => lc_list (xs := xs) (fun i H' => H' = upd H D (.lst (G i))) (by rw [hG]) (fun i H' _ e => by rw [e]; exact (same_new hD).seq hx)
    (fun i x H' hi e => by rw [e]; exact ⟨hw x, hs i x D hi hD ((same_new hD).seq hx)⟩) (fun H' e => by rw [e]; exact q D hD)⟩
theorem g_lcR {j : Nat} {vs : List Nat} {n : Int} (G : Nat → List V) (hG : G 0 = []) (hn : -(2 ^ 62) ≤ n ∧ n < 2 ^ 62) (hw : ∀ x, wipe ((wipe σ vs).set j (some x)) vs = wipe σ vs)
    (hs : ∀ (i : Nat) (D : Addr), (i : Int) < n → H D = none → tt ((wipe σ vs).set j (some (.int (i : Int)))) (upd H D (.lst (G i))) fun b H3 =>
      if b = true then te ((wipe σ vs).set j (some (.int (i : Int)))) H3 fun y H4 => ∃ acc, H4 D = some (.lst acc) ∧ acc.length < sizeLine ∧ upd H4 D (.lst (acc ++ [y])) = upd H D (.lst (G (i + 1))) else H3 = upd H D (.lst (G (i + 1))))
    (q : ∀ D, H D = none → Q (.ref D) (upd H D (.lst (G n.toNat)))) (ht : ∀ Q : List V → Hp → Prop, Q [.int n] H → tA σ H Q) : tLc (iRng1 tA) (gName j) tt te vs σ H Q :=
  ht _ ⟨n, rfl, hn.1, hn.2, fun D hD => lc_range (lo := 0) (n := n.toNat) (fun i H' => H' = upd H D (.lst (G i))) (by rw [hG])
    (fun i H' hi e => by
      have e0 : (0 : Int) + (i : Int) = (i : Int) := Int.zero_add _
      show wipe ((wipe σ vs).set j (some (.int ((0 : Int) + (i : Int))))) vs = wipe σ vs ∧ tt ((wipe σ vs).set j (some (.int ((0 : Int) + (i : Int))))) H' _
      rw [e0, e]
      exact ⟨hw _, hs i D (by omega) hD⟩) (fun H' e => by rw [e]; exact q D hD)⟩
end
end Cj
namespace Cj
open PySem PySem.Spec PyProof.Rows L2
/-- a list of ints, as it stands -/
abbrev LI (ns : List Int) : HO := .lst (ns.map V.int)
/-- a new list of ints is given back -/
def RetL (xs : List Int) (H : Hp) (Q : VK) : Prop := ∀ (p : Addr) (H' : Hp), H p = none → Same H H' → H' p = some (LI xs) → Q (.ref p) H'
theorem LI_set (xs : List Int) (k : Nat) (v : Int) : (xs.map V.int).set k (.int v) = (xs.set k v).map V.int := List.map_set.symm
theorem LI_app (xs : List Int) (v : Int) : (xs.map V.int) ++ [.int v] = (xs ++ [v]).map V.int := by rw [List.map_append]; rfl
theorem LI_len (xs : List Int) : (xs.map V.int).length = xs.length := List.length_map _
end Cj
namespace Cj
open PySem PySem.Spec PyProof.Rows L2
/-! isinstance -/
section
variable {K : PySem.W.Frag} {H : Hp} {Q : VK}
theorem g_isInt {i : Int} (q : Q (.bl true) H) : rIsi K [.int i, .ty "int"] H Q := ⟨.int i, .ty "int", .type "int", .type "int", true, rfl, .ty _, .base (.int i), kit_ty (by decide +kernel), q⟩
theorem g_isIB {i : Int} (q : Q (.bl false) H) : rIsi K [.int i, .ty "bool"] H Q := ⟨.int i, .ty "bool", .type "int", .type "bool", false, rfl, .ty _, .base (.int i), kit_ty (by decide +kernel), q⟩
theorem g_isLst {a : Addr} {xs : List V} (h : H a = some (.lst xs)) (q : Q (.bl true) H) : rIsi K [.ref a, .ty "list"] H Q := ⟨.ref a, .ty "list", .type "list", .type "list", true, rfl, .ty _, .base (.lst h), kit_ty (by decide +kernel), q⟩
theorem g_isTup {a : Addr} {xs : List V} (h : H a = some (.tup xs)) (q : Q (.bl true) H) : rIsi K [.ref a, .ty "tuple"] H Q := ⟨.ref a, .ty "tuple", .type "tuple", .type "tuple", true, rfl, .ty _, .base (.tup h), kit_ty (by decide +kernel), q⟩
theorem g_isStr {z : Str} (q : Q (.bl true) H) : rIsi K [.str z, .ty "str"] H Q := ⟨.str z, .ty "str", .type "str", .type "str", true, rfl, .ty _, .base (.str z), kit_ty (by decide +kernel), q⟩
theorem g_isNT (q : Q (.bl false) H) : rIsi K [.non, .ty "tuple"] H Q := ⟨.non, .ty "tuple", .type "NoneType", .type "tuple", false, rfl, .ty _, .base .non, kit_ty (by decide +kernel), q⟩
end
end Cj
namespace Cj
open PySem PySem.Spec PyProof.Rows L2
/-! slices, lists joined -/
section
variable {K : PySem.W.Frag} {σ : L2.St} {H : Hp} {te : TE} {tl th : TO} {Q : VK} {QO : Option Int → Hp → Prop}
theorem g_sl {r : V → Option Int → Option Int → Hp → VK → Prop} (h : te σ H fun x H1 => tl σ H1 fun l H2 => th σ H2 fun u H3 => r x l u H3 Q) : tSl r te tl th σ H Q := h
theorem g_part (h : te σ H fun x H1 => ∃ i, x = .int i ∧ QO (some i) H1) : tPart te σ H QO := h
theorem g_nopart (h : QO none H) : tNoPart σ H QO := h
theorem g_int {i : Int} {P : Int → Prop} (q : P i) : ∃ k, V.int i = V.int k ∧ P k := ⟨i, rfl, q⟩
theorem g_slL {a : Addr} {xs : List V} {lo hi : Option Int} (h : SqL K H a xs) (q : ∀ p, H p = none → Q (.ref p) (upd H p (.lst (cutV xs lo hi)))) : rSlL K (.ref a) lo hi H Q := ⟨a, xs, rfl, h, q⟩
theorem g_cat {l b : Addr} {xs zs : List V} (h1 : H l = some (.lst xs)) (h2 : H b = some (.lst zs)) (hs : xs.length + zs.length ≤ sizeLine) (q : ∀ p, H p = none → Q (.ref p) (upd H p (.lst (xs ++ zs)))) : rCat (.ref l) (.ref b) H Q := ⟨l, b, xs, zs, rfl, rfl, h1, h2, hs, q⟩
theorem cut_from (xs : List V) (k : Nat) : cutV xs (some (k : Int)) none = xs.drop k := by
  unfold cutV
  rw [HT.sIx_nat, HT.sIx_none]
  by_cases h : k ≤ xs.length
  · rw [Nat.min_eq_left h, List.take_of_length_le (by rw [List.length_drop]; exact Nat.le_refl _)]
  · rw [Nat.min_eq_right (by omega), List.drop_length, List.drop_eq_nil_of_le (by omega), List.take_nil]
theorem cut_to (xs : List V) (k : Nat) : cutV xs none (some (k : Int)) = xs.take k := by
  unfold cutV
  rw [HT.sIx_nat, HT.sIx_none, List.drop_zero, Nat.sub_zero]
  by_cases h : k ≤ xs.length
  · rw [Nat.min_eq_left h]
  · rw [Nat.min_eq_right (by omega), List.take_length, List.take_of_length_le (by omega)]
theorem cut_last (xs : List V) : cutV xs none (some (-1)) = xs.take (xs.length - 1) := by
  have e : HT.sIx xs.length xs.length (some (-1)) = xs.length - 1 := by
    show (if (-1 : Int) < 0 then ((-1 : Int) + (xs.length : Int)).toNat else min (-1 : Int).toNat xs.length) = xs.length - 1
    rw [if_pos (by decide)]
    omega
  unfold cutV
  rw [HT.sIx_none, List.drop_zero, Nat.sub_zero, e]
end
end Cj
namespace Cj
open PySem PySem.Spec PyProof.Rows L2
/-! two lists of ints compared -/
theorem eqv_ints : ∀ ns ms : List Int, PyData.eqvAll (ns.map PyData.int) (ms.map PyData.int) = decide (ns = ms)
  | [], [] => rfl
  | [], _ :: _ => rfl
  | _ :: _, [] => rfl
  | x :: xs, y :: ys => by
    show ((x == y) && PyData.eqvAll (xs.map PyData.int) (ys.map PyData.int)) = _
    rw [eqv_ints xs ys, Bool.eq_iff_iff]
    simp
section
variable {K : PySem.W.Frag} {H : Hp} {Q : VK}
theorem dp_ints : ∀ ns : List Int, DpAll K H (ns.map V.int) (ns.map PyData.int)
  | [] => .nil
  | x :: xs => .cons (.int x) (dp_ints xs)
theorem g_eqL {a b : Addr} {ns ms : List Int} (ha : SqL K H a (ns.map V.int)) (hb : SqL K H b (ms.map V.int)) (q : Q (.bl (decide (ns = ms))) H) : rEqD K (.ref a) (.ref b) H Q :=
  ⟨_, _, .lst ha (dp_ints ns), .lst hb (dp_ints ms), PySem.W.shaped_ints ns, PySem.W.shaped_ints ms, by
    show Q (.bl (PyData.eqvAll (ns.map PyData.int) (ms.map PyData.int))) H
    rw [eqv_ints]
    exact q⟩
theorem g_neL {a b : Addr} {ns ms : List Int} (ha : SqL K H a (ns.map V.int)) (hb : SqL K H b (ms.map V.int)) (q : Q (.bl (!decide (ns = ms))) H) : rNeD K (.ref a) (.ref b) H Q :=
  ⟨_, _, .lst ha (dp_ints ns), .lst hb (dp_ints ms), PySem.W.shaped_ints ns, PySem.W.shaped_ints ms, by
    show Q (.bl (!PyData.eqvAll (ns.map PyData.int) (ms.map PyData.int))) H
    rw [eqv_ints]
    exact q⟩
theorem g_eqS {a b : Addr} {ns : List Int} (ha : SqL K H a (ns.map V.int)) (hb : SqL K H b (ns.map V.int)) (q : Q (.bl true) H) : rEqD K (.ref a) (.ref b) H Q := g_eqL ha hb (by rw [decide_eq_true rfl]; exact q)
theorem g_neS {a b : Addr} {ns : List Int} (ha : SqL K H a (ns.map V.int)) (hb : SqL K H b (ns.map V.int)) (q : Q (.bl false) H) : rNeD K (.ref a) (.ref b) H Q := g_neL ha hb (by rw [decide_eq_true rfl]; exact q)
end
end Cj
namespace Cj
open PySem PySem.Spec PyProof.Rows L2
/-! new objects, the heap behind them by a name -/
section
variable {K : PySem.W.Frag} {H H' : Hp} {Q : VK} {p : Addr} {o : HO}
theorem same_of (e : upd H p o = H') (hp : H p = none) : Same H H' := by
  rw [← e]; exact same_new hp
theorem at_upd (e : upd H p o = H') : H' p = some o := by
  rw [← e]; exact upd_same
theorem g_slN {a : Addr} {xs ys : List V} {lo hi : Option Int} (h : SqL K H a xs) (e : cutV xs lo hi = ys) (q : ∀ p H', H p = none → Same H H' → H' p = some (.lst ys) → Q (.ref p) H') : rSlL K (.ref a) lo hi H Q :=
  g_slL h fun p hp => by
    rw [e]
    exact q p _ hp (same_new hp) upd_same
theorem g_catN {l b : Addr} {xs zs ys : List V} (h1 : H l = some (.lst xs)) (h2 : H b = some (.lst zs)) (hs : xs.length + zs.length ≤ 100000) (e : xs ++ zs = ys) (q : ∀ p H', H p = none → Same H H' → H' p = some (.lst ys) → Q (.ref p) H') : rCat (.ref l) (.ref b) H Q :=
  g_cat h1 h2 (small_le hs) fun p hp => by
    rw [e]
    exact q p _ hp (same_new hp) upd_same
theorem g_lsN {a : Addr} {xs : List V} (h : SqL K H a xs) (q : ∀ p H', H p = none → Same H H' → H' p = some (.lst xs) → Q (.ref p) H') : rLs K [.ref a] H Q := g_ls h fun p hp => q p _ hp (same_new hp) upd_same
end
end Cj
namespace Cj
open PySem PySem.Spec PyProof.Rows L2
/-! texts -/
def rCatS : R2 := fun x y H Q => ∃ i j, x = .str i ∧ y = .str j ∧ i.length + j.length ≤ sizeLine ∧ Q (.str (i ++ j)) H
def rStrI : List V → Hp → VK → Prop := fun xs H Q => ∃ i, xs = [.int i] ∧ i.natAbs.log2 < 1920 ∧ Q (.str (Str.ofString (toString i))) H
def rLnS : List V → Hp → VK → Prop := fun xs H Q => ∃ z, xs = [.str z] ∧ z.length ≤ sizeLine ∧ Q (.int z.length) H
section
variable {X : Cx}
theorem op_catS : OpR X (binaryOp .Add) rCatS := op_add_str
theorem call_strI : CallR X (.type "str") rStrI := call_str_int
theorem call_lnS : CallR X (.builtin "len") rLnS := call_len_str
end
section
variable {K : PySem.W.Frag} {H : Hp} {Q : VK}
theorem g_catS {i j : Str} (h : i.length + j.length ≤ 100000) (q : Q (.str (i ++ j)) H) : rCatS (.str i) (.str j) H Q := ⟨i, j, rfl, rfl, small_le h, q⟩
theorem g_strI {i : Int} (h : i.natAbs < 2 ^ 1900) (q : Q (.str (Str.ofString (toString i))) H) : rStrI [.int i] H Q := ⟨i, rfl, Nat.lt_trans (PySem.Flt.log2_lt_of (by decide) h) (by decide), q⟩
theorem g_lnS {z : Str} (h : z.length ≤ 100000) (q : Q (.int z.length) H) : rLnS [.str z] H Q := ⟨z, rfl, small_le h, q⟩
theorem g_eqS' {i j : Str} (q : Q (.bl (decide (i = j))) H) : rEq (.str i) (.str j) H Q := ⟨rfl, by
  have e : decide (V.str i = V.str j) = decide (i = j) := by simp
  rw [e]; exact q⟩
theorem g_neS' {i j : Str} (q : Q (.bl (!decide (i = j))) H) : rNe (.str i) (.str j) H Q := ⟨rfl, by
  have e : decide (V.str i = V.str j) = decide (i = j) := by simp
  rw [e]; exact q⟩
end
def rJn (K : PySem.W.Frag) : V → List V → Hp → VK → Prop := fun x xs H Q => ∃ a p, ∃ ys : List Str, x = .str a ∧ xs = [.ref p] ∧ (SqL K H p (ys.map V.str) ∨ SqT K H p (ys.map V.str)) ∧ (ys.map (·.length)).sum + ys.length * a.length ≤ 16777216 ∧ Q (.str (Txt.join a ys)) H
def rSplt : V → List V → Hp → VK → Prop := fun x xs H Q => ∃ a b, x = .str a ∧ xs = [.str b] ∧ (b.length == 0) = false ∧ a.length + 2 ≤ sizeLine ∧ rNewStrs (Txt.split a b) H Q
theorem mt_jn {X : Cx} : MtR X "str.join" (rJn X.K) := mt_join
theorem mt_splt {X : Cx} : MtR X "str.split" rSplt := mt_split
section
variable {K : PySem.W.Frag} {σ : L2.St} {H : Hp} {to te : TE} {Q : VK}
theorem g_m1 {r : V → List V → Hp → VK → Prop} (h : to σ H fun x H1 => (∃ a, x = .str a) ∧ te σ H1 fun y H2 => r x [y] H2 Q) : tM1 r to te σ H Q := h
theorem g_m0 {r : V → List V → Hp → VK → Prop} (h : to σ H fun x H1 => (∃ a, x = .str a) ∧ r x [] H1 Q) : tM0 r to σ H Q := h
theorem g_strV {z : Str} {P : Prop} (h : P) : (∃ a, V.str z = V.str a) ∧ P := ⟨⟨z, rfl⟩, h⟩
theorem g_jn {a : Str} {p : Addr} {ys : List Str} (h : SqL K H p (ys.map V.str)) (hz : (ys.map (·.length)).sum + ys.length * a.length ≤ 100000) (q : Q (.str (Str.join a ys)) H) : rJn K (.str a) [.ref p] H Q :=
  ⟨a, p, ys, rfl, rfl, .inl h, Nat.le_trans hz (by decide), by rw [TL.join_eq]; exact q⟩
end
/-- a number as a text -/
def nst (i : Int) : Str := Str.ofString (toString i)
theorem nst_len {i : Int} {k : Nat} (h0 : 0 ≤ i) (hk : 0 < k) (h : i < 10 ^ k) : (nst i).length ≤ k := PyProof.Rows.toString_length_le h0 hk h
theorem slen_app (a b : Str) : (a ++ b).length = a.length + b.length := Str.length_append a b
end Cj

local macro_rules | `(tactic| walk_at "go1") => `(tactic| first
  | (with_reducible refine Cj.g_seq ?_)
  | (with_reducible refine Cj.g_nx ?_)
  | (with_reducible refine Cj.g_rt ?_)
  | (with_reducible refine Cj.g_asg ?_)
  | (with_reducible refine Cj.g_name ?_)
  | (with_reducible refine Cj.g_op ?_)
  | (with_reducible refine Cj.g_c ?_)
  | ((with_reducible apply Cj.g_var); (case h => exact rfl))
  | (with_reducible refine Cj.g_I0 ?_)
  | (with_reducible refine Cj.g_cons ?_)
  | (with_reducible refine Cj.g_nil ?_)
  | (with_reducible refine Cj.g_cb ?_)
  | (with_reducible refine Cj.g_call ?_)
  | (with_reducible refine Cj.g_un ?_)
  | (with_reducible refine Cj.g_U ?_)
  | (with_reducible refine Cj.g_tTest ?_)
  | (with_reducible refine Cj.g_tB ?_)
  | (with_reducible refine Cj.g_bl ?_)
  | (with_reducible refine Cj.g_if ?_)
  | (with_reducible refine Cj.g_and ?_)
  | (with_reducible refine Cj.g_or ?_)
  | (with_reducible refine Cj.g_not ?_)
  | (with_reducible refine Cj.g_andV ?_)
  | (with_reducible refine Cj.g_orV ?_)
  | (with_reducible refine Cj.g_notV ?_)
  | (with_reducible refine Cj.g_eqI ?_)
  | (with_reducible refine Cj.g_neI ?_)
  | (with_reducible refine Cj.g_drop ?_)
  | (with_reducible refine Cj.g_ret ?_)
  | (with_reducible refine Cj.g_retN ?_)
  | (with_reducible refine Cj.g_next ?_)
  | (with_reducible refine Cj.g_sub ?_)
  | (with_reducible refine Cj.g_bm ?_)
  | (with_reducible refine Cj.g_bm0 ?_)
  | (with_reducible refine Cj.g_tup ?_)
  | (with_reducible refine Cj.g_lst ?_)
  | (with_reducible refine Cj.g_isN ?_)
  | (with_reducible refine Cj.g_m1 ?_)
  | (with_reducible refine Cj.g_m0 ?_)
  | (with_reducible refine Cj.g_strV ?_)
  | (with_reducible refine Cj.g_eqS' ?_)
  | (with_reducible refine Cj.g_neS' ?_)
  | (with_reducible refine Cj.g_sl ?_)
  | (with_reducible refine Cj.g_part ?_)
  | (with_reducible refine Cj.g_nopart ?_)
  | (with_reducible refine Cj.g_int ?_)
  | (with_reducible refine Cj.g_yes ?_)
  | (with_reducible refine L2.iteT ?_)
  | (with_reducible refine Cj.g_iteNT ?_)
  | (with_reducible refine Cj.g_iteNF ?_)
  | (with_reducible refine L2.iteF ?_)
  | (with_reducible refine Cj.g_notN ?_)
  | (with_reducible refine Cj.g_isInt ?_)
  | (with_reducible refine Cj.g_isIB ?_)
  | (with_reducible refine Cj.g_isStr ?_)
  | ((with_reducible apply Cj.g_I); (case c => first | (show (0 : Int) < _; decide) | exact ⟨by decide, by decide⟩ | exact ⟨by decide, by decide, by decide⟩))
  | ((with_reducible apply Cj.g_lnI); (case h => assumption)))
local macro_rules | `(tactic| walk_at "go") => `(tactic| repeat walk_at "go1")
namespace Cj
open PySem PySem.Spec PyProof.Rows L2
/-! the five refusals: the class at D is one of them -/
/-- what the class at D says of itself (C: CoinError) -/
structure ExD (K : PySem.W.Frag) (mg : Str → Option Value) (R W A G T C D : Addr) (nD : Str) (b1 b2 b3 b4 b5 : Bool) : Prop where
  ec : ExcC K D
  nR : mg "NoRow" = some (.ref R)
  nW : mg "NoWay" = some (.ref W)
  nA : mg "NoAmount" = some (.ref A)
  nG : mg "TooGreat" = some (.ref G)
  nT : mg "NoText" = some (.ref T)
  nC : mg "CoinError" = some (.ref C)
  nD : mg nD = some (.ref D)
  q1 : PySem.W.kitOne K (.ref D) (.ref R) = some b1
  q2 : PySem.W.kitOne K (.ref D) (.ref W) = some b2
  q3 : PySem.W.kitOne K (.ref D) (.ref A) = some b3
  q4 : PySem.W.kitOne K (.ref D) (.ref G) = some b4
  q5 : PySem.W.kitOne K (.ref D) (.ref T) = some b5
  qV : PySem.W.kitOne K (.ref D) (.type "ValueError") = some true
  one : List.count true [b1, b2, b3, b4, b5] = 1
  mD : PySem.W.exmOne K (.ref D) (.ref D) = some true
  mC : PySem.W.exmOne K (.ref D) (.ref C) = some true
  ki : PySem.W.keepIn K (.ref D) = true
  ri : PySem.W.subIn K (.ref D) (.type "BaseException") = some true
  rt : PySem.W.typeIn K (.ref D) = some (.type "type")
  ex : PySem.W.excIn K D [.type "ValueError", .type "Exception", .type "BaseException", .type "object"] "ValueError.__new__" = true
def RunP (P : Program) (w : World) (K : PySem.W.Frag) (mg : Str → Option Value) (base : Heap) (k : Nat) (f : Addr) (fd : FuncData) (ps : List Str) (sp : Value → Option Addr → Hp → VK → Prop) : Prop :=
  ∀ (p : Addr × Obj) (cls : Value) (d : Option Addr) (A : Around) (outer : List Env) (s : Shared) (H : Hp) (args : Args) (us : List Value) (Q : VK), Zc cls d p.2 → (∃ fs, p.2.data = .fields fs) → L2H.RoomH k A → L2H.PinOk outer H s p → Env0 P w K mg base A outer s H →
    BindsTo s fd args (ps.zip us) → Vals [V.ref p.1] us → sp cls d H Q → codeAny (model P w) A (.call (.ref f) args) (CR CX0 outer P w H s Q E0) s
/-- a def that may be called where an exception is handled; it is handed that exception -/
structure CalP (P : Program) (w : World) (K : PySem.W.Frag) (mg : Str → Option Value) (base : Heap) (k : Nat) (x : Str) (ps : List Str) (sp : Value → Option Addr → Hp → VK → Prop) : Prop where
  ex : ∃ f fd, RunP P w K mg base k f fd ps sp ∧ mg x = some (.ref f) ∧ PySem.W.keepIn K (.ref f) = true ∧ Binds K fd ps [] ∧ ps.length = 1
/-- the same for a def that may raise -/
structure CalR (P : Program) (w : World) (K : PySem.W.Frag) (mg : Str → Option Value) (base : Heap) (k : Nat) (x : Str) (ps : List Str) (sp : Sp) : Prop where
  ex : ∃ f fd, FnOk P w K mg base (L2.CX P w) k f fd ps sp ∧ mg x = some (.ref f) ∧ PySem.W.keepIn K (.ref f) = true ∧ Binds K fd ps []
def rIsX (K : PySem.W.Frag) (cls : Value) (d : Option Addr) (a : Addr) : List V → Hp → VK → Prop := fun xs H Q => ∃ (D : Addr) (c : V) (cv : Value) (b : Bool), cls = .ref D ∧ d = none ∧ ExcC K D ∧ xs = [.ref a, c] ∧ (∀ u, RelV c u → u = cv) ∧ PySem.W.kitOne K (.ref D) cv = some b ∧ Q (.bl b) H
def tCalP (sp : Value → Option Addr → Hp → VK → Prop) (a : Addr) (cls : Value) (d : Option Addr) (te : TE) : TE := fun σ H Q => te σ H fun v H1 => v = .ref a ∧ sp cls d H1 Q
section
variable {X : Cx} {k j : Nat} {x : Str} {ps : List Str} {e : Expr} {es : List Expr} {t : TA} {te : TE} {p pos : Pos} {cls : Value} {d : Option Addr} {o : Addr × Obj}
theorem call_isX {K : PySem.W.Frag} {a : Addr} (eK : X.K = K) (ea : o.1 = a) (ho : o ∈ X.pn) (hz : Zc cls d o.2) (hf : ∃ fs, o.2.data = .fields fs) : CallR X (.builtin "isinstance") (rIsX K cls d a) := fun pins s σ H xs us Q I r h => by
  subst eK ea
  obtain ⟨D, c, cv, b, rfl, rfl, C, rfl, hcv, hb, q⟩ := h
  obtain ⟨u1, us1, rfl, r1, rr⟩ : ∃ u1 us1, us = u1 :: us1 ∧ RelV (.ref o.1) u1 ∧ Vals [c] us1 := by
    cases r with
    | cons r1 rr => exact ⟨_, _, rfl, r1, rr⟩
  obtain ⟨u2, rfl, r2⟩ := rr.one
  cases r1
  cases (hcv _ r2)
  have pinned := (I.pin o (List.mem_append_left _ ho)).1
  have at1 : PySem.W.InstAt s.heap o.1 o.2 D none := ⟨pinned, hz.1, by
    obtain ⟨fs, hfs⟩ := hf
    unfold PySem.W.notCls
    rw [hfs] <;> rfl, by
    rw [hz.2]
    trivial⟩
  have kit := PySem.W.handS_kitx_exc (x := o.1) (ox := o.2) C.hg C.hk C.hs C.hd C.ha C.hn C.ht C.hm
  exact PySem.W.kia_one kit I.kIn at1 hb (fun y => nomatch y) fun tk => ⟨V.bl b, H, I.kept (t' := tk) (fun _ _ same => same), rfl, q⟩
theorem room_up {A : Around} {v : Option Value} (r : Room j A) : L2H.RoomH j (A.mark v) := ⟨r.dp, r.un⟩
theorem pe_calP {sp : Value → Option Addr → Hp → VK → Prop} {a : Addr} (c : CalP X.prog X.w X.K X.mg X.base k x ps sp) (ea : o.1 = a) (ho : o ∈ X.pn) (hz : Zc cls d o.2) (hf : ∃ fs, o.2.data = .fields fs) (hr : L2H.RoomH j X.A) (hk : k ≤ j) (he : PE X e te) (hg : Gl X x := by rfl) (hdb : (x == ("__debug__" : Str)) = false := by decide)
    (hs : starEach (e :: []) X.env = (false, eval e X.env) :: starEach [] X.env := by rfl) (hpl : (backTo pos (starEach [] X.env)).any (·.1) = false := by rfl) :
    PE X (.Call (.Name x p) [e] [] pos) (tCalP sp a cls d te) := by
  subst ea
  obtain ⟨f, fd, run, hm, hkp, hb, h1⟩ := c.ex
  refine ⟨fun pins s σ H Q I h => wpAny_Call_Name_kw (ld_glob I hg hm ?_ hdb)⟩
  have ha : PA X [e] (tCons te tNil) := pa_cons he pa_nil hs
  refine PySem.W.callWith_K (h₀ := X.base) I.ok.mod.kin hkp (thn (ha.run pos pins s σ H (fun vs H1 => vs = [V.ref o.1] ∧ sp cls d H1 Q) I ?_) fun us s1 hh => ?_) hs hpl
  · refine (show tCons te tNil σ H _ from ?_)
    show te σ H fun v H1 => [v] = [V.ref o.1] ∧ sp cls d H1 Q
    have e2 : (fun v H1 => [v] = [V.ref o.1] ∧ sp cls d H1 Q) = (fun v H1 => v = V.ref o.1 ∧ sp cls d H1 Q) := by
      funext v H1
      simp
    rw [e2]
    exact h
  · obtain ⟨vs, H1, I1, r, ev, q⟩ := hh
    refine ⟨I1.kIn, ?_⟩
    rw [ev] at r
    have pinned := I1.pin o (List.mem_append_left _ ho)
    have far : o.1 ∉ frs X.stack := fun hm => by
      rcases List.mem_cons.mp (I1.stkSub o.1 hm) with z | z
      · exact pinned.2.2.1 z
      · exact pinned.2.2.2.1 z
    have ok : L2H.PinOk X.stack H1 s1 o := ⟨pinned.1, pinned.2.1, far, pinned.2.2.2.2⟩
    have hl : us.length = ps.length := by rw [← r.length, h1]; rfl
    have b := hb s1 us I1.kIn (by rw [List.append_nil]; exact hl)
    rw [List.append_nil] at b
    refine wpAny_call (codeAny_mono (run o cls d X.A X.stack s1 H1 ⟨us, []⟩ us Q hz hf ⟨by have := hr.dp; omega, by have := hr.un; omega⟩ ok I1.env0 b r q) fun rs s' hq => ?_)
    match rs, hq with
    | .ok (.ret u), hq => exact I1.after hq
    | .ok .next, hq => exact hq.elim
    | .ok .brk, hq => exact hq.elim
    | .ok .cont, hq => exact hq.elim
    | .error _, hq => exact hq.elim
theorem pe_calR {sp : Sp} {W : WX} (c : CalR X.prog X.w X.K X.mg X.base k x ps sp) (tk : L2.Takes X W) (hr : Room j X.A) (hk : k ≤ j) (ha : PA X (e :: es) t) (hg : Gl X x := by rfl) (hdb : (x == ("__debug__" : Str)) = false := by decide)
    (he : starEach (e :: es) X.env = (false, eval e X.env) :: starEach es X.env := by rfl) (hpl : (backTo pos (starEach es X.env)).any (·.1) = false := by rfl) :
    PE X (.Call (.Name x p) (e :: es) [] pos) (tCallS sp (WE W) t) := by
  obtain ⟨f, fd, F, hm, hkp, hb⟩ := c.ex
  exact pe_callS F (hr.mono hk) hg hm hkp hb (fun σ => passAt tk σ) ha hdb he hpl
end
/-! counting what is true -/
def isT (v : Value) : Bool := match v with
  | .bool b => b
  | _ => false
theorem isT_eq (b : Bool) : MeetsSeq.EqGives (.bool b) (.bool true) b := by
  intro prog w A E s Q h
  have z := PySem.SeqAt.EqAt.bool_bool (A := A) (s := s) b true prog w E Q
  cases b with
  | true => exact z h
  | false => exact z h
def rCntB (K : PySem.W.Frag) : V → List V → Hp → VK → Prop := fun x xs H Q => ∃ (p : Addr) (bs : List Bool), x = .ref p ∧ xs = [.bl true] ∧ SqL K H p (bs.map V.bl) ∧ Q (.int (bs.count true : Nat)) H
theorem vals_bl : ∀ {bs : List Bool} {us : List Value}, Vals (bs.map V.bl) us → us = bs.map Value.bool
  | [], _, r => by cases r; rfl
  | b :: bs, _, r => by
    cases r with
    | cons r1 rr =>
      cases r1
      rw [vals_bl rr] <;> rfl
theorem cnt_bl : ∀ bs : List Bool, (bs.map Value.bool).countP isT = bs.count true
  | [] => rfl
  | b :: bs => by
    rw [List.map_cons, List.countP_cons, List.count_cons, cnt_bl bs]
    cases b <;> rfl
theorem mt_cntB {X : Cx} : MtR X "list.count" (rCntB X.K) := fun pins s σ H x xs v us Q I rx rxs h => by
  obtain ⟨p, bs, rfl, rfl, hs, q⟩ := h
  cases rx
  obtain ⟨u, rfl, ru⟩ := rxs.one
  cases ru
  obtain ⟨its, rv, ⟨⟨cls, dd, data, sl⟩, n, ho, hc, hdn, hd⟩, _⟩ := I.list hs
  dsimp only at hc hd
  subst hc hd
  cases (vals_bl rv)
  have eqs : ∀ y, y ∈ (bs.map Value.bool).toArray → MeetsSeq.EqGives y (.bool true) (isT y) := fun y hy => by
    obtain ⟨b, _, rfl⟩ := List.mem_map.mp (by simpa using hy : y ∈ bs.map Value.bool)
    exact isT_eq b
  have many : (bs.map Value.bool).toArray.toList.countP isT = bs.count true := cnt_bl bs
  refine call_meets PySem.F.slot_list_count ⟨_, ho, rfl⟩ PySem.F.entry_list_count (PySem.F.args_list_count_2 _ _)
    (SeqAt.list_countAt p (bs.map Value.bool).toArray n dd sl (.bool true) isT) ⟨ho, fun y hy => (eqs y hy).at _ _, ?_⟩
  refine ⟨V.int (bs.count true : Nat), H, I.tok _, ⟨s.toks, ?_⟩, q⟩
  rw [← many] <;> rfl

/-! a def that is handed the exception -/
theorem run_ofP {P : Program} {w : World} {K : PySem.W.Frag} {mg : Str → Option Value} {base : Heap} {k : Nat} {x qual : Str} {st : Stmt} {f : Addr} {fd : FuncData} {N ps : List Str} {sp : Value → Option Addr → Hp → VK → Prop} (F : Fun K x qual st f fd) (S : FnScope N ps (defScope st)) (h1 : ps.length = 1)
    (hbody : ∀ (o : Addr × Obj) (cls : Value) (d : Option Addr) (cdv : Value) (A : Around) (outer : List Env) (s : Shared) (H : Hp) (Q : VK), Zc cls d o.2 → (∃ fs, o.2.data = .fields fs) → L2H.RoomH k (A.deeper (envOfC qual (defScope st) s.heap.objs.size f cdv)) → sp cls d H Q →
      ∃ t, PSs (L2H.cxH CX0 P w K mg base N qual (defScope st) f cdv A outer s H E0 o) (defBody st) t ∧ t { nx := fun _ H' => Q .non H', rt := Q } (start N [.ref o.1]) H) : RunP P w K mg base (k + 1) f fd ps sp := by
  obtain ⟨oc, od, kV, doc, pm, an, cdv, ct, osl, rfl, look, code⟩ := F.ex
  intro o cls d A outer s H args us Q hz hf room pinned e0 bound rs hsp
  have stand : ∀ b u, base.get? b = some u → s.heap.get? b = some u := fun b u z => (e0.bs b u z).1
  have KX : K.In s.heap := e0.mod.kin.keeps stand
  have kinds : ∀ y ∈ ps.zip us, (defScope st).names.lookup y.1 = some .local ∨ ((defScope st).names.lookup y.1 = some .cell ∧ ((cellsFrom (s.heap.objs.size + 1) (defScope st).names []).lookup y.1).isSome = true) := by
    rintro ⟨n, v⟩ hy
    have z := S.par n (List.of_mem_zip hy).1
    rcases z with z | z
    · exact .inl z
    · exact .inr ⟨z, PySem.W.cellsFrom_some _ _ _ (.inl z)⟩
  refine codeAny_call_function room.depth (KX _ _ look) rfl S.co S.gen rfl (PySem.W.codeRec_of KX code) (bound _ _ _ _ ?_)
  refine wpAny_newFunctionEnv_cells S.kind kinds fun env made s1 xc => ?_
  cases made
  refine ⟨(e0.mod.nolimit.keeps stand).keeps xc.toInCall.keep, codeAny_func ?_⟩
  obtain ⟨t, ht, hq⟩ := hbody o cls d cdv A outer s H Q hz hf (room.deeper _) hsp
  have J0 := L2H.inv_startH (CX := CX0) (E := E0) S pinned e0 (show [V.ref o.1].length = ps.length by rw [h1]; rfl) rs xc
  refine wpAny_mono (ht.run [] s1 (L2.start N [.ref o.1]) H _ J0 hq) (fun fl s' hs => ?_) fun _ _ z => z
  match fl, hs with
  | .ret _, ⟨v, _, H', J, rv, q⟩ => exact ⟨v, H', J.os, J.bare, J.base, J.hok, rv, q⟩
  | .next, ⟨_, H', J, q⟩ => exact ⟨V.non, H', J.os, J.bare, J.base, J.hok, rfl, q⟩
  | .brk, ⟨_, _, _, q⟩ => exact q.elim
  | .cont, ⟨_, _, _, q⟩ => exact q.elim
end Cj

/-! # What the defs compute, as plain functions -/
namespace Cj
/-- what is still due behind the coins cs (the least one first), the greatest given first -/
def rs : List Int → Int → Int
  | [], a => a
  | c :: cs, a => rs cs a % c
/-- the first way -/
def fw : List Int → Int → List Int
  | [], _ => []
  | c :: cs, a => rs cs a / c :: fw cs a
def dot : List Int → List Int → Int
  | c :: cs, v :: vs => c * v + dot cs vs
  | _, _ => 0
/-- a row of coins -/
structure Row (cs : List Int) : Prop where
  len : cs.length ≤ 12
  hd : cs[0]? = some 1
  up : ∀ (i : Nat) (x y : Int), cs[i]? = some x → cs[i + 1]? = some y → x < y
  top : ∀ x ∈ cs, x ≤ 10 ^ 60
theorem Row.pos {cs : List Int} (R : Row cs) : ∀ (i : Nat) (x : Int), cs[i]? = some x → 1 ≤ x
  | 0, x, h => by
    rw [R.hd] at h
    exact Int.le_of_eq (Option.some.inj h)
  | i + 1, x, h => by
    have hl : i < cs.length := by
      have := (List.getElem?_eq_some_iff.mp h).1
      omega
    have e := List.getElem?_eq_getElem hl
    have p := R.pos i _ e
    have q := R.up i _ x e h
    omega
theorem Row.posM {cs : List Int} (R : Row cs) : ∀ c ∈ cs, 1 ≤ c := fun c h => by
  obtain ⟨i, h⟩ := List.mem_iff_getElem?.mp h
  exact R.pos i c h
theorem Row.ne {cs : List Int} (R : Row cs) : 0 < cs.length := by
  have := (List.getElem?_eq_some_iff.mp R.hd).1
  exact this
theorem fw_length : ∀ (cs : List Int) (a : Int), (fw cs a).length = cs.length
  | [], _ => rfl
  | c :: cs, a => by
    show (fw cs a).length + 1 = cs.length + 1
    rw [fw_length cs a]
theorem drop_at {α : Type} {l : List α} {k : Nat} {x : α} (h : l[k]? = some x) : l.drop k = x :: l.drop (k + 1) := by
  obtain ⟨hk, e⟩ := List.getElem?_eq_some_iff.mp h
  rw [List.drop_eq_getElem_cons hk, e]
theorem take_at {α : Type} {l : List α} {k : Nat} {x : α} (h : l[k]? = some x) : l.take (k + 1) = l.take k ++ [x] := by
  rw [List.take_add_one, h]
  rfl
theorem dot_take : ∀ {cs ws : List Int} {i : Nat} {x y : Int}, cs[i]? = some x → ws[i]? = some y → dot (cs.take (i + 1)) (ws.take (i + 1)) = dot (cs.take i) (ws.take i) + x * y
  | [], _, _, _, _, h, _ => by simp at h
  | _ :: _, [], _, _, _, _, h => by simp at h
  | c :: cs, w :: ws, 0, x, y, h1, h2 => by
    have e1 : c = x := Option.some.inj h1
    have e2 : w = y := Option.some.inj h2
    rw [← e1, ← e2]
    simp [dot]
  | c :: cs, w :: ws, i + 1, x, y, h1, h2 => by
    have ih := dot_take (cs := cs) (ws := ws) (i := i) h1 h2
    show c * w + dot (cs.take (i + 1)) (ws.take (i + 1)) = c * w + dot (cs.take i) (ws.take i) + x * y
    rw [ih]
    omega
/-- the turn of the first way's loop -/
theorem fw_turn {cs : List Int} {k : Nat} {c : Int} (a : Int) (h : cs[k]? = some c) :
    (List.replicate (k + 1) (0 : Int) ++ fw (cs.drop (k + 1)) a).set k (rs (cs.drop (k + 1)) a / c) = List.replicate k 0 ++ fw (cs.drop k) a := by
  rw [drop_at h]
  show _ = List.replicate k 0 ++ (rs (cs.drop (k + 1)) a / c :: fw (cs.drop (k + 1)) a)
  rw [List.replicate_succ', List.append_assoc, List.set_append_right _ _ (by rw [List.length_replicate]; exact Nat.le_refl _), List.length_replicate, Nat.sub_self]
  rfl
theorem rs_turn {cs : List Int} {k : Nat} {c : Int} (a : Int) (h : cs[k]? = some c) : rs (cs.drop (k + 1)) a - rs (cs.drop (k + 1)) a / c * c = rs (cs.drop k) a := by
  rw [drop_at h]
  show _ = rs (cs.drop (k + 1)) a % c
  rw [Int.emod_def, Int.mul_comm]
theorem rs_bounds : ∀ {cs : List Int} {a : Int}, (∀ c ∈ cs, 1 ≤ c) → 0 ≤ a → 0 ≤ rs cs a ∧ rs cs a ≤ a
  | [], a, _, h => ⟨h, Int.le_refl _⟩
  | c :: cs, a, hc, h => by
    have ih := rs_bounds (cs := cs) (a := a) (fun x hx => hc x (List.mem_cons_of_mem _ hx)) h
    have h1 := hc c (List.mem_cons_self ..)
    have h2 : 0 ≤ rs cs a % c := Int.emod_nonneg _ (by omega)
    have h3 : rs cs a % c ≤ rs cs a := by
      have h4 := Int.mul_nonneg (show (0 : Int) ≤ c by omega) (Int.ediv_nonneg ih.1 (show (0 : Int) ≤ c by omega))
      rw [Int.emod_def]
      omega
    exact ⟨h2, Int.le_trans h3 ih.2⟩
end Cj
namespace Cj
theorem fw_mem : ∀ {cs : List Int} {a : Int}, (∀ c ∈ cs, 1 ≤ c) → 0 ≤ a → ∀ v ∈ fw cs a, 0 ≤ v ∧ v ≤ a
  | [], _, _, _, _, h => by cases h
  | c :: cs, a, hc, h0, v, h => by
    have hc' : ∀ x ∈ cs, 1 ≤ x := fun x hx => hc x (List.mem_cons_of_mem _ hx)
    rcases List.mem_cons.mp h with e | h
    · have b := rs_bounds hc' h0
      have h1 := hc c (List.mem_cons_self ..)
      subst e
      exact ⟨Int.ediv_nonneg b.1 (by omega), Int.le_trans (Int.ediv_le_self _ b.1) b.2⟩
    · exact fw_mem hc' h0 v h
theorem fw_drop : ∀ (cs : List Int) (a : Int) (k : Nat), (fw cs a).drop k = fw (cs.drop k) a
  | _, _, 0 => rfl
  | [], _, _ + 1 => rfl
  | _ :: cs, a, k + 1 => fw_drop cs a k
/-- what is given and what is still due -/
theorem dot_fw : ∀ (cs : List Int) (a : Int), dot cs (fw cs a) + rs cs a = a
  | [], a => by
    show 0 + a = a
    omega
  | c :: cs, a => by
    have ih := dot_fw cs a
    show c * (rs cs a / c) + dot cs (fw cs a) + rs cs a % c = a
    have e := Int.mul_ediv_add_emod (rs cs a) c
    omega
theorem rs_lt {cs : List Int} {k : Nat} {c : Int} (a : Int) (h : cs[k]? = some c) (hc : 1 ≤ c) : 0 ≤ rs (cs.drop k) a ∧ rs (cs.drop k) a < c := by
  rw [drop_at h]
  exact ⟨Int.emod_nonneg _ (by omega), Int.emod_lt_of_pos _ (by omega)⟩
theorem dot_zeros : ∀ (k : Nat) (cs ws : List Int), dot cs (List.replicate k 0 ++ ws) = dot (cs.drop k) ws
  | 0, _, _ => rfl
  | k + 1, [], ws => by
    cases ws <;> rfl
  | k + 1, c :: cs, ws => by
    show c * 0 + dot cs (List.replicate k 0 ++ ws) = dot (cs.drop k) ws
    rw [dot_zeros k cs ws]
    omega
/-- the trial of two places -/
def triW (cs : List Int) (hi lo : Nat) : List Int :=
  List.replicate lo 0 ++ ((fw cs (cs.getD hi 0 - 1)).getD lo 0 + 1) :: (fw cs (cs.getD hi 0 - 1)).drop (lo + 1)
def tri (cs : List Int) (hi lo : Nat) : Int × List Int := (dot cs (triW cs hi lo), triW cs hi lo)
theorem triW_length {cs : List Int} {hi lo : Nat} (h : lo < cs.length) : (triW cs hi lo).length = cs.length := by
  unfold triW
  rw [List.length_append, List.length_replicate, List.length_cons, List.length_drop, fw_length]
  omega
theorem triW_mem {cs : List Int} (R : Row cs) {hi lo : Nat} (hl : lo < hi) (hh : hi < cs.length) : ∀ v ∈ triW cs hi lo, 0 ≤ v ∧ v ≤ 10 ^ 60 := by
  intro v h
  have eh := List.getElem?_eq_getElem hh
  have g : cs.getD hi 0 = cs[hi] := by rw [List.getD_eq_getElem?_getD, eh]; rfl
  have p1 := R.pos hi _ eh
  have p2 := R.top _ (List.getElem_mem hh)
  have m := fw_mem (cs := cs) (a := cs.getD hi 0 - 1) R.posM (by omega)
  have ll : lo < (fw cs (cs.getD hi 0 - 1)).length := by rw [fw_length]; omega
  unfold triW at h
  rcases List.mem_append.mp h with h | h
  · have e := List.eq_of_mem_replicate h
    omega
  · rcases List.mem_cons.mp h with e | h
    · have k := m _ (List.getElem_mem ll)
      rw [List.getD_eq_getElem?_getD, List.getElem?_eq_getElem ll] at e
      have e' : v = (fw cs (cs.getD hi 0 - 1))[lo] + 1 := e
      omega
    · have k := m v (List.mem_of_mem_drop h)
      omega
theorem tri_worth {cs : List Int} {hi lo : Nat} {x : Int} (h : cs[lo]? = some x) : dot cs (triW cs hi lo) = x + (cs.getD hi 0 - 1) - rs (cs.drop lo) (cs.getD hi 0 - 1) := by
  unfold triW
  have hl : lo < cs.length := (List.getElem?_eq_some_iff.mp h).1
  have ll : lo < (fw cs (cs.getD hi 0 - 1)).length := by rw [fw_length]; omega
  have e := List.getElem?_eq_getElem ll
  rw [dot_zeros, List.getD_eq_getElem?_getD (l := fw cs (cs.getD hi 0 - 1)), e]
  have d := dot_fw (cs.drop lo) (cs.getD hi 0 - 1)
  rw [← fw_drop, drop_at e] at d
  rw [drop_at h] at d ⊢
  show x * ((fw cs (cs.getD hi 0 - 1))[lo] + 1) + _ = _
  have d' : x * (fw cs (cs.getD hi 0 - 1))[lo] + dot (cs.drop (lo + 1)) ((fw cs (cs.getD hi 0 - 1)).drop (lo + 1)) + rs (x :: cs.drop (lo + 1)) (cs.getD hi 0 - 1) = cs.getD hi 0 - 1 := d
  rw [Int.mul_add, Int.mul_one]
  omega
theorem tri_bounds {cs : List Int} (R : Row cs) {hi lo : Nat} (hl : lo < hi) (hh : hi < cs.length) : 1 ≤ (tri cs hi lo).1 ∧ (tri cs hi lo).1 ≤ 2 * 10 ^ 60 := by
  have hl' : lo < cs.length := by omega
  have e := List.getElem?_eq_getElem hl'
  have eh := List.getElem?_eq_getElem hh
  have g : cs.getD hi 0 = cs[hi] := by rw [List.getD_eq_getElem?_getD, eh]; rfl
  have p1 := R.pos hi _ eh
  have p2 := R.top _ (List.getElem_mem hh)
  have q1 := R.pos lo _ e
  have q2 := R.top _ (List.getElem_mem hl')
  have r := rs_lt (cs.getD hi 0 - 1) e q1
  have w := tri_worth (hi := hi) e
  show 1 ≤ dot cs (triW cs hi lo) ∧ dot cs (triW cs hi lo) ≤ 2 * 10 ^ 60
  rw [w]
  omega
/-- the turns of trial's two stores -/
theorem zero_turn {w : List Int} {i : Nat} (h : i < w.length) : (List.replicate i (0 : Int) ++ w.drop i).set i 0 = List.replicate (i + 1) 0 ++ w.drop (i + 1) := by
  rw [drop_at (List.getElem?_eq_getElem h), List.set_append_right _ _ (by rw [List.length_replicate]; exact Nat.le_refl _), List.length_replicate, Nat.sub_self, List.replicate_succ', List.append_assoc]
  rfl
theorem zero_at {w : List Int} {i : Nat} (h : i < w.length) : (List.replicate i (0 : Int) ++ w.drop i)[i]? = some (w.getD i 0) := by
  rw [List.getElem?_append_right (by rw [List.length_replicate]; exact Nat.le_refl _), List.length_replicate, Nat.sub_self, List.getElem?_drop, Nat.add_zero, List.getD_eq_getElem?_getD, List.getElem?_eq_getElem h]
  rfl
theorem zero_put {w : List Int} {i : Nat} (h : i < w.length) (y : Int) : (List.replicate i (0 : Int) ++ w.drop i).set i y = List.replicate i 0 ++ y :: w.drop (i + 1) := by
  rw [drop_at (List.getElem?_eq_getElem h), List.set_append_right _ _ (by rw [List.length_replicate]; exact Nat.le_refl _), List.length_replicate, Nat.sub_self]
  rfl
/-- the trials of the first n lows of one high; of all highs to h; all -/
def trow (cs : List Int) (hi n : Nat) : List (Int × List Int) := (List.range n).map (tri cs hi)
def trialsTo (cs : List Int) : Nat → List (Int × List Int)
  | 0 => []
  | h + 1 => trialsTo cs h ++ trow cs (h + 1) (h + 1)
def trialsL (cs : List Int) : List (Int × List Int) := trialsTo cs (cs.length - 1)
theorem trow_succ (cs : List Int) (hi n : Nat) : trow cs hi (n + 1) = trow cs hi n ++ [tri cs hi n] := by
  unfold trow
  rw [List.range_succ, List.map_append]
  rfl
theorem trialsTo_len (cs : List Int) : ∀ h, h ≤ 12 → (trialsTo cs h).length ≤ 12 * h
  | 0, _ => Nat.le_refl _
  | h + 1, l => by
    have ih := trialsTo_len cs h (by omega)
    show (trialsTo cs h ++ trow cs (h + 1) (h + 1)).length ≤ _
    rw [List.length_append]
    unfold trow
    rw [List.length_map, List.length_range]
    omega
theorem trialsTo_mem {cs : List Int} {p : Int × List Int} : ∀ {h : Nat}, p ∈ trialsTo cs h → ∃ hi lo, lo < hi ∧ hi ≤ h ∧ p = tri cs hi lo
  | 0, m => by cases m
  | h + 1, m => by
    rcases List.mem_append.mp m with m | m
    · obtain ⟨hi, lo, a, b, e⟩ := trialsTo_mem m
      exact ⟨hi, lo, a, by omega, e⟩
    · unfold trow at m
      obtain ⟨lo, hlo, e⟩ := List.mem_map.mp m
      exact ⟨h + 1, lo, List.mem_range.mp hlo, Nat.le_refl _, e.symm⟩
theorem mem_trialsTo {cs : List Int} {hi lo : Nat} : ∀ {h : Nat}, lo < hi → hi ≤ h → tri cs hi lo ∈ trialsTo cs h
  | 0, a, b => by omega
  | h + 1, a, b => by
    by_cases e : hi = h + 1
    · subst e
      exact List.mem_append_right _ (List.mem_map.mpr ⟨lo, List.mem_range.mpr a, rfl⟩)
    · exact List.mem_append_left _ (mem_trialsTo a (by omega))
theorem trials_mem {cs : List Int} {p : Int × List Int} (m : p ∈ trialsL cs) : ∃ hi lo, lo < hi ∧ hi < cs.length ∧ p = tri cs hi lo := by
  obtain ⟨hi, lo, a, b, e⟩ := trialsTo_mem m
  exact ⟨hi, lo, a, by omega, e⟩
theorem mem_trials {cs : List Int} {hi lo : Nat} (a : lo < hi) (b : hi < cs.length) : tri cs hi lo ∈ trialsL cs := mem_trialsTo a (by omega)
/-- the verdict -/
def better (cs : List Int) (p : Int × List Int) : Bool := decide (p.2.sum < (fw cs p.1).sum)
def lessR (p b : Int × List Int) : Bool := if p.1 = b.1 then (if p.2.sum = b.2.sum then false else decide (p.2.sum < b.2.sum)) else decide (p.1 < b.1)
def jstep (cs : List Int) (best : Option (Int × List Int)) (p : Int × List Int) : Option (Int × List Int) :=
  if better cs p = true then (match best with | none => some p | some b => if lessR p b = true then some p else some b) else best
def judgedM (cs : List Int) : Option (Int × List Int) := (trialsL cs).foldl (jstep cs) none
end Cj
namespace Cj
theorem row_one : Row [1] where
  len := by decide
  hd := rfl
  up := fun i x y _ h2 => by simp at h2
  top := fun x h => by
    rw [List.mem_singleton.mp h]
    decide
theorem Row.more {cs : List Int} (R : Row cs) {x c : Int} (h : cs[cs.length - 1]? = some x) (h1 : x < c) (h2 : c ≤ 10 ^ 60) (hl : cs.length < 12) : Row (cs ++ [c]) where
  len := by
    rw [List.length_append]
    show cs.length + 1 ≤ 12
    omega
  hd := by
    rw [List.getElem?_append_left R.ne]
    exact R.hd
  up := fun i a b ha hb => by
    by_cases hi : i + 1 < cs.length
    · rw [List.getElem?_append_left (by omega)] at ha
      rw [List.getElem?_append_left hi] at hb
      exact R.up i a b ha hb
    · have hi2 : i + 1 = cs.length := by
        have := (List.getElem?_eq_some_iff.mp hb).1
        rw [List.length_append] at this
        have e1 : ([c] : List Int).length = 1 := rfl
        omega
      rw [List.getElem?_append_left (by omega)] at ha
      rw [hi2, List.getElem?_append_right (Nat.le_refl _), Nat.sub_self] at hb
      have eb : c = b := Option.some.inj hb
      rw [show cs.length - 1 = i by omega, ha] at h
      have ea : a = x := Option.some.inj h
      omega
  top := fun y hy => by
    rcases List.mem_append.mp hy with hy | hy
    · exact R.top y hy
    · rw [List.mem_singleton.mp hy]
      exact h2
end Cj

/-! # Words of figures, rows as texts -/
namespace Cj
open PySem PySem.Spec PyProof.Rows L2
/-- a word that writes a number -/
structure Word (z : Str) : Prop where
  ne : z.length ≠ 0
  le : z.length ≤ 61
  hd : ∀ c, z.cps.toList[0]? = some c → c ≠ 48
  fig : ∀ c ∈ z.cps.toList, 48 ≤ c ∧ c ≤ 57
def wval (z : Str) : Int := ((NumText.digitsVal z.cps.toList : Nat) : Int)
theorem word_int {z : Str} (h : Word z) : intText? z = some (wval z) := by
  refine intText_digits h.fig ?_ (by have := h.le; omega)
  intro e
  apply h.ne
  show z.cps.size = 0
  rw [← Array.length_toList, e]
  rfl
/-- the words of a text -/
def wordsOf (z : Str) : List Str := Txt.split z (" " : Str)
def AllW (ws : List Str) : Prop := ∀ z ∈ ws, Word z
def vals (ws : List Str) : List Int := ws.map wval
theorem spl_len : ∀ (l acc : List Nat), (TL.spl [32] 0 acc l).length ≤ l.length + 1 ∧ 0 < (TL.spl [32] 0 acc l).length ∧ ∀ p ∈ TL.spl [32] 0 acc l, p.length ≤ acc.length + l.length
  | [], acc => by
    rw [TL.spl_nil]
    exact ⟨Nat.le_refl _, Nat.one_pos, fun p hp => by rw [List.mem_singleton.mp hp]; exact Nat.le_refl _⟩
  | c :: r, acc => by
    cases e : TL.pre [32] (c :: r) with
    | true =>
      have z := TL.spl_hit (acc := acc) e
      have z : TL.spl [32] 0 acc (c :: r) = acc :: TL.spl [32] 0 [] r := z
      rw [z]
      obtain ⟨a1, _, a3⟩ := spl_len r []
      refine ⟨by rw [List.length_cons, List.length_cons]; omega, by rw [List.length_cons]; omega, fun p hp => ?_⟩
      cases List.mem_cons.mp hp with
      | inl h => rw [h, List.length_cons]; omega
      | inr h =>
        have := a3 p h
        rw [List.length_nil] at this
        rw [List.length_cons]
        omega
    | false =>
      rw [TL.spl_miss (acc := acc) e]
      obtain ⟨a1, a2, a3⟩ := spl_len r (acc ++ [c])
      refine ⟨by rw [List.length_cons]; omega, a2, fun p hp => ?_⟩
      have := a3 p hp
      rw [List.length_append, List.length_singleton] at this
      rw [List.length_cons]
      omega
theorem gap_tl : TL.tl (" " : Str) = [32] := by decide +kernel
theorem gap_len : (" " : Str).length = 1 := by decide +kernel
theorem words_len (z : Str) : (wordsOf z).length ≤ z.length + 1 ∧ 0 < (wordsOf z).length ∧ ∀ w ∈ wordsOf z, w.length ≤ z.length := by
  have e := TL.split_spl z (" " : Str) (by rw [gap_tl]; exact List.cons_ne_nil _ _) (TL.kind_ok (by decide +kernel))
  rw [gap_tl] at e
  have e : (wordsOf z).map TL.tl = TL.spl [32] 0 [] (TL.tl z) := e
  obtain ⟨a1, a2, a3⟩ := spl_len (TL.tl z) []
  rw [← e, List.length_map, ← TL.len_tl] at a1
  rw [← e, List.length_map] at a2
  refine ⟨a1, a2, fun w hw => ?_⟩
  have z1 := a3 (TL.tl w) (by rw [← e]; exact List.mem_map_of_mem hw)
  rw [← TL.len_tl, ← TL.len_tl, List.length_nil, Nat.zero_add] at z1
  exact z1
/-- a row as a text -/
def rowT (cs : List Int) : Str := Str.join (" " : Str) (cs.map nst)
theorem join_snoc (s x : Str) : ∀ l : List Str, l ≠ [] → Str.join s (l ++ [x]) = Str.join s l ++ s ++ x
  | [], h => absurd rfl h
  | [a], _ => rfl
  | a :: b :: r, _ => by
    have ih := join_snoc s x (b :: r) (List.cons_ne_nil _ _)
    show a ++ s ++ Str.join s (b :: r ++ [x]) = a ++ s ++ Str.join s (b :: r) ++ s ++ x
    rw [ih]
    refine TL.ext_tl ?_
    simp only [TL.tl_append, List.append_assoc]
theorem rowT_more {cs : List Int} (x : Int) (h : cs ≠ []) : rowT (cs ++ [x]) = rowT cs ++ (" " : Str) ++ nst x := by
  unfold rowT
  rw [List.map_append]
  exact join_snoc _ _ _ fun e => h (List.map_eq_nil_iff.mp e)
/-- numbers that a row's text may hold -/
def Nms (cs : List Int) : Prop := ∀ c ∈ cs, 0 ≤ c ∧ c < 10 ^ 61
theorem nst_two {i : Int} (h : 0 ≤ i ∧ i < 10 ^ 61) : (nst i).length ≤ 61 ∧ 1 ≤ (nst i).length := by
  refine ⟨nst_len h.1 (by decide) h.2, ?_⟩
  obtain ⟨n, rfl⟩ := Int.eq_ofNat_of_zero_le h.1
  unfold nst
  rw [TL.len_tl, TL.tl_num]
  exact List.length_pos_iff.mpr (TL.numL_ne n)
theorem rowT_len : ∀ {cs : List Int}, Nms cs → (rowT cs).length ≤ 62 * cs.length ∧ (cs ≠ [] → 1 ≤ (rowT cs).length)
  | [], _ => ⟨Nat.zero_le _, fun z => absurd rfl z⟩
  | [a], h => by
    have := nst_two (h a List.mem_cons_self)
    show (nst a).length ≤ 62 * 1 ∧ (_ → 1 ≤ (nst a).length)
    exact ⟨by omega, fun _ => this.2⟩
  | a :: b :: r, h => by
    have i1 := nst_two (h a List.mem_cons_self)
    have i2 := (rowT_len (cs := b :: r) fun c hc => h c (List.mem_cons_of_mem _ hc)).1
    show (nst a ++ (" " : Str) ++ rowT (b :: r)).length ≤ _ ∧ (_ → 1 ≤ (nst a ++ (" " : Str) ++ rowT (b :: r)).length)
    rw [slen_app, slen_app, gap_len, List.length_cons (a := a)]
    exact ⟨by omega, fun _ => by omega⟩
theorem rowT_nil {cs : List Int} (h : Nms cs) : rowT cs = ("" : Str) ↔ cs = [] := by
  constructor
  · intro e
    by_cases n : cs = []
    · exact n
    · have a := (rowT_len h).2 n
      rw [e] at a
      exact absurd a (by decide +kernel)
  · intro e
    rw [e]
    decide +kernel
theorem row_nms {cs : List Int} (R : Row cs) : Nms cs := fun c hc => by
  obtain ⟨i, hi⟩ := List.mem_iff_getElem?.mp hc
  have p := R.pos _ _ hi
  have t := R.top c hc
  refine ⟨by omega, ?_⟩
  have : (10 : Int) ^ 60 < 10 ^ 61 := by decide
  omega
end Cj

namespace Cj
open PySem PySem.Spec PyProof.Rows L2
/-! an error out of a list comprehension's element -/
theorem hid_none {h : Heap} {C b : Addr} (e : h.get? b = none) : (PySem.W.hideAll h [C]).get? b = none := by
  cases q : (PySem.W.hideAll h [C]).get? b with
  | none => rfl
  | some o =>
    have z := PySem.W.of_hideAll [C] q
    rw [e] at z
    cases z
theorem hid_get {h : Heap} {C b : Addr} {o : Obj} (e : h.get? b = some o) (ne : b ≠ C) : (PySem.W.hideAll h [C]).get? b = some o := PySem.W.hideAll_get [C] e fun z => ne (List.mem_singleton.mp z)
theorem of_hid {h : Heap} {C b : Addr} {o : Obj} (e : (PySem.W.hideAll h [C]).get? b = some o) : h.get? b = some o ∧ b ≠ C := by
  refine ⟨PySem.W.of_hideAll [C] e, fun z => ?_⟩
  subst z
  rw [PySem.W.hideAll_none [b] List.mem_cons_self] at e
  cases e
theorem hok_hid {P : Program} {w : World} {H : Hp} {h : Heap} {C : Addr} (k : HOk P w H h) (n : H C = none) : HOk P w H (PySem.W.hideAll h [C]) := by
  intro b o q
  refine (k b o q).stay (fun c u hc r => hid_get r ?_) (fun _ r => r) (fun _ _ r => r)
  rintro rfl
  cases hc with
  | inl z => rw [z, q] at n; cases n
  | inr z => rw [n] at z; cases z
section
variable {X : Cx} {pins : List (Addr × Obj)} {σ : L2.St} {H H' : Hp} {s s' : Shared} {B : Heap} {W : WX} {a : Addr} {cls : Value} {d : Option Addr}
/-- an exception that the def's own frame holds is in its air -/
theorem air_held (I : Inv X pins σ H s) (held : HandSPX.HeldZ B X.stack a (Zc cls d) X.env.locals s'.heap) (ground : HOk X.prog X.w H' B) (ub : UB (frs X.stack) H H' s.heap B s'.heap)
    (free : H' a = none) (same : s'.os = s.os) (bare : AllBare s'.gens) (wish : W cls d σ H') : XE X W (.ref a) s' := by
  obtain ⟨G, yes, no⟩ := restrict s'.heap fun b => decide (b ∈ frs X.stack) || (B.get? b).isSome
  have fromB : ∀ b o, B.get? b = some o → G.get? b = some o := by
    intro b o e
    have y : (decide (b ∈ frs X.stack) || (B.get? b).isSome) = true := by rw [e, Option.isSome_some, Bool.or_true]
    exact (yes b y).trans (held.1 b o e)
  have frame : ∀ b, b ∈ frs X.stack → G.get? b = s'.heap.get? b := by
    intro b m
    refine yes b ?_
    rw [decide_eq_true m, Bool.true_or]
  have back : ∀ b o, G.get? b = some o → s'.heap.get? b = some o ∧ (b ∈ frs X.stack ∨ B.get? b = some o) := by
    intro b o e
    by_cases m : b ∈ frs X.stack
    · rw [frame b m] at e
      exact ⟨e, .inl m⟩
    · cases q : B.get? b with
      | none =>
        rw [no b (by rw [decide_eq_false m, q] <;> rfl)] at e
        cases e
      | some u =>
        have z := fromB b u q
        rw [e] at z
        cases z
        exact ⟨held.1 b o q, .inr rfl⟩
  have un : Un (frs X.stack) [] H H' s.heap G := by
    refine ⟨?_, ?_, ?_, ?_, ub.tups, ub.frzs, ub.tbls⟩
    · intro b o e n m _
      exact fromB b o (ub.keep b o e n m)
    · intro b o e n m _
      obtain ⟨sl, z⟩ := ub.slot b o e m
      exact ⟨sl, (frame b m).trans z⟩
    · intro b o e n _
      exact ub.free b o e n
    · intro b o e _
      by_cases m : b ∈ frs X.stack
      · obtain ⟨sl, z⟩ := ub.slot b o e m
        exact ⟨_, (frame b m).trans z⟩
      · obtain ⟨u, z⟩ := ub.there b o e m
        exact ⟨u, fromB b u z⟩
  have J : Inv X pins σ H' { s with heap := G, gens := s'.gens, drawn := s'.drawn, toks := s'.toks } := I.call (ch := []) un (ground.kept fromB) bare fun _ z => nomatch z
  refine ⟨a, B, _, pins, σ, H', cls, d, rfl, J, ?_, Heap.UpToSlots.of_keeps fun b o e => (back b o e).1, .inr (.inr held), free, same, bare, wish⟩
  intro b o e m
  rcases (back b o e).2 with z | z
  · exact absurd z m
  · exact z
end
/-- the context of a comprehension's block whose errors go to xe -/
abbrev blkE (X : Cx) (s : Shared) (H : Hp) (scope : Scope) (cenv : Env) (fp : List Addr) (xe : Value → Shared → Prop) : Cx := { X.blk s H scope cenv fp with xe := xe }
section
variable {X : Cx} {pins pins' : List (Addr × Obj)} {σ σ' : L2.St} {H H3 : Hp} {s s3 : Shared} {scope : Scope} {ce : Env} {fp : List Addr} {xe : Value → Shared → Prop} {W : WX} {E : XK}
theorem inv_blkE (I : Inv (X.blk s3 H3 scope ce fp) pins σ H s) : Inv (blkE X s3 H3 scope ce fp xe) pins σ H s :=
  ⟨⟨I.ok.mod, I.ok.kind, I.ok.glob, I.ok.blt, I.ok.above, I.ok.inj, I.ok.has, I.ok.cab, I.ok.hd, I.ok.frames, I.ok.stk, I.ok.exf, I.ok.bs, I.ok.bsz, I.ok.noex, I.ok.exfs, I.ok.funs, I.ok.frf⟩,
    I.os, I.bare, I.base, I.loc, I.cell, I.free, I.freeC, I.pin, I.hok, I.len⟩
/-- what the block's own frame owes for an error of a call in the element -/
theorem passes_blk (I3 : Inv X pins σ H3 s3) (hs : X.stack = X.env :: X.outer) (hf : X.env.frame = some X.env.locals) (tk : L2.Takes X W) (hW : ∀ cls d H, E cls d H → W cls d σ H)
    (hcf : ce.frame = X.env.frame) (hcl : ce.locals = s3.heap.objs.size) (hfp : ∀ b ∈ fp, FpOk X pins H3 b) :
    Passes (L2.CX X.prog X.w) (blkE X s3 H3 scope ce fp (notedBy (model X.prog X.w) X.A ce (CompFails (model X.prog X.w) X.A X.xe ce))) E := by
  intro pins' σ' H s e s' J c
  obtain ⟨a, B, H', cls, d, rfl, fly, ground, ub, free, same, bare, wish⟩ := c
  obtain ⟨m, hn, _⟩ := J.loc
  have hn : s.heap.Ns ce.locals m := hn
  have HC : H ce.locals = none := J.free
  have above : ∀ {b o}, s3.heap.get? b = some o → b ≠ ce.locals := fun {b o} e z => by
    have := Heap.lt_size e
    rw [z, hcl] at this
    exact Nat.lt_irrefl _ this
  have fk := I3.fpOk (H' := H) (b := ce.locals) (by rw [hcl]; exact Nat.le_refl _) HC
  have far : ce.locals ∉ frs X.stack := fun hm => by
    rcases List.mem_cons.mp (I3.stkSub _ hm) with z | z
    · exact fk.2.1 z
    · exact fk.2.2.1 z
  -- the def's own state, without the block
  have I' : Inv X pins σ H { s with heap := PySem.W.hideAll s.heap [ce.locals] } := by
    have u : Un (frs X.stack) fp H3 H s3.heap s.heap := J.base
    refine I3.call' (ch := fp) J.os ⟨fun b o e n m x => hid_get (u.keep b o e n m x) (above e), fun b o e n m x => ?_, u.free, fun b o e x => ?_, u.tups, u.frzs, u.tbls⟩ (hok_hid J.hok HC) J.bare
      fun b hb => ⟨(hfp b hb).2.2.2.1, (hfp b hb).2.1, (hfp b hb).2.2.2.2.1, (hfp b hb).2.2.2.2.2⟩
    · obtain ⟨sl, z⟩ := u.slot b o e n m x
      exact ⟨sl, hid_get z (above e)⟩
    · obtain ⟨o', z⟩ := u.there b o e x
      exact ⟨o', hid_get z (above e)⟩
  obtain ⟨oC, es, ep, getC, dataC, restC⟩ := id hn
  have far' : ce.locals ∉ frs (blkE X s3 H3 scope ce fp (notedBy (model X.prog X.w) X.A ce (CompFails (model X.prog X.w) X.A X.xe ce))).stack := far
  have getB : B.get? ce.locals = some oC := ub.keep _ _ getC HC far'
  have HC' : H' ce.locals = none := ub.free _ _ getC HC
  have hn' : s'.heap.Ns ce.locals m := ⟨oC, es, ep, fly.1 _ _ getB, dataC, restC⟩
  have fly' : HandSPX.FlyingZ (PySem.W.hideAll B [ce.locals]) (X.env :: X.outer) a (Zc cls d) s'.heap := by
    rw [← hs]
    obtain ⟨st, ga, ff, oe, vs, T, oT, ts, he, hz, hd, h1, hT, hTe, rest⟩ := fly
    refine ⟨fun b o e => st b o (of_hid e).1, hid_none ga, funFrames_none ff fun L hL => hid_none (ff.mem hL).1, oe, vs, T, oT, ts, he, hz, hd, h1, hid_none hT, hTe, rest⟩
  have hfr : X.A.frames = some (X.env :: X.outer) := by rw [I3.ok.frames, hs]
  show wpAny _ _ (noteFrame (.ref a) ce) _ _ s'
  rw [noteFrame_env _ hcf]
  refine HandSPX.looks_onZ Zc.steady hfr hf fly' fun h1 held1 up1 => ?_
  have hn1 : h1.Ns ce.locals m := up1.ns hn'
  refine ⟨m, hn1, fun h2 m2 hn2 sb => ?_⟩
  obtain ⟨oC1, es1, ep1, getC1, dataC1, _⟩ := id hn1
  have notC : ∀ {b : Addr} {o : Obj} {vs : Array Value}, h1.get? b = some o → o.data = .fields vs → b ≠ ce.locals := fun {b o vs} e dd z => by
    rw [z, getC1] at e
    cases e
    rw [dataC1] at dd
    cases dd
  have held2 : HandSPX.HeldZ (PySem.W.hideAll B [ce.locals]) (X.env :: X.outer) a (Zc cls d) X.env.locals h2 := by
    obtain ⟨st, ga, ff, oe, vs, T, oT, ts, he, hz, hd, h1', hT, hTe, gT, dT, r3⟩ := held1
    refine ⟨fun b o e => (sb.2 b (of_hid e).2).trans (st b o e), ga, Heap.FunFrames.sameBut sb hn2 ff, oe, vs, T, oT, ts, (sb.2 a (notC he hd)).trans he, hz, hd, h1', hT, hTe, (sb.2 T (notC gT dT)).trans gT, dT, r3⟩
  obtain ⟨_, _, _, oe, vs, T, oT, ts, he, hz, hd, h1', _⟩ := id held2
  unfold PySem.passOn
  refine wpAny_bind (wpAny_field he hd h1' ?_)
  rw [if_neg (show ¬ ((Value.ref T == Value.none) = true) from by simp)]
  have last : wpAny (model X.prog X.w) X.A (setFlight (.ref a) ce.frame) (fun _ s4 => wpAny (model X.prog X.w) X.A (throw (.ref a) : Sem Value) (fun _ _ => False) X.xe s4) X.xe { s' with heap := h2 } := by
    rw [hcf, hf]
    refine HandSPX.setFlight_onZ held2 fun h3 held3 up3 => wpAny_throw (tk _ _ ?_)
    have chain : ∀ b o, s.heap.get? b = some o → b ∈ frs X.stack → b ≠ ce.locals → ∃ sl, h3.get? b = some { o with slots := sl } := by
      intro b o e hb ne
      obtain ⟨_, o', e', nf⟩ := J.stack.mem hb
      rw [e] at e'
      cases e'
      obtain ⟨l1, g1⟩ := ub.slot b o e hb
      obtain ⟨l2, g2⟩ := up1 b _ g1 nf
      obtain ⟨l3, g3⟩ := up3 b _ ((sb.2 b ne).trans g2) nf
      exact ⟨l3, g3⟩
    refine air_held (B := PySem.W.hideAll B [ce.locals]) (H' := H') I' (by rw [hs]; exact held3) (hok_hid ground HC') ⟨?_, ?_, ?_, ?_, ub.tups, ub.frzs, ub.tbls⟩ free same bare (hW _ _ _ wish)
    · intro b o e n m
      have z := of_hid e
      exact hid_get (ub.keep b o z.1 n m) z.2
    · intro b o e m
      have z := of_hid e
      exact chain b o z.1 m z.2
    · intro b o e n
      exact ub.free b o (of_hid e).1 n
    · intro b o e m
      have z := of_hid e
      obtain ⟨o', q⟩ := ub.there b o z.1 m
      exact ⟨o', hid_get q z.2⟩
  first
    | exact wpAny_bind last
    | exact wpAny_bind (wpAny_pure (wpAny_bind last))
end
section
variable {X : Cx} {W : WX} {E : XK}
/-- [elt for target in iter if ..] whose element may let out what E wishes -/
theorem pe_lcE {elt tg iter : Expr} {ifs : List Expr} {scope : Scope} {own : List (Str × Nat)} {pos : Pos} {wi : TI} {g : TG} {tt : TT} {te : TE}
    (hs : X.stack = X.env :: X.outer) (hf : X.env.frame = some X.env.locals) (tk : L2.Takes X W) (hW : ∀ cls d σ H, E cls d H → W cls d σ H)
    (calm : X.calm = true) (nd : X.N.Nodup) (walk : PI X tg iter wi) (names : BlkOk X.N X.env.scope scope own)
    (target : ∀ (s : Shared) (H : Hp) (C : Addr) (cl : List (Str × Addr)) (fp : List Addr) (xe : Value → Shared → Prop), PG (blkE X s H scope (compEnvC scope cl C X.env) fp xe) tg g)
    (tests : ∀ (s : Shared) (H : Hp) (C : Addr) (cl : List (Str × Addr)) (fp : List Addr) (xe : Value → Shared → Prop), PTs (blkE X s H scope (compEnvC scope cl C X.env) fp xe) ifs tt)
    (element : ∀ (s : Shared) (H : Hp) (C : Addr) (cl : List (Str × Addr)) (fp : List Addr) (xe : Value → Shared → Prop),
      Passes (L2.CX X.prog X.w) (blkE X s H scope (compEnvC scope cl C X.env) fp xe) E → PE (blkE X s H scope (compEnvC scope cl C X.env) fp xe) elt te)
    (fold : ∀ x, foldedSetIterable iter X.env x = pure x := by intro _; rfl) :
    PE X (.ListComp elt [⟨tg, iter, ifs, 0⟩] scope pos) (tLc wi g tt te (own.map (·.2))) := by
  refine ⟨fun pins s σ H Q I want => ?_⟩
  have captured : ∀ y ∈ scope.names, y.2 = .free → ∃ c, X.env.cells.lookup y.1 = some c := by
    intro y hy e
    cases names.free y hy e with
    | inl k => exact I.ok.has _ (.inl k)
    | inr k => exact I.ok.has _ (.inr k)
  rw [eval_ListComp]
  refine comprehension_at (use := none) rfl fold (closure_ok captured) names.kind (by intro y hy e; rw [names.uniq y hy, e]) ?_
  refine thn (walk.run pins s σ H _ I want) fun v s1 h1 => thn h1 fun v2 s2 h2 => ?_
  obtain ⟨it, fp, tn, J, H2, rfl, I2, T, st2, apart, reach⟩ := h2
  refine wpAny_newObj_type (newEnv_comp ?_) (show 0 ≤ sizeLine from Nat.zero_le _)
  obtain ⟨D, hD⟩ : ∃ D, D = s2.heap.objs.size := ⟨_, rfl⟩
  rw [← hD]
  obtain ⟨Inv0, ⟨m0, w0⟩, turn⟩ := reach D (I2.hok.fresh (by rw [hD]; exact Nat.le_refl _))
  -- the list that grows
  obtain ⟨s3, hs3⟩ : ∃ s3 : Shared, s3 = { s2 with heap := s2.heap.push { cls := .type "list", data := .seq ([] : List Value).toArray } } := ⟨_, rfl⟩
  have hp3 : s3.heap = s2.heap.push { cls := .type "list", data := .seq ([] : List Value).toArray } := by rw [hs3]
  rw [← hs3]
  have up3 : ∀ b o, s2.heap.get? b = some o → s3.heap.get? b = some o := by
    intro b o e
    rw [hp3]
    exact Heap.get?_push_of_some _ e
  have I3 : Inv X pins σ (upd H2 D (.lst [])) s3 := by
    rw [hs3]
    refine I2.laid (t' := s2.toks) (fun b o e => Heap.get?_push_of_some _ e) (by rw [hD]; exact Nat.le_refl _) ⟨Nat.zero_le _, [], 0, .nil, ?_⟩
    rw [hD]
    exact Heap.get?_push_size _ rfl
  obtain ⟨H3, hH3⟩ : ∃ H3, H3 = upd H2 D (.lst []) := ⟨_, rfl⟩
  rw [← hH3] at I3 w0
  have apart3 : ∀ b ∈ fp, FpOk X pins H3 b ∧ b < s3.heap.objs.size := by
    intro b hb
    obtain ⟨o, e, _⟩ := T.obj _ _ st2 b hb
    have lt := Heap.lt_size e
    have nd : b ≠ D := by rw [hD]; exact Nat.ne_of_lt lt
    refine ⟨⟨?_, (apart b hb).2⟩, by rw [hp3, Heap.size_push]; exact Nat.lt_succ_of_lt lt⟩
    rw [hH3, upd_ne nd]
    exact (apart b hb).1
  have st3 : tn 0 s3.heap := T.keep _ _ _ st2 fun b _ o e => up3 b o e
  have J4 := block_start I3 names nd apart3
  obtain ⟨cl, hcl⟩ : ∃ cl, cl = cellsFrom (s3.heap.objs.size + 1) scope.names (cloFrom X.env.cells scope.names []) := ⟨_, rfl⟩
  rw [← hcl] at J4
  obtain ⟨ce, hce⟩ : ∃ ce, ce = compEnvC scope cl s3.heap.objs.size X.env := ⟨_, rfl⟩
  have ceL : ce.locals = s3.heap.objs.size := by rw [hce]; rfl
  have ceF : ce.frame = X.env.frame := by rw [hce]; rfl
  obtain ⟨xe, hxe⟩ : ∃ xe, xe = notedBy (model X.prog X.w) X.A ce (CompFails (model X.prog X.w) X.A X.xe ce) := ⟨_, rfl⟩
  have pg := target s3 H3 s3.heap.objs.size cl fp xe
  have pt := tests s3 H3 s3.heap.objs.size cl fp xe
  have pe := element s3 H3 s3.heap.objs.size cl fp xe
  rw [← hce] at pg pt pe J4
  have pe := pe (by rw [hxe]; exact passes_blk I3 hs hf tk (fun c d H z => hW c d σ H z) ceF ceL fun b hb => (apart3 b hb).1)
  have goal : ∀ s4 : Shared, s4 = { s3 with heap := pushCells (s3.heap.push { cls := .type "dict", data := .dict #[] }) scope.names } →
      codeAny (model X.prog X.w) X.A (.compStart (.ListComp elt [⟨tg, iter, ifs, 0⟩] scope pos) 0 (.ref it) (.ref D) ce) (compEnds (model X.prog X.w) X.A X.xe none (EP X pins σ Q) (.ref D) ce) s4 := by
    intro s4 hs4
    have I4 : Inv (blkE X s3 H3 scope ce fp xe) [] (wipe σ (own.map (·.2))) H3 s4 := by rw [hs4]; exact inv_blkE J4
    have st4 : tn 0 s4.heap := T.keep _ _ _ st3 fun b _ o e => by rw [hs4]; exact pushCells_keeps _ _ _ _ (Heap.get?_push_of_some _ e)
    have still : ∀ {σ' : L2.St} {H' : Hp} {s' : Shared}, Inv (blkE X s3 H3 scope ce fp xe) [] σ' H' s' → (∀ b ∈ fp, H' b = none) → ∀ b ∈ fp, FpOk (blkE X s3 H3 scope ce fp xe) [] H' b := by
      intro σ' H' s' I' hn b hb
      refine ⟨hn b hb, (I'.ok.exf b hb).1, I'.ok.exfs b hb, .inl hb, fun x c e => (I'.ok.exf b hb).2 x c e, fun p hp => ?_⟩
      exact absurd (show p ∈ ([] : List (Addr × Obj)) ++ [] from hp) (by simp)
    have loop : codeAny (model X.prog X.w) X.A (.compLoop (.ListComp elt [⟨tg, iter, ifs, 0⟩] scope pos) 0 (.ref it) (.ref D) ce) (compEnds (model X.prog X.w) X.A X.xe none (EP X pins σ Q) (.ref D) ce) s4 := by
      refine compLoop_any (fun n s' => ∃ i H', Inv (blkE X s3 H3 scope ce fp xe) [] (wipe σ (own.map (·.2))) H' s' ∧ tn i s'.heap ∧ (∀ b ∈ fp, H' b = none) ∧ Inv0 i n H') ?_ m0 ⟨0, H3, I4, st4, fun b hb => (apart3 b hb).1.1, w0⟩
      rintro n s5 ⟨i, H5, I5, st5, n5, w5⟩
      cases turn i n H5 w5 with
      | inl z =>
        obtain ⟨stop, done⟩ := z
        refine thnF (T.done (blkE X s3 H3 scope ce fp xe) rfl rfl rfl calm i [] s5 _ H5 (fun _ _ => False) I5 (still I5 n5) st5 stop) fun r s6 h6 => ?_
        obtain ⟨rfl, I6⟩ := h6
        have I7 : Inv X pins σ H5 s6 := I3.call' (ch := fp) I6.os I6.base I6.hok I6.bare fun b hb => ⟨(apart3 b hb).1.2.2.2.1, (apart3 b hb).1.2.1, (apart3 b hb).1.2.2.2.2.1, (apart3 b hb).1.2.2.2.2.2⟩
        have gone : H5 ce.locals = none := I6.free
        obtain ⟨m, hn, _⟩ := I6.loc
        obtain ⟨f0, f1, f2, f3, f4, f5⟩ := I3.fpOk (b := ce.locals) (by rw [ceL]; exact Nat.le_refl _) gone
        exact ⟨m, hn, fun h7 sb => ⟨.ref D, H5, I7.turned (t' := s6.toks) (fun b o hb e => (sb.2 b hb).trans e) f0 f1 f3 f4 f5, rfl, done⟩⟩
      | inr z =>
        obtain ⟨go, Nx, next, step⟩ := z
        refine thnF (T.item (blkE X s3 H3 scope ce fp xe) rfl rfl rfl calm i [] s5 _ H5 (fun _ _ => False) I5 (still I5 n5) st5 go) fun r s6 h6 => ?_
        obtain ⟨u, rfl, h6⟩ := h6
        refine thnF h6 fun _ s7 h7 => ?_
        obtain ⟨x, H7, I7, r7, y7, st7, n7⟩ := h7
        have err : (blkE X s3 H3 scope ce fp xe).xe = notedBy (model X.prog X.w) X.A ce fun e s' => compEnds (model X.prog X.w) X.A X.xe none (EP X pins σ Q) (.ref D) ce (.error e) s' := hxe
        rw [← err]
        have P7 := I7.pinned (still I7 n7) (T.obj _ _ st7)
        refine thn (pg.run _ s7 _ H7 x u _ P7 r7 (step x H7 y7)) fun _ s8 h8 => ?_
        obtain ⟨σ8, H8, I8, eq8, q8⟩ := h8
        refine thn (pt.run _ s8 σ8 H8 _ I8 q8) fun b s9 h9 => ?_
        obtain ⟨H9, I9, q9⟩ := h9
        have ends : ∀ {s' : Shared} {H' : Hp}, Inv (blkE X s3 H3 scope ce fp xe) ([] ++ pinsAt fp s7.heap) σ8 H' s' → Nx H' →
            ∃ m, m < n ∧ ∃ i H', Inv (blkE X s3 H3 scope ce fp xe) [] (wipe σ (own.map (·.2))) H' s' ∧ tn i s'.heap ∧ (∀ b ∈ fp, H' b = none) ∧ Inv0 i m H' := by
          intro s' H' I' nx
          obtain ⟨m', less, w'⟩ := next H' nx
          have pin : ∀ b ∈ fp, ∀ o, s7.heap.get? b = some o → s'.heap.get? b = some o ∧ H' b = none := by
            intro b hb o e
            have z := I'.pin (b, o) (List.mem_append_right _ (List.mem_append_right _ (mem_pinsAt hb e)))
            exact ⟨z.1, z.2.1⟩
          have len : (wipe σ (own.map (·.2))).length = σ8.length := by rw [← eq8]; exact wipe_length _ _
          refine ⟨m', less, i + 1, H', (I'.unpinned (pins := [])).weak len ?_, T.keep _ _ _ st7 fun b hb o e => (pin b hb o e).1, ?_, w'⟩
          · intro j v e
            rw [← eq8] at e
            exact (wipe_some e).1
          · intro b hb
            obtain ⟨o, e, _⟩ := T.obj _ _ st7 b hb
            exact (pin b hb o e).2
        cases b with
        | false => exact ends I9 q9
        | true =>
          show wpAny _ _ _ _ _ _
          refine thn (pe.run _ s9 σ8 H9 _ I9 q9) fun z s10 h10 => ?_
          obtain ⟨yv, H10, I10, r10, acc, hD10, small, nx⟩ := h10
          exact app_ok (X := blkE X s3 H3 scope ce fp xe) I10 hD10 small r10 fun s11 I11 => ends I11 nx
    exact codeAny_compStart_list loop (T.self X.A 0 _ _ _ st4 loop)
  rw [hce, hcl] at goal
  exact goal _ rfl
end
section
variable {Y : Cx} {k j : Nat} {x : Str} {ps : List Str} {sp : Sp} {E : XK} {e : Expr} {es : List Expr} {t : TA} {p pos : Pos}
/-- such an element: a call of a def that may raise -/
theorem pe_calE (c : CalR Y.prog Y.w Y.K Y.mg Y.base k x ps sp) (hx : Passes (L2.CX Y.prog Y.w) Y E) (hr : Room j Y.A) (hk : k ≤ j) (ha : PA Y (e :: es) t) (hg : Gl Y x := by rfl) (hdb : (x == ("__debug__" : Str)) = false := by decide)
    (he : starEach (e :: es) Y.env = (false, eval e Y.env) :: starEach es Y.env := by rfl) (hpl : (backTo pos (starEach es Y.env)).any (·.1) = false := by rfl) :
    PE Y (.Call (.Name x p) (e :: es) [] pos) (tCall sp [] E t) := by
  obtain ⟨f, fd, F, hm, hkp, hb⟩ := c.ex
  exact pe_call F (hr.mono hk) hg hm hkp hb .nil hx ha hdb he hpl
end
end Cj

namespace Cj
open PySem
def top (i : Nat) : Stmt := PySem.Challenge.pw_coinjudge_k09_written_and_read.main.body.getD i (.Pass ⟨0, 0, 0, 0⟩)
end Cj

namespace Cj
open PySem PySem.Spec PyProof.Rows L2
section
variable {P : Program} {w : World} {K : PySem.W.Frag} {mg : Str → Option Value} {base : Heap} {R W A G T' C D' : Addr} {nD : Str} {b1 b2 b3 b4 b5 : Bool}
abbrev s__law_kinds : Stmt := top 29
theorem sc__law_kinds : FnScope ["_law_e", "_law_some"] ["_law_e"] (defScope s__law_kinds) := ⟨rfl, rfl, rfl, by decide +kernel, rfl, by decide +kernel, by decide +kernel⟩

def spKinds (D : Addr) : Value → Option Addr → Hp → VK → Prop := fun cls d H Q => cls = .ref D ∧ d = none ∧ ∀ H', Same H H' → Q (.int 1) H'
theorem g_calP {σ : L2.St} {H : Hp} {Q : VK} {sp : Value → Option Addr → Hp → VK → Prop} {a : Addr} {cls : Value} {d : Option Addr} {te : TE} (h : te σ H fun v H1 => v = .ref a ∧ sp cls d H1 Q) : tCalP sp a cls d te σ H Q := h
theorem g_isX {H : Hp} {Q : VK} {D C a : Addr} {b : Bool} (e : ExcC K D) (k : PySem.W.kitOne K (.ref D) (.ref C) = some b) (q : Q (.bl b) H) : rIsX K (.ref D) none a [.ref a, .ref C] H Q := ⟨D, .ref C, .ref C, b, rfl, rfl, e, rfl, fun _ z => z, k, q⟩
theorem g_isXT {H : Hp} {Q : VK} {D a : Addr} {n : String} {b : Bool} (e : ExcC K D) (k : PySem.W.kitOne K (.ref D) (.type n) = some b) (q : Q (.bl b) H) : rIsX K (.ref D) none a [.ref a, .ty n] H Q := ⟨D, .ty n, .type n, b, rfl, rfl, e, rfl, fun _ z => z, k, q⟩
theorem ok_kinds {f : Addr} {fd : FuncData} (F : Fun K "_law_kinds" "_law_kinds" s__law_kinds f fd) (T : Bn mg) (D : ExD K mg R W A G T' C D' nD b1 b2 b3 b4 b5) : RunP P w K mg base 1 f fd ["_law_e"] (spKinds D') := by
  refine run_ofP F sc__law_kinds rfl fun o cls d cdv A0 outer s H Q hz hf hr h => ?_
  obtain ⟨rfl, rfl, q⟩ := h
  have gk_NoRow := D.nR
  have gk_NoWay := D.nW
  have gk_NoAmount := D.nA
  have gk_TooGreat := D.nG
  have gk_NoText := D.nT
  refine ⟨_, (pss_cons (ps_set (i := 1) sc__law_kinds.nd rfl (by first | exact Or.inl rfl | exact Or.inr rfl) (pe_lst (pa_cons (pe_callB (call_isX (K := K) (a := o.1) (o := o) rfl rfl List.mem_cons_self hz hf) (by rfl) T.m_isinstance (by decide +kernel) (pa_cons (pv 0) (pa_cons (pe_glob (v := .ref _) rfl gk_NoRow rfl) pa_nil))) (pa_cons (pe_callB (call_isX (K := K) (a := o.1) (o := o) rfl rfl List.mem_cons_self hz hf) (by rfl) T.m_isinstance (by decide +kernel) (pa_cons (pv 0) (pa_cons (pe_glob (v := .ref _) rfl gk_NoWay rfl) pa_nil))) (pa_cons (pe_callB (call_isX (K := K) (a := o.1) (o := o) rfl rfl List.mem_cons_self hz hf) (by rfl) T.m_isinstance (by decide +kernel) (pa_cons (pv 0) (pa_cons (pe_glob (v := .ref _) rfl gk_NoAmount rfl) pa_nil))) (pa_cons (pe_callB (call_isX (K := K) (a := o.1) (o := o) rfl rfl List.mem_cons_self hz hf) (by rfl) T.m_isinstance (by decide +kernel) (pa_cons (pv 0) (pa_cons (pe_glob (v := .ref _) rfl gk_TooGreat rfl) pa_nil))) pa_nil))))))
      (pss_one (ps_ret (pe_bm PySem.F.plainAttrs_list PySem.F.slot_list_count PySem.F.type_list_count mt_cntB (pe_op op_cat (pv 1) (pe_lst (pa_cons (pe_callB (call_isX (K := K) (a := o.1) (o := o) rfl rfl List.mem_cons_self hz hf) (by rfl) T.m_isinstance (by decide +kernel) (pa_cons (pv 0) (pa_cons (pe_glob (v := .ref _) rfl gk_NoText rfl) pa_nil))) pa_nil))) (pa_cons pe_bl pa_nil))))), ?_⟩
  try dsimp only [L2H.cxH, cxOf]
  refine g_start [some (.ref o.1), none] rfl ?_
  walk_at "go"
  refine g_isX D.ec D.q1 ?_
  walk_at "go"
  refine g_isX D.ec D.q2 ?_
  walk_at "go"
  refine g_isX D.ec D.q3 ?_
  walk_at "go"
  refine g_isX D.ec D.q4 ?_
  walk_at "go"
  refine ⟨small_le (by show 4 ≤ 100000; decide), fun p hp => ?_⟩
  walk_at "go"
  refine g_isX D.ec D.q5 ?_
  walk_at "go"
  refine ⟨small_le (by show 1 ≤ 100000; decide), fun l hl => ?_⟩
  have np : p ≠ l := ne_of_none upd_same hl
  have gp : (upd (upd H p (.lst [.bl b1, .bl b2, .bl b3, .bl b4])) l (.lst [.bl b5])) p = some (.lst [.bl b1, .bl b2, .bl b3, .bl b4]) := by
    rw [upd_ne np]
    exact upd_same
  refine g_cat gp upd_same (small_le (by show 5 ≤ 100000; decide)) fun m hm => ?_
  refine ⟨.inl ⟨rfl, _, SqL.of upd_same⟩, ?_⟩
  walk_at "go"
  refine ⟨m, [b1, b2, b3, b4, b5], rfl, rfl, SqL.of upd_same, ?_⟩
  rw [D.one]
  exact q _ fun b u z => by
    have z1 : b ≠ p := ne_of_none z hp
    have z2 : (upd H p (.lst [.bl b1, .bl b2, .bl b3, .bl b4])) b = some u := by rw [upd_ne z1]; exact z
    have z3 : b ≠ l := ne_of_none z2 hl
    have z4 : (upd (upd H p (.lst [.bl b1, .bl b2, .bl b3, .bl b4])) l (.lst [.bl b5])) b = some u := by rw [upd_ne z3]; exact z2
    rw [upd_ne (ne_of_none z4 hm)]
    exact z4
end
end Cj
namespace Cj
open PySem PySem.Spec PyProof.Rows L2
theorem pss_never {X : Cx} {ss : List Stmt} : PSs X ss (fun _ _ _ => False) := ⟨fun _ _ _ _ _ _ h => h.elim⟩
theorem g_callS {sp : Sp} {Ef : L2.St → XK} {tA : TA} {σ : L2.St} {H : Hp} {Q : VK} (h : tA σ H fun vs H1 => sp vs H1 Q (Ef σ)) : tCallS sp Ef tA σ H Q := h
theorem g_iteT {A B : Prop} (h : A) : if true = true then A else B := h
end Cj
namespace Cj
open PySem PySem.Spec PyProof.Rows L2
theorem kit_self {K : PySem.W.Frag} {D : Addr} : PySem.W.kitOne K (.ref D) (.ref D) = some true := if_pos (beq_self_eq_true _)
theorem kit_other {K : PySem.W.Frag} {D C : Addr} {b : Bool} (hne : (D == C) = false) (hd : PySem.W.hasDictIn K C = true) (ht : PySem.W.typeIn K (.ref C) = some (.type "type")) (h : PySem.W.subIn K (.ref D) (.ref C) = some b) : PySem.W.kitOne K (.ref D) (.ref C) = some b := by
  have e : (Value.ref D == Value.ref C) = false := by
    rw [Bool.eq_false_iff]
    intro z
    have q := Value.ref.inj (beq_iff_eq.mp z)
    rw [q, beq_self_eq_true] at hne
    cases hne
  obtain ⟨cd, hc, _⟩ := PySem.W.any_some hd
  have e2 : ((PySem.W.clsIn K C).isSome && PySem.W.typeIn K (.ref C) == some (.type "type")) = true := by
    rw [hc, ht] <;> rfl
  unfold PySem.W.kitOne
  rw [e, if_neg Bool.false_ne_true]
  show (if _ = true then _ else _) = _
  rw [if_pos e2]
  exact h
theorem kit_type {K : PySem.W.Frag} {D : Addr} {n : String} {b : Bool} (hm : PySem.W.kitMeta n = true) (h : PySem.W.subIn K (.ref D) (.type n) = some b) : PySem.W.kitOne K (.ref D) (.type n) = some b := by
  have e : (Value.ref D == Value.type n) = false := by
    rw [Bool.eq_false_iff]
    intro z
    cases (beq_iff_eq.mp z)
  unfold PySem.W.kitOne
  rw [e, if_neg Bool.false_ne_true]
  show (if _ = true then _ else _) = _
  rw [if_pos hm]
  exact h
section
variable {X : Cx} {k j : Nat} {x : Str} {ps : List Str} {sp : Sp} {e : Expr} {es : List Expr} {t : TA} {p pos : Pos}
/-- a def that may raise, called where it does not -/
theorem pe_calL (c : CalR X.prog X.w X.K X.mg X.base k x ps sp) (hr : Room j X.A) (hk : k ≤ j) (ha : PA X (e :: es) t) (hg : Gl X x := by rfl) (hdb : (x == ("__debug__" : Str)) = false := by decide)
    (he : starEach (e :: es) X.env = (false, eval e X.env) :: starEach es X.env := by rfl) (hpl : (backTo pos (starEach es X.env)).any (·.1) = false := by rfl) :
    PE X (.Call (.Name x p) (e :: es) [] pos) (tCall sp [] E0 t) := by
  obtain ⟨f, fd, F, hm, hkp, hb⟩ := c.ex
  exact pe_call F (hr.mono hk) hg hm hkp hb .nil passL ha hdb he hpl
end
end Cj

namespace Cj
theorem row_of {cs : List Int} (l : cs.length ≤ 12) (h : cs[0]? = some 1) (up : ∀ (i : Nat) (x y : Int), cs[i]? = some x → cs[i + 1]? = some y → x < y) (top : ∀ x, cs[cs.length - 1]? = some x → x ≤ 10 ^ 60) : Row cs where
  len := l
  hd := h
  up := up
  top := fun x hx => by
    obtain ⟨i, hi⟩ := List.mem_iff_getElem?.mp hx
    have li := (List.getElem?_eq_some_iff.mp hi).1
    have go : ∀ (d j : Nat) (y : Int), j = i + d → cs[j]? = some y → x ≤ y := by
      intro d
      induction d with
      | zero =>
        intro j y hj hy
        rw [hj, Nat.add_zero, hi] at hy
        cases hy
        exact Int.le_refl _
      | succ d ih =>
        intro j y hj hy
        have lj := (List.getElem?_eq_some_iff.mp hy).1
        have lp : i + d < cs.length := by omega
        have e := List.getElem?_eq_getElem lp
        have z1 := ih _ _ rfl e
        have z2 := up (i + d) _ y e (by rw [show i + d + 1 = j by omega]; exact hy)
        omega
    have ll : cs.length - 1 < cs.length := by omega
    have e := List.getElem?_eq_getElem ll
    have z1 := go (cs.length - 1 - i) _ _ (by omega) e
    have z2 := top _ e
    omega
end Cj
namespace Cj
open PySem PySem.Spec PyProof.Rows L2
section
variable {P : Program} {w : World} {K : PySem.W.Frag} {mg : Str → Option Value} {base : Heap} {R W A G T' C D' : Addr} {b1 b2 b3 b4 b5 : Bool}
abbrev s_good_row : Stmt := top 10
theorem sc_good_row : FnScope ["coins", "k"] ["coins"] (defScope s_good_row) := ⟨rfl, rfl, rfl, by decide +kernel, rfl, by decide +kernel, by decide +kernel⟩

def spGood (K : PySem.W.Frag) (D : Addr) : Sp := fun vs H Q E => ∃ (a : Addr) (cs : List Int), vs = [.ref a] ∧ SqL K H a (cs.map V.int) ∧ cs.length ≤ 1000 ∧ (Row cs → RetL cs H Q) ∧ (¬ Row cs → E (.ref D) none H)
theorem ok_good {f : Addr} {fd : FuncData} {tM tG : Tok} (F : Fun K "good_row" "good_row" s_good_row f fd) (T : Bn mg) (gc_MOST : mg "MOST" = some (.int 12 tM)) (gc_GREATEST : mg "GREATEST" = some (.int (10 ^ 60) tG)) (D : ExD K mg R W A G T' C D' "NoRow" b1 b2 b3 b4 b5) :
    FnOk P w K mg base (L2.CX P w) 1 f fd ["coins"] (spGood K D') := by
  refine F.okX sc_good_row (fun vs H Q E h => ?_) (fun cdv A0 outer s H vs Q E hr h => ?_)
  · obtain ⟨a, cs, rfl, _⟩ := h
    rfl
  · obtain ⟨a, cs, rfl, hA, hn, good, bad⟩ := h
    refine ⟨_, (pss_cons (ps_if (PW.pt (pw_or (pt_cmpR op_lt (pe_callB call_ln (by rfl) T.m_len PySem.boot_len (pa_cons (pv 0) pa_nil)) pe_int (nomark _)) (pw_or (pt_cmpR op_gt (pe_callB call_ln (by rfl) T.m_len PySem.boot_len (pa_cons (pv 0) pa_nil)) (pe_glob (v := .int _) rfl gc_MOST ⟨_, rfl⟩) (nomark _)) (pw_or1 (pt_cmpR op_ne (pe_ix ix_list (pv 0) pe_int (fun _ _ => rfl)) pe_int (nomark _)))))) (pss_one (ps_raise rfl (takes_of rfl rfl rfl rfl) (pmk_own PySem.F.excBase_ValueError D.ex D.nD D.ki (raises_own D.ri D.rt) rfl))) pss_nil)
      (pss_cons (ps_for (passes_of rfl) rfl (pi_range2 rfl T.m_range (pa_cons pe_int (pa_cons (pe_callB call_ln (by rfl) T.m_len PySem.boot_len (pa_cons (pv 0) pa_nil)) pa_nil))) (pg_name (i := 1) sc_good_row.nd rfl (by first | exact Or.inl rfl | exact Or.inr rfl)) (pss_one (ps_if (pt_cmpR op_le (pe_ix ix_list (pv 0) (pv 1) (fun _ _ => rfl)) (pe_ix ix_list (pv 0) (pe_op op_sub (pv 1) pe_int) (fun _ _ => rfl)) (nomark _)) (pss_one (ps_raise rfl (takes_of rfl rfl rfl rfl) (pmk_own PySem.F.excBase_ValueError D.ex D.nD D.ki (raises_own D.ri D.rt) rfl))) pss_nil)))
      (pss_cons (ps_if (pt_cmpR op_gt (pe_ix ix_list (pv 0) (pe_un un_neg pe_int) (fun _ _ => rfl)) (pe_glob (v := .int _) rfl gc_GREATEST ⟨_, rfl⟩) (nomark _)) (pss_one (ps_raise rfl (takes_of rfl rfl rfl rfl) (pmk_own PySem.F.excBase_ValueError D.ex D.nD D.ki (raises_own D.ri D.rt) rfl))) pss_nil)
      (pss_one (ps_ret (pe_callTy call_ls (by rfl) T.m_list (by decide +kernel) (pa_cons (pv 0) pa_nil))))))), ?_⟩
    try dsimp only [cxOf]
    refine g_start [some (.ref a), none] rfl ?_
    walk_at "go"
    refine g_iteD (fun c1 => ?_) (fun c1 => ?_)
    · exact bad fun r => by have := r.ne; omega
    walk_at "go"
    refine g_iteD (fun c2 => ?_) (fun c2 => ?_)
    · exact bad fun r => by have := r.len; omega
    walk_at "go"
    have l0 : 0 < cs.length := by omega
    have e0 := List.getElem?_eq_getElem l0
    refine g_ix hA (at_val (k := 0) e0) ?_
    walk_at "go"
    refine g_iteN (fun c3 => ?_) (fun c3 => ?_)
    · exact bad fun r => c3 (by have z := r.hd; rw [e0] at z; exact Option.some.inj z)
    have h1 : cs[0]? = some 1 := by rw [e0, c3]
    walk_at "go"
    refine f_R2 (lo := 1) (n := cs.length) (by omega) (fun i σ' H' => (∀ (k : Nat) (x y : Int), k < i → cs[k]? = some x → cs[k + 1]? = some y → x < y) ∧ ∃ v, σ' = [some (.ref a), v] ∧ H' = H) ⟨fun k x y hk => by omega, none, rfl, rfl⟩ ?_ ?_ ?_
    · rintro i σ' H' hi ⟨up, v, rfl, rfl⟩
      rw [show (1 : Int) + (i : Int) = ((i + 1 : Nat) : Int) by omega]
      have l1 : i + 1 < cs.length := by omega
      have e1 := List.getElem?_eq_getElem l1
      have e2 := List.getElem?_eq_getElem (show i < cs.length by omega)
      walk_at "go"
      refine g_ix hA (at_val e1) ?_
      walk_at "go"
      rw [show ((i + 1 : Nat) : Int) - 1 = (i : Int) by omega]
      refine g_ix hA (at_val e2) ?_
      walk_at "go"
      refine g_iteD (fun c4 => ?_) (fun c4 => ?_)
      · exact bad fun r => by have := r.up i _ _ e2 e1; omega
      walk_at "go"
      refine ⟨fun k x y hk hx hy => ?_, _, rfl, rfl⟩
      by_cases ek : k = i
      · subst ek
        rw [e2] at hx
        rw [e1] at hy
        cases hx
        cases hy
        omega
      · exact up k x y (by omega) hx hy
    · rintro σ' H' ⟨up, v, rfl, rfl⟩
      have ll : cs.length - 1 < cs.length := by omega
      have el := List.getElem?_eq_getElem ll
      have up' : ∀ (i : Nat) (x y : Int), cs[i]? = some x → cs[i + 1]? = some y → x < y := fun i x y hx hy => up i x y (by have := (List.getElem?_eq_some_iff.mp hy).1; omega) hx hy
      walk_at "go"
      refine g_ix hA (at_neg1 el) ?_
      walk_at "go"
      refine g_iteD (fun c5 => ?_) (fun c5 => ?_)
      · exact bad fun r => by have := r.top _ (List.getElem_mem ll); omega
      walk_at "go"
      refine g_lsN hA fun p H' hp s1 e => ?_
      exact good (row_of (by omega) h1 up' (fun x hx => by rw [el] at hx; cases hx; omega)) p H' hp s1 e
    · intro Q' q'
      walk_at "go"
      exact q'
end
end Cj

namespace Cj
open PySem PySem.Spec PyProof.Rows L2
section
variable {K : PySem.W.Frag} {σ : L2.St} {H : Hp} {te : TE} {D : Ends} {tu : TS} {Q : VK}
/-- a walk over a text's signs -/
theorem f_S {j : Nat} {z : Str} (Pv : Nat → L2.St → Hp → Prop) (h0 : Pv 0 σ H)
    (hs : ∀ (i c : Nat) σ' H', z.cps.toList[i]? = some c → Pv i σ' H' → tu { D with nx := Pv (i + 1), ct := Pv (i + 1), bk := D.nx } (σ'.set j (some (.str ⟨#[c]⟩))) H')
    (hd : ∀ σ' H', Pv z.length σ' H' → D.nx σ' H') (ht : ∀ Q : VK, Q (.str z) H → te σ H Q) : tFor (iStr te) (gName j) tu D σ H :=
  ht _ ⟨z, rfl, for_it walk_str Pv h0 (fun _ _ _ _ _ => trivial) (fun i x σ' H1 H2 hi p y => by
    obtain ⟨rfl, c, hc, rfl⟩ := y
    exact hs i c σ' _ (by rw [Array.getElem?_toList]; exact hc) p) hd⟩
theorem g_splt {a : Str} (h : a.length ≤ 90000) (q : ∀ p, H p = none → Q (.ref p) (upd H p (.lst ((wordsOf a).map V.str)))) : rSplt (.str a) [.str (" " : Str)] H Q :=
  ⟨a, _, rfl, rfl, by decide +kernel, small_le (by omega), q⟩
/-- what is left of a comprehension over the list at a once it stands -/
def LcR (K : PySem.W.Frag) (j : Nat) (te : TE) (vs : List Nat) (σ : L2.St) (Q : VK) (a : Addr) (H1 : Hp) : Prop :=
  ∀ D, H1 D = none → ∃ W : Nat → Nat → Hp → Prop, (∃ m, W 0 m (upd H1 D (.lst []))) ∧ ∀ i m H, W i m H →
    ((Itl K a).stop i H ∧ Q (.ref D) H) ∨ ((Itl K a).go i H ∧ ∃ Nx : Hp → Prop, (∀ H', Nx H' → ∃ m', m' < m ∧ W (i + 1) m' H') ∧ ∀ x H', (Itl K a).yld i H x H' → gName j x (wipe σ vs) H' fun σ2 H2 => wipe σ2 vs = wipe σ vs ∧ tYes σ2 H2 fun b H3 =>
      if b = true then te σ2 H3 fun y H4 => ∃ acc, H4 D = some (.lst acc) ∧ acc.length < sizeLine ∧ Nx (upd H4 D (.lst (acc ++ [y]))) else Nx H3)
theorem g_lcI {tl : TE} {j : Nat} {vs : List Nat} (h : tl σ H fun v H1 => ∃ a, v = .ref a ∧ (∃ xs, SqL K H1 a xs) ∧ LcR K j te vs σ Q a H1) : tLc (iList K tl) (gName j) tYes te vs σ H Q := h
theorem lcR_of {j : Nat} {vs : List Nat} {a : Addr} {xs : List V} (G : Nat → List V) (Pn : Nat → Prop) (hG : G 0 = []) (h0 : Pn 0) (hx : SqL K H a xs) (hw : ∀ x, wipe ((wipe σ vs).set j (some x)) vs = wipe σ vs)
    (hs : ∀ (i : Nat) (x : V) (D : Addr), xs[i]? = some x → H D = none → Pn i → te ((wipe σ vs).set j (some x)) (upd H D (.lst (G i))) fun y H4 => ∃ acc, H4 D = some (.lst acc) ∧ acc.length < sizeLine ∧ upd H4 D (.lst (acc ++ [y])) = upd H D (.lst (G (i + 1))) ∧ Pn (i + 1))
    (q : ∀ D, H D = none → Pn xs.length → Q (.ref D) (upd H D (.lst (G xs.length)))) : LcR K j te vs σ Q a H := fun D hD =>
  lc_list (xs := xs) (fun i H' => H' = upd H D (.lst (G i)) ∧ Pn i) ⟨by rw [hG], h0⟩ (fun i H' _ e => by rw [e.1]; exact (same_new hD).seq hx)
    (fun i x H' hi e => by
      obtain ⟨rfl, p⟩ := e
      exact ⟨hw x, hs i x D hi hD p⟩) (fun H' e => by rw [e.1]; exact q D hD e.2)
theorem g_ixS {z : Str} {i : Int} {c : Nat} (h : z.length ≤ 100000) (ha : atI z.cps.toList i = some c) (q : Q (.str ⟨#[c]⟩) H) : rIxS (.str z) (.int i) H Q := ⟨z, i, c, rfl, rfl, small_le h, ha, q⟩
end
theorem none_back {H H' : Hp} {q : Addr} (s : Same H H') (h : H' q = none) : H q = none := by
  cases e : H q with
  | none => rfl
  | some o =>
    rw [s _ _ e] at h
    cases h
theorem figs_list : ("0123456789" : Str).cps.toList = [48, 49, 50, 51, 52, 53, 54, 55, 56, 57] := by decide +kernel
theorem fig_in (c : Nat) : c ∈ ("0123456789" : Str).cps.toList ↔ 48 ≤ c ∧ c ≤ 57 := by
  rw [figs_list]
  simp only [List.mem_cons, List.not_mem_nil, or_false]
  omega
theorem sign_nought (c : Nat) : (⟨#[c]⟩ : Str) = ("0" : Str) ↔ c = 48 := by
  have e : ("0" : Str) = ⟨#[48]⟩ := by decide +kernel
  rw [e]
  constructor
  · intro h
    have := congrArg Str.cps h
    simpa using this
  · intro h
    rw [h]
theorem str_nil {z : Str} : z = ("" : Str) ↔ z.length = 0 := by
  have e : TL.tl ("" : Str) = [] := by decide +kernel
  constructor
  · intro h
    rw [h, TL.len_tl, e]
    rfl
  · intro h
    refine TL.ext_tl ?_
    rw [e]
    exact List.length_eq_zero_iff.mp (by rw [← TL.len_tl]; exact h)
section
variable {P : Program} {w : World} {K : PySem.W.Frag} {mg : Str → Option Value} {base : Heap} {R W A G T' C D' D2' : Addr} {b1 b2 b3 b4 b5 c1 c2 c3 c4 c5 : Bool}
abbrev s_number_of : Stmt := top 15
theorem sc_number_of : FnScope ["word", "sign"] ["word"] (defScope s_number_of) := ⟨rfl, rfl, rfl, by decide +kernel, rfl, by decide +kernel, by decide +kernel⟩

def spNum (D : Addr) : Sp := fun vs H Q E => ∃ z : Str, vs = [.str z] ∧ z.length ≤ 1000 ∧ (Word z → Q (.int (wval z)) H) ∧ (¬ Word z → E (.ref D) none H)
theorem ok_number {f : Addr} {fd : FuncData} {tF tM : Tok} (F : Fun K "number_of" "number_of" s_number_of f fd) (T : Bn mg) (gc_FIGURES : mg "FIGURES" = some (.str "0123456789" tF)) (gc_MOST_FIGURES : mg "MOST_FIGURES" = some (.int 61 tM)) (D : ExD K mg R W A G T' C D' "NoText" b1 b2 b3 b4 b5) :
    FnOk P w K mg base (L2.CX P w) 1 f fd ["word"] (spNum D') := by
  refine F.okX sc_number_of (fun vs H Q E h => ?_) (fun cdv A0 outer s H vs Q E hr h => ?_)
  · obtain ⟨z, rfl, _⟩ := h
    rfl
  · obtain ⟨z, rfl, hz, good, bad⟩ := h
    refine ⟨_, (pss_cons (ps_if (PW.pt (pw_or (pt_cmpR op_eq (pv 0) pe_str (nomark _)) (pw_or (pt_cmpR op_gt (pe_callB call_lnS (by rfl) T.m_len PySem.boot_len (pa_cons (pv 0) pa_nil)) (pe_glob (v := .int _) rfl gc_MOST_FIGURES ⟨_, rfl⟩) (nomark _)) (pw_or1 (pt_cmpR op_eq (pe_ix ix_str (pv 0) pe_int (fun _ _ => rfl)) pe_str (nomark _)))))) (pss_one (ps_raise rfl (takes_of rfl rfl rfl rfl) (pmk_own PySem.F.excBase_ValueError D.ex D.nD D.ki (raises_own D.ri D.rt) rfl))) pss_nil)
      (pss_cons (ps_for (passes_of rfl) rfl (pi_str (pv 0)) (pg_name (i := 1) sc_number_of.nd rfl (by first | exact Or.inl rfl | exact Or.inr rfl)) (pss_one (ps_if (pt_cmpR op_notIn_sign (pv 1) (pe_glob (v := .str _) rfl gc_FIGURES ⟨_, rfl⟩) (by rfl)) (pss_one (ps_raise rfl (takes_of rfl rfl rfl rfl) (pmk_own PySem.F.excBase_ValueError D.ex D.nD D.ki (raises_own D.ri D.rt) rfl))) pss_nil)))
      (pss_one (ps_ret (pe_callTy call_int_str (by rfl) T.m_int (by decide +kernel) (pa_cons (pv 0) pa_nil)))))), ?_⟩
    try dsimp only [cxOf]
    refine g_start [some (.str z), none] rfl ?_
    walk_at "go"
    refine g_iteD (fun h1 => ?_) (fun h1 => ?_)
    · exact bad fun w => w.ne (str_nil.mp h1)
    have n0 : z.length ≠ 0 := fun e => h1 (str_nil.mpr e)
    walk_at "go"
    refine g_lnS (by omega) ?_
    walk_at "go"
    refine g_iteD (fun h2 => ?_) (fun h2 => ?_)
    · exact bad fun w => by have := w.le; omega
    obtain ⟨c, hc⟩ : ∃ c, z.cps.toList[0]? = some c := ⟨_, List.getElem?_eq_getElem (by rw [Array.length_toList]; exact Nat.pos_of_ne_zero n0)⟩
    walk_at "go"
    refine g_ixS (by omega) (atI_nat (j := 0) hc) ?_
    walk_at "go"
    refine g_iteD (fun h3 => ?_) (fun h3 => ?_)
    · exact bad fun w => w.hd c hc ((sign_nought c).mp h3)
    walk_at "go"
    refine f_S (z := z) (fun i σ' H' => (∀ (k c : Nat), k < i → z.cps.toList[k]? = some c → 48 ≤ c ∧ c ≤ 57) ∧ ∃ v, σ' = [some (.str z), v] ∧ H' = H) ⟨fun k c hk => absurd hk (Nat.not_lt_zero _), none, rfl, rfl⟩ ?_ ?_ ?_
    · rintro i c σ' H' hi ⟨figs, v, rfl, rfl⟩
      walk_at "go"
      refine ⟨c, _, rfl, rfl, ?_⟩
      walk_at "go"
      refine g_iteN (fun h4 => ?_) (fun h4 => ?_)
      · exact bad fun w => h4 ((fig_in c).mpr (w.fig c (List.mem_of_getElem? hi)))
      walk_at "go"
      refine ⟨fun k d hk hd => ?_, _, rfl, rfl⟩
      by_cases ek : k = i
      · rw [ek, hi] at hd
        cases hd
        exact (fig_in c).mp h4
      · exact figs k d (by omega) hd
    · rintro σ' H' ⟨figs, v, rfl, rfl⟩
      have W0 : Word z := ⟨n0, by omega, fun d hd e => h3 ((sign_nought c).mpr (by rw [hc] at hd; cases hd; exact e)), fun d hd => by
        obtain ⟨k, hk⟩ := List.mem_iff_getElem?.mp hd
        have := (List.getElem?_eq_some_iff.mp hk).1
        rw [Array.length_toList] at this
        exact figs k d this hk⟩
      walk_at "go"
      refine ⟨z, _, rfl, word_int W0, by omega, ?_⟩
      exact good W0
    · intro Q' q'
      walk_at "go"
      exact q'
abbrev s_read : Stmt := top 16
theorem sc_read : FnScope ["line", "word"] ["line"] (defScope s_read) := ⟨rfl, rfl, rfl, by decide +kernel, rfl, by decide +kernel, by decide +kernel⟩

def spRead (K : PySem.W.Frag) (R D : Addr) : Sp := fun vs H Q E => ∃ z : Str, vs = [.str z] ∧ z.length ≤ 900 ∧ (AllW (wordsOf z) → Row (vals (wordsOf z)) → RetL (vals (wordsOf z)) H Q) ∧
  (AllW (wordsOf z) → ¬ Row (vals (wordsOf z)) → ∀ H', Same H H' → E (.ref R) none H') ∧ (¬ AllW (wordsOf z) → ∀ H', Same H H' → E (.ref D) none H')
theorem ok_read {f : Addr} {fd : FuncData} (F : Fun K "read" "read" s_read f fd) (T : Bn mg) (r_good_row : CalR P w K mg base 1 "good_row" ["coins"] (spGood K D')) (r_number_of : CalR P w K mg base 1 "number_of" ["word"] (spNum D2')) :
    FnOk P w K mg base (L2.CX P w) 2 f fd ["line"] (spRead K D' D2') := by
  refine F.okX sc_read (fun vs H Q E h => ?_) (fun cdv A0 outer s H vs Q E hr h => ?_)
  · obtain ⟨z, rfl, _⟩ := h
    rfl
  · obtain ⟨z, rfl, hz, good, noRow, noText⟩ := h
    refine ⟨_, (pss_one (ps_ret (pe_calR r_good_row (takes_of rfl rfl rfl rfl) hr (by decide) (pa_cons (pe_lcE (E := E) (own := [("word", 1)]) (g := gName 1) (tt := tYes) rfl rfl (takes_of rfl rfl rfl rfl) (fun _ _ _ _ z => z) (by rfl) sc_read.nd (pi_list (pe_m1 PySem.F.slot_str_split PySem.F.type_str_split mt_splt (pv 0) pe_str)) (blkOk_by (own := [("word", 1)]) (N := ["line", "word"]) (sc := defScope s_read) (by decide +kernel)) (fun _ _ _ _ _ _ => pg_name (i := 1) sc_read.nd rfl (Or.inl rfl)) (fun _ _ _ _ _ _ => pts_nil) (fun _ _ _ _ _ _ hx => (pe_calE r_number_of hx hr (by decide) (pa_cons (pv 1) pa_nil)))) pa_nil)))), ?_⟩
    try dsimp only [cxOf]
    refine g_start [some (.str z), none] rfl ?_
    obtain ⟨l1, l2, l3⟩ := words_len z
    have lz := hz
    walk_at "go"
    refine g_callS ?_
    walk_at "go"
    refine g_lcI ?_
    walk_at "go"
    refine g_splt (by omega) fun p hp => ?_
    have sp := same_new (o := .lst ((wordsOf z).map V.str)) hp
    refine ⟨p, rfl, ⟨_, sq_of upd_same⟩, ?_⟩
    refine lcR_of (xs := (wordsOf z).map V.str) (fun i => (vals ((wordsOf z).take i)).map V.int) (fun i => ∀ (k : Nat) (x : Str), k < i → (wordsOf z)[k]? = some x → Word x) rfl (fun k x hk => absurd hk (Nat.not_lt_zero _)) (sq_of upd_same) ?_ ?_ ?_
    · exact fun _ => rfl
    · intro i x D hi hD words
      rw [List.getElem?_map] at hi
      obtain ⟨y, hy, rfl⟩ := Option.map_eq_some_iff.mp hi
      have my := List.mem_of_getElem? hy
      have li := (List.getElem?_eq_some_iff.mp hy).1
      walk_at "go"
      refine ⟨y, rfl, by have := l3 y my; omega, fun wy => ⟨_, upd_same, small_lt ?_, ?_, fun k u hk hu => ?_⟩, fun ny => ?_⟩
      · unfold vals
        rw [List.length_map, List.length_map, List.length_take]
        omega
      · unfold vals
        rw [upd_upd, List.take_succ, hy, List.map_append, List.map_append]
        rfl
      · by_cases ek : k = i
        · rw [ek, hy] at hu
          cases hu
          exact wy
        · exact words k u (by omega) hu
      · exact noText (fun all => ny (all y my)) _ (sp.trans (same_new hD))
    · intro D hD words
      rw [List.length_map, List.take_of_length_le (Nat.le_refl _)]
      have all : AllW (wordsOf z) := fun y hy => by
        obtain ⟨k, hk⟩ := List.mem_iff_getElem?.mp hy
        have := (List.getElem?_eq_some_iff.mp hk).1
        exact words k y (by rw [List.length_map]; exact this) hk
      have s2 := sp.trans (same_new (o := .lst ((vals (wordsOf z)).map V.int)) hD)
      walk_at "go"
      refine ⟨D, vals (wordsOf z), rfl, sq_of upd_same, ?_, fun row q1 H1 h1 sH1 e1 => ?_, fun nr => noRow all nr _ s2⟩
      · unfold vals
        rw [List.length_map]
        omega
      · exact good all row q1 H1 (none_back s2 h1) (s2.trans sH1) e1
end
end Cj

namespace Cj
open PySem PySem.Spec PyProof.Rows L2
section
variable {P : Program} {w : World} {K : PySem.W.Frag} {mg : Str → Option Value} {base : Heap}
abbrev s__law_cell_at : Stmt := top 19
theorem sc__law_cell_at : FnScope ["_law_script", "_law_k"] ["_law_script", "_law_k"] (defScope s__law_cell_at) := ⟨rfl, rfl, rfl, by decide +kernel, rfl, by decide +kernel, by decide +kernel⟩

def cellAt (ns : List Int) (k : Int) : Int := ns.getD k.toNat 0
def spCell (K : PySem.W.Frag) : Sp := fun vs H Q _ => ∃ (a : Addr) (ns : List Int) (k : Int), vs = [.ref a, .int k] ∧ SqL K H a (ns.map V.int) ∧ 0 ≤ k ∧ Q (.int (cellAt ns k)) H
theorem ok_cell {f : Addr} {fd : FuncData} (F : Fun K "_law_cell_at" "_law_cell_at" s__law_cell_at f fd) (T : Bn mg) : FnOk P w K mg base CX0 1 f fd ["_law_script", "_law_k"] (spCell K) := by
  refine F.ok sc__law_cell_at (fun vs H Q E h => ?_) (fun cdv A outer s H vs Q E hr h => ?_)
  · obtain ⟨a, ns, k, rfl, _⟩ := h
    rfl
  · obtain ⟨a, ns, k, rfl, hA, h0, q⟩ := h
    refine ⟨_, (pss_cons (ps_if (pt_cmpR op_lt (pv 1) (pe_callB call_ln (by rfl) T.m_len PySem.boot_len (pa_cons (pv 0) pa_nil)) (nomark _)) (pss_one (ps_ret (pe_ix ix_list (pv 0) (pv 1) (fun _ _ => rfl)))) pss_nil)
      (pss_one (ps_ret pe_int))), ?_⟩
    try dsimp only [cxOf]
    refine g_start [some (.ref a), some (.int k)] rfl ?_
    walk_at "go"
    refine g_iteD (fun hk => ?_) (fun hk => ?_)
    · walk_at "go"
      refine g_ix hA (at_intZ h0 hk) ?_
      walk_at "go"
      exact q
    · walk_at "go"
      have e : cellAt ns k = 0 := by
        unfold cellAt
        rw [List.getD_eq_getElem?_getD, List.getElem?_eq_none (by omega)]
        rfl
      rw [← e]
      exact q
end
end Cj

namespace Cj
open PySem PySem.Spec PyProof.Rows L2
section
variable {P : Program} {w : World} {K : PySem.W.Frag} {mg : Str → Option Value} {base : Heap}
abbrev s__law_whole : Stmt := top 18
theorem sc__law_whole : FnScope ["_law_found"] ["_law_found"] (defScope s__law_whole) := ⟨rfl, rfl, rfl, by decide +kernel, rfl, by decide +kernel, by decide +kernel⟩

def spWhole : Sp := fun vs H Q _ => ∃ i : Int, vs = [.int i] ∧ Q (.bl true) H
theorem ok_whole {f : Addr} {fd : FuncData} (F : Fun K "_law_whole" "_law_whole" s__law_whole f fd) (T : Bn mg) : FnOk P w K mg base CX0 1 f fd ["_law_found"] spWhole := by
  refine F.ok sc__law_whole (fun vs H Q E h => ?_) (fun cdv A outer s H vs Q E hr h => ?_)
  · obtain ⟨i, rfl, _⟩ := h
    rfl
  · obtain ⟨i, rfl, q⟩ := h
    refine ⟨_, (pss_one (ps_ret (pe_and (pe_callB call_isi (by rfl) T.m_isinstance (by decide +kernel) (pa_cons (pv 0) (pa_cons (pe_bltn (v := .ty "int") rfl T.m_int (by decide +kernel) rfl) pa_nil))) (pe_one (pe_not (pe_callB call_isi (by rfl) T.m_isinstance (by decide +kernel) (pa_cons (pv 0) (pa_cons (pe_bltn (v := .ty "bool") rfl T.m_bool (by decide +kernel) rfl) pa_nil)))))))), ?_⟩
    try dsimp only [cxOf]
    refine g_start [some (.int i)] rfl ?_
    walk_at "go"
    exact q
end
end Cj

namespace Cj
open PySem PySem.Spec PyProof.Rows L2
section
variable {P : Program} {w : World} {K : PySem.W.Frag} {mg : Str → Option Value} {base : Heap}
abbrev s__law_row_by : Stmt := top 20
theorem sc__law_row_by : FnScope ["_law_script", "_law_row", "_law_k", "_law_cell", "_law_more", "_law_last", "_law_coin", "_law_part"] ["_law_script"] (defScope s__law_row_by) := ⟨rfl, rfl, rfl, by decide +kernel, rfl, by decide +kernel, by decide +kernel⟩

def spRowBy (K : PySem.W.Frag) : Sp := fun vs H Q _ => ∃ (a : Addr) (ns : List Int), vs = [.ref a] ∧ SqL K H a (ns.map V.int) ∧ ∀ cs, Row cs → RetL cs H Q
theorem ok_rowBy {f : Addr} {fd : FuncData} (F : Fun K "_law_row_by" "_law_row_by" s__law_row_by f fd) (T : Bn mg) (c__law_cell_at : Cal P w K mg base 1 "_law_cell_at" ["_law_script", "_law_k"] (spCell K)) :
    FnOk P w K mg base CX0 2 f fd ["_law_script"] (spRowBy K) := by
  refine F.ok sc__law_row_by (fun vs H Q E h => ?_) (fun cdv A outer s H vs Q E hr h => ?_)
  · obtain ⟨a, ns, rfl, _⟩ := h
    rfl
  · obtain ⟨a, ns, rfl, hA, q⟩ := h
    refine ⟨_, (pss_cons (ps_set (i := 1) sc__law_row_by.nd rfl (by first | exact Or.inl rfl | exact Or.inr rfl) (pe_lst (pa_cons pe_int pa_nil)))
      (pss_cons (ps_for PassesOwn.never rfl (pi_range1 rfl T.m_range (pa_cons (pe_op op_mod (pe_cal c__law_cell_at hr (by decide) (pa_cons (pv 0) (pa_cons pe_int pa_nil))) pe_int) pa_nil)) (pg_name (i := 2) sc__law_row_by.nd rfl (by first | exact Or.inl rfl | exact Or.inr rfl)) (pss_cons (ps_set (i := 3) sc__law_row_by.nd rfl (by first | exact Or.inl rfl | exact Or.inr rfl) (pe_cal c__law_cell_at hr (by decide) (pa_cons (pv 0) (pa_cons (pe_op op_add pe_int (pv 2)) pa_nil))))
      (pss_cons (ps_set (i := 4) sc__law_row_by.nd rfl (by first | exact Or.inl rfl | exact Or.inr rfl) (pe_op op_fdiv (pv 3) pe_int))
      (pss_cons (ps_set (i := 5) sc__law_row_by.nd rfl (by first | exact Or.inl rfl | exact Or.inr rfl) (pe_ix ix_list (pv 1) (pe_un un_neg pe_int) (fun _ _ => rfl)))
      (pss_cons (ps_set (i := 6) sc__law_row_by.nd rfl (by first | exact Or.inl rfl | exact Or.inr rfl) (pe_op op_add (pe_op op_add (pv 5) pe_int) (pe_op op_mod (pv 4) pe_int)))
      (Evl.pss_cut (ps_if (pt_cmpR op_eq (pe_op op_mod (pv 3) pe_int) pe_int (nomark _)) (pss_one (ps_set (i := 6) sc__law_row_by.nd rfl (by first | exact Or.inl rfl | exact Or.inr rfl) (pe_op op_mul (pv 5) (pe_op op_add pe_int (pe_op op_mod (pv 4) pe_int))))) pss_nil)
      (Evl.pss_cut (ps_if (pt_cmpR op_eq (pe_op op_mod (pv 3) pe_int) pe_int (nomark _)) (pss_one (ps_set (i := 6) sc__law_row_by.nd rfl (by first | exact Or.inl rfl | exact Or.inr rfl) (pe_op op_sub (pe_op op_mul (pv 5) (pe_op op_add pe_int (pe_op op_mod (pv 4) pe_int))) pe_int))) pss_nil)
      (Evl.pss_cut (ps_if (pt_cmpR op_eq (pe_op op_mod (pv 3) pe_int) pe_int (nomark _)) (pss_one (ps_set (i := 6) sc__law_row_by.nd rfl (by first | exact Or.inl rfl | exact Or.inr rfl) (pe_op op_add (pe_op op_add (pv 5) pe_int) (pe_op op_mod (pv 4) (pe_op op_mul pe_int (pv 5)))))) pss_nil)
      (Evl.pss_cut (ps_if (pt_cmpR op_eq (pe_op op_mod (pv 3) pe_int) pe_int (nomark _)) (pss_one (ps_set (i := 6) sc__law_row_by.nd rfl (by first | exact Or.inl rfl | exact Or.inr rfl) (pe_op op_add (pe_op op_add (pe_op op_mul (pv 5) (pe_op op_add pe_int (pe_op op_mod (pv 4) pe_int))) pe_int) (pe_op op_mod (pe_op op_fdiv (pv 4) pe_int) (pv 5))))) pss_nil)
      (Evl.pss_cut (ps_if (PW.pt (pw_and (pt_cmpR op_eq (pe_op op_mod (pv 3) pe_int) pe_int (nomark _)) (pw_and1 (pt_cmpR op_eq (pe_op op_mod (pv 4) pe_int) pe_int (nomark _))))) (pss_cons (ps_set (i := 7) sc__law_row_by.nd rfl (by first | exact Or.inl rfl | exact Or.inr rfl) (pe_op op_mul (pe_op op_mod (pv 4) pe_int) (pe_op op_mod (pe_op op_fdiv (pv 4) pe_int) (pv 5))))
      (pss_one (ps_set (i := 6) sc__law_row_by.nd rfl (by first | exact Or.inl rfl | exact Or.inr rfl) (pe_op op_add (pe_op op_mul (pv 5) (pe_op op_add pe_int (pe_op op_mod (pe_op op_fdiv (pv 4) pe_int) (pe_op op_add (pe_op op_pow pe_int pe_int) pe_int)))) (pv 7))))) pss_nil)
      (pss_one (ps_if (PW.pt (pw_and (pt_cmpR op_lt (pv 5) (pv 6) (nomark _)) (pw_and1 (pt_cmpR op_le (pv 6) (pe_op op_pow pe_int pe_int) (nomark _))))) (pss_one (ps_expr (pe_bm PySem.F.plainAttrs_list PySem.F.slot_list_append PySem.F.type_list_append mt_append (pv 1) (pa_cons (pv 6) pa_nil)))) pss_nil))))))))))))
      (pss_one (ps_ret (pv 1))))), ?_⟩
    try dsimp only [cxOf]
    refine g_start [some (.ref a), none, none, none, none, none, none, none] rfl ?_
    walk_at "go"
    refine ⟨(by show 1 ≤ sizeLine; decide), fun p hp => ?_⟩
    have hA1 : ∀ xs, SqL K (upd H p (.lst xs)) a (ns.map V.int) := fun xs => (same_new hp).seq hA
    walk_at "go"
    have m0 := Int.emod_nonneg (cellAt ns 0) (show (12 : Int) ≠ 0 by decide)
    have m1 := Int.emod_lt_of_pos (cellAt ns 0) (show (0 : Int) < 12 by decide)
    refine f_R1 (n := cellAt ns 0 % 12) (by omega) (fun i σ' H' => ∃ v2 v3 v4 v5 v6 v7 cs, σ' = [some (.ref a), some (.ref p), v2, v3, v4, v5, v6, v7] ∧ H' = upd H p (LI cs) ∧ Row cs ∧ cs.length ≤ i + 1) ⟨_, _, _, _, _, _, [1], rfl, rfl, row_one, Nat.le_refl _⟩ ?_ ?_ ?_
    · rintro i σ' H' hi ⟨v2, v3, v4, v5, v6, v7, cs, rfl, rfl, R, hlen⟩
      obtain ⟨last, hlast⟩ : ∃ x, cs[cs.length - 1]? = some x := ⟨_, List.getElem?_eq_getElem (by have := R.ne; omega)⟩
      have hpos := R.pos _ _ hlast
      walk_at "go"
      refine ⟨a, ns, _, rfl, hA1 _, by omega, ?_⟩
      generalize cellAt ns (2 + (i : Int)) = cell
      walk_at "go"
      refine g_ix (sq_of upd_same) (at_neg1 hlast) ?_
      walk_at "go"
      have Md : ∀ {tu tz : TS} {D : Ends} {coin : Int} {v7 : Option V},
          (∀ (M : L2.St → Hp → Prop), (∀ (coin : Int) (v7 : Option V), M [some (.ref a), some (.ref p), some (.int i), some (.int cell), some (.int (cell / 6)), some (.int last), some (.int coin), v7] (upd H p (LI cs))) →
            tu { D with nx := M } [some (.ref a), some (.ref p), some (.int i), some (.int cell), some (.int (cell / 6)), some (.int last), some (.int coin), v7] (upd H p (LI cs))) →
          (∀ (coin : Int) (v7 : Option V), tz D [some (.ref a), some (.ref p), some (.int i), some (.int cell), some (.int (cell / 6)), some (.int last), some (.int coin), v7] (upd H p (LI cs))) →
          Evl.tCut tu tz D [some (.ref a), some (.ref p), some (.int i), some (.int cell), some (.int (cell / 6)), some (.int last), some (.int coin), v7] (upd H p (LI cs)) := by
        intro tu tz D coin v7 h1 h2
        refine ⟨fun σ' H' => ∃ (coin : Int) (v7 : Option V), σ' = [some (.ref a), some (.ref p), some (.int i), some (.int cell), some (.int (cell / 6)), some (.int last), some (.int coin), v7] ∧ H' = upd H p (LI cs), h1 _ fun c v => ⟨c, v, rfl, rfl⟩, ?_⟩
        rintro σ' H' ⟨c, v, rfl, rfl⟩
        exact h2 c v
      refine Md (fun M hM => ?_) (fun coin v7 => ?_)
      · walk_at "go"
        refine g_iteD (fun _ => ?_) (fun _ => ?_)
        · walk_at "go"
          refine g_I (.inr (by omega)) ?_
          walk_at "go"
          exact hM _ _
        · walk_at "go"
          exact hM _ _
      refine Md (fun M hM => ?_) (fun coin v7 => ?_)
      · walk_at "go"
        refine g_iteD (fun _ => ?_) (fun _ => ?_)
        · walk_at "go"
          refine g_I (.inr (by omega)) ?_
          walk_at "go"
          exact hM _ _
        · walk_at "go"
          exact hM _ _
      refine Md (fun M hM => ?_) (fun coin v7 => ?_)
      · walk_at "go"
        refine g_iteD (fun _ => ?_) (fun _ => ?_)
        · walk_at "go"
          refine g_I (.inl (by omega)) ?_
          walk_at "go"
          refine g_I (by show (0 : Int) < _; omega) ?_
          walk_at "go"
          exact hM _ _
        · walk_at "go"
          exact hM _ _
      refine Md (fun M hM => ?_) (fun coin v7 => ?_)
      · walk_at "go"
        refine g_iteD (fun _ => ?_) (fun _ => ?_)
        · walk_at "go"
          refine g_I (.inr (by omega)) ?_
          walk_at "go"
          refine g_I (by show (0 : Int) < _; omega) ?_
          walk_at "go"
          exact hM _ _
        · walk_at "go"
          exact hM _ _
      refine Md (fun M hM => ?_) (fun coin v7 => ?_)
      · walk_at "go"
        refine g_iteD (fun _ => ?_) (fun _ => ?_)
        · walk_at "go"
          refine g_iteD (fun _ => ?_) (fun _ => ?_)
          · walk_at "go"
            refine g_I (by show (0 : Int) < _; omega) ?_
            walk_at "go"
            refine g_I (.inl (by omega)) ?_
            walk_at "go"
            have z : (0 : Int) < 10 ^ (15 : Int).toNat + 37 := by decide
            have z1 := Int.emod_nonneg (cell / 6 / 3) (show (10 ^ (15 : Int).toNat + 37 : Int) ≠ 0 by decide)
            have z2 := Int.emod_lt_of_pos (cell / 6 / 3) z
            have z3 : (10 ^ (15 : Int).toNat + 37 : Int) < 2 ^ 60 := by decide
            refine g_I (.inr (by omega)) ?_
            walk_at "go"
            exact hM _ _
          · walk_at "go"
            exact hM _ _
        · walk_at "go"
          exact hM _ _
      walk_at "go"
      refine g_iteD (fun c1 => ?_) (fun _ => ?_)
      · walk_at "go"
        refine g_iteD (fun c2 => ?_) (fun _ => ?_)
        · walk_at "go"
          refine ⟨.inl ⟨rfl, _, sq_of upd_same⟩, ?_⟩
          walk_at "go"
          refine g_app upd_same (small_lt (by rw [LI_len]; omega)) ?_
          rw [LI_app, upd_upd]
          walk_at "go"
          exact ⟨_, _, _, _, _, _, _, rfl, rfl, R.more hlast c1 c2 (by omega), by rw [List.length_append]; show cs.length + 1 ≤ _; omega⟩
        · walk_at "go"
          exact ⟨_, _, _, _, _, _, _, rfl, rfl, R, by omega⟩
      · walk_at "go"
        exact ⟨_, _, _, _, _, _, _, rfl, rfl, R, by omega⟩
    · rintro σ' H' ⟨v2, v3, v4, v5, v6, v7, cs, rfl, rfl, R, hlen⟩
      walk_at "go"
      exact q cs R p _ hp (same_new hp) upd_same
    · intro Q' q'
      walk_at "go"
      refine ⟨a, ns, 0, rfl, hA1 _, by omega, ?_⟩
      walk_at "go"
      exact q'
end
end Cj

namespace Cj
open PySem PySem.Spec PyProof.Rows L2
/-! texts repeated, cut -/
theorem size_rep (x : Array Nat) : ∀ (n : Nat) (a : Array Nat), (List.foldl (· ++ ·) a (List.replicate n x)).size = a.size + n * x.size
  | 0, a => by
    rw [List.replicate_zero, Nat.zero_mul]
    rfl
  | n + 1, a => by
    rw [List.replicate_succ, List.foldl_cons, size_rep x n (a ++ x), Array.size_append, Nat.succ_mul]
    omega
def rMulS : R2 := fun x y H Q => ∃ (z : Str) (k : Int), x = .str z ∧ y = .int k ∧ z.length = 1 ∧ 2 ≤ k ∧ k ≤ 1000 ∧ ∀ u : Str, u.length = k.toNat → Q (.str u) H
theorem op_mulS {X : Cx} : OpR X (binaryOp .Mult) rMulS := by
  intro pins s σ H x y v u Q I rx ry h
  obtain ⟨z, k, rfl, rfl, hz, k2, k1000, q⟩ := h
  obtain ⟨t, rfl⟩ := rx
  obtain ⟨t', rfl⟩ := ry
  have n1 : ¬ k < 1 := by omega
  have n2 : (k == 1 || z.length == 0) = false := by
    rw [hz]
    have : (k == 1) = false := by
      rw [beq_eq_false_iff_ne]
      omega
    rw [this]
    rfl
  refine PySem.P.mul_str ?_ ?_ ?_ ?_
  · rw [decide_eq_false (by omega), decide_eq_false (by omega)]
    rfl
  · intro _ _ h
    have z1 : (1 : Int) ≤ (2 ^ 63 - 1) / k := Int.le_ediv_of_mul_le (by omega) (by omega)
    omega
  · intro _ _
    refine short24 ?_
    rw [hz]
    omega
  · rw [if_neg n1, if_neg (by rw [n2]; exact Bool.false_ne_true)]
    have l : (⟨(List.replicate k.toNat z.cps).foldl (· ++ ·) #[]⟩ : Str).length = k.toNat := by
      show ((List.replicate k.toNat z.cps).foldl (· ++ ·) #[]).size = k.toNat
      rw [size_rep]
      have : z.cps.size = 1 := hz
      rw [this, Nat.mul_one]
      exact Nat.zero_add _
    exact ⟨small_le (by rw [l]; omega), .str _, H, I.tok _, ⟨_, rfl⟩, q _ l⟩
section
variable {K : PySem.W.Frag} {H : Hp} {Q : VK}
theorem g_slS {z : Str} {lo hi : Option Int} (h : z.length ≤ 100000) (q : Q (.str (cutS z lo hi)) H) : rSlS (.str z) lo hi H Q := ⟨z, rfl, small_le h, q⟩
theorem cutS_to (z : Str) (k : Nat) : (cutS z none (some (k : Int))).length ≤ k := by
  show (((z.cps.toList.drop (HT.sIx z.length 0 none)).take (HT.sIx z.length z.length (some (k : Int)) - HT.sIx z.length 0 none)).toArray).size ≤ k
  rw [List.size_toArray, List.length_take, HT.sIx_nat, HT.sIx_none]
  omega
theorem cutS_from (z : Str) (k : Nat) : (cutS z (some (k : Int)) none).length ≤ z.length - k := by
  show (((z.cps.toList.drop (HT.sIx z.length 0 (some (k : Int)))).take (HT.sIx z.length z.length none - HT.sIx z.length 0 (some (k : Int)))).toArray).size ≤ z.length - k
  rw [List.size_toArray, List.length_take, List.length_drop, HT.sIx_nat, HT.sIx_none, Array.length_toList]
  show min _ (z.cps.size - min k z.cps.size) ≤ z.cps.size - k
  have : z.length = z.cps.size := rfl
  omega
theorem g_slTo {a : Addr} {ns : List Int} {k : Nat} (h : SqL K H a (ns.map V.int)) (q : ∀ p H', H p = none → Same H H' → H' p = some (LI (ns.take k)) → Q (.ref p) H') : rSlL K (.ref a) none (some (k : Int)) H Q :=
  g_slN h (by rw [cut_to, ← List.map_take]) q
theorem g_slFrom {a : Addr} {ns : List Int} {k : Nat} (h : SqL K H a (ns.map V.int)) (q : ∀ p H', H p = none → Same H H' → H' p = some (LI (ns.drop k)) → Q (.ref p) H') : rSlL K (.ref a) (some (k : Int)) none H Q :=
  g_slN h (by rw [cut_from, ← List.map_drop]) q
theorem g_catB {l b : Addr} {xs ys : List Int} (h1 : H l = some (LI xs)) (h2 : H b = some (LI ys)) (hs : xs.length + ys.length ≤ 100) (q : ∀ p H', H p = none → Same H H' → H' p = some (LI (xs ++ ys)) → Q (.ref p) H') : rCat (.ref l) (.ref b) H Q :=
  g_cat h1 h2 (small_le (by rw [LI_len, LI_len]; omega)) fun p hp => by
    rw [← List.map_append]
    exact q p _ hp (same_new hp) upd_same
end
section
variable {P : Program} {w : World} {K : PySem.W.Frag} {mg : Str → Option Value} {base : Heap}
abbrev s_written : Stmt := top 14
theorem sc_written : FnScope ["coins", "coin"] ["coins"] (defScope s_written) := ⟨rfl, rfl, rfl, by decide +kernel, rfl, by decide +kernel, by decide +kernel⟩

def spWritten (K : PySem.W.Frag) : Sp := fun vs H Q _ => ∃ (a : Addr) (cs : List Int), vs = [.ref a] ∧ SqL K H a (cs.map V.int) ∧ Nms cs ∧ cs.length ≤ 100 ∧ ∀ H', Same H H' → Q (.str (rowT cs)) H'
theorem ok_written {f : Addr} {fd : FuncData} (F : Fun K "written" "written" s_written f fd) (T : Bn mg) : FnOk P w K mg base CX0 1 f fd ["coins"] (spWritten K) := by
  refine F.ok sc_written (fun vs H Q E h => ?_) (fun cdv A outer s H vs Q E hr h => ?_)
  · obtain ⟨a, cs, rfl, _⟩ := h
    rfl
  · obtain ⟨a, cs, rfl, hA, N, hl, q⟩ := h
    refine ⟨_, (pss_one (ps_ret (pe_m1 PySem.F.slot_str_join PySem.F.type_str_join mt_jn pe_str (pe_lc (own := [("coin", 1)]) (g := gName 1) (tt := tYes) (by rfl) sc_written.nd (pi_list (pv 0)) (blkOk_by (own := [("coin", 1)]) (N := ["coins", "coin"]) (sc := defScope s_written) (by decide +kernel)) (fun _ _ _ _ _ => pg_name (i := 1) sc_written.nd rfl (Or.inl rfl)) (fun _ _ _ _ _ => pts_nil) (fun _ _ _ _ _ => (pe_callTy call_strI (by rfl) T.m_str (by decide +kernel) (pa_cons (pv 1) pa_nil))))))), ?_⟩
    try dsimp only [cxOf]
    refine g_start [some (.ref a), none] rfl ?_
    walk_at "go"
    refine g_lcL (xs := cs.map V.int) (fun i => ((cs.take i).map nst).map V.str) rfl hA (fun _ => rfl) ?_ ?_ ?_
    · intro i x D hi hD hS
      obtain ⟨y, rfl, hy⟩ := getD_map hi
      have ly := (List.getElem?_eq_some_iff.mp hy).1
      have ny := N y (List.mem_of_getElem? hy)
      walk_at "go"
      refine g_strI (by omega) ?_
      refine lc_end (G := fun i => ((cs.take i).map nst).map V.str) (small_lt (by rw [List.length_map, List.length_map, List.length_take]; omega)) ?_
      rw [List.take_succ, hy, List.map_append, List.map_append]
      rfl
    · intro D hD
      rw [List.length_map, List.take_of_length_le (Nat.le_refl _)]
      walk_at "go"
      refine g_jn (ys := cs.map nst) (sq_of upd_same) ?_ ?_
      · rw [gap_len, List.length_map]
        have : ∀ l : List Int, Nms l → ((l.map nst).map (·.length)).sum ≤ 61 * l.length := by
          intro l
          induction l with
          | nil => exact fun _ => Nat.le_refl _
          | cons c l ih =>
            intro h
            have a := (nst_two (h c List.mem_cons_self)).1
            have b := ih fun y hy => h y (List.mem_cons_of_mem _ hy)
            rw [List.map_cons, List.map_cons, List.sum_cons, List.length_cons]
            omega
        have := this cs N
        omega
      · exact q _ (same_new hD)
    · intro Q' q'
      walk_at "go"
      exact q'
abbrev s__law_sign_by : Stmt := top 21
theorem sc__law_sign_by : FnScope ["_law_cell", "_law_some"] ["_law_cell"] (defScope s__law_sign_by) := ⟨rfl, rfl, rfl, by decide +kernel, rfl, by decide +kernel, by decide +kernel⟩

def spSign : Sp := fun vs H Q _ => ∃ c : Int, vs = [.int c] ∧ ∀ u : Str, u.length = 1 → Q (.str u) H
theorem ok_sign {f : Addr} {fd : FuncData} (F : Fun K "_law_sign_by" "_law_sign_by" s__law_sign_by f fd) (T : Bn mg) : FnOk P w K mg base CX0 1 f fd ["_law_cell"] spSign := by
  refine F.ok sc__law_sign_by (fun vs H Q E h => ?_) (fun cdv A outer s H vs Q E hr h => ?_)
  · obtain ⟨c, rfl, _⟩ := h
    rfl
  · obtain ⟨c, rfl, q⟩ := h
    refine ⟨_, (pss_cons (ps_set (i := 1) sc__law_sign_by.nd rfl (by first | exact Or.inl rfl | exact Or.inr rfl) pe_str)
      (pss_cons (ps_set (i := 1) sc__law_sign_by.nd rfl (by first | exact Or.inl rfl | exact Or.inr rfl) (pe_op op_catS (pv 1) pe_str))
      (pss_one (ps_ret (pe_ix ix_str (pv 1) (pe_op op_mod (pv 0) (pe_callB call_lnS (by rfl) T.m_len PySem.boot_len (pa_cons (pv 1) pa_nil))) (fun _ _ => rfl)))))), ?_⟩
    try dsimp only [cxOf]
    refine g_start [some (.int c), none] rfl ?_
    walk_at "go"
    refine g_catS (by decide +kernel) ?_
    walk_at "go"
    obtain ⟨S, hS⟩ : ∃ S, S = Str.ofString " 0123456789!\"#$&'()*+,-./:;<=>?@ABCDEFGHIJKLMNOPQRSTUVWXYZ[\\]^_`" ++ Str.ofString "abcdefghijklmnopqrstuvwxyz{|}~\n\t" := ⟨_, rfl⟩
    have lS : 0 < S.length ∧ S.length ≤ 200 := by
      rw [hS]
      decide +kernel
    rw [← hS]
    refine g_lnS (by omega) ?_
    refine g_I (by show (0 : Int) < _; omega) ?_
    have k0 := Int.emod_nonneg c (show (S.length : Int) ≠ 0 by omega)
    have k1 := Int.emod_lt_of_pos c (show (0 : Int) < S.length by omega)
    obtain ⟨k, hk⟩ : ∃ k : Nat, c % (S.length : Int) = (k : Int) := ⟨_, (Int.toNat_of_nonneg k0).symm⟩
    rw [hk]
    obtain ⟨d, hd⟩ : ∃ d, S.cps.toList[k]? = some d := ⟨_, List.getElem?_eq_getElem (by rw [Array.length_toList]; show k < S.length; omega)⟩
    refine g_ixS (by omega) (atI_nat (j := k) hd) ?_
    exact q _ rfl
abbrev s__law_odd_text : Stmt := top 22
theorem sc__law_odd_text : FnScope ["_law_cell", "_law_some"] ["_law_cell"] (defScope s__law_odd_text) := ⟨rfl, rfl, rfl, by decide +kernel, rfl, by decide +kernel, by decide +kernel⟩

def spOdd : Sp := fun vs H Q _ => ∃ c : Int, vs = [.int c] ∧ ∀ (u : Str) H', u.length ≤ 20 → Same H H' → Q (.str u) H'
theorem ok_odd {f : Addr} {fd : FuncData} (F : Fun K "_law_odd_text" "_law_odd_text" s__law_odd_text f fd) (T : Bn mg) : FnOk P w K mg base CX0 1 f fd ["_law_cell"] spOdd := by
  refine F.ok sc__law_odd_text (fun vs H Q E h => ?_) (fun cdv A outer s H vs Q E hr h => ?_)
  · obtain ⟨c, rfl, _⟩ := h
    rfl
  · obtain ⟨c, rfl, q⟩ := h
    refine ⟨_, (pss_cons (ps_set (i := 1) sc__law_odd_text.nd rfl (by first | exact Or.inl rfl | exact Or.inr rfl) (pe_lst (pa_cons pe_str (pa_cons pe_str (pa_cons pe_str (pa_cons pe_str (pa_cons pe_str (pa_cons pe_str (pa_cons pe_str (pa_cons pe_str (pa_cons pe_str (pa_cons pe_str (pa_cons pe_str (pa_cons pe_str (pa_cons pe_str (pa_cons pe_str (pa_cons pe_str (pa_cons pe_str pa_nil))))))))))))))))))
      (pss_one (ps_ret (pe_ix ix_list (pv 1) (pe_op op_mod (pv 0) pe_int) (fun _ _ => rfl))))), ?_⟩
    try dsimp only [cxOf]
    refine g_start [some (.int c), none] rfl ?_
    walk_at "go"
    refine ⟨small_le (by show 16 ≤ 100000; decide), fun p hp => ?_⟩
    walk_at "go"
    have k0 := Int.emod_nonneg c (show (16 : Int) ≠ 0 by decide)
    have k1 := Int.emod_lt_of_pos c (show (0 : Int) < 16 by decide)
    obtain ⟨k, hk⟩ : ∃ k : Nat, c % (16 : Int) = (k : Int) := ⟨_, (Int.toNat_of_nonneg k0).symm⟩
    rw [hk]
    have lk : k < 16 := by omega
    have all : ∀ (l : List Str), l.length = 16 → (∀ u ∈ l, u.length ≤ 20) → ∃ u : Str, (l.map V.str)[k]? = some (.str u) ∧ u.length ≤ 20 := fun l hl h => by
      have e := List.getElem?_eq_getElem (show k < l.length by omega)
      exact ⟨l[k], by rw [List.getElem?_map, e]; rfl, h _ (List.getElem_mem (by omega))⟩
    obtain ⟨u, hu, lu⟩ := all ["", " ", "1 ", " 1", "1  5", "0", "01", "1 05", "one", "1,5", "+1", "1 -5", "1.5", "1\n5", "1\t5", "2 5"] rfl (by decide +kernel)
    refine g_ix (sq_of upd_same) (atI_nat (j := k) hu) ?_
    exact q u _ lu (same_new hp)
abbrev s__law_text : Stmt := top 23
theorem sc__law_text : FnScope ["_law_row", "_law_text_here", "_law_number"] ["_law_row"] (defScope s__law_text) := ⟨rfl, rfl, rfl, by decide +kernel, rfl, by decide +kernel, by decide +kernel⟩

def spText (K : PySem.W.Frag) : Sp := fun vs H Q _ => ∃ (a : Addr) (cs : List Int), vs = [.ref a] ∧ SqL K H a (cs.map V.int) ∧ Nms cs ∧ cs.length ≤ 100 ∧ Q (.str (rowT cs)) H
theorem ok_text {f : Addr} {fd : FuncData} (F : Fun K "_law_text" "_law_text" s__law_text f fd) (T : Bn mg) : FnOk P w K mg base CX0 1 f fd ["_law_row"] (spText K) := by
  refine F.ok sc__law_text (fun vs H Q E h => ?_) (fun cdv A outer s H vs Q E hr h => ?_)
  · obtain ⟨a, cs, rfl, _⟩ := h
    rfl
  · obtain ⟨a, cs, rfl, hA, N, hl, q⟩ := h
    refine ⟨_, (pss_cons (ps_set (i := 1) sc__law_text.nd rfl (by first | exact Or.inl rfl | exact Or.inr rfl) pe_str)
      (pss_cons (ps_for PassesOwn.never rfl (pi_list (pv 0)) (pg_name (i := 2) sc__law_text.nd rfl (by first | exact Or.inl rfl | exact Or.inr rfl)) (Evl.pss_cut (ps_if (pt_cmpR op_ne (pv 1) pe_str (nomark _)) (pss_one (ps_set (i := 1) sc__law_text.nd rfl (by first | exact Or.inl rfl | exact Or.inr rfl) (pe_op op_catS (pv 1) pe_str))) pss_nil)
      (pss_one (ps_set (i := 1) sc__law_text.nd rfl (by first | exact Or.inl rfl | exact Or.inr rfl) (pe_op op_catS (pv 1) (pe_callTy call_strI (by rfl) T.m_str (by decide +kernel) (pa_cons (pv 2) pa_nil)))))))
      (pss_one (ps_ret (pv 1))))), ?_⟩
    try dsimp only [cxOf]
    refine g_start [some (.ref a), none, none] rfl ?_
    walk_at "go"
    refine f_L hA (fun i σ' H' => ∃ x, σ' = [some (.ref a), some (.str (rowT (cs.take i))), x] ∧ H' = H) ⟨none, by rw [List.take_zero, (rowT_nil (cs := []) fun _ h => by cases h).mpr rfl]; rfl, rfl⟩ (fun i σ' H' _ ⟨_, _, e⟩ => by rw [e]; exact hA) ?_ ?_ ?_
    · rintro i x σ' H' hi ⟨y, rfl, rfl⟩
      obtain ⟨n, rfl, hn⟩ := getD_map hi
      have ln := (List.getElem?_eq_some_iff.mp hn).1
      have nn := N n (List.mem_of_getElem? hn)
      have n2 := nst_two nn
      have NT : Nms (cs.take i) := fun c hc => N c (List.mem_of_mem_take hc)
      have lt := (rowT_len NT).1
      rw [List.length_take] at lt
      have em := rowT_nil NT
      rw [List.take_succ, hn]
      generalize cs.take i = l at em lt NT ⊢
      walk_at "go"
      refine g_cut (fun σ' H'' => σ' = [some (.ref a), some (.str (if l = [] then ("" : Str) else rowT l ++ (" " : Str))), some (.int n)] ∧ H'' = H') ?_ ?_
      · walk_at "go"
        refine g_iteN (fun ne => ?_) (fun eq => ?_)
        · walk_at "go"
          refine g_catS (by rw [gap_len]; omega) ?_
          walk_at "go"
          rw [if_neg fun z => ne (em.mpr z)]
          exact ⟨rfl, rfl⟩
        · walk_at "go"
          rw [if_pos (em.mp eq), eq]
          exact ⟨rfl, rfl⟩
      · rintro σ' H'' ⟨rfl, rfl⟩
        walk_at "go"
        refine g_strI (by omega) ?_
        walk_at "go"
        by_cases e : l = []
        · rw [if_pos e]
          subst e
          refine g_catS (by show ("" : Str).length + (nst n).length ≤ _; rw [str_nil.mp rfl]; omega) ?_
          walk_at "go"
          have ee : Str.ofString "" ++ Str.ofString (toString n) = nst n := TL.ext_tl (by
            rw [TL.tl_append, show TL.tl (Str.ofString "") = [] by decide +kernel]
            rfl)
          exact ⟨some (.int n), by rw [ee]; rfl, rfl⟩
        · rw [if_neg e]
          refine g_catS (by rw [slen_app, gap_len]; show _ + 1 + (nst n).length ≤ _; omega) ?_
          walk_at "go"
          refine ⟨some (.int n), ?_, rfl⟩
          have := rowT_more n e
          show _ = [some (V.ref a), some (V.str (rowT (l ++ [n]))), _]
          rw [this]
          rfl
    · rintro σ' H' ⟨x, rfl, rfl⟩
      rw [List.length_map, List.take_of_length_le (Nat.le_refl _)]
      walk_at "go"
      exact q
    · intro Q' q'
      walk_at "go"
      exact q'
end
end Cj

namespace Cj
open PySem PySem.Spec PyProof.Rows L2
theorem str1_len : (" 0" : Str).length = 2 ∧ ("1" : Str).length = 1 ∧ ("0" : Str).length = 1 := by decide +kernel
section
variable {P : Program} {w : World} {K : PySem.W.Frag} {mg : Str → Option Value} {base : Heap}
abbrev s__law_line_by : Stmt := top 24
theorem sc__law_line_by : FnScope ["_law_row", "_law_way", "_law_cell", "_law_text_here", "_law_at", "_law_place", "_law_ahead"] ["_law_row", "_law_way", "_law_cell"] (defScope s__law_line_by) := ⟨rfl, rfl, rfl, by decide +kernel, rfl, by decide +kernel, by decide +kernel⟩

def spLine (K : PySem.W.Frag) : Sp := fun vs H Q _ => ∃ (a : Addr) (cs : List Int) (y c : Int), vs = [.ref a, .int y, .int c] ∧ SqL K H a (cs.map V.int) ∧ Row cs ∧ ∀ (z : Str) H', z.length ≤ 810 → Same H H' → Q (.str z) H'
theorem ok_line {f : Addr} {fd : FuncData} (F : Fun K "_law_line_by" "_law_line_by" s__law_line_by f fd) (T : Bn mg) (c__law_text : Cal P w K mg base 1 "_law_text" ["_law_row"] (spText K)) (c__law_sign_by : Cal P w K mg base 1 "_law_sign_by" ["_law_cell"] spSign)
    (c__law_odd_text : Cal P w K mg base 1 "_law_odd_text" ["_law_cell"] spOdd) : FnOk P w K mg base CX0 2 f fd ["_law_row", "_law_way", "_law_cell"] (spLine K) := by
  refine F.ok sc__law_line_by (fun vs H Q E h => ?_) (fun cdv A0 outer s H vs Q E hr h => ?_)
  · obtain ⟨a, cs, y, c, rfl, _⟩ := h
    rfl
  · obtain ⟨a, cs, y, c, rfl, hA, R, q⟩ := h
    have N := row_nms R
    have n0 := R.ne
    have n12 := R.len
    have tl := rowT_len N
    have t1 := tl.2 fun e => by rw [e] at n0; exact Nat.lt_irrefl _ n0
    have t2 : (rowT cs).length ≤ 744 := by omega
    refine ⟨_, (pss_cons (ps_set (i := 3) sc__law_line_by.nd rfl (by first | exact Or.inl rfl | exact Or.inr rfl) (pe_cal c__law_text hr (by decide) (pa_cons (pv 0) pa_nil)))
      (pss_cons (ps_set (i := 4) sc__law_line_by.nd rfl (by first | exact Or.inl rfl | exact Or.inr rfl) (pe_op op_mod (pv 2) (pe_op op_add (pe_callB call_lnS (by rfl) T.m_len PySem.boot_len (pa_cons (pv 3) pa_nil)) pe_int)))
      (pss_cons (ps_set (i := 5) sc__law_line_by.nd rfl (by first | exact Or.inl rfl | exact Or.inr rfl) (pe_op op_mod (pv 2) (pe_callB call_ln (by rfl) T.m_len PySem.boot_len (pa_cons (pv 0) pa_nil))))
      (Evl.pss_cut (ps_if (pt_cmpR op_eq (pv 1) pe_int (nomark _)) (pss_one (ps_ret (pe_op op_catS (pe_op op_catS (pe_slice sl_str (pv 3) po_none (po_some (pv 4))) (pe_cal c__law_sign_by hr (by decide) (pa_cons (pe_op op_fdiv (pv 2) pe_int) pa_nil))) (pe_slice sl_str (pv 3) (po_some (pv 4)) po_none)))) pss_nil)
      (Evl.pss_cut (ps_if (pt_cmpR op_eq (pv 1) pe_int (nomark _)) (pss_one (ps_ret (pe_op op_catS (pe_slice sl_str (pv 3) po_none (po_some (pv 4))) (pe_slice sl_str (pv 3) (po_some (pe_op op_add (pv 4) pe_int)) po_none)))) pss_nil)
      (Evl.pss_cut (ps_if (PW.pt (pw_and (pt_cmpR op_eq (pv 1) pe_int (nomark _)) (pw_and1 (pt_cmpR op_gt (pv 5) pe_int (nomark _))))) (pss_one (ps_ret (pe_cal c__law_text hr (by decide) (pa_cons (pe_op op_cat (pe_op op_cat (pe_slice sl_list (pv 0) po_none (po_some (pe_op op_sub (pv 5) pe_int))) (pe_lst (pa_cons (pe_ix ix_list (pv 0) (pv 5) (fun _ _ => rfl)) (pa_cons (pe_ix ix_list (pv 0) (pe_op op_sub (pv 5) pe_int) (fun _ _ => rfl)) pa_nil)))) (pe_slice sl_list (pv 0) (po_some (pe_op op_add (pv 5) pe_int)) po_none)) pa_nil)))) pss_nil)
      (Evl.pss_cut (ps_if (pt_cmpR op_eq (pv 1) pe_int (nomark _)) (pss_cons (ps_set (i := 6) sc__law_line_by.nd rfl (by first | exact Or.inl rfl | exact Or.inr rfl) (pe_cal c__law_text hr (by decide) (pa_cons (pe_slice sl_list (pv 0) po_none (po_some (pv 5))) pa_nil)))
      (pss_one (ps_ret (pe_strip (pe_op op_catS (pe_op op_catS (pv 6) pe_str) (pe_cal c__law_text hr (by decide) (pa_cons (pe_slice sl_list (pv 0) (po_some (pv 5)) po_none) pa_nil))))))) pss_nil)
      (Evl.pss_cut (ps_if (pt_cmpR op_eq (pv 1) pe_int (nomark _)) (pss_one (ps_ret (pe_op op_catS (pe_op op_catS (pe_op op_catS (pv 3) pe_str) pe_str) (pe_op op_mulS pe_str (pe_op op_add pe_int (pe_op op_mod (pv 2) pe_int)))))) pss_nil)
      (Evl.pss_cut (ps_if (pt_cmpR op_eq (pv 1) pe_int (nomark _)) (pss_one (ps_ret (pe_cal c__law_odd_text hr (by decide) (pa_cons (pv 2) pa_nil)))) pss_nil)
      (pss_one (ps_ret (pv 3)))))))))))), ?_⟩
    try dsimp only [cxOf]
    refine g_start [some (.ref a), some (.int y), some (.int c), none, none, none, none] rfl ?_
    walk_at "go"
    refine ⟨a, cs, rfl, hA, N, by omega, ?_⟩
    obtain ⟨S, hS⟩ : ∃ S, S = rowT cs := ⟨_, rfl⟩
    rw [← hS] at t1 t2 ⊢
    walk_at "go"
    refine g_lnS (by omega) ?_
    walk_at "go"
    refine g_I (by show (0 : Int) < _; omega) ?_
    have k0 := Int.emod_nonneg c (show ((S.length : Int) + 1) ≠ 0 by omega)
    have k1 := Int.emod_lt_of_pos c (show (0 : Int) < (S.length : Int) + 1 by omega)
    obtain ⟨k, hk⟩ : ∃ k : Nat, c % ((S.length : Int) + 1) = (k : Int) := ⟨_, (Int.toNat_of_nonneg k0).symm⟩
    rw [hk]
    have lk : k ≤ S.length := by omega
    walk_at "go"
    refine g_I (by show (0 : Int) < _; omega) ?_
    have m0 := Int.emod_nonneg c (show (cs.length : Int) ≠ 0 by omega)
    have m1 := Int.emod_lt_of_pos c (show (0 : Int) < cs.length by omega)
    obtain ⟨m, hm⟩ : ∃ m : Nat, c % (cs.length : Int) = (m : Int) := ⟨_, (Int.toNat_of_nonneg m0).symm⟩
    rw [hm]
    have lm : m < cs.length := by omega
    have same0 : Same H H := fun _ _ z => z
    have cT := cutS_to S k
    have cF := cutS_from S k
    have cF1 := cutS_from S (k + 1)
    walk_at "go"
    refine g_cut (fun σ' H' => σ' = [some (.ref a), some (.int y), some (.int c), some (.str S), some (.int (k : Int)), some (.int (m : Int)), none] ∧ H = H') ?_ ?_
    · walk_at "go"
      refine g_iteD (fun _ => ?_) (fun _ => ?_)
      · walk_at "go"
        refine g_slS (by omega) ?_
        walk_at "go"
        refine ⟨_, rfl, fun u lu => ?_⟩
        refine g_catS (by omega) ?_
        walk_at "go"
        refine g_slS (by omega) ?_
        walk_at "go"
        refine g_catS (by rw [slen_app]; omega) ?_
        exact q _ _ (by rw [slen_app, slen_app]; omega) same0
      · walk_at "go"
        exact ⟨rfl, rfl⟩
    rintro _ _ ⟨rfl, rfl⟩
    walk_at "go"
    refine g_cut (fun σ' H' => σ' = [some (.ref a), some (.int y), some (.int c), some (.str S), some (.int (k : Int)), some (.int (m : Int)), none] ∧ H = H') ?_ ?_
    · walk_at "go"
      refine g_iteD (fun _ => ?_) (fun _ => ?_)
      · walk_at "go"
        refine g_slS (by omega) ?_
        walk_at "go"
        rw [show (k : Int) + 1 = ((k + 1 : Nat) : Int) by omega]
        refine g_slS (by omega) ?_
        walk_at "go"
        refine g_catS (by omega) ?_
        exact q _ _ (by rw [slen_app]; omega) same0
      · walk_at "go"
        exact ⟨rfl, rfl⟩
    rintro _ _ ⟨rfl, rfl⟩
    walk_at "go"
    refine g_cut (fun σ' H' => σ' = [some (.ref a), some (.int y), some (.int c), some (.str S), some (.int (k : Int)), some (.int (m : Int)), none] ∧ H = H') ?_ ?_
    · walk_at "go"
      refine g_iteD (fun _ => ?_) (fun _ => ?_)
      · walk_at "go"
        refine g_iteD (fun mm => ?_) (fun _ => ?_)
        · walk_at "go"
          rw [show (m : Int) - 1 = ((m - 1 : Nat) : Int) by omega]
          refine g_slTo hA fun p1 H1 h1 s1 e1 => ?_
          have hA1 := s1.seq hA
          walk_at "go"
          refine g_ix hA1 (at_int lm) ?_
          walk_at "go"
          rw [show (m : Int) - 1 = ((m - 1 : Nat) : Int) by omega]
          refine g_ix hA1 (at_int (show m - 1 < cs.length by omega)) ?_
          walk_at "go"
          refine ⟨small_le (by show 2 ≤ 100000; decide), fun p2 hp2 => ?_⟩
          refine g_catB (ys := [cs.getD m 0, cs.getD (m - 1) 0]) ((same_new hp2) _ _ e1) upd_same (by rw [List.length_take]; show _ + 2 ≤ _; omega) fun p3 H3 h3 s3 e3 => ?_
          have s13 := s1.trans ((same_new hp2).trans s3)
          walk_at "go"
          rw [show (m : Int) + 1 = ((m + 1 : Nat) : Int) by omega]
          refine g_slFrom (s13.seq hA) fun p4 H4 h4 s4 e4 => ?_
          refine g_catB (s4 _ _ e3) e4 (by rw [List.length_append, List.length_take, List.length_drop]; show _ + 2 + _ ≤ _; omega) fun p5 H5 h5 s5 e5 => ?_
          have s15 := s13.trans (s4.trans s5)
          have mem : ∀ i, i < cs.length → cs.getD i 0 ∈ cs := fun i hi => by
            rw [List.getD_eq_getElem?_getD, List.getElem?_eq_getElem hi]
            exact List.getElem_mem hi
          have N5 : Nms (cs.take (m - 1) ++ [cs.getD m 0, cs.getD (m - 1) 0] ++ cs.drop (m + 1)) := fun x hx => by
            refine N x ?_
            simp only [List.mem_append, List.mem_cons, List.not_mem_nil, or_false] at hx
            rcases hx with (hx | hx | hx) | hx
            · exact List.mem_of_mem_take hx
            · rw [hx]
              exact mem m lm
            · rw [hx]
              exact mem (m - 1) (by omega)
            · exact List.mem_of_mem_drop hx
          have l5 : (cs.take (m - 1) ++ [cs.getD m 0, cs.getD (m - 1) 0] ++ cs.drop (m + 1)).length ≤ 12 := by
            rw [List.length_append, List.length_append, List.length_take, List.length_drop]
            show _ + 2 + _ ≤ _
            omega
          refine ⟨p5, _, rfl, sq_of e5, N5, by omega, ?_⟩
          have := (rowT_len N5).1
          exact q _ _ (by omega) s15
        · walk_at "go"
          exact ⟨rfl, rfl⟩
      · walk_at "go"
        exact ⟨rfl, rfl⟩
    rintro _ _ ⟨rfl, rfl⟩
    walk_at "go"
    refine g_cut (fun σ' H' => σ' = [some (.ref a), some (.int y), some (.int c), some (.str S), some (.int (k : Int)), some (.int (m : Int)), none] ∧ H = H') ?_ ?_
    · walk_at "go"
      refine g_iteD (fun _ => ?_) (fun _ => ?_)
      · walk_at "go"
        refine g_slTo hA fun p1 H1 h1 s1 e1 => ?_
        have NT : Nms (cs.take m) := fun x hx => N x (List.mem_of_mem_take hx)
        have NF : Nms (cs.drop m) := fun x hx => N x (List.mem_of_mem_drop hx)
        have a1 := (rowT_len NT).1
        have a2 := (rowT_len NF).1
        rw [List.length_take] at a1
        rw [List.length_drop] at a2
        refine ⟨p1, _, rfl, sq_of e1, NT, by rw [List.length_take]; omega, ?_⟩
        walk_at "go"
        refine g_catS (by rw [str1_len.1]; omega) ?_
        walk_at "go"
        refine g_slFrom (s1.seq hA) fun p2 H2 h2 s2 e2 => ?_
        refine ⟨p2, _, rfl, sq_of e2, NF, by rw [List.length_drop]; omega, ?_⟩
        refine g_catS (by rw [slen_app, str1_len.1]; omega) ?_
        have ls : (rowT (cs.take m) ++ (" 0" : Str) ++ rowT (cs.drop m)).length ≤ 800 := by
          rw [slen_app, slen_app, str1_len.1]
          omega
        walk_at "go"
        refine ⟨_, rfl, rfl, small_le (by omega), ?_⟩
        exact q _ _ (by have := len_strip (rowT (cs.take m) ++ (" 0" : Str) ++ rowT (cs.drop m)); omega) (s1.trans s2)
      · walk_at "go"
        exact ⟨rfl, rfl⟩
    rintro _ _ ⟨rfl, rfl⟩
    walk_at "go"
    refine g_cut (fun σ' H' => σ' = [some (.ref a), some (.int y), some (.int c), some (.str S), some (.int (k : Int)), some (.int (m : Int)), none] ∧ H = H') ?_ ?_
    · walk_at "go"
      refine g_iteD (fun _ => ?_) (fun _ => ?_)
      · walk_at "go"
        refine g_catS (by rw [gap_len]; omega) ?_
        walk_at "go"
        refine g_catS (by rw [slen_app, gap_len, str1_len.2.1]; omega) ?_
        walk_at "go"
        have z0 := Int.emod_nonneg c (show (2 : Int) ≠ 0 by decide)
        have z1 := Int.emod_lt_of_pos c (show (0 : Int) < 2 by decide)
        refine ⟨_, _, rfl, rfl, str1_len.2.2, by omega, by omega, fun u lu => ?_⟩
        refine g_catS (by rw [slen_app, slen_app, gap_len, str1_len.2.1]; omega) ?_
        exact q _ _ (by rw [slen_app, slen_app, slen_app, gap_len, str1_len.2.1]; omega) same0
      · walk_at "go"
        exact ⟨rfl, rfl⟩
    rintro _ _ ⟨rfl, rfl⟩
    walk_at "go"
    refine g_cut (fun σ' H' => σ' = [some (.ref a), some (.int y), some (.int c), some (.str S), some (.int (k : Int)), some (.int (m : Int)), none] ∧ H = H') ?_ ?_
    · walk_at "go"
      refine g_iteD (fun _ => ?_) (fun _ => ?_)
      · walk_at "go"
        refine ⟨_, rfl, fun u H' lu s' => ?_⟩
        exact q _ _ (by omega) s'
      · walk_at "go"
        exact ⟨rfl, rfl⟩
    rintro _ _ ⟨rfl, rfl⟩
    walk_at "go"
    exact q _ _ (by omega) same0
abbrev s__law_second : Stmt := top 25
theorem sc__law_second : FnScope ["_law_line", "_law_cell", "_law_at"] ["_law_line", "_law_cell"] (defScope s__law_second) := ⟨rfl, rfl, rfl, by decide +kernel, rfl, by decide +kernel, by decide +kernel⟩

def spSecond : Sp := fun vs H Q _ => ∃ (z : Str) (c : Int), vs = [.str z, .int c] ∧ z.length ≤ 810 ∧ ∀ u : Str, u.length ≤ 900 → Q (.str u) H
theorem ok_second {f : Addr} {fd : FuncData} (F : Fun K "_law_second" "_law_second" s__law_second f fd) (T : Bn mg) (c__law_sign_by : Cal P w K mg base 1 "_law_sign_by" ["_law_cell"] spSign) : FnOk P w K mg base CX0 2 f fd ["_law_line", "_law_cell"] spSecond := by
  refine F.ok sc__law_second (fun vs H Q E h => ?_) (fun cdv A0 outer s H vs Q E hr h => ?_)
  · obtain ⟨z, c, rfl, _⟩ := h
    rfl
  · obtain ⟨S, c, rfl, lS, q⟩ := h
    refine ⟨_, (pss_cons (ps_set (i := 2) sc__law_second.nd rfl (by first | exact Or.inl rfl | exact Or.inr rfl) (pe_op op_mod (pe_op op_fdiv (pv 1) pe_int) (pe_op op_add (pe_callB call_lnS (by rfl) T.m_len PySem.boot_len (pa_cons (pv 0) pa_nil)) pe_int)))
      (pss_cons (ps_if (pt_cmpR op_eq (pe_op op_mod (pv 1) pe_int) pe_int (nomark _)) (pss_one (ps_ret (pe_op op_catS (pe_op op_catS (pe_slice sl_str (pv 0) po_none (po_some (pv 2))) (pe_cal c__law_sign_by hr (by decide) (pa_cons (pe_op op_fdiv (pv 1) pe_int) pa_nil))) (pe_slice sl_str (pv 0) (po_some (pv 2)) po_none)))) pss_nil)
      (pss_cons (ps_if (pt_cmpR op_eq (pe_op op_mod (pv 1) pe_int) pe_int (nomark _)) (pss_one (ps_ret (pe_op op_catS (pe_slice sl_str (pv 0) po_none (po_some (pv 2))) (pe_slice sl_str (pv 0) (po_some (pe_op op_add (pv 2) pe_int)) po_none)))) pss_nil)
      (pss_cons (ps_if (pt_cmpR op_eq (pe_op op_mod (pv 1) pe_int) pe_int (nomark _)) (pss_one (ps_ret (pe_op op_catS (pe_callTy call_strI (by rfl) T.m_str (by decide +kernel) (pa_cons (pe_op op_add pe_int (pe_op op_mod (pe_op op_fdiv (pv 1) pe_int) pe_int)) pa_nil)) (pe_slice sl_str (pv 0) (po_some pe_int) po_none)))) pss_nil)
      (pss_one (ps_ret (pv 0))))))), ?_⟩
    try dsimp only [cxOf]
    refine g_start [some (.str S), some (.int c), none] rfl ?_
    walk_at "go"
    refine g_lnS (by omega) ?_
    walk_at "go"
    refine g_I (by show (0 : Int) < _; omega) ?_
    have k0 := Int.emod_nonneg (c / 8) (show ((S.length : Int) + 1) ≠ 0 by omega)
    have k1 := Int.emod_lt_of_pos (c / 8) (show (0 : Int) < (S.length : Int) + 1 by omega)
    obtain ⟨k, hk⟩ : ∃ k : Nat, c / 8 % ((S.length : Int) + 1) = (k : Int) := ⟨_, (Int.toNat_of_nonneg k0).symm⟩
    rw [hk]
    have cT := cutS_to S k
    have cF := cutS_from S k
    have cF1 := cutS_from S (k + 1)
    have cO := cutS_from S 1
    walk_at "go"
    refine g_iteD (fun _ => ?_) (fun _ => ?_)
    · walk_at "go"
      refine g_slS (by omega) ?_
      walk_at "go"
      refine ⟨_, rfl, fun u lu => ?_⟩
      refine g_catS (by omega) ?_
      walk_at "go"
      refine g_slS (by omega) ?_
      walk_at "go"
      refine g_catS (by rw [slen_app]; omega) ?_
      exact q _ (by rw [slen_app, slen_app]; omega)
    walk_at "go"
    refine g_iteD (fun _ => ?_) (fun _ => ?_)
    · walk_at "go"
      refine g_slS (by omega) ?_
      walk_at "go"
      rw [show (k : Int) + 1 = ((k + 1 : Nat) : Int) by omega]
      refine g_slS (by omega) ?_
      walk_at "go"
      refine g_catS (by omega) ?_
      exact q _ (by rw [slen_app]; omega)
    walk_at "go"
    refine g_iteD (fun _ => ?_) (fun _ => ?_)
    · have z0 := Int.emod_nonneg (c / 8) (show (98 : Int) ≠ 0 by decide)
      have z1 := Int.emod_lt_of_pos (c / 8) (show (0 : Int) < 98 by decide)
      have ln : (nst (2 + c / 8 % 98)).length ≤ 3 := nst_len (by omega) (by decide) (by omega)
      walk_at "go"
      refine g_strI (by omega) ?_
      walk_at "go"
      refine g_slS (z := S) (lo := some 1) (by omega) ?_
      have cO : (cutS S (some 1) none).length ≤ S.length - 1 := cO
      walk_at "go"
      refine g_catS (by show (nst (2 + c / 8 % 98)).length + _ ≤ _; omega) ?_
      exact q _ (by rw [slen_app]; show (nst (2 + c / 8 % 98)).length + _ ≤ _; omega)
    walk_at "go"
    exact q _ (by omega)
end
end Cj

namespace Cj
open PySem PySem.Spec PyProof.Rows L2
section
variable {P : Program} {w : World} {K : PySem.W.Frag} {mg : Str → Option Value} {base : Heap} {R W A G T' C D' E' : Addr} {b1 b2 b3 b4 b5 d1 d2 d3 d4 d5 : Bool}
theorem kinds_two {f : Addr} {fd : FuncData} {k : Nat} {ps : List Str} {s1 s2 : Value → Option Addr → Hp → VK → Prop} (h1 : RunP P w K mg base k f fd ps s1) (h2 : RunP P w K mg base k f fd ps s2) : RunP P w K mg base k f fd ps (fun cls d H Q => s1 cls d H Q ∨ s2 cls d H Q) :=
  fun p cls d A outer s H args us Q hz hf room pin e0 b r h => h.elim (fun y => h1 p cls d A outer s H args us Q hz hf room pin e0 b r y) fun y => h2 p cls d A outer s H args us Q hz hf room pin e0 b r y
abbrev s__law_numbers : Stmt := top 26
theorem sc__law_numbers : FnScope ["_law_line", "_law_found", "_law_word", "_law_sign"] ["_law_line"] (defScope s__law_numbers) := ⟨rfl, rfl, rfl, by decide +kernel, rfl, by decide +kernel, by decide +kernel⟩

def spNums (K : PySem.W.Frag) : Sp := fun vs H Q _ => ∃ z : Str, vs = [.str z] ∧ z.length ≤ 900 ∧ (AllW (wordsOf z) → RetL (vals (wordsOf z)) H Q) ∧ (¬ AllW (wordsOf z) → ∀ H', Same H H' → Q .non H')
theorem ok_nums {f : Addr} {fd : FuncData} (F : Fun K "_law_numbers" "_law_numbers" s__law_numbers f fd) (T : Bn mg) : FnOk P w K mg base CX0 1 f fd ["_law_line"] (spNums K) := by
  refine F.ok sc__law_numbers (fun vs H Q E h => ?_) (fun cdv A0 outer s H vs Q E hr h => ?_)
  · obtain ⟨z, rfl, _⟩ := h
    rfl
  · obtain ⟨z, rfl, hz, good, bad⟩ := h
    refine ⟨_, (pss_cons (ps_set (i := 1) sc__law_numbers.nd rfl (by first | exact Or.inl rfl | exact Or.inr rfl) (pe_lst pa_nil))
      (pss_cons (ps_for PassesOwn.never rfl (pi_list (pe_m1 PySem.F.slot_str_split PySem.F.type_str_split mt_splt (pv 0) pe_str)) (pg_name (i := 2) sc__law_numbers.nd rfl (by first | exact Or.inl rfl | exact Or.inr rfl)) (pss_cons (ps_if (PW.pt (pw_or (pt_cmpR op_eq (pv 2) pe_str (nomark _)) (pw_or (pt_cmpR op_gt (pe_callB call_lnS (by rfl) T.m_len PySem.boot_len (pa_cons (pv 2) pa_nil)) pe_int (nomark _)) (pw_or1 (pt_cmpR op_eq (pe_ix ix_str (pv 2) pe_int (fun _ _ => rfl)) pe_str (nomark _)))))) (pss_one (ps_ret pe_non)) pss_nil)
      (pss_cons (ps_for PassesOwn.never rfl (pi_str (pv 2)) (pg_name (i := 3) sc__law_numbers.nd rfl (by first | exact Or.inl rfl | exact Or.inr rfl)) (pss_one (ps_if (pt_cmpR op_notIn_sign (pv 3) pe_str (by rfl)) (pss_one (ps_ret pe_non)) pss_nil)))
      (pss_one (ps_expr (pe_bm PySem.F.plainAttrs_list PySem.F.slot_list_append PySem.F.type_list_append mt_append (pv 1) (pa_cons (pe_callTy call_int_str (by rfl) T.m_int (by decide +kernel) (pa_cons (pv 2) pa_nil)) pa_nil)))))))
      (pss_one (ps_ret (pv 1))))), ?_⟩
    try dsimp only [cxOf]
    refine g_start [some (.str z), none, none, none] rfl ?_
    obtain ⟨l1, l2, l3⟩ := words_len z
    obtain ⟨ws, hws⟩ : ∃ ws, ws = wordsOf z := ⟨_, rfl⟩
    rw [← hws] at l1 l2 l3 good bad
    walk_at "go"
    refine ⟨small_le (by decide), fun p hp => ?_⟩
    walk_at "go"
    refine g_forL ?_
    walk_at "go"
    refine g_splt (by omega) fun r hr => ?_
    rw [← hws]
    have npr : p ≠ r := ne_of_none upd_same hr
    obtain ⟨H2, hH2⟩ : ∃ H2, H2 = upd (upd H p (.lst [])) r (.lst (ws.map V.str)) := ⟨_, rfl⟩
    have ep : H2 p = some (LI []) := by rw [hH2, upd_ne npr]; exact upd_same
    have er : H2 r = some (.lst (ws.map V.str)) := by rw [hH2]; exact upd_same
    have s2 : Same H H2 := by rw [hH2]; exact (same_new hp).trans (same_new hr)
    rw [← hH2]
    have hL : ∀ us, SqL K (upd H2 p (LI us)) r (ws.map V.str) := fun us => sq_of (by rw [upd_ne npr.symm]; exact er)
    refine f_L1 (sq_of er) (fun i σ' H' => ∃ x y, σ' = [some (.str z), some (.ref p), x, y] ∧ H' = upd H2 p (LI (vals (ws.take i))) ∧ ∀ (k : Nat) (u : Str), k < i → ws[k]? = some u → Word u) ⟨none, none, rfl, (upd_self ep).symm, fun k u hk => absurd hk (Nat.not_lt_zero _)⟩
      (fun i σ' H' _ ⟨_, _, _, e, _⟩ => by rw [e]; exact hL _) ?_ ?_
    · rintro i x σ' H' hi ⟨v2, v3, rfl, rfl, words⟩
      rw [List.getElem?_map] at hi
      obtain ⟨y, hy, rfl⟩ := Option.map_eq_some_iff.mp hi
      have my := List.mem_of_getElem? hy
      have ly := l3 y my
      have li := (List.getElem?_eq_some_iff.mp hy).1
      have no : ¬ Word y → Q .non (upd H2 p (LI (vals (ws.take i)))) := fun ny => bad (fun all => ny (all y my)) _ (same_mut s2 hp)
      walk_at "go"
      refine g_iteD (fun h1 => ?_) (fun h1 => ?_)
      · walk_at "go"
        exact no fun w => w.ne (str_nil.mp h1)
      have n0 : y.length ≠ 0 := fun e => h1 (str_nil.mpr e)
      walk_at "go"
      refine g_lnS (by omega) ?_
      walk_at "go"
      refine g_iteD (fun h2 => ?_) (fun h2 => ?_)
      · walk_at "go"
        exact no fun w => by have := w.le; omega
      obtain ⟨c, hc⟩ : ∃ c, y.cps.toList[0]? = some c := ⟨_, List.getElem?_eq_getElem (by rw [Array.length_toList]; exact Nat.pos_of_ne_zero n0)⟩
      walk_at "go"
      refine g_ixS (by omega) (atI_nat (j := 0) hc) ?_
      walk_at "go"
      refine g_iteD (fun h3 => ?_) (fun h3 => ?_)
      · walk_at "go"
        exact no fun w => w.hd c hc ((sign_nought c).mp h3)
      walk_at "go"
      refine f_S (z := y) (fun j σ' H' => (∀ (k c : Nat), k < j → y.cps.toList[k]? = some c → 48 ≤ c ∧ c ≤ 57) ∧ ∃ v, σ' = [some (.str z), some (.ref p), some (.str y), v] ∧ H' = upd H2 p (LI (vals (ws.take i)))) ⟨fun k c hk => absurd hk (Nat.not_lt_zero _), v3, rfl, rfl⟩ ?_ ?_ ?_
      · rintro j c σ' H' hj ⟨figs, v, rfl, rfl⟩
        walk_at "go"
        refine ⟨c, _, rfl, rfl, ?_⟩
        walk_at "go"
        refine g_iteN (fun h4 => ?_) (fun h4 => ?_)
        · walk_at "go"
          exact no fun w => h4 ((fig_in c).mpr (w.fig c (List.mem_of_getElem? hj)))
        walk_at "go"
        refine ⟨fun k d hk hd => ?_, _, rfl, rfl⟩
        by_cases ek : k = j
        · rw [ek, hj] at hd
          cases hd
          exact (fig_in c).mp h4
        · exact figs k d (by omega) hd
      · rintro σ' H' ⟨figs, v, rfl, rfl⟩
        have W0 : Word y := ⟨n0, by omega, fun d hd e => h3 ((sign_nought c).mpr (by rw [hc] at hd; cases hd; exact e)), fun d hd => by
          obtain ⟨k, hk⟩ := List.mem_iff_getElem?.mp hd
          have := (List.getElem?_eq_some_iff.mp hk).1
          rw [Array.length_toList] at this
          exact figs k d this hk⟩
        walk_at "go"
        refine ⟨.inl ⟨rfl, _, sq_of upd_same⟩, ?_⟩
        walk_at "go"
        refine ⟨y, _, rfl, word_int W0, by omega, ?_⟩
        walk_at "go"
        refine g_app upd_same (small_lt (by rw [LI_len]; unfold vals; rw [List.length_map, List.length_take]; omega)) ?_
        rw [LI_app, upd_upd]
        walk_at "go"
        refine ⟨_, _, rfl, ?_, fun k u hk hu => ?_⟩
        · have e : vals (ws.take (i + 1)) = vals (ws.take i) ++ [wval y] := by
            unfold vals
            rw [List.take_succ, hy, List.map_append]
            rfl
          rw [e]
        · by_cases ek : k = i
          · rw [ek, hy] at hu
            cases hu
            exact W0
          · exact words k u (by omega) hu
      · intro Q' q'
        walk_at "go"
        exact q'
    · rintro σ' H' ⟨v2, v3, rfl, rfl, words⟩
      rw [List.length_map, List.take_of_length_le (Nat.le_refl _)]
      have all : AllW ws := fun y hy => by
        obtain ⟨k, hk⟩ := List.mem_iff_getElem?.mp hy
        have := (List.getElem?_eq_some_iff.mp hk).1
        exact words k y (by rw [List.length_map]; exact this) hk
      walk_at "go"
      exact good all p _ hp (same_mut s2 hp) upd_same
abbrev s__law_good : Stmt := top 27
theorem sc__law_good : FnScope ["_law_coins", "_law_k"] ["_law_coins"] (defScope s__law_good) := ⟨rfl, rfl, rfl, by decide +kernel, rfl, by decide +kernel, by decide +kernel⟩

def spLawGood (K : PySem.W.Frag) : Sp := fun vs H Q _ => ∃ (a : Addr) (cs : List Int), vs = [.ref a] ∧ SqL K H a (cs.map V.int) ∧ 0 < cs.length ∧ cs.length ≤ 1000 ∧ ∀ b : Bool, (b = true ↔ Row cs) → Q (.bl b) H
theorem ok_lawGood {f : Addr} {fd : FuncData} (F : Fun K "_law_good" "_law_good" s__law_good f fd) (T : Bn mg) : FnOk P w K mg base CX0 1 f fd ["_law_coins"] (spLawGood K) := by
  refine F.ok sc__law_good (fun vs H Q E h => ?_) (fun cdv A0 outer s H vs Q E hr h => ?_)
  · obtain ⟨a, cs, rfl, _⟩ := h
    rfl
  · obtain ⟨a, cs, rfl, hA, l0, hn, q⟩ := h
    have no : ¬ Row cs → Q (.bl false) H := fun z => q false ⟨fun y => (nomatch y), fun y => absurd y z⟩
    refine ⟨_, (pss_cons (ps_if (PW.pt (pw_or (pt_cmpR op_gt (pe_callB call_ln (by rfl) T.m_len PySem.boot_len (pa_cons (pv 0) pa_nil)) pe_int (nomark _)) (pw_or (pt_cmpR op_ne (pe_ix ix_list (pv 0) pe_int (fun _ _ => rfl)) pe_int (nomark _)) (pw_or1 (pt_cmpR op_gt (pe_ix ix_list (pv 0) (pe_un un_neg pe_int) (fun _ _ => rfl)) (pe_op op_pow pe_int pe_int) (nomark _)))))) (pss_one (ps_ret pe_bl)) pss_nil)
      (pss_cons (ps_for PassesOwn.never rfl (pi_range2 rfl T.m_range (pa_cons pe_int (pa_cons (pe_callB call_ln (by rfl) T.m_len PySem.boot_len (pa_cons (pv 0) pa_nil)) pa_nil))) (pg_name (i := 1) sc__law_good.nd rfl (by first | exact Or.inl rfl | exact Or.inr rfl)) (pss_one (ps_if (pt_cmpR op_le (pe_ix ix_list (pv 0) (pv 1) (fun _ _ => rfl)) (pe_ix ix_list (pv 0) (pe_op op_sub (pv 1) pe_int) (fun _ _ => rfl)) (nomark _)) (pss_one (ps_ret pe_bl)) pss_nil)))
      (pss_one (ps_ret pe_bl)))), ?_⟩
    try dsimp only [cxOf]
    refine g_start [some (.ref a), none] rfl ?_
    walk_at "go"
    refine g_iteD (fun c2 => ?_) (fun c2 => ?_)
    · walk_at "go"
      exact no fun r => by have := r.len; omega
    walk_at "go"
    have e0 := List.getElem?_eq_getElem l0
    have ll : cs.length - 1 < cs.length := by omega
    have el := List.getElem?_eq_getElem ll
    refine g_ix hA (at_val (k := 0) e0) ?_
    walk_at "go"
    refine g_iteN (fun c3 => ?_) (fun c3 => ?_)
    · walk_at "go"
      exact no fun r => c3 (by have z := r.hd; rw [e0] at z; exact Option.some.inj z)
    have h1 : cs[0]? = some 1 := by rw [e0, c3]
    walk_at "go"
    refine g_ix hA (at_neg1 el) ?_
    walk_at "go"
    refine g_iteD (fun c5 => ?_) (fun c5 => ?_)
    · walk_at "go"
      have c6 : (10 : Int) ^ 60 < cs[cs.length - 1] := c5
      exact no fun r => by have := r.top _ (List.getElem_mem ll); omega
    have c6 : ¬ (10 : Int) ^ 60 < cs[cs.length - 1] := c5
    walk_at "go"
    refine f_R2 (lo := 1) (n := cs.length) (by omega) (fun i σ' H' => (∀ (k : Nat) (x y : Int), k < i → cs[k]? = some x → cs[k + 1]? = some y → x < y) ∧ ∃ v, σ' = [some (.ref a), v] ∧ H' = H) ⟨fun k x y hk => by omega, none, rfl, rfl⟩ ?_ ?_ ?_
    · rintro i σ' H' hi ⟨up, v, rfl, rfl⟩
      rw [show (1 : Int) + (i : Int) = ((i + 1 : Nat) : Int) by omega]
      have l1 : i + 1 < cs.length := by omega
      have e1 := List.getElem?_eq_getElem l1
      have e2 := List.getElem?_eq_getElem (show i < cs.length by omega)
      walk_at "go"
      refine g_ix hA (at_val e1) ?_
      walk_at "go"
      rw [show ((i + 1 : Nat) : Int) - 1 = (i : Int) by omega]
      refine g_ix hA (at_val e2) ?_
      walk_at "go"
      refine g_iteD (fun c4 => ?_) (fun c4 => ?_)
      · walk_at "go"
        exact no fun r => by have := r.up i _ _ e2 e1; omega
      walk_at "go"
      refine ⟨fun k x y hk hx hy => ?_, _, rfl, rfl⟩
      by_cases ek : k = i
      · subst ek
        rw [e2] at hx
        rw [e1] at hy
        cases hx
        cases hy
        omega
      · exact up k x y (by omega) hx hy
    · rintro σ' H' ⟨up, v, rfl, rfl⟩
      have up' : ∀ (i : Nat) (x y : Int), cs[i]? = some x → cs[i + 1]? = some y → x < y := fun i x y hx hy => up i x y (by have := (List.getElem?_eq_some_iff.mp hy).1; omega) hx hy
      walk_at "go"
      exact q true ⟨fun _ => row_of (by omega) h1 up' (fun x hx => by rw [el] at hx; cases hx; omega), fun _ => rfl⟩
    · intro Q' q'
      walk_at "go"
      exact q'
/-- a text that writes a row -/
def Good (z : Str) : Prop := AllW (wordsOf z) ∧ Row (vals (wordsOf z))
abbrev s__law_refused : Stmt := top 28
theorem sc__law_refused : FnScope ["_law_line", "_law_has_numbers"] ["_law_line", "_law_has_numbers"] (defScope s__law_refused) := ⟨rfl, rfl, rfl, by decide +kernel, rfl, by decide +kernel, by decide +kernel⟩

def spRef (K : PySem.W.Frag) : Sp := fun vs H Q _ => ∃ (z : Str) (b : Bool), vs = [.str z, .bl b] ∧ z.length ≤ 900 ∧ (b = true ↔ AllW (wordsOf z)) ∧ ¬ Good z ∧ ∀ H', Same H H' → Q (.bl true) H'
theorem ok_ref {f : Addr} {fd : FuncData} (F : Fun K "_law_refused" "_law_refused" s__law_refused f fd) (T : Bn mg) (D : ExD K mg R W A G T' C D' "NoText" b1 b2 b3 b4 b5) (D2 : ExD K mg R W A G T' C E' "NoRow" d1 d2 d3 d4 d5)
    (x12 : PySem.W.exmOne K (.ref E') (.ref D') = some false) (r_read : CalR P w K mg base 2 "read" ["line"] (spRead K E' D')) : FnOk P w K mg base CX0 3 f fd ["_law_line", "_law_has_numbers"] (spRef K) := by
  have n_NoText := D.nD
  have n_NoRow := D2.nD
  refine F.ok sc__law_refused (fun vs H Q E h => ?_) (fun cdv A0 outer s H vs Q E hr h => ?_)
  · obtain ⟨z, b, rfl, _⟩ := h
    rfl
  · obtain ⟨z, b, rfl, hz, hb, bad, q⟩ := h
    refine ⟨_, (pss_cons (ps_try_many rfl rfl takes0 (fun W pn xe tk _ => (pss_one (ps_expr (pe_calR r_read tk hr (by decide) (pa_cons (pv 0) pa_nil))))) (HdsOk.cons ⟨rfl, by decide, Or.inl n_NoText⟩ (fun a oe cls d pn hz hf => by exact (pss_one (ps_ret (pe_not (pv 1))))) (HdsOk.cons ⟨rfl, by decide, Or.inl n_NoRow⟩ (fun a oe cls d pn hz hf => by exact (pss_one (ps_ret (pv 1)))) HdsOk.nil)))
      (pss_one (ps_ret pe_bl))), ?_⟩
    try dsimp only [cxOf]
    refine g_start [some (.str z), some (.bl b)] rfl ?_
    walk_at "go"
    refine g_callS ?_
    walk_at "go"
    refine ⟨z, rfl, hz, fun all row => absurd ⟨all, row⟩ bad, fun all nr H' s' => ⟨false, x12, (fun z => nomatch z), fun _ => ⟨true, D2.mD, fun _ x hx => ?_, fun z => nomatch z⟩⟩, fun na H' s' => ⟨true, D.mD, fun _ x hx => ?_, fun z => nomatch z⟩⟩
    · walk_at "go"
      rw [hb.mpr all]
      exact q _ s'
    · have eb : b = false := by
        cases b with
        | false => rfl
        | true => exact absurd (hb.mp rfl) na
      subst eb
      walk_at "go"
      exact q _ s'
abbrev s__law_refused_by_any : Stmt := top 30
theorem sc__law_refused_by_any : FnScope ["_law_line", "_law_e"] ["_law_line"] (defScope s__law_refused_by_any) := ⟨rfl, rfl, rfl, by decide +kernel, rfl, by decide +kernel, by decide +kernel⟩

def spAny (K : PySem.W.Frag) : Sp := fun vs H Q _ => ∃ z : Str, vs = [.str z] ∧ z.length ≤ 900 ∧ ∀ b H', (b = true ↔ ¬ Good z) → Same H H' → Q (.bl b) H'
theorem ok_any {f : Addr} {fd : FuncData} (F : Fun K "_law_refused_by_any" "_law_refused_by_any" s__law_refused_by_any f fd) (T : Bn mg) (D : ExD K mg R W A G T' C D' "NoText" b1 b2 b3 b4 b5) (D2 : ExD K mg R W A G T' C E' "NoRow" d1 d2 d3 d4 d5)
    (r_read : CalR P w K mg base 2 "read" ["line"] (spRead K E' D')) (c__law_kinds : CalP P w K mg base 1 "_law_kinds" ["_law_e"] (fun cls d H Q => spKinds D' cls d H Q ∨ spKinds E' cls d H Q)) : FnOk P w K mg base CX0 3 f fd ["_law_line"] (spAny K) := by
  have n_CoinError := D.nC
  refine F.ok sc__law_refused_by_any (fun vs H Q E h => ?_) (fun cdv A0 outer s H vs Q E hr h => ?_)
  · obtain ⟨z, rfl, _⟩ := h
    rfl
  · obtain ⟨z, rfl, hz, q⟩ := h
    refine ⟨_, (pss_cons (ps_try_as (i := 1) rfl rfl sc__law_refused_by_any.nd rfl rfl ⟨rfl, by decide, Or.inl n_CoinError⟩ takes0 (fun W pn xe tk _ => (pss_one (ps_expr (pe_calR r_read tk hr (by decide) (pa_cons (pv 0) pa_nil))))) (fun a oe cls d pn hz hf => by exact (pss_one (ps_ret (pe_and (pe_callB (call_isX (K := K) (a := a) (o := (a, oe)) rfl rfl List.mem_cons_self hz hf) (by rfl) T.m_isinstance (by decide +kernel) (pa_cons (pv 1) (pa_cons (pe_bltn (v := .ty "ValueError") rfl T.m_ValueError (by decide +kernel) rfl) pa_nil))) (pe_one (pe_cmpR op_eq (pe_calP c__law_kinds (a := a) (o := (a, oe)) rfl List.mem_cons_self hz hf (room_up hr) (by decide) (pv 1)) pe_int (nomark _))))))))
      (pss_one (ps_ret pe_bl))), ?_⟩
    try dsimp only [cxOf]
    refine g_start [some (.str z), none] rfl ?_
    walk_at "go"
    refine g_callS ?_
    walk_at "go"
    refine ⟨z, rfl, hz, fun all row p H' hp s1 e1 => ?_, fun all nr H1 s1 => ⟨true, D2.mC, fun _ x hx => ?_, fun z => nomatch z⟩, fun na H1 s1 => ⟨true, D.mC, fun _ x hx => ?_, fun z => nomatch z⟩⟩
    · walk_at "go"
      exact q _ _ ⟨fun z => (nomatch z), fun z => absurd ⟨all, row⟩ z⟩ s1
    · walk_at "go"
      refine g_isXT D2.ec D2.qV ?_
      walk_at "go"
      refine g_calP ?_
      walk_at "go"
      refine ⟨rfl, .inr ⟨rfl, rfl, fun H' sH => ?_⟩⟩
      walk_at "go"
      exact q _ _ ⟨fun _ g => nr g.2, fun _ => rfl⟩ (s1.trans sH)
    · walk_at "go"
      refine g_isXT D.ec D.qV ?_
      walk_at "go"
      refine g_calP ?_
      walk_at "go"
      refine ⟨rfl, .inl ⟨rfl, rfl, fun H' sH => ?_⟩⟩
      walk_at "go"
      exact q _ _ ⟨fun _ g => na g.1, fun _ => rfl⟩ (s1.trans sH)
abbrev s_law : Stmt := top 31
theorem sc_law : FnScope ["_law_script", "_law_row", "_law_line", "_law_coins", "_law_text_here", "_law_due", "_law_found", "_law_number"] ["_law_script"] (defScope s_law) := ⟨rfl, rfl, rfl, by decide +kernel, rfl, by decide +kernel, by decide +kernel⟩

def spLaw (K : PySem.W.Frag) : Sp := fun vs H Q _ => ∃ (a : Addr) (ns : List Int), vs = [.ref a] ∧ SqL K H a (ns.map V.int) ∧ ns.length ≤ 63 ∧ ∀ H', Q (.bl true) H'
theorem ok_law {f : Addr} {fd : FuncData} (F : Fun K "law" "law" s_law f fd) (T : Bn mg) (c__law_row_by : Cal P w K mg base 2 "_law_row_by" ["_law_script"] (spRowBy K)) (c__law_cell_at : Cal P w K mg base 1 "_law_cell_at" ["_law_script", "_law_k"] (spCell K))
    (c__law_line_by : Cal P w K mg base 2 "_law_line_by" ["_law_row", "_law_way", "_law_cell"] (spLine K)) (c__law_second : Cal P w K mg base 2 "_law_second" ["_law_line", "_law_cell"] spSecond) (c_written : Cal P w K mg base 1 "written" ["coins"] (spWritten K))
    (c__law_text : Cal P w K mg base 1 "_law_text" ["_law_row"] (spText K)) (c__law_numbers : Cal P w K mg base 1 "_law_numbers" ["_law_line"] (spNums K)) (c__law_good : Cal P w K mg base 1 "_law_good" ["_law_coins"] (spLawGood K))
    (c__law_refused : Cal P w K mg base 3 "_law_refused" ["_law_line", "_law_has_numbers"] (spRef K)) (c__law_refused_by_any : Cal P w K mg base 3 "_law_refused_by_any" ["_law_line"] (spAny K)) (r_read : CalR P w K mg base 2 "read" ["line"] (spRead K E' D'))
    (c__law_whole : Cal P w K mg base 1 "_law_whole" ["_law_found"] spWhole) : FnOk P w K mg base CX0 4 f fd ["_law_script"] (spLaw K) := by
  refine F.ok sc_law (fun vs H Q E h => ?_) (fun cdv A0 outer s H vs Q E hr h => ?_)
  · obtain ⟨a, ns, rfl, _⟩ := h
    rfl
  · obtain ⟨a, ns, rfl, hA, hn, q⟩ := h
    refine ⟨_, (pss_cons (ps_set (i := 1) sc_law.nd rfl (by first | exact Or.inl rfl | exact Or.inr rfl) (pe_cal c__law_row_by hr (by decide) (pa_cons (pv 0) pa_nil)))
      (pss_cons (ps_set (i := 2) sc_law.nd rfl (by first | exact Or.inl rfl | exact Or.inr rfl) (pe_cal c__law_line_by hr (by decide) (pa_cons (pv 1) (pa_cons (pe_op op_mod (pe_cal c__law_cell_at hr (by decide) (pa_cons (pv 0) (pa_cons pe_int pa_nil))) pe_int) (pa_cons (pe_cal c__law_cell_at hr (by decide) (pa_cons (pv 0) (pa_cons pe_int pa_nil))) pa_nil)))))
      (pss_cons (ps_set (i := 2) sc_law.nd rfl (by first | exact Or.inl rfl | exact Or.inr rfl) (pe_cal c__law_second hr (by decide) (pa_cons (pv 2) (pa_cons (pe_cal c__law_cell_at hr (by decide) (pa_cons (pv 0) (pa_cons pe_int pa_nil))) pa_nil))))
      (pss_cons (ps_set (i := 3) sc_law.nd rfl (by first | exact Or.inl rfl | exact Or.inr rfl) (pe_callTy call_ls (by rfl) T.m_list (by decide +kernel) (pa_cons (pv 1) pa_nil)))
      (pss_cons (ps_set (i := 4) sc_law.nd rfl (by first | exact Or.inl rfl | exact Or.inr rfl) (pe_cal c_written hr (by decide) (pa_cons (pv 3) pa_nil)))
      (pss_cons (ps_if (PW.pt (pw_or (pt_not (pt_val (pe_callB call_isi (by rfl) T.m_isinstance (by decide +kernel) (pa_cons (pv 4) (pa_cons (pe_bltn (v := .ty "str") rfl T.m_str (by decide +kernel) rfl) pa_nil))))) (pw_or (pt_cmpR op_ne (pv 4) (pe_cal c__law_text hr (by decide) (pa_cons (pv 1) pa_nil)) (nomark _)) (pw_or1 (pt_cmpR (op_neD hr.units) (pv 3) (pv 1) (nomark _)))))) (pss_one (ps_ret pe_bl)) pss_nil)
      (pss_cons (ps_set (i := 5) sc_law.nd rfl (by first | exact Or.inl rfl | exact Or.inr rfl) (pe_cal c__law_numbers hr (by decide) (pa_cons (pv 2) pa_nil)))
      (pss_cons (ps_if (PW.pt (pw_or (pt_cmpR op_is1 (pv 5) pe_non (nomark _)) (pw_or1 (pt_not (pt_val (pe_cal c__law_good hr (by decide) (pa_cons (pv 5) pa_nil))))))) (pss_one (ps_ret (pe_and (pe_cal c__law_refused hr (by decide) (pa_cons (pv 2) (pa_cons (pe_cmpR op_isn1 (pv 5) pe_non (nomark _)) pa_nil))) (pe_one (pe_cal c__law_refused_by_any hr (by decide) (pa_cons (pv 2) pa_nil)))))) pss_nil)
      (pss_cons (ps_if (pt_val (pe_cal c__law_refused_by_any hr (by decide) (pa_cons (pv 2) pa_nil))) (pss_one (ps_ret pe_bl)) pss_nil)
      (pss_cons (ps_set (i := 6) sc_law.nd rfl (by first | exact Or.inl rfl | exact Or.inr rfl) (pe_calL r_read hr (by decide) (pa_cons (pv 2) pa_nil)))
      (pss_cons (ps_if (PW.pt (pw_or (pt_not (pt_val (pe_callB call_isi (by rfl) T.m_isinstance (by decide +kernel) (pa_cons (pv 6) (pa_cons (pe_bltn (v := .ty "list") rfl T.m_list (by decide +kernel) rfl) pa_nil))))) (pw_or1 (pt_cmpR (op_neD hr.units) (pv 6) (pv 5) (nomark _))))) (pss_one (ps_ret pe_bl)) pss_nil)
      (pss_cons (ps_for PassesOwn.never rfl (pi_list (pv 6)) (pg_name (i := 7) sc_law.nd rfl (by first | exact Or.inl rfl | exact Or.inr rfl)) (pss_one (ps_if (pt_not (pt_val (pe_cal c__law_whole hr (by decide) (pa_cons (pv 7) pa_nil)))) (pss_one (ps_ret pe_bl)) pss_nil)))
      (pss_one (ps_ret pe_bl)))))))))))))), ?_⟩
    try dsimp only [cxOf]
    refine g_start [some (.ref a), none, none, none, none, none, none, none] rfl ?_
    walk_at "go"
    refine ⟨a, ns, rfl, hA, fun cs R r H1 nr s1 e1 => ?_⟩
    have N := row_nms R
    have n12 := R.len
    walk_at "go"
    refine ⟨a, ns, _, rfl, s1.seq hA, by omega, ?_⟩
    walk_at "go"
    refine ⟨a, ns, _, rfl, s1.seq hA, by omega, ?_⟩
    walk_at "go"
    refine ⟨r, cs, _, _, rfl, sq_of e1, R, fun z0 H2 l0 s2 => ?_⟩
    have er2 := s2 _ _ e1
    walk_at "go"
    refine ⟨a, ns, _, rfl, s2.seq (s1.seq hA), by omega, ?_⟩
    walk_at "go"
    refine ⟨z0, _, rfl, l0, fun z lz => ?_⟩
    walk_at "go"
    refine g_lsN (sq_of er2) fun c H3 nc s3 e3 => ?_
    walk_at "go"
    refine ⟨c, cs, rfl, sq_of e3, N, by omega, fun H4 s4 => ?_⟩
    have ec4 := s4 _ _ e3
    have er4 := s4 _ _ (s3 _ _ er2)
    walk_at "go"
    refine ⟨r, cs, rfl, sq_of er4, N, by omega, ?_⟩
    walk_at "go"
    refine g_iteN (fun y => absurd rfl y) (fun _ => ?_)
    walk_at "go"
    refine g_neS (sq_of ec4) (sq_of er4) ?_
    obtain ⟨l1, l2, l3⟩ := words_len z
    walk_at "go"
    refine ⟨z, rfl, lz, fun all p H5 np s5 e5 => ?_, fun na H5 s5 => ?_⟩
    · have hv : (vals (wordsOf z)).length = (wordsOf z).length := List.length_map _
      walk_at "go"
      refine g_iteD (fun y => nomatch y) (fun _ => ?_)
      walk_at "go"
      refine ⟨p, _, rfl, sq_of e5, by omega, by omega, fun g hg => ?_⟩
      walk_at "go"
      cases g with
      | false =>
        have bad : ¬ Good z := fun y => nomatch (hg.mpr y.2)
        walk_at "go"
        refine ⟨z, _, rfl, lz, ⟨fun _ => all, fun _ => by first | rfl | simp⟩, bad, fun H6 s6 => ?_⟩
        walk_at "go"
        refine ⟨z, rfl, lz, fun b H7 hb s7 => ?_⟩
        rw [hb.mpr bad]
        walk_at "go"
        exact q _
      | true =>
        have good : Good z := ⟨all, hg.mp rfl⟩
        walk_at "go"
        refine ⟨z, rfl, lz, fun b H6 hb s6 => ?_⟩
        have eb : b = false := by
          cases b with
          | false => rfl
          | true => exact absurd good (hb.mp rfl)
        subst eb
        walk_at "go"
        refine ⟨z, rfl, lz, fun _ _ d H7 nd s7 e7 => ?_, fun _ no => absurd good.2 no, fun na => absurd all na⟩
        walk_at "go"
        refine g_isLst e7 ?_
        walk_at "go"
        refine g_neS (sq_of e7) (sq_of (s7 _ _ (s6 _ _ e5))) ?_
        walk_at "go"
        refine f_L (sq_of e7) (fun i σ' H' => ∃ x, σ' = [some (.ref a), some (.ref r), some (.str z), some (.ref c), some (.str (rowT cs)), some (.ref p), some (.ref d), x] ∧ H' = H7) ⟨_, rfl, rfl⟩ (fun i σ' H' _ ⟨_, _, e⟩ => by rw [e]; exact sq_of e7) ?_ ?_ ?_
        · rintro i x σ' H' hi ⟨y, rfl, rfl⟩
          obtain ⟨w', rfl, _⟩ := getD_map hi
          walk_at "go"
          refine ⟨_, rfl, ?_⟩
          walk_at "go"
          exact ⟨_, rfl, rfl⟩
        · rintro σ' H' ⟨y, rfl, rfl⟩
          walk_at "go"
          exact q _
        · intro Q' q'
          walk_at "go"
          exact q'
    · have bad : ¬ Good z := fun y => na y.1
      walk_at "go"
      refine g_iteD (fun _ => ?_) (fun y => absurd rfl y)
      walk_at "go"
      refine ⟨z, _, rfl, lz, ⟨fun y => ?_, fun y => absurd y na⟩, bad, fun H6 s6 => ?_⟩
      · first
          | (exact nomatch y)
          | (simp at y)
      walk_at "go"
      refine ⟨z, rfl, lz, fun b H7 hb s7 => ?_⟩
      rw [hb.mpr bad]
      walk_at "go"
      exact q _
end
end Cj

namespace Cj
open PySem PySem.Spec PyProof.Rows L2
theorem all_mk {l : PySem.W.OpenLaw} {w : World} {K : PySem.W.Frag} {h : Heap} {mg : Str → Option Value} {fa f0 f1 f2 f3 f4 f5 f6 f7 f8 f9 f10 f11 f12 f13 f14 f15 f16 f17 xR xW xA xG xT xC : Addr} (X : K.In h) (G : h.Ns mainGlobals mg) (hfa : mg "law" = some (.ref fa))
    {od0 an0 od1 an1 od2 an2 od3 an3 od4 an4 od5 an5 od6 an6 od7 an7 od8 an8 od9 an9 od10 an10 od11 an11 od12 an12 od13 an13 od14 an14 od15 an15 od16 an16 od17 an17 : Option Addr} {sl0 sl1 sl2 sl3 sl4 sl5 sl6 sl7 sl8 sl9 sl10 sl11 sl12 sl13 sl14 sl15 sl16 sl17 : Array (Option Value)} {oc0 kV0 dc0 pm0 cd0 ct0 oc1 kV1 dc1 pm1 cd1 ct1 oc2 kV2 dc2 pm2 cd2 ct2 oc3 kV3 dc3 pm3 cd3 ct3 oc4 kV4 dc4 pm4 cd4 ct4 oc5 kV5 dc5 pm5 cd5 ct5 oc6 kV6 dc6 pm6 cd6 ct6 oc7 kV7 dc7 pm7 cd7 ct7 oc8 kV8 dc8 pm8 cd8 ct8 oc9 kV9 dc9 pm9 cd9 ct9 oc10 kV10 dc10 pm10 cd10 ct10 oc11 kV11 dc11 pm11 cd11 ct11 oc12 kV12 dc12 pm12 cd12 ct12 oc13 kV13 dc13 pm13 cd13 ct13 oc14 kV14 dc14 pm14 cd14 ct14 oc15 kV15 dc15 pm15 cd15 ct15 oc16 kV16 dc16 pm16 cd16 ct16 oc17 kV17 dc17 pm17 cd17 ct17 : Value} {t_MOST t_GREATEST t_FIGURES t_MOST_FIGURES : Tok}
    (a0 : PySem.W.nsIn K mainGlobals "good_row" = some (some (.ref f0)))
    (l0 : K.lookup f0 = some ⟨oc0, od0, .func (PySem.W.fnOf "good_row" "good_row" (defArgs s_good_row) (defBody s_good_row) (defScope s_good_row) .none kV0 dc0 pm0 an0 cd0 ct0), sl0⟩)
    (c0 : PySem.W.codeIn K cd0 "good_row" = true)
    (k0 : PySem.W.keepIn K (.ref f0) = true)
    (a1 : PySem.W.nsIn K mainGlobals "written" = some (some (.ref f1)))
    (l1 : K.lookup f1 = some ⟨oc1, od1, .func (PySem.W.fnOf "written" "written" (defArgs s_written) (defBody s_written) (defScope s_written) .none kV1 dc1 pm1 an1 cd1 ct1), sl1⟩)
    (c1 : PySem.W.codeIn K cd1 "written" = true)
    (k1 : PySem.W.keepIn K (.ref f1) = true)
    (a2 : PySem.W.nsIn K mainGlobals "number_of" = some (some (.ref f2)))
    (l2 : K.lookup f2 = some ⟨oc2, od2, .func (PySem.W.fnOf "number_of" "number_of" (defArgs s_number_of) (defBody s_number_of) (defScope s_number_of) .none kV2 dc2 pm2 an2 cd2 ct2), sl2⟩)
    (c2 : PySem.W.codeIn K cd2 "number_of" = true)
    (k2 : PySem.W.keepIn K (.ref f2) = true)
    (a3 : PySem.W.nsIn K mainGlobals "read" = some (some (.ref f3)))
    (l3 : K.lookup f3 = some ⟨oc3, od3, .func (PySem.W.fnOf "read" "read" (defArgs s_read) (defBody s_read) (defScope s_read) .none kV3 dc3 pm3 an3 cd3 ct3), sl3⟩)
    (c3 : PySem.W.codeIn K cd3 "read" = true)
    (k3 : PySem.W.keepIn K (.ref f3) = true)
    (a4 : PySem.W.nsIn K mainGlobals "_law_whole" = some (some (.ref f4)))
    (l4 : K.lookup f4 = some ⟨oc4, od4, .func (PySem.W.fnOf "_law_whole" "_law_whole" (defArgs s__law_whole) (defBody s__law_whole) (defScope s__law_whole) .none kV4 dc4 pm4 an4 cd4 ct4), sl4⟩)
    (c4 : PySem.W.codeIn K cd4 "_law_whole" = true)
    (k4 : PySem.W.keepIn K (.ref f4) = true)
    (a5 : PySem.W.nsIn K mainGlobals "_law_cell_at" = some (some (.ref f5)))
    (l5 : K.lookup f5 = some ⟨oc5, od5, .func (PySem.W.fnOf "_law_cell_at" "_law_cell_at" (defArgs s__law_cell_at) (defBody s__law_cell_at) (defScope s__law_cell_at) .none kV5 dc5 pm5 an5 cd5 ct5), sl5⟩)
    (c5 : PySem.W.codeIn K cd5 "_law_cell_at" = true)
    (k5 : PySem.W.keepIn K (.ref f5) = true)
    (a6 : PySem.W.nsIn K mainGlobals "_law_row_by" = some (some (.ref f6)))
    (l6 : K.lookup f6 = some ⟨oc6, od6, .func (PySem.W.fnOf "_law_row_by" "_law_row_by" (defArgs s__law_row_by) (defBody s__law_row_by) (defScope s__law_row_by) .none kV6 dc6 pm6 an6 cd6 ct6), sl6⟩)
    (c6 : PySem.W.codeIn K cd6 "_law_row_by" = true)
    (k6 : PySem.W.keepIn K (.ref f6) = true)
    (a7 : PySem.W.nsIn K mainGlobals "_law_sign_by" = some (some (.ref f7)))
    (l7 : K.lookup f7 = some ⟨oc7, od7, .func (PySem.W.fnOf "_law_sign_by" "_law_sign_by" (defArgs s__law_sign_by) (defBody s__law_sign_by) (defScope s__law_sign_by) .none kV7 dc7 pm7 an7 cd7 ct7), sl7⟩)
    (c7 : PySem.W.codeIn K cd7 "_law_sign_by" = true)
    (k7 : PySem.W.keepIn K (.ref f7) = true)
    (a8 : PySem.W.nsIn K mainGlobals "_law_odd_text" = some (some (.ref f8)))
    (l8 : K.lookup f8 = some ⟨oc8, od8, .func (PySem.W.fnOf "_law_odd_text" "_law_odd_text" (defArgs s__law_odd_text) (defBody s__law_odd_text) (defScope s__law_odd_text) .none kV8 dc8 pm8 an8 cd8 ct8), sl8⟩)
    (c8 : PySem.W.codeIn K cd8 "_law_odd_text" = true)
    (k8 : PySem.W.keepIn K (.ref f8) = true)
    (a9 : PySem.W.nsIn K mainGlobals "_law_text" = some (some (.ref f9)))
    (l9 : K.lookup f9 = some ⟨oc9, od9, .func (PySem.W.fnOf "_law_text" "_law_text" (defArgs s__law_text) (defBody s__law_text) (defScope s__law_text) .none kV9 dc9 pm9 an9 cd9 ct9), sl9⟩)
    (c9 : PySem.W.codeIn K cd9 "_law_text" = true)
    (k9 : PySem.W.keepIn K (.ref f9) = true)
    (a10 : PySem.W.nsIn K mainGlobals "_law_line_by" = some (some (.ref f10)))
    (l10 : K.lookup f10 = some ⟨oc10, od10, .func (PySem.W.fnOf "_law_line_by" "_law_line_by" (defArgs s__law_line_by) (defBody s__law_line_by) (defScope s__law_line_by) .none kV10 dc10 pm10 an10 cd10 ct10), sl10⟩)
    (c10 : PySem.W.codeIn K cd10 "_law_line_by" = true)
    (k10 : PySem.W.keepIn K (.ref f10) = true)
    (a11 : PySem.W.nsIn K mainGlobals "_law_second" = some (some (.ref f11)))
    (l11 : K.lookup f11 = some ⟨oc11, od11, .func (PySem.W.fnOf "_law_second" "_law_second" (defArgs s__law_second) (defBody s__law_second) (defScope s__law_second) .none kV11 dc11 pm11 an11 cd11 ct11), sl11⟩)
    (c11 : PySem.W.codeIn K cd11 "_law_second" = true)
    (k11 : PySem.W.keepIn K (.ref f11) = true)
    (a12 : PySem.W.nsIn K mainGlobals "_law_numbers" = some (some (.ref f12)))
    (l12 : K.lookup f12 = some ⟨oc12, od12, .func (PySem.W.fnOf "_law_numbers" "_law_numbers" (defArgs s__law_numbers) (defBody s__law_numbers) (defScope s__law_numbers) .none kV12 dc12 pm12 an12 cd12 ct12), sl12⟩)
    (c12 : PySem.W.codeIn K cd12 "_law_numbers" = true)
    (k12 : PySem.W.keepIn K (.ref f12) = true)
    (a13 : PySem.W.nsIn K mainGlobals "_law_good" = some (some (.ref f13)))
    (l13 : K.lookup f13 = some ⟨oc13, od13, .func (PySem.W.fnOf "_law_good" "_law_good" (defArgs s__law_good) (defBody s__law_good) (defScope s__law_good) .none kV13 dc13 pm13 an13 cd13 ct13), sl13⟩)
    (c13 : PySem.W.codeIn K cd13 "_law_good" = true)
    (k13 : PySem.W.keepIn K (.ref f13) = true)
    (a14 : PySem.W.nsIn K mainGlobals "_law_refused" = some (some (.ref f14)))
    (l14 : K.lookup f14 = some ⟨oc14, od14, .func (PySem.W.fnOf "_law_refused" "_law_refused" (defArgs s__law_refused) (defBody s__law_refused) (defScope s__law_refused) .none kV14 dc14 pm14 an14 cd14 ct14), sl14⟩)
    (c14 : PySem.W.codeIn K cd14 "_law_refused" = true)
    (k14 : PySem.W.keepIn K (.ref f14) = true)
    (a15 : PySem.W.nsIn K mainGlobals "_law_kinds" = some (some (.ref f15)))
    (l15 : K.lookup f15 = some ⟨oc15, od15, .func (PySem.W.fnOf "_law_kinds" "_law_kinds" (defArgs s__law_kinds) (defBody s__law_kinds) (defScope s__law_kinds) .none kV15 dc15 pm15 an15 cd15 ct15), sl15⟩)
    (c15 : PySem.W.codeIn K cd15 "_law_kinds" = true)
    (k15 : PySem.W.keepIn K (.ref f15) = true)
    (a16 : PySem.W.nsIn K mainGlobals "_law_refused_by_any" = some (some (.ref f16)))
    (l16 : K.lookup f16 = some ⟨oc16, od16, .func (PySem.W.fnOf "_law_refused_by_any" "_law_refused_by_any" (defArgs s__law_refused_by_any) (defBody s__law_refused_by_any) (defScope s__law_refused_by_any) .none kV16 dc16 pm16 an16 cd16 ct16), sl16⟩)
    (c16 : PySem.W.codeIn K cd16 "_law_refused_by_any" = true)
    (k16 : PySem.W.keepIn K (.ref f16) = true)
    (a17 : PySem.W.nsIn K mainGlobals "law" = some (some (.ref f17)))
    (l17 : K.lookup f17 = some ⟨oc17, od17, .func (PySem.W.fnOf "law" "law" (defArgs s_law) (defBody s_law) (defScope s_law) .none kV17 dc17 pm17 an17 cd17 ct17), sl17⟩)
    (c17 : PySem.W.codeIn K cd17 "law" = true)
    (k17 : PySem.W.keepIn K (.ref f17) = true)
    (e_MOST : PySem.W.nsIn K mainGlobals "MOST" = some (some (.int 12 t_MOST)))
    (e_GREATEST : PySem.W.nsIn K mainGlobals "GREATEST" = some (some (.int 1000000000000000000000000000000000000000000000000000000000000 t_GREATEST)))
    (e_FIGURES : PySem.W.nsIn K mainGlobals "FIGURES" = some (some (.str "0123456789" t_FIGURES)))
    (e_MOST_FIGURES : PySem.W.nsIn K mainGlobals "MOST_FIGURES" = some (some (.int 61 t_MOST_FIGURES)))
    (z_len : PySem.W.nsIn K mainGlobals "len" = some none)
    (z_range : PySem.W.nsIn K mainGlobals "range" = some none)
    (z_list : PySem.W.nsIn K mainGlobals "list" = some none)
    (z_sum : PySem.W.nsIn K mainGlobals "sum" = some none)
    (z_min : PySem.W.nsIn K mainGlobals "min" = some none)
    (z_max : PySem.W.nsIn K mainGlobals "max" = some none)
    (z_isinstance : PySem.W.nsIn K mainGlobals "isinstance" = some none)
    (z_str : PySem.W.nsIn K mainGlobals "str" = some none)
    (z_int : PySem.W.nsIn K mainGlobals "int" = some none)
    (z_bool : PySem.W.nsIn K mainGlobals "bool" = some none)
    (z_tuple : PySem.W.nsIn K mainGlobals "tuple" = some none)
    (z_ValueError : PySem.W.nsIn K mainGlobals "ValueError" = some none)
    (n_NoRow : PySem.W.nsIn K mainGlobals "NoRow" = some (some (.ref xR)))
    (n_NoWay : PySem.W.nsIn K mainGlobals "NoWay" = some (some (.ref xW)))
    (n_NoAmount : PySem.W.nsIn K mainGlobals "NoAmount" = some (some (.ref xA)))
    (n_TooGreat : PySem.W.nsIn K mainGlobals "TooGreat" = some (some (.ref xG)))
    (n_NoText : PySem.W.nsIn K mainGlobals "NoText" = some (some (.ref xT)))
    (n_CoinError : PySem.W.nsIn K mainGlobals "CoinError" = some (some (.ref xC)))
    (e_hg : PySem.W.findIn K (.ref xT) "__getattribute__" = some (some (.builtin "BaseException.__getattribute__")))
    (e_hk : PySem.W.findIn K (.ref xT) "__getattr__" = some none)
    (e_hs : PySem.W.subIn K (.ref xT) (.type "BaseException") = some true)
    (e_hd : PySem.W.hasDictIn K xT = true)
    (e_ha : PySem.W.findIn K (.ref xT) "__class__" = some (some (.builtin "object.__class__")))
    (e_hn : PySem.W.specialIn K (.builtin "object.__class__") "__get__" = some (some (.builtin "getset_descriptor.__get__")))
    (e_ht : PySem.W.takesIn K (.builtin "object.__class__") = some true)
    (e_hm : PySem.W.mroIn K xT (.type "object") = some true)
    (e_q0 : PySem.W.subIn K (.ref xT) (.ref xR) = some false)
    (e_x0 : PySem.W.hasDictIn K xR = true)
    (e_t0 : PySem.W.typeIn K (.ref xR) = some (.type "type"))
    (e_d0 : (xT == xR) = false)
    (e_q1 : PySem.W.subIn K (.ref xT) (.ref xW) = some false)
    (e_x1 : PySem.W.hasDictIn K xW = true)
    (e_t1 : PySem.W.typeIn K (.ref xW) = some (.type "type"))
    (e_d1 : (xT == xW) = false)
    (e_q2 : PySem.W.subIn K (.ref xT) (.ref xA) = some false)
    (e_x2 : PySem.W.hasDictIn K xA = true)
    (e_t2 : PySem.W.typeIn K (.ref xA) = some (.type "type"))
    (e_d2 : (xT == xA) = false)
    (e_q3 : PySem.W.subIn K (.ref xT) (.ref xG) = some false)
    (e_x3 : PySem.W.hasDictIn K xG = true)
    (e_t3 : PySem.W.typeIn K (.ref xG) = some (.type "type"))
    (e_d3 : (xT == xG) = false)
    (e_qV : PySem.W.subIn K (.ref xT) (.type "ValueError") = some true)
    (e_DD : PySem.W.subIn K (.ref xT) (.ref xT) = some true)
    (e_DC : PySem.W.subIn K (.ref xT) (.ref xC) = some true)
    (e_sC : PySem.W.subIn K (.ref xC) (.type "BaseException") = some true)
    (e_dC : PySem.W.hasDictIn K xC = true)
    (e_tC : PySem.W.typeIn K (.ref xC) = some (.type "type"))
    (e_ki : PySem.W.keepIn K (.ref xT) = true)
    (e_rt : PySem.W.typeIn K (.ref xT) = some (.type "type"))
    (e_ex : PySem.W.excIn K xT [.type "ValueError", .type "Exception", .type "BaseException", .type "object"] "ValueError.__new__" = true)
    (g_hg : PySem.W.findIn K (.ref xR) "__getattribute__" = some (some (.builtin "BaseException.__getattribute__")))
    (g_hk : PySem.W.findIn K (.ref xR) "__getattr__" = some none)
    (g_hs : PySem.W.subIn K (.ref xR) (.type "BaseException") = some true)
    (g_hd : PySem.W.hasDictIn K xR = true)
    (g_ha : PySem.W.findIn K (.ref xR) "__class__" = some (some (.builtin "object.__class__")))
    (g_hn : PySem.W.specialIn K (.builtin "object.__class__") "__get__" = some (some (.builtin "getset_descriptor.__get__")))
    (g_ht : PySem.W.takesIn K (.builtin "object.__class__") = some true)
    (g_hm : PySem.W.mroIn K xR (.type "object") = some true)
    (g_q1 : PySem.W.subIn K (.ref xR) (.ref xW) = some false)
    (g_x1 : PySem.W.hasDictIn K xW = true)
    (g_t1 : PySem.W.typeIn K (.ref xW) = some (.type "type"))
    (g_d1 : (xR == xW) = false)
    (g_q2 : PySem.W.subIn K (.ref xR) (.ref xA) = some false)
    (g_x2 : PySem.W.hasDictIn K xA = true)
    (g_t2 : PySem.W.typeIn K (.ref xA) = some (.type "type"))
    (g_d2 : (xR == xA) = false)
    (g_q3 : PySem.W.subIn K (.ref xR) (.ref xG) = some false)
    (g_x3 : PySem.W.hasDictIn K xG = true)
    (g_t3 : PySem.W.typeIn K (.ref xG) = some (.type "type"))
    (g_d3 : (xR == xG) = false)
    (g_q4 : PySem.W.subIn K (.ref xR) (.ref xT) = some false)
    (g_x4 : PySem.W.hasDictIn K xT = true)
    (g_t4 : PySem.W.typeIn K (.ref xT) = some (.type "type"))
    (g_d4 : (xR == xT) = false)
    (g_qV : PySem.W.subIn K (.ref xR) (.type "ValueError") = some true)
    (g_DD : PySem.W.subIn K (.ref xR) (.ref xR) = some true)
    (g_DC : PySem.W.subIn K (.ref xR) (.ref xC) = some true)
    (g_sC : PySem.W.subIn K (.ref xC) (.type "BaseException") = some true)
    (g_dC : PySem.W.hasDictIn K xC = true)
    (g_tC : PySem.W.typeIn K (.ref xC) = some (.type "type"))
    (g_ki : PySem.W.keepIn K (.ref xR) = true)
    (g_rt : PySem.W.typeIn K (.ref xR) = some (.type "type"))
    (g_ex : PySem.W.excIn K xR [.type "ValueError", .type "Exception", .type "BaseException", .type "object"] "ValueError.__new__" = true)
    (e_12 : PySem.W.subIn K (.ref xR) (.ref xT) = some false) :
    ∃ fd : FuncData, (∀ (s : Shared) (v : Value), BindsTo s fd ⟨[v], []⟩ [("_law_script", v)]) ∧ ∀ base : Heap, K.In base → base.Ns mainGlobals mg → FnOk l.prog w K mg base CX0 4 fa fd ["_law_script"] (spLaw K) := by
  have e := hfa.symm.trans (PySem.W.mg_of X G a17)
  cases e
  have T : Bn mg := ⟨PySem.W.mg_none_of X G z_len, PySem.W.mg_none_of X G z_range, PySem.W.mg_none_of X G z_list, PySem.W.mg_none_of X G z_sum, PySem.W.mg_none_of X G z_min, PySem.W.mg_none_of X G z_max, PySem.W.mg_none_of X G z_isinstance, PySem.W.mg_none_of X G z_str, PySem.W.mg_none_of X G z_int, PySem.W.mg_none_of X G z_bool, PySem.W.mg_none_of X G z_tuple, PySem.W.mg_none_of X G z_ValueError⟩
  have gc_MOST := PySem.W.mg_of X G e_MOST
  have gc_GREATEST := PySem.W.mg_of X G e_GREATEST
  have gc_FIGURES := PySem.W.mg_of X G e_FIGURES
  have gc_MOST_FIGURES := PySem.W.mg_of X G e_MOST_FIGURES
  have D : ExD K mg xR xW xA xG xT xC xT "NoText" false false false false true := ⟨⟨e_hg, e_hk, e_hs, e_hd, e_ha, e_hn, e_ht, e_hm⟩, PySem.W.mg_of X G n_NoRow, PySem.W.mg_of X G n_NoWay, PySem.W.mg_of X G n_NoAmount, PySem.W.mg_of X G n_TooGreat, PySem.W.mg_of X G n_NoText, PySem.W.mg_of X G n_CoinError, PySem.W.mg_of X G n_NoText, kit_other e_d0 e_x0 e_t0 e_q0, kit_other e_d1 e_x1 e_t1 e_q1, kit_other e_d2 e_x2 e_t2 e_q2, kit_other e_d3 e_x3 e_t3 e_q3, kit_self, kit_type (by decide +kernel) e_qV, by decide, PySem.W.exm_ref e_hs e_hd e_rt e_DD, PySem.W.exm_ref e_sC e_dC e_tC e_DC, e_ki, e_hs, e_rt, e_ex⟩
  have D2 : ExD K mg xR xW xA xG xT xC xR "NoRow" true false false false false := ⟨⟨g_hg, g_hk, g_hs, g_hd, g_ha, g_hn, g_ht, g_hm⟩, PySem.W.mg_of X G n_NoRow, PySem.W.mg_of X G n_NoWay, PySem.W.mg_of X G n_NoAmount, PySem.W.mg_of X G n_TooGreat, PySem.W.mg_of X G n_NoText, PySem.W.mg_of X G n_CoinError, PySem.W.mg_of X G n_NoRow, kit_self, kit_other g_d1 g_x1 g_t1 g_q1, kit_other g_d2 g_x2 g_t2 g_q2, kit_other g_d3 g_x3 g_t3 g_q3, kit_other g_d4 g_x4 g_t4 g_q4, kit_type (by decide +kernel) g_qV, by decide, PySem.W.exm_ref g_hs g_hd g_rt g_DD, PySem.W.exm_ref g_sC g_dC g_tC g_DC, g_ki, g_hs, g_rt, g_ex⟩
  have x12 := PySem.W.exm_ref e_hs e_hd e_rt e_12
  have F0 := fun_mk (st := s_good_row) l0 c0 k0
  have F1 := fun_mk (st := s_written) l1 c1 k1
  have F2 := fun_mk (st := s_number_of) l2 c2 k2
  have F3 := fun_mk (st := s_read) l3 c3 k3
  have F4 := fun_mk (st := s__law_whole) l4 c4 k4
  have F5 := fun_mk (st := s__law_cell_at) l5 c5 k5
  have F6 := fun_mk (st := s__law_row_by) l6 c6 k6
  have F7 := fun_mk (st := s__law_sign_by) l7 c7 k7
  have F8 := fun_mk (st := s__law_odd_text) l8 c8 k8
  have F9 := fun_mk (st := s__law_text) l9 c9 k9
  have F10 := fun_mk (st := s__law_line_by) l10 c10 k10
  have F11 := fun_mk (st := s__law_second) l11 c11 k11
  have F12 := fun_mk (st := s__law_numbers) l12 c12 k12
  have F13 := fun_mk (st := s__law_good) l13 c13 k13
  have F14 := fun_mk (st := s__law_refused) l14 c14 k14
  have F15 := fun_mk (st := s__law_kinds) l15 c15 k15
  have F16 := fun_mk (st := s__law_refused_by_any) l16 c16 k16
  have F17 := fun_mk (st := s_law) l17 c17 k17
  refine ⟨PySem.W.fnOf "law" "law" (defArgs s_law) (defBody s_law) (defScope s_law) .none kV17 dc17 pm17 an17 cd17 ct17, fun s v => .of_eq rfl, fun base _ _ => ?_⟩
  have r_good_row : CalR l.prog w K mg base 1 "good_row" ["coins"] (spGood K xR) := ⟨⟨f0, _, ok_good F0 T gc_MOST gc_GREATEST D2, PySem.W.mg_of X G a0, k0, F0.binds (ps := ["coins"]) fun _ _ _ _ _ _ us hl => match us, hl with | [_], _ => rfl⟩⟩
  have c_written : Cal l.prog w K mg base 1 "written" ["coins"] (spWritten K) := ⟨⟨f1, _, ok_written F1 T, PySem.W.mg_of X G a1, k1, F1.binds (ps := ["coins"]) fun _ _ _ _ _ _ us hl => match us, hl with | [_], _ => rfl⟩⟩
  have r_number_of : CalR l.prog w K mg base 1 "number_of" ["word"] (spNum xT) := ⟨⟨f2, _, ok_number F2 T gc_FIGURES gc_MOST_FIGURES D, PySem.W.mg_of X G a2, k2, F2.binds (ps := ["word"]) fun _ _ _ _ _ _ us hl => match us, hl with | [_], _ => rfl⟩⟩
  have r_read : CalR l.prog w K mg base 2 "read" ["line"] (spRead K xR xT) := ⟨⟨f3, _, ok_read F3 T r_good_row r_number_of, PySem.W.mg_of X G a3, k3, F3.binds (ps := ["line"]) fun _ _ _ _ _ _ us hl => match us, hl with | [_], _ => rfl⟩⟩
  have c__law_whole : Cal l.prog w K mg base 1 "_law_whole" ["_law_found"] (spWhole) := ⟨⟨f4, _, ok_whole F4 T, PySem.W.mg_of X G a4, k4, F4.binds (ps := ["_law_found"]) fun _ _ _ _ _ _ us hl => match us, hl with | [_], _ => rfl⟩⟩
  have c__law_cell_at : Cal l.prog w K mg base 1 "_law_cell_at" ["_law_script", "_law_k"] (spCell K) := ⟨⟨f5, _, ok_cell F5 T, PySem.W.mg_of X G a5, k5, F5.binds (ps := ["_law_script", "_law_k"]) fun _ _ _ _ _ _ us hl => match us, hl with | [_, _], _ => rfl⟩⟩
  have c__law_row_by : Cal l.prog w K mg base 2 "_law_row_by" ["_law_script"] (spRowBy K) := ⟨⟨f6, _, ok_rowBy F6 T c__law_cell_at, PySem.W.mg_of X G a6, k6, F6.binds (ps := ["_law_script"]) fun _ _ _ _ _ _ us hl => match us, hl with | [_], _ => rfl⟩⟩
  have c__law_sign_by : Cal l.prog w K mg base 1 "_law_sign_by" ["_law_cell"] (spSign) := ⟨⟨f7, _, ok_sign F7 T, PySem.W.mg_of X G a7, k7, F7.binds (ps := ["_law_cell"]) fun _ _ _ _ _ _ us hl => match us, hl with | [_], _ => rfl⟩⟩
  have c__law_odd_text : Cal l.prog w K mg base 1 "_law_odd_text" ["_law_cell"] (spOdd) := ⟨⟨f8, _, ok_odd F8 T, PySem.W.mg_of X G a8, k8, F8.binds (ps := ["_law_cell"]) fun _ _ _ _ _ _ us hl => match us, hl with | [_], _ => rfl⟩⟩
  have c__law_text : Cal l.prog w K mg base 1 "_law_text" ["_law_row"] (spText K) := ⟨⟨f9, _, ok_text F9 T, PySem.W.mg_of X G a9, k9, F9.binds (ps := ["_law_row"]) fun _ _ _ _ _ _ us hl => match us, hl with | [_], _ => rfl⟩⟩
  have c__law_line_by : Cal l.prog w K mg base 2 "_law_line_by" ["_law_row", "_law_way", "_law_cell"] (spLine K) := ⟨⟨f10, _, ok_line F10 T c__law_text c__law_sign_by c__law_odd_text, PySem.W.mg_of X G a10, k10, F10.binds (ps := ["_law_row", "_law_way", "_law_cell"]) fun _ _ _ _ _ _ us hl => match us, hl with | [_, _, _], _ => rfl⟩⟩
  have c__law_second : Cal l.prog w K mg base 2 "_law_second" ["_law_line", "_law_cell"] (spSecond) := ⟨⟨f11, _, ok_second F11 T c__law_sign_by, PySem.W.mg_of X G a11, k11, F11.binds (ps := ["_law_line", "_law_cell"]) fun _ _ _ _ _ _ us hl => match us, hl with | [_, _], _ => rfl⟩⟩
  have c__law_numbers : Cal l.prog w K mg base 1 "_law_numbers" ["_law_line"] (spNums K) := ⟨⟨f12, _, ok_nums F12 T, PySem.W.mg_of X G a12, k12, F12.binds (ps := ["_law_line"]) fun _ _ _ _ _ _ us hl => match us, hl with | [_], _ => rfl⟩⟩
  have c__law_good : Cal l.prog w K mg base 1 "_law_good" ["_law_coins"] (spLawGood K) := ⟨⟨f13, _, ok_lawGood F13 T, PySem.W.mg_of X G a13, k13, F13.binds (ps := ["_law_coins"]) fun _ _ _ _ _ _ us hl => match us, hl with | [_], _ => rfl⟩⟩
  have c__law_refused : Cal l.prog w K mg base 3 "_law_refused" ["_law_line", "_law_has_numbers"] (spRef K) := ⟨⟨f14, _, ok_ref F14 T D D2 x12 r_read, PySem.W.mg_of X G a14, k14, F14.binds (ps := ["_law_line", "_law_has_numbers"]) fun _ _ _ _ _ _ us hl => match us, hl with | [_, _], _ => rfl⟩⟩
  have c__law_kinds : CalP l.prog w K mg base 1 "_law_kinds" ["_law_e"] (fun cls d H Q => spKinds xT cls d H Q ∨ spKinds xR cls d H Q) := ⟨⟨f15, _, (kinds_two (ok_kinds F15 T D) (ok_kinds F15 T D2)), PySem.W.mg_of X G a15, k15, F15.binds (ps := ["_law_e"]) fun _ _ _ _ _ _ us hl => match us, hl with | [_], _ => rfl, rfl⟩⟩
  have c__law_refused_by_any : Cal l.prog w K mg base 3 "_law_refused_by_any" ["_law_line"] (spAny K) := ⟨⟨f16, _, ok_any F16 T D D2 r_read c__law_kinds, PySem.W.mg_of X G a16, k16, F16.binds (ps := ["_law_line"]) fun _ _ _ _ _ _ us hl => match us, hl with | [_], _ => rfl⟩⟩
  exact ok_law F17 T c__law_row_by c__law_cell_at c__law_line_by c__law_second c_written c__law_text c__law_numbers c__law_good c__law_refused c__law_refused_by_any r_read c__law_whole
end Cj
open PySem PySem.W PyProof.Rows
set_option maxRecDepth 100000 in
set_option maxHeartbeats 0 in
theorem PySem.Challenge.cw_coinjudge_k09_written_and_read_holds : PySem.Challenge.rw_coinjudge_k09_written_and_read.Holds := by
  w_on; o_law; k_head; (case hw => w_witness2)
  k_fill
  refine L2.walk_of (l := PySem.Challenge.rw_coinjudge_k09_written_and_read) (n := 63) (k := 4) (x := "_law_script") (CX := fun _ => L2.CX0) (sp := fun w => Cj.spLaw _) rfl (by decide) rfl ⟨rfl, by decide, by decide⟩ (fun w h Y => PySem.W.kIn_of Y) ?F (fun _ _ a ns hl _ hS => ⟨a, ns, rfl, hS, hl, fun _ => rfl⟩) (fun _ _ _ _ _ h => h)
  case F =>
    intro w mg fa h KX G hmg
    refine' Cj.all_mk KX G hmg ?a0 ?l0 ?c0 ?k0 ?a1 ?l1 ?c1 ?k1 ?a2 ?l2 ?c2 ?k2 ?a3 ?l3 ?c3 ?k3 ?a4 ?l4 ?c4 ?k4 ?a5 ?l5 ?c5 ?k5 ?a6 ?l6 ?c6 ?k6 ?a7 ?l7 ?c7 ?k7 ?a8 ?l8 ?c8 ?k8 ?a9 ?l9 ?c9 ?k9 ?a10 ?l10 ?c10 ?k10 ?a11 ?l11 ?c11 ?k11 ?a12 ?l12 ?c12 ?k12 ?a13 ?l13 ?c13 ?k13 ?a14 ?l14 ?c14 ?k14 ?a15 ?l15 ?c15 ?k15 ?a16 ?l16 ?c16 ?k16 ?a17 ?l17 ?c17 ?k17 ?e_MOST ?e_GREATEST ?e_FIGURES ?e_MOST_FIGURES ?z_len ?z_range ?z_list ?z_sum ?z_min ?z_max ?z_isinstance ?z_str ?z_int ?z_bool ?z_tuple ?z_ValueError ?n_NoRow ?n_NoWay ?n_NoAmount ?n_TooGreat ?n_NoText ?n_CoinError ?e_hg ?e_hk ?e_hs ?e_hd ?e_ha ?e_hn ?e_ht ?e_hm ?e_q0 ?e_x0 ?e_t0 ?e_d0 ?e_q1 ?e_x1 ?e_t1 ?e_d1 ?e_q2 ?e_x2 ?e_t2 ?e_d2 ?e_q3 ?e_x3 ?e_t3 ?e_d3 ?e_qV ?e_DD ?e_DC ?e_sC ?e_dC ?e_tC ?e_ki ?e_rt ?e_ex ?g_hg ?g_hk ?g_hs ?g_hd ?g_ha ?g_hn ?g_ht ?g_hm ?g_q1 ?g_x1 ?g_t1 ?g_d1 ?g_q2 ?g_x2 ?g_t2 ?g_d2 ?g_q3 ?g_x3 ?g_t3 ?g_d3 ?g_q4 ?g_x4 ?g_t4 ?g_d4 ?g_qV ?g_DD ?g_DC ?g_sC ?g_dC ?g_tC ?g_ki ?g_rt ?g_ex ?e_12
    (case a0 => k_is)
    (case l0 => k_is)
    (case c0 => k_is)
    (case k0 => k_is)
    (case a1 => k_is)
    (case l1 => k_is)
    (case c1 => k_is)
    (case k1 => k_is)
    (case a2 => k_is)
    (case l2 => k_is)
    (case c2 => k_is)
    (case k2 => k_is)
    (case a3 => k_is)
    (case l3 => k_is)
    (case c3 => k_is)
    (case k3 => k_is)
    (case a4 => k_is)
    (case l4 => k_is)
    (case c4 => k_is)
    (case k4 => k_is)
    (case a5 => k_is)
    (case l5 => k_is)
    (case c5 => k_is)
    (case k5 => k_is)
    (case a6 => k_is)
    (case l6 => k_is)
    (case c6 => k_is)
    (case k6 => k_is)
    (case a7 => k_is)
    (case l7 => k_is)
    (case c7 => k_is)
    (case k7 => k_is)
    (case a8 => k_is)
    (case l8 => k_is)
    (case c8 => k_is)
    (case k8 => k_is)
    (case a9 => k_is)
    (case l9 => k_is)
    (case c9 => k_is)
    (case k9 => k_is)
    (case a10 => k_is)
    (case l10 => k_is)
    (case c10 => k_is)
    (case k10 => k_is)
    (case a11 => k_is)
    (case l11 => k_is)
    (case c11 => k_is)
    (case k11 => k_is)
    (case a12 => k_is)
    (case l12 => k_is)
    (case c12 => k_is)
    (case k12 => k_is)
    (case a13 => k_is)
    (case l13 => k_is)
    (case c13 => k_is)
    (case k13 => k_is)
    (case a14 => k_is)
    (case l14 => k_is)
    (case c14 => k_is)
    (case k14 => k_is)
    (case a15 => k_is)
    (case l15 => k_is)
    (case c15 => k_is)
    (case k15 => k_is)
    (case a16 => k_is)
    (case l16 => k_is)
    (case c16 => k_is)
    (case k16 => k_is)
    (case a17 => k_is)
    (case l17 => k_is)
    (case c17 => k_is)
    (case k17 => k_is)
    (case e_MOST => first | k_is | k_exc | decide +kernel)
    (case e_GREATEST => first | k_is | k_exc | decide +kernel)
    (case e_FIGURES => first | k_is | k_exc | decide +kernel)
    (case e_MOST_FIGURES => first | k_is | k_exc | decide +kernel)
    (case z_len => k_is)
    (case z_range => k_is)
    (case z_list => k_is)
    (case z_sum => k_is)
    (case z_min => k_is)
    (case z_max => k_is)
    (case z_isinstance => k_is)
    (case z_str => k_is)
    (case z_int => k_is)
    (case z_bool => k_is)
    (case z_tuple => k_is)
    (case z_ValueError => k_is)
    (case n_NoRow => k_is)
    (case n_NoWay => k_is)
    (case n_NoAmount => k_is)
    (case n_TooGreat => k_is)
    (case n_NoText => k_is)
    (case n_CoinError => k_is)
    (case e_hg => first | k_is | k_exc | decide +kernel)
    (case e_hk => first | k_is | k_exc | decide +kernel)
    (case e_hs => first | k_is | k_exc | decide +kernel)
    (case e_hd => first | k_is | k_exc | decide +kernel)
    (case e_ha => first | k_is | k_exc | decide +kernel)
    (case e_hn => first | k_is | k_exc | decide +kernel)
    (case e_ht => first | k_is | k_exc | decide +kernel)
    (case e_hm => first | k_is | k_exc | decide +kernel)
    (case e_q0 => first | k_is | k_exc | decide +kernel)
    (case e_x0 => first | k_is | k_exc | decide +kernel)
    (case e_t0 => first | k_is | k_exc | decide +kernel)
    (case e_d0 => first | k_is | k_exc | decide +kernel)
    (case e_q1 => first | k_is | k_exc | decide +kernel)
    (case e_x1 => first | k_is | k_exc | decide +kernel)
    (case e_t1 => first | k_is | k_exc | decide +kernel)
    (case e_d1 => first | k_is | k_exc | decide +kernel)
    (case e_q2 => first | k_is | k_exc | decide +kernel)
    (case e_x2 => first | k_is | k_exc | decide +kernel)
    (case e_t2 => first | k_is | k_exc | decide +kernel)
    (case e_d2 => first | k_is | k_exc | decide +kernel)
    (case e_q3 => first | k_is | k_exc | decide +kernel)
    (case e_x3 => first | k_is | k_exc | decide +kernel)
    (case e_t3 => first | k_is | k_exc | decide +kernel)
    (case e_d3 => first | k_is | k_exc | decide +kernel)
    (case e_qV => first | k_is | k_exc | decide +kernel)
    (case e_DD => first | k_is | k_exc | decide +kernel)
    (case e_DC => first | k_is | k_exc | decide +kernel)
    (case e_sC => first | k_is | k_exc | decide +kernel)
    (case e_dC => first | k_is | k_exc | decide +kernel)
    (case e_tC => first | k_is | k_exc | decide +kernel)
    (case e_ki => first | k_is | k_exc | decide +kernel)
    (case e_rt => first | k_is | k_exc | decide +kernel)
    (case e_ex => first | k_is | k_exc | decide +kernel)
    (case g_hg => first | k_is | k_exc | decide +kernel)
    (case g_hk => first | k_is | k_exc | decide +kernel)
    (case g_hs => first | k_is | k_exc | decide +kernel)
    (case g_hd => first | k_is | k_exc | decide +kernel)
    (case g_ha => first | k_is | k_exc | decide +kernel)
    (case g_hn => first | k_is | k_exc | decide +kernel)
    (case g_ht => first | k_is | k_exc | decide +kernel)
    (case g_hm => first | k_is | k_exc | decide +kernel)
    (case g_q1 => first | k_is | k_exc | decide +kernel)
    (case g_x1 => first | k_is | k_exc | decide +kernel)
    (case g_t1 => first | k_is | k_exc | decide +kernel)
    (case g_d1 => first | k_is | k_exc | decide +kernel)
    (case g_q2 => first | k_is | k_exc | decide +kernel)
    (case g_x2 => first | k_is | k_exc | decide +kernel)
    (case g_t2 => first | k_is | k_exc | decide +kernel)
    (case g_d2 => first | k_is | k_exc | decide +kernel)
    (case g_q3 => first | k_is | k_exc | decide +kernel)
    (case g_x3 => first | k_is | k_exc | decide +kernel)
    (case g_t3 => first | k_is | k_exc | decide +kernel)
    (case g_d3 => first | k_is | k_exc | decide +kernel)
    (case g_q4 => first | k_is | k_exc | decide +kernel)
    (case g_x4 => first | k_is | k_exc | decide +kernel)
    (case g_t4 => first | k_is | k_exc | decide +kernel)
    (case g_d4 => first | k_is | k_exc | decide +kernel)
    (case g_qV => first | k_is | k_exc | decide +kernel)
    (case g_DD => first | k_is | k_exc | decide +kernel)
    (case g_DC => first | k_is | k_exc | decide +kernel)
    (case g_sC => first | k_is | k_exc | decide +kernel)
    (case g_dC => first | k_is | k_exc | decide +kernel)
    (case g_tC => first | k_is | k_exc | decide +kernel)
    (case g_ki => first | k_is | k_exc | decide +kernel)
    (case g_rt => first | k_is | k_exc | decide +kernel)
    (case g_ex => first | k_is | k_exc | decide +kernel)
    (case e_12 => first | k_is | k_exc | decide +kernel)
#print axioms PySem.Challenge.cw_coinjudge_k09_written_and_read_holds

