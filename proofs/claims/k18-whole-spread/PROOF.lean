import PyProof.Rows.All
import Wide.All
import OpenK.AllK
import Wide.FinOn
import HandS.ForMost
import HandS.Evl
import HandS.IsInst
import HandS.Rev
import HandS.Conv
import HandS.More
import HandS.SetFor
import PySem.Challenge.RW_shelfway_k18_whole_spread
set_option Elab.async false
set_option linter.all false
set_option maxRecDepth 100000
set_option maxHeartbeats 2000000
namespace Sh
open PySem PySem.Spec PyProof.Rows L2 Evl
/-! ### what the call has made (M), beside what stood when it began (H0) -/
abbrev il (ns : List Int) : List V := ns.map V.int
theorem il_append (a b : List Int) : il (a ++ b) = il a ++ il b := List.map_append
theorem il_rev (a : List Int) : il a.reverse = (il a).reverse := List.map_reverse
structure Own (H0 : Hp) (M : List (Addr × List V)) (H : Hp) : Prop where
  ex : Ex H0 H
  own : ∀ m, m ∈ M → H0 m.1 = none ∧ H m.1 = some (.lst m.2)
  nd : (M.map (·.1)).Nodup
section
variable {K : PySem.W.Frag} {H0 H H1 : Hp} {M : List (Addr × List V)} {a p : Addr} {xs ys : List V} {v : V} {Q : VK}
theorem Own.start : Own H [] H := ⟨Ex.refl H, (fun _ h => by cases h), List.nodup_nil⟩
theorem Own.mono (O : Own H0 M H) (e : Ex H H1) : Own H0 M H1 := ⟨O.ex.trans e, fun m h => ⟨(O.own m h).1, e _ _ (O.own m h).2⟩, O.nd⟩
theorem Own.new (O : Own H0 M H) (hp : H p = none) (e : Ex H H1) (h : H1 p = some (.lst xs)) : Own H0 ((p, xs) :: M) H1 := by
  refine ⟨O.ex.trans e, fun m hm => ?_, ?_⟩
  · rcases List.mem_cons.mp hm with rfl | hm
    · exact ⟨fresh_back O.ex hp, h⟩
    · exact (O.mono e).own m hm
  · rw [List.map_cons, List.nodup_cons]
    refine ⟨fun hm => ?_, O.nd⟩
    obtain ⟨m, hm, e2⟩ := List.mem_map.mp hm
    have z := (O.own m hm).2
    rw [e2] at z
    have z2 : H p = some (.lst m.2) := z
    rw [hp] at z2
    cases z2
theorem Own.get (O : Own H0 M H) (i : Nat) (h : M[i]? = some (p, xs)) : H p = some (.lst xs) := (O.own (p, xs) (List.mem_of_getElem? h)).2
theorem Own.seq (O : Own H0 M H) (i : Nat) (h : M[i]? = some (p, xs)) : SqL K H p xs := sq_of (O.get i h)
theorem Own.arg (O : Own H0 M H) (h : SqL K H0 a xs) : SqL K H a xs := ex_l O.ex h
theorem Own.cons (O : Own H0 ((p, xs) :: M) H) : Own H0 M H := ⟨O.ex, fun m h => O.own m (List.mem_cons_of_mem _ h), (List.nodup_cons.mp O.nd).2⟩
theorem nodup_key {l : List (Addr × List V)} : ∀ {i j : Nat} {x y : Addr × List V}, (l.map (·.1)).Nodup → l[i]? = some x → l[j]? = some y → x.1 = y.1 → i = j := by
  intro i j x y nd hi hj e
  have h1 : (l.map (·.1))[i]? = some x.1 := by rw [List.getElem?_map, hi] <;> rfl
  have h2 : (l.map (·.1))[j]? = some y.1 := by rw [List.getElem?_map, hj] <;> rfl
  have li : i < (l.map (·.1)).length := (List.getElem?_eq_some_iff.mp h1).1
  exact (List.getElem?_inj li nd).mp (by rw [h1, h2, e])
theorem Own.upd (O : Own H0 M H) (i : Nat) (h : M[i]? = some (p, xs)) : Own H0 (M.set i (p, ys)) (L2.upd H p (.lst ys)) := by
  have hp0 : H0 p = none := (O.own (p, xs) (List.mem_of_getElem? h)).1
  have hi : i < M.length := (List.getElem?_eq_some_iff.mp h).1
  refine ⟨O.ex.mut hp0, fun m hm => ?_, ?_⟩
  · obtain ⟨j, hj⟩ := List.getElem?_of_mem hm
    by_cases e : i = j
    · subst e
      rw [List.getElem?_set_self hi] at hj
      cases hj
      exact ⟨hp0, upd_same⟩
    · rw [List.getElem?_set_ne e] at hj
      have q := O.own m (List.mem_of_getElem? hj)
      refine ⟨q.1, ?_⟩
      have hne : m.1 ≠ p := fun z => e (nodup_key O.nd h hj z.symm)
      rw [upd_ne hne]
      exact q.2
  · have : (M.set i (p, ys)).map (·.1) = M.map (·.1) := by
      rw [List.map_set]
      refine List.ext_getElem? fun j => ?_
      by_cases e : i = j
      · subst e
        rw [List.getElem?_set_self (by rw [List.length_map]; exact hi), List.getElem?_map, h] <;> rfl
      · rw [List.getElem?_set_ne e]
    rw [this]
    exact O.nd
theorem Own.ne {q : Addr} (O : Own H0 M H) (i j : Nat) (h : M[i]? = some (p, xs)) (h2 : M[j]? = some (q, ys)) (hij : i ≠ j) : p ≠ q := fun z => hij (nodup_key O.nd h h2 z)
theorem Own.retL (O : Own H0 M H) (i : Nat) (h : M[i]? = some (p, xs)) (k : RetL xs H0 Q) : Q (.ref p) H := k p H (O.own (p, xs) (List.mem_of_getElem? h)).1 O.ex (O.get i h)
theorem Own.ret (O : Own H0 M H) (k : RetV v H0 Q) : Q v H := k H O.ex
/-! ### statements, in terms of Own -/
variable {D : Ends} {σ : L2.St} {te ta tb tl : TE} {t : TT} {tu tw tz : TS} {b : Bool}
theorem sq (h : tu { D with nx := tz D } σ H) : tSeq tu tz D σ H := h
theorem AS {i : Nat} (O : Own H0 M H) (h : Ev te σ H v) (k : ∀ H1, Own H0 M H1 → D.nx (σ.set i (some v)) H1) : tAsg te (gName i) D σ H := s_asg h fun H1 e => k H1 (O.mono e)
theorem AL {i : Nat} (O : Own H0 M H) (h : EvL te σ H xs) (k : ∀ p H1, Own H0 ((p, xs) :: M) H1 → D.nx (σ.set i (some (.ref p))) H1) : tAsg te (gName i) D σ H := s_asgL h fun p H1 hp e h1 => k p H1 (O.new hp e h1)
theorem RT (O : Own H0 M H) (h : Ev te σ H v) (k : ∀ H1, Own H0 M H1 → D.rt v H1) : tRet te D σ H := s_ret h fun H1 e => k H1 (O.mono e)
theorem RTL (O : Own H0 M H) (h : EvL te σ H xs) (k : ∀ p H1, Own H0 ((p, xs) :: M) H1 → D.rt (.ref p) H1) : tRet te D σ H := s_retL h fun p H1 hp e h1 => k p H1 (O.new hp e h1)
theorem DR (O : Own H0 M H) (h : Ev te σ H v) (k : ∀ H1, Own H0 M H1 → D.nx σ H1) : tDrop te D σ H := s_drop h fun H1 e => k H1 (O.mono e)
theorem IF (O : Own H0 M H) (h : EvT t σ H b) (h1 : b = true → ∀ H1, Own H0 M H1 → tu D σ H1) (h2 : b = false → ∀ H1, Own H0 M H1 → tw D σ H1) : tIfS t tu tw D σ H :=
  s_if h (fun hb H1 e => h1 hb H1 (O.mono e)) fun hb H1 e => h2 hb H1 (O.mono e)
theorem WH (O : Own H0 M H) (h : EvT t σ H b) (h1 : b = true → ∀ H1, Own H0 M H1 → tu D σ H1) (h2 : b = false → ∀ H1, Own H0 M H1 → D.nx σ H1) : tIfS t tu tNext D σ H := IF O h h1 h2
theorem APP (i : Nat) (O : Own H0 M H) (hi : M[i]? = some (p, xs)) (ha : Ev ta σ H (.ref p)) (h : Ev te σ H v) (hz : xs.length < 100000) (k : ∀ H1, Own H0 (M.set i (p, xs ++ [v])) H1 → D.nx σ H1) :
    tDrop (tBM K "list" rAppend ta (tCons te tNil)) D σ H := s_app (O.get i hi) ha h hz fun H1 e => k _ ((O.mono e).upd i hi)
theorem APPL (i : Nat) (O : Own H0 M H) (hi : M[i]? = some (p, xs)) (ha : Ev ta σ H (.ref p)) (h : EvL te σ H ys) (hz : xs.length < 100000) (k : ∀ q H1, Own H0 ((q, ys) :: M.set i (p, xs ++ [.ref q])) H1 → D.nx σ H1) :
    tDrop (tBM K "list" rAppend ta (tCons te tNil)) D σ H := s_appL (O.get i hi) ha h hz fun q H1 hq e h1 => k q _ ((O.new hq e h1).upd (i + 1) (by rw [List.getElem?_cons_succ]; exact hi))
theorem SET (i j : Nat) (O : Own H0 M H) (hi : M[i]? = some (p, xs)) (h : Ev te σ H v) (ho : Ev ta σ H (.ref p)) (hx : Ev tb σ H (.int (j : Int))) (hj : j < xs.length) (k : ∀ H1, Own H0 (M.set i (p, xs.set j v)) H1 → D.nx σ H1) :
    tAsg te (gSub ta tb rSetL) D σ H := s_setL (O.get i hi) h ho hx hj fun H1 e => k _ ((O.mono e).upd i hi)
/-- for k in range(n) -/
theorem FR {ta : TA} {j : Nat} {n : Int} (O : Own H0 M H) (h : EvA ta σ H [.int n]) (hn : 0 ≤ n ∧ n ≤ 100000) (Pv : Nat → L2.St → Hp → Prop) (h0 : ∀ H1, Own H0 M H1 → Pv 0 σ H1)
    (hs : ∀ (i : Nat) σ' H', (i : Int) < n → Pv i σ' H' → tu { D with nx := Pv (i + 1), ct := Pv (i + 1), bk := D.nx } (σ'.set j (some (.int (i : Int)))) H') (hd : ∀ σ' H', Pv n.toNat σ' H' → D.nx σ' H') : tFor (iRng1 ta) (gName j) tu D σ H :=
  s_forR1 h hn Pv (fun H1 e => h0 H1 (O.mono e)) hs hd
theorem FR2 {ta : TA} {j : Nat} {lo n : Int} (O : Own H0 M H) (h : EvA ta σ H [.int lo, .int n]) (hn : 0 ≤ lo ∧ lo ≤ 100000 ∧ -100000 ≤ n ∧ n ≤ 100000) (Pv : Nat → L2.St → Hp → Prop) (h0 : ∀ H1, Own H0 M H1 → Pv 0 σ H1)
    (hs : ∀ (i : Nat) σ' H', lo + (i : Int) < n → Pv i σ' H' → tu { D with nx := Pv (i + 1), ct := Pv (i + 1), bk := D.nx } (σ'.set j (some (.int (lo + (i : Int))))) H') (hd : ∀ σ' H', Pv (n - lo).toNat σ' H' → D.nx σ' H') : tFor (iRng2 ta) (gName j) tu D σ H :=
  s_forR2 h hn Pv (fun H1 e => h0 H1 (O.mono e)) hs hd
/-- for v in a list that stands still: of ints -/
theorem FL {a : Addr} {ns : List Int} {j : Nat} (O : Own H0 M H) (h : Ev tl σ H (.ref a)) (hx : SqL K H a (il ns)) (Pv : Nat → L2.St → Hp → Prop) (h0 : ∀ H1, Own H0 M H1 → Pv 0 σ H1) (hl : ∀ i σ' H', Pv i σ' H' → SqL K H' a (il ns))
    (hs : ∀ i x σ' H', ns[i]? = some x → Pv i σ' H' → tu { D with nx := Pv (i + 1), ct := Pv (i + 1), bk := D.nx } (σ'.set j (some (.int x))) H') (hd : ∀ σ' H', Pv ns.length σ' H' → D.nx σ' H') : tFor (iList K tl) (gName j) tu D σ H :=
  s_forLn h hx Pv (fun H1 e => h0 H1 (O.mono e)) (fun i σ' H' _ q => hl i σ' H' q) (fun i x σ' H' hi q => by
    rw [List.getElem?_map] at hi
    cases e : ns[i]? with
    | none => rw [e] at hi; cases hi
    | some y =>
      rw [e] at hi
      cases hi
      exact hs i y σ' H' e q) (fun σ' H' q => hd σ' H' (by rw [List.length_map] at q; exact q))
/-! the same, something behind -/
theorem qAS {i : Nat} (O : Own H0 M H) (h : Ev te σ H v) (k : ∀ H1, Own H0 M H1 → tz D (σ.set i (some v)) H1) : tSeq (tAsg te (gName i)) tz D σ H := AS (D := { D with nx := tz D }) O h k
theorem qAL {i : Nat} (O : Own H0 M H) (h : EvL te σ H xs) (k : ∀ p H1, Own H0 ((p, xs) :: M) H1 → tz D (σ.set i (some (.ref p))) H1) : tSeq (tAsg te (gName i)) tz D σ H := AL (D := { D with nx := tz D }) O h k
theorem qDR (O : Own H0 M H) (h : Ev te σ H v) (k : ∀ H1, Own H0 M H1 → tz D σ H1) : tSeq (tDrop te) tz D σ H := DR (D := { D with nx := tz D }) O h k
theorem qIF (O : Own H0 M H) (h : EvT t σ H b) (h1 : b = true → ∀ H1, Own H0 M H1 → tu { D with nx := tz D } σ H1) (h2 : b = false → ∀ H1, Own H0 M H1 → tw { D with nx := tz D } σ H1) : tSeq (tIfS t tu tw) tz D σ H := IF (D := { D with nx := tz D }) O h h1 h2
theorem qWH (O : Own H0 M H) (h : EvT t σ H b) (h1 : b = true → ∀ H1, Own H0 M H1 → tu { D with nx := tz D } σ H1) (h2 : b = false → ∀ H1, Own H0 M H1 → tz D σ H1) : tSeq (tIfS t tu tNext) tz D σ H := WH (D := { D with nx := tz D }) O h h1 h2
theorem qAPP (i : Nat) (O : Own H0 M H) (hi : M[i]? = some (p, xs)) (ha : Ev ta σ H (.ref p)) (h : Ev te σ H v) (hz : xs.length < 100000) (k : ∀ H1, Own H0 (M.set i (p, xs ++ [v])) H1 → tz D σ H1) :
    tSeq (tDrop (tBM K "list" rAppend ta (tCons te tNil))) tz D σ H := APP (D := { D with nx := tz D }) i O hi ha h hz k
theorem qAPPL (i : Nat) (O : Own H0 M H) (hi : M[i]? = some (p, xs)) (ha : Ev ta σ H (.ref p)) (h : EvL te σ H ys) (hz : xs.length < 100000) (k : ∀ q H1, Own H0 ((q, ys) :: M.set i (p, xs ++ [.ref q])) H1 → tz D σ H1) :
    tSeq (tDrop (tBM K "list" rAppend ta (tCons te tNil))) tz D σ H := APPL (D := { D with nx := tz D }) i O hi ha h hz k
theorem qSET (i j : Nat) (O : Own H0 M H) (hi : M[i]? = some (p, xs)) (h : Ev te σ H v) (ho : Ev ta σ H (.ref p)) (hx : Ev tb σ H (.int (j : Int))) (hj : j < xs.length) (k : ∀ H1, Own H0 (M.set i (p, xs.set j v)) H1 → tz D σ H1) :
    tSeq (tAsg te (gSub ta tb rSetL)) tz D σ H := SET (D := { D with nx := tz D }) i j O hi h ho hx hj k
theorem qFR {ta : TA} {j : Nat} {n : Int} (O : Own H0 M H) (h : EvA ta σ H [.int n]) (hn : 0 ≤ n ∧ n ≤ 100000) (Pv : Nat → L2.St → Hp → Prop) (h0 : ∀ H1, Own H0 M H1 → Pv 0 σ H1)
    (hs : ∀ (i : Nat) σ' H', (i : Int) < n → Pv i σ' H' → tu { D with nx := Pv (i + 1), ct := Pv (i + 1), bk := tz D } (σ'.set j (some (.int (i : Int)))) H') (hd : ∀ σ' H', Pv n.toNat σ' H' → tz D σ' H') : tSeq (tFor (iRng1 ta) (gName j) tu) tz D σ H := FR (D := { D with nx := tz D }) O h hn Pv h0 hs hd
theorem qFR2 {ta : TA} {j : Nat} {lo n : Int} (O : Own H0 M H) (h : EvA ta σ H [.int lo, .int n]) (hn : 0 ≤ lo ∧ lo ≤ 100000 ∧ -100000 ≤ n ∧ n ≤ 100000) (Pv : Nat → L2.St → Hp → Prop) (h0 : ∀ H1, Own H0 M H1 → Pv 0 σ H1)
    (hs : ∀ (i : Nat) σ' H', lo + (i : Int) < n → Pv i σ' H' → tu { D with nx := Pv (i + 1), ct := Pv (i + 1), bk := tz D } (σ'.set j (some (.int (lo + (i : Int))))) H') (hd : ∀ σ' H', Pv (n - lo).toNat σ' H' → tz D σ' H') : tSeq (tFor (iRng2 ta) (gName j) tu) tz D σ H := FR2 (D := { D with nx := tz D }) O h hn Pv h0 hs hd
theorem qFL {a : Addr} {ns : List Int} {j : Nat} (O : Own H0 M H) (h : Ev tl σ H (.ref a)) (hx : SqL K H a (il ns)) (Pv : Nat → L2.St → Hp → Prop) (h0 : ∀ H1, Own H0 M H1 → Pv 0 σ H1) (hl : ∀ i σ' H', Pv i σ' H' → SqL K H' a (il ns))
    (hs : ∀ i x σ' H', ns[i]? = some x → Pv i σ' H' → tu { D with nx := Pv (i + 1), ct := Pv (i + 1), bk := tz D } (σ'.set j (some (.int x))) H') (hd : ∀ σ' H', Pv ns.length σ' H' → tz D σ' H') : tSeq (tFor (iList K tl) (gName j) tu) tz D σ H := FL (D := { D with nx := tz D }) O h hx Pv h0 hl hs hd
/-! ### expressions -/
theorem call_lenS {X : Cx} : CallR X (.builtin "len") (rLenS X.K) := call_len_seq
theorem call_listS {X : Cx} : CallR X (.type "list") (rListS X.K) := call_list_of
def gt (ns : List Int) (k : Nat) : Int := ns.getD k 0
theorem gt_some {ns : List Int} {k : Nat} {x : Int} (h : ns[k]? = some x) : gt ns k = x := by
  unfold gt
  rw [List.getD_eq_getElem?_getD, h] <;> rfl
theorem some_gt {ns : List Int} {k : Nat} (h : k < ns.length) : ns[k]? = some (gt ns k) := by
  unfold gt
  rw [List.getD_eq_getElem?_getD, List.getElem?_eq_getElem h] <;> rfl
theorem atI_gt {ns : List Int} {k : Nat} (h : k < ns.length) : atI (il ns) (k : Int) = some (.int (gt ns k)) := atI_nat (by rw [List.getElem?_map, some_gt h] <;> rfl)
theorem ev_ix {i : Nat} (h : Ev tl σ H (.ref a)) {ns : List Int} (hx : SqL K H a (il ns)) (hi : Ev tb σ H (.int (i : Int))) (hb : i < ns.length) : Ev (tOp (rIxL K) tl tb) σ H (.int (gt ns i)) := ev_op h hi (rv_ixL hx (atI_gt hb))
theorem ev_ixz {z : Int} (h : Ev tl σ H (.ref a)) {ns : List Int} (hx : SqL K H a (il ns)) (hi : Ev tb σ H (.int z)) (hb : 0 ≤ z ∧ z < ns.length) : Ev (tOp (rIxL K) tl tb) σ H (.int (gt ns z.toNat)) :=
  ev_ix h hx (ev_is hi (congrArg V.int (Int.toNat_of_nonneg hb.1).symm)) (by omega)
theorem ev_sum {ns : List Int} (h : Ev te σ H (.ref a)) (hx : SqL K H a (il ns)) : Ev (tCB (rSum K) (tCons te tNil)) σ H (.int ns.sum) := fun H1 e _ q =>
  h H1 e _ fun H2 e2 => ⟨a, ns, rfl, ex_l (e.trans e2) hx, q H2 e2⟩
theorem ev_sumN {ns : List Int} (h : EvL te σ H (il ns)) : Ev (tCB (rSum K) (tCons te tNil)) σ H (.int ns.sum) := fun H1 e _ q =>
  h H1 e _ fun p H2 _ e2 h2 => ⟨p, ns, rfl, sq_of h2, q H2 e2⟩
theorem ev_lenI {ns : List Int} (h : Ev te σ H (.ref a)) (hx : SqL K H a (il ns)) : Ev (tCB (rLenS K) (tCons te tNil)) σ H (.int (ns.length : Int)) := ev_is (ev_len h hx) (by rw [List.length_map])
theorem ev_lenNI {ns : List Int} (h : EvL te σ H (il ns)) : Ev (tCB (rLenS K) (tCons te tNil)) σ H (.int (ns.length : Int)) := ev_is (ev_lenN h) (by rw [List.length_map])
theorem ev_chain {r r' : R2} {tc : TE} {x y z : V} {c d : Bool} (ha : Ev ta σ H x) (hb : Ev tb σ H y) (hr : RV r x y H (.bl c)) (hc : Ev tc σ H z) (hr' : RV r' y z H (.bl d)) : Ev (tChain r r' ta tb tc) σ H (.bl (c && d)) := fun H1 e Q q =>
  ha H1 e _ fun H2 e2 => hb H2 (e.trans e2) _ fun H3 e3 => hr H3 ((e.trans e2).trans e3) _ fun H4 e4 => ⟨c, rfl, by
    cases c with
    | true =>
      rw [if_pos rfl]
      refine hc H4 (((e.trans e2).trans e3).trans e4) _ fun H5 e5 => hr' H5 ((((e.trans e2).trans e3).trans e4).trans e5) Q fun H6 e6 => ?_
      rw [Bool.true_and] at q
      exact q H6 ((((e2.trans e3).trans e4).trans e5).trans e6)
    | false =>
      rw [if_neg Bool.false_ne_true]
      exact q H4 ((e2.trans e3).trans e4)⟩
/-! == of two lists of ints -/
theorem dpAll (ns : List Int) : DpAll K H (il ns) (ns.map PyData.int) := by
  induction ns with
  | nil => exact .nil
  | cons n ns ih => exact .cons (.int n) ih
theorem depI (ns : List Int) : PyData.depthAll (ns.map PyData.int) ≤ 1 := by
  induction ns with
  | nil => exact Nat.zero_le _
  | cons n ns ih =>
    simp only [List.map_cons, PyData.depthAll, PyData.depth]
    omega
theorem canI (ns : List Int) : PyData.canLayAll0 (ns.map PyData.int) = true := by
  induction ns with
  | nil => rfl
  | cons n ns ih => simp [PyData.canLayAll0, PyData.canLay0, ih]
theorem shapedI (ns : List Int) : SeqAt.shaped (.list (ns.map PyData.int)) = true := by
  have h := depI ns
  have c : (PyData.list (ns.map PyData.int)).canLay0 = true := by
    simp only [PyData.canLay0]
    exact canI ns
  have d : (PyData.list (ns.map PyData.int)).depth ≤ 64 := by
    simp only [PyData.depth]
    omega
  show (_ && decide _) = true
  rw [c, decide_eq_true d] <;> rfl
theorem eqvI : ∀ xs ys : List Int, PyData.eqv (.list (xs.map PyData.int)) (.list (ys.map PyData.int)) = decide (xs = ys) := by
  intro xs
  induction xs with
  | nil => intro ys; cases ys <;> simp [PyData.eqv, PyData.eqvAll]
  | cons x xs ih =>
    intro ys
    cases ys with
    | nil => simp [PyData.eqv, PyData.eqvAll]
    | cons y ys =>
      have q := ih ys
      simp only [PyData.eqv] at q
      simp only [PyData.eqv, List.map_cons, PyData.eqvAll, q]
      rw [Bool.eq_iff_iff]
      simp
theorem rv_eqL {c : Addr} {ns ms : List Int} (ha : SqL K H a (il ns)) (hc : SqL K H c (il ms)) : RV (rEqD K) (.ref a) (.ref c) H (.bl (decide (ns = ms))) := fun H1 e Q q => by
  refine ⟨_, _, .lst (ex_l e ha) (dpAll ns), .lst (ex_l e hc) (dpAll ms), shapedI ns, shapedI ms, ?_⟩
  rw [eqvI]
  exact q H1 (Ex.refl H1)
theorem rv_neL {c : Addr} {ns ms : List Int} (ha : SqL K H a (il ns)) (hc : SqL K H c (il ms)) : RV (rNeD K) (.ref a) (.ref c) H (.bl (!decide (ns = ms))) := fun H1 e Q q => by
  refine ⟨_, _, .lst (ex_l e ha) (dpAll ns), .lst (ex_l e hc) (dpAll ms), shapedI ns, shapedI ms, ?_⟩
  rw [eqvI]
  exact q H1 (Ex.refl H1)
/-! ### comprehensions over ints -/
theorem given_list (ns : List Int) (f : Int → Bool) (g : Int → V) : given ns.length (fun i => f (gt ns i)) (fun i => g (gt ns i)) = (ns.filter f).map g := by
  have h : ∀ n, n ≤ ns.length → given n (fun i => f (gt ns i)) (fun i => g (gt ns i)) = ((ns.take n).filter f).map g := by
    intro n
    induction n with
    | zero => intro _; rfl
    | succ n ih =>
      intro hn
      have e := some_gt (ns := ns) (k := n) (by omega)
      rw [List.take_add_one, e]
      cases hf : f (gt ns n) with
      | true =>
        rw [given_yes (f := fun i => f (gt ns i)) hf, ih (by omega)]
        simp [hf]
      | false =>
        rw [given_no (f := fun i => f (gt ns i)) hf, ih (by omega)]
        simp [hf]
  have q := h ns.length (Nat.le_refl _)
  rw [List.take_length] at q
  exact q
theorem getI {ns : List Int} {i : Nat} {x : V} (h : (il ns)[i]? = some x) : x = .int (gt ns i) ∧ gt ns i ∈ ns := by
  rw [List.getElem?_map] at h
  cases e : ns[i]? with
  | none => rw [e] at h; cases h
  | some y =>
    rw [e] at h
    cases h
    rw [gt_some e]
    exact ⟨rfl, List.mem_of_getElem? e⟩
theorem lcL {ns : List Int} {j : Nat} {vs : List Nat} (f : Int → Bool) (g : Int → V) (h : Ev tl σ H (.ref a)) (hx : SqL K H a (il ns)) (hz : ns.length ≤ 40000) (hw : ∀ x, wipe ((wipe σ vs).set j (some x)) vs = wipe σ vs)
    (ht : ∀ x, x ∈ ns → ∀ H1, Ex H H1 → EvT t ((wipe σ vs).set j (some (.int x))) H1 (f x)) (he : ∀ x, x ∈ ns → ∀ H1, Ex H H1 → f x = true → Ev te ((wipe σ vs).set j (some (.int x))) H1 (g x)) :
    EvL (tLc (iList K tl) (gName j) t te vs) σ H ((ns.filter f).map g) := by
  have z := el_lcL (K := K) (t := t) (te := te) (tl := tl) (j := j) (vs := vs) (σ := σ) (H := H) (fun i => f (gt ns i)) (fun i => g (gt ns i)) h hx (by rw [List.length_map]; exact hz) hw
    (fun i x H1 e hi => by obtain ⟨rfl, m⟩ := getI hi; exact ht _ m H1 e) (fun i x H1 e hi hf => by obtain ⟨rfl, m⟩ := getI hi; exact he _ m H1 e hf)
  rw [List.length_map, given_list] at z
  exact z
theorem lcNL {ns : List Int} {j : Nat} {vs : List Nat} (f : Int → Bool) (g : Int → V) (h : EvL tl σ H (il ns)) (hz : ns.length ≤ 40000) (hw : ∀ x, wipe ((wipe σ vs).set j (some x)) vs = wipe σ vs)
    (ht : ∀ x, x ∈ ns → ∀ H1, Ex H H1 → EvT t ((wipe σ vs).set j (some (.int x))) H1 (f x)) (he : ∀ x, x ∈ ns → ∀ H1, Ex H H1 → f x = true → Ev te ((wipe σ vs).set j (some (.int x))) H1 (g x)) :
    EvL (tLc (iList K tl) (gName j) t te vs) σ H ((ns.filter f).map g) := by
  have z := el_lcNL (K := K) (t := t) (te := te) (tl := tl) (j := j) (vs := vs) (σ := σ) (H := H) (fun i => f (gt ns i)) (fun i => g (gt ns i)) h (by rw [List.length_map]; exact hz) hw
    (fun i x H1 e hi => by obtain ⟨rfl, m⟩ := getI hi; exact ht _ m H1 e) (fun i x H1 e hi hf => by obtain ⟨rfl, m⟩ := getI hi; exact he _ m H1 e hf)
  rw [List.length_map, given_list] at z
  exact z
theorem lcR {ta : TA} {j : Nat} {vs : List Nat} {n : Nat} (f : Nat → Bool) (g : Nat → V) (h : EvA ta σ H [.int (n : Int)]) (hn : n ≤ 40000) (hw : ∀ x, wipe ((wipe σ vs).set j (some x)) vs = wipe σ vs)
    (ht : ∀ (i : Nat) H1, Ex H H1 → i < n → EvT t ((wipe σ vs).set j (some (.int (i : Int)))) H1 (f i)) (he : ∀ (i : Nat) H1, Ex H H1 → i < n → f i = true → Ev te ((wipe σ vs).set j (some (.int (i : Int)))) H1 (g i)) :
    EvL (tLc (iRng1 ta) (gName j) t te vs) σ H (((List.range n).filter f).map g) :=
  el_lcR1 f g h (by omega) hw (fun i H1 e hi => ht i H1 e (by omega)) fun i H1 e hi hf => he i H1 e (by omega) hf
theorem et_yes : EvT tYes σ H true := fun H1 _ _ q => q H1 (Ex.refl H1)
theorem filter_yes {α : Type} (l : List α) : l.filter (fun _ => true) = l := List.filter_eq_self.mpr fun _ _ => rfl
/-! ### slices -/
theorem sIx_hi (n k : Nat) (h : k ≤ n) (d : Nat) : HT.sIx n d (some (k : Int)) = k := by
  rw [HT.sIx_nat]
  omega
theorem cut_from (ns : List Int) (k : Nat) : cutV (il ns) (some (k : Int)) none = il (ns.drop k) := by
  unfold cutV
  rw [HT.sIx_nat, HT.sIx_none]
  simp only [List.length_map]
  rw [List.take_of_length_le (by rw [List.length_drop, List.length_map]; exact Nat.le_refl _), ← List.map_drop]
  congr 1
  by_cases h : k ≤ ns.length
  · rw [Nat.min_eq_left h]
  · rw [Nat.min_eq_right (by omega), List.drop_length, List.drop_of_length_le (by omega)]
theorem cut_to (ns : List Int) (k : Nat) : cutV (il ns) none (some (k : Int)) = il (ns.take k) := by
  unfold cutV
  rw [HT.sIx_nat, HT.sIx_none]
  simp only [List.length_map]
  rw [List.drop_zero, Nat.sub_zero, ← List.map_take]
  congr 1
  by_cases h : k ≤ ns.length
  · rw [Nat.min_eq_left h]
  · rw [Nat.min_eq_right (by omega), List.take_length, List.take_of_length_le (by omega)]
theorem sl_from {k : Nat} {tl2 : TO} {ns : List Int} (h : Ev te σ H (.ref a)) (hs : SqL K H a (il ns)) (h1 : EvO tl2 σ H (some (k : Int))) : EvL (tSl (rSlL K) te tl2 tNoPart) σ H (il (ns.drop k)) := by
  rw [← cut_from]
  exact el_sl h h1 eo_none hs
theorem sl_to {k : Nat} {tl2 : TO} {ns : List Int} (h : Ev te σ H (.ref a)) (hs : SqL K H a (il ns)) (h1 : EvO tl2 σ H (some (k : Int))) : EvL (tSl (rSlL K) te tNoPart tl2) σ H (il (ns.take k)) := by
  rw [← cut_to]
  exact el_sl h eo_none h1 hs
/-! ### isinstance of an int, a list -/
theorem call_isiS {X : Cx} : CallR X (.builtin "isinstance") (rIsi X.K) := call_isi
theorem ev_isiInt {n : Int} {T : String} {b : Bool} (h : Ev te σ H (.int n)) (hk : PySem.W.kitOne K (.type "int") (.type T) = some b) : Ev (tCB (rIsi K) (tCons te (tCons (tC (.ty T)) tNil))) σ H (.bl b) := fun H1 e _ q =>
  h H1 e _ fun H2 e2 => ⟨.int n, .ty T, _, _, b, rfl, .ty T, .base (.int n), hk, q H2 e2⟩
theorem ev_isiLst {T : String} {b : Bool} (h : Ev te σ H (.ref a)) (ha : H a = some (.lst xs)) (hk : PySem.W.kitOne K (.type "list") (.type T) = some b) : Ev (tCB (rIsi K) (tCons te (tCons (tC (.ty T)) tNil))) σ H (.bl b) := fun H1 e _ q =>
  h H1 e _ fun H2 e2 => ⟨.ref a, .ty T, _, _, b, rfl, .ty T, .base (.lst (e2 _ _ (e _ _ ha))), hk, q H2 e2⟩
end
/-! ### defs of the text -/
def Def (K : PySem.W.Frag) (mg : Str → Option Value) (x : Str) (st : Stmt) : Prop := ∃ f fd, Fun K x x st f fd ∧ mg x = some (.ref f)
def Has (P : Program) (w : World) (K : PySem.W.Frag) (mg : Str → Option Value) (base : Heap) (CX : CXT) (x : Str) (k : Nat) (ps : List Str) (sp : Sp) : Prop :=
  ∃ f fd, FnOk P w K mg base CX k f fd ps sp ∧ mg x = some (.ref f) ∧ PySem.W.keepIn K (.ref f) = true ∧ Binds K fd ps []
def len2 {K : PySem.W.Frag} := K
end Sh
namespace Sh
/-! ### list(reversed(xs)), xs a list: a new list, the items from the end -/
section
open PySem PySem.Spec PySem.Calls PyProof.Rows L2 RT
variable {prog : Program} {w : World} {A : Around} {E : Value → Shared → Prop} {s : Shared}
theorem ext_rev {R : Result → Shared → Prop} {it l S : Addr} {res : Value} {c0 : Nat} {items : Array Value} (hh : A.handled = none) (hit : s.heap.IsRevIter it l ((items.size : Int) - 1)) (hl : s.heap.IsList l items) (hne : l ≠ it) (hn : items.size ≤ sizeLine)
    (hSi : S ≠ it) (hSl : S ≠ l) (hS : s.heap.get? S = some { cls := .type "list", data := .seq #[] c0 })
    (hR : ∀ (h' : Heap) (tk : Nat) (acc : Array Value) (c' : Nat), (∀ b o, b ≠ S → b ≠ it → s.heap.get? b = some o → h'.get? b = some o) → h'.get? S = some { cls := .type "list", dict := none, data := .seq acc c', slots := #[] } →
      ItemsOf (fun i v => items[items.size - 1 - i]? = some v) acc items.size → R (.ok (.ret res)) { s with heap := h', toks := tk }) :
    wpAny (model prog w) A.in1 (Builtin.List.listExtendWith (.ref S) (.ref it) res)
      (fun fin s2 => match fin with | .done f => R (.ok f) s2 | .again c2 => c2.quiet = true ∧ codeAny (model prog w) A c2 R s2) (fun e s2 => R (.error e) s2) s := by
  have W := (Walks.listRev (prog := prog) (w := w) (A := A.in1) hh it l hne items).toS
  have hSf : S ∉ [it, l] := fun hm => (List.mem_cons.mp hm).elim hSi fun hm => hSl (List.mem_singleton.mp hm)
  have hT : s.TypeIs (.ref it) "list_reverseiterator" := hit.typeIs
  have h1 : Builtin.List.listSameRef (.ref S) (.ref it) = false := by simp [Builtin.List.listSameRef, hSi]
  unfold Builtin.List.listExtendWith
  refine wpAny_bind (wpAny_typeOf hT ?_); rw [if_neg (by rw [h1]; decide)]
  refine wpAny_bind (wpAny_pyIter_revIter hit ?_); refine wpAny_bind (wpAny_holding ?_)
  unfold Builtin.List.listLengthHint
  refine wpAny_bind (wpAny_specialOf hT nolen_lri ?_)
  show wpAny _ A.in1 (specialOf (Value.ref it) (Str.ofString "__length_hint__") >>= _) _ _ _
  refine wpAny_bind (wpAny_specialOf hT hint_lri ?_)
  generalize hid : ("list_reverseiterator.__length_hint__" : String) = id0
  wp_delta
  rw [show splitId id0 = some ("list_reverseiterator", "__length_hint__") from by subst hid; decide +kernel]; subst hid
  refine wpAny_bind (wpAny_isInstance (b := true) hT (by rw [isSubtype_type]; kernel_rfl) ?_); refine wpAny_pure ?_
  rw [if_neg (by decide)]
  have e0 : ((items.size : Nat) : Int) - 1 - ((0 : Nat) : Int) = (items.size : Int) - 1 := by omega
  refine wpAny_pure ⟨plainId_quiet F.plain_extend_loop _, codeAny_extend_loopS W hn _ hSf _ items.size 0 _ _ _ rfl (Nat.zero_le _) ⟨Nat.zero_le _, by rw [e0]; exact hit, hl⟩ hS (ItemsOf.nil _) fun s2 acc c2 hm hS2 hacc => ?_⟩
  rw [Moved.eq_with hm]
  refine hR s2.heap s2.toks acc c2 (fun b o hb hb2 e => hm.heap b o (fun hmem => ?_) e) hS2 hacc
  exact (List.mem_cons.mp hmem).elim hb fun hmem => hb2 (List.mem_singleton.mp hmem)
theorem init_rev {R : Result → Shared → Prop} {it l S : Addr} {items : Array Value} (hh : A.handled = none) (hit : s.heap.IsRevIter it l ((items.size : Int) - 1)) (hl : s.heap.IsList l items) (hne : l ≠ it) (hn : items.size ≤ sizeLine)
    (hSi : S ≠ it) (hSl : S ≠ l) (hS : s.heap.get? S = some { cls := .type "list", data := .seq #[] })
    (hR : ∀ (h' : Heap) (tk : Nat) (acc : Array Value) (c' : Nat), (∀ b o, b ≠ S → b ≠ it → s.heap.get? b = some o → h'.get? b = some o) → h'.get? S = some { cls := .type "list", dict := none, data := .seq acc c', slots := #[] } →
      ItemsOf (fun i v => items[items.size - 1 - i]? = some v) acc items.size → R (.ok (.ret .none)) { s with heap := h', toks := tk }) :
    wpAny (model prog w) A.in1 (Builtin.«list.__init__» ⟨[.ref S, .ref it], []⟩)
      (fun fin s2 => match fin with | .done f => R (.ok f) s2 | .again c2 => c2.quiet = true ∧ codeAny (model prog w) A c2 R s2) (fun e s2 => R (.error e) s2) s := by
  show wpAny _ A.in1 (do let old ← Builtin.List.listItems (.ref S); Builtin.List.listUpdate (.ref S) (fun _ => #[]); letGo old.toList.reverse; Builtin.List.listExtendWith (.ref S) (.ref it) .none) _ _ s
  refine wpAny_bind ?_; unfold Builtin.List.listItems; refine wpAny_bind (wpAny_seqItems hS rfl (wpAny_pure ?_))
  show wpAny _ A.in1 (updateSeq S (fun _ => #[]) >>= fun _ => letGo (#[] : Array Value).toList.reverse >>= fun _ => Builtin.List.listExtendWith (.ref S) (.ref it) .none) _ _ s
  refine wpAny_bind (wpAny_updateSeq hS rfl ?_)
  have hS2 := Heap.get?_update_self (Obj.mapSeq (fun _ => (#[] : Array Value))) hS rfl
  have oth : ∀ b o, b ≠ S → s.heap.get? b = some o → (s.heap.update S (Obj.mapSeq (fun _ => (#[] : Array Value)))).get? b = some o := fun b o hb e => (Heap.get?_update_other _ _ (Ne.symm hb)).trans e
  refine wpAny_bind (wpAny_letGo ?_)
  refine ext_rev (l := l) (items := items) hh (hit.at fun o e => oth it o (Ne.symm hSi) e) (hl.at fun o e => oth l o (Ne.symm hSl) e) hne hn hSi hSl hS2 fun h' tk acc c' hk hS3 hacc => ?_
  exact hR h' tk acc c' (fun b o hb hb2 e => hk b o hb hb2 (oth b o hb e)) hS3 hacc
theorem call_list_rev {it l : Addr} {items : Array Value} {Q : Value → Shared → Prop} (hh : A.handled = none) (hit : s.heap.IsRevIter it l ((items.size : Int) - 1)) (hl : s.heap.IsList l items) (hne : l ≠ it) (hn : items.size ≤ sizeLine)
    (hQ : ∀ (h' : Heap) (tk : Nat) (acc : Array Value) (c' : Nat), (∀ b o, b ≠ it → s.heap.get? b = some o → h'.get? b = some o) → h'.get? s.heap.objs.size = some { cls := .type "list", dict := none, data := .seq acc c', slots := #[] } →
      ItemsOf (fun i v => items[items.size - 1 - i]? = some v) acc items.size → Q (.ref s.heap.objs.size) { s with heap := h', toks := tk }) : wpAny (model prog w) A (call (.type "list") [.ref it]) Q E s := by
  obtain ⟨oi, hoi, _⟩ := id hit
  obtain ⟨ol, hol, _⟩ := id hl
  refine callType_codes (Q₁ := fun obj s₁ => obj = .ref s.heap.objs.size ∧ s₁ = { s with heap := s.heap.push { cls := .type "list", data := .seq #[] } }) F.called_list (F.typeCall_list_1 _) F.entry_list_init (code_list_new _ ⟨rfl, rfl⟩) fun obj s₁ h₁ => ?_
  obtain ⟨rfl, rfl⟩ := h₁
  have hS : (s.heap.push { cls := .type "list", data := .seq #[] }).get? s.heap.objs.size = some { cls := .type "list", data := .seq #[] } := Heap.get?_push_size _ rfl
  refine ⟨⟨_, hS, rfl⟩, F.args_list_init_2 _ _, init_rev (A := A.in1) (l := l) (items := items) hh (hit.at fun o e => Heap.get?_push_of_some _ e) (hl.push _) hne hn (Nat.ne_of_gt (Heap.lt_size hoi)) (Nat.ne_of_gt (Heap.lt_size hol)) hS fun h' tk acc c' hk hS2 hacc => ?_⟩
  exact ⟨rfl, hQ h' tk acc c' (fun b o hb e => hk b o (Nat.ne_of_lt (Heap.lt_size e)) hb (Heap.get?_push_of_some _ e)) hS2 hacc⟩
end
open PySem PySem.Spec PyProof.Rows L2 Evl
def tListRev (K : PySem.W.Frag) (te : TE) : TE := fun σ H Q => te σ H fun v H1 => ∃ (a : Addr) (xs : List V), v = .ref a ∧ SqL K H1 a xs ∧ ∀ q, H1 q = none → Q (.ref q) (upd H1 q (.lst xs.reverse))
theorem pe_listRev {X : Cx} {e : Expr} {te : TE} {p p2 pos pos2 : Pos} (hc : X.calm = true) (hg : Gl X "list") (hm : X.mg "list" = none) (hg2 : Gl X "reversed") (hm2 : X.mg "reversed" = none) (he : PE X e te)
    (hs : starEach [e] X.env = (false, eval e X.env) :: starEach [] X.env := by rfl)
    (hs2 : starEach [.Call (.Name "reversed" p2) [e] [] pos2] X.env = (false, eval (.Call (.Name "reversed" p2) [e] [] pos2) X.env) :: starEach [] X.env := by rfl) :
    PE X (.Call (.Name "list" p) [.Call (.Name "reversed" p2) [e] [] pos2] [] pos) (tListRev X.K te) := by
  refine ⟨fun pins s σ H Q I h => ?_⟩
  refine Call_ (ld_blt I hg hm boot_list (PyProof.Rows.callWith_type1 (args_cons (Call_ (ld_blt I hg2 hm2 PyProof.Rows.boot_reversed (PyProof.Rows.callWith_type1 (args_cons (thn (he.run pins s σ H _ I h) fun u s1 ⟨v, H1, I1, r1, q1⟩ => args_nil ?_) hs) hs rfl))) hs2) hs2 rfl))
  obtain ⟨a, xs, rfl, hq, q⟩ := q1
  obtain rfl : u = Value.ref a := r1
  obtain ⟨its, rv, p', hz⟩ := I1.list hq
  refine call_reversed_list p'.isList (args_nil ?_)
  have I2 : Inv X pins σ H1 { s1 with heap := s1.heap.push (revObj a ((its.toArray.size : Int) - 1)) } := I1.kept (t' := s1.toks) fun b o e => Heap.get?_push_of_some _ e
  obtain ⟨f0, f1, f2, f3, f4, f5⟩ := I1.fpOk (H' := H1) (b := s1.heap.objs.size) (Nat.le_refl _) (I1.hok.fresh (Nat.le_refl _))
  have hl := p'.isList
  obtain ⟨ol, hol, _⟩ := id hl
  have hn : its.toArray.size ≤ sizeLine := by rw [List.size_toArray, ← rv.length]; exact hz
  refine call_list_rev (s := { s1 with heap := s1.heap.push (revObj a ((its.toArray.size : Int) - 1)) }) (I1.ok.hd hc) ⟨_, Heap.get?_push_size _ rfl, rfl, rfl⟩ (hl.push _) (Nat.ne_of_lt (Heap.lt_size hol)) hn fun h' tk acc c' hk hS hi => ?_
  have k2 : ∀ b o, s1.heap.get? b = some o → h'.get? b = some o := fun b o e => hk b o (Nat.ne_of_lt (Heap.lt_size e)) (Heap.get?_push_of_some _ e)
  have hle : s1.heap.objs.size ≤ (s1.heap.push (revObj a ((its.toArray.size : Int) - 1))).objs.size := by rw [Heap.size_push]; exact Nat.le_succ _
  refine ⟨.ref _, upd H1 _ (.lst xs.reverse), I1.laid (t' := tk) k2 hle (show ObjOk X.prog X.w _ _ _ (.lst xs.reverse) from ⟨by rw [List.length_reverse]; exact hz, acc.toList, c', RT.vals_rev rv hi, ?_⟩), rfl, q _ (I1.hok.fresh hle)⟩
  rw [Array.toArray_toList]
  exact hS
section
variable {K : PySem.W.Frag} {σ : L2.St} {H : Hp} {te : TE} {a : Addr} {xs : List V}
theorem el_rev (h : Ev te σ H (.ref a)) (hx : SqL K H a xs) : EvL (tListRev K te) σ H xs.reverse := fun H1 e Q q =>
  h H1 e _ fun H2 e2 => ⟨a, xs, rfl, ex_l (e.trans e2) hx, fun l hl => q l _ (fresh_back e2 hl) (e2.trans (Ex.new hl)) upd_same⟩
theorem el_revN (h : EvL te σ H xs) : EvL (tListRev K te) σ H xs.reverse := fun H1 e Q q =>
  h H1 e _ fun p H2 _ e2 hp => ⟨p, xs, rfl, sq_of hp, fun l hl => q l _ (fresh_back e2 hl) (e2.trans (Ex.new hl)) upd_same⟩
end
end Sh
namespace Sh
open PySem PySem.Spec PyProof.Rows L2 Evl
section
variable {K : PySem.W.Frag} {H0 H H1 : Hp} {M : List (Addr × List V)} {a p : Addr} {xs ys : List V} {v : V} {Q : VK}
variable {D : Ends} {σ : L2.St} {te ta tb tl : TE} {t : TT} {tu tw tz : TS} {b : Bool}
/-- name = f(..), the answer told by the promise alone -/
theorem AC {i : Nat} {sp : Sp} {dvs vs : List V} {E : XK} {tr : TA} (O : Own H0 M H) (ha : EvA tr σ H vs) (hs : ∀ H1, Own H0 M H1 → sp (vs ++ dvs) H1 (fun x H2 => D.nx (σ.set i (some x)) H2) E) : tAsg (tCall sp dvs E tr) (gName i) D σ H :=
  ha H (Ex.refl H) _ fun H1 e => hs H1 (O.mono e)
/-- f(..) as a statement -/
theorem DC {sp : Sp} {dvs vs : List V} {E : XK} {tr : TA} (O : Own H0 M H) (ha : EvA tr σ H vs) (hs : ∀ H1, Own H0 M H1 → sp (vs ++ dvs) H1 (fun _ H2 => D.nx σ H2) E) : tDrop (tCall sp dvs E tr) D σ H :=
  ha H (Ex.refl H) _ fun H1 e => hs H1 (O.mono e)
theorem qAC {i : Nat} {sp : Sp} {dvs vs : List V} {E : XK} {tr : TA} (O : Own H0 M H) (ha : EvA tr σ H vs) (hs : ∀ H1, Own H0 M H1 → sp (vs ++ dvs) H1 (fun x H2 => tz D (σ.set i (some x)) H2) E) : tSeq (tAsg (tCall sp dvs E tr) (gName i)) tz D σ H := AC (D := { D with nx := tz D }) O ha hs
theorem qDC {sp : Sp} {dvs vs : List V} {E : XK} {tr : TA} (O : Own H0 M H) (ha : EvA tr σ H vs) (hs : ∀ H1, Own H0 M H1 → sp (vs ++ dvs) H1 (fun _ H2 => tz D σ H2) E) : tSeq (tDrop (tCall sp dvs E tr)) tz D σ H := DC (D := { D with nx := tz D }) O ha hs
theorem rv_eqI {i j : Int} : RV rEq (.int i) (.int j) H (.bl (decide (i = j))) := fun H1 _ Q q => ⟨rfl, by
  have e : decide (V.int i = V.int j) = decide (i = j) := by
    rw [Bool.eq_iff_iff, decide_eq_true_eq, decide_eq_true_eq]
    exact ⟨V.int.inj, congrArg V.int⟩
  rw [e]
  exact q H1 (Ex.refl H1)⟩
theorem rv_neI {i j : Int} : RV rNe (.int i) (.int j) H (.bl (!decide (i = j))) := fun H1 _ Q q => ⟨rfl, by
  have e : decide (V.int i = V.int j) = decide (i = j) := by
    rw [Bool.eq_iff_iff, decide_eq_true_eq, decide_eq_true_eq]
    exact ⟨V.int.inj, congrArg V.int⟩
  rw [e]
  exact q H1 (Ex.refl H1)⟩
theorem ev_ixNL {ns : List Int} {z : Int} (h : EvL tl σ H (il ns)) (hi : ∀ H1, Ex H H1 → Ev tb σ H1 (.int z)) (hb : 0 ≤ z ∧ z < ns.length) : Ev (tOp (rIxL K) tl tb) σ H (.int (gt ns z.toNat)) :=
  ev_opL1 h hi fun q H1 hq _ => rv_ixL (sq_of hq) (by
    have e : z = ((z.toNat : Nat) : Int) := (Int.toNat_of_nonneg hb.1).symm
    rw [e]
    exact atI_gt (by omega))
/-! sorted -/
def srt (ns : List Int) : List Int := ns.mergeSort fun x y => decide (x ≤ y)
theorem srt_perm (ns : List Int) : (srt ns).Perm ns := List.mergeSort_perm ns _
theorem srt_le (ns : List Int) : (srt ns).Pairwise (· ≤ ·) := by
  have h := List.pairwise_mergeSort (le := fun x y : Int => decide (x ≤ y)) (fun x y z h1 h2 => by simp only [decide_eq_true_eq] at *; omega) (fun x y => by simp only [Bool.or_eq_true, decide_eq_true_eq]; omega) ns
  exact h.imp fun h => by simpa using h
theorem srt_eq {ns ms : List Int} (h : ms.Perm ns) (hp : ms.Pairwise (· ≤ ·)) : ms = srt ns :=
  (h.trans (srt_perm ns).symm).eq_of_pairwise (fun x y _ _ h1 h2 => by omega) hp (srt_le ns)
theorem srt_of_perm {ns ms : List Int} (h : ns.Perm ms) : srt ns = srt ms := srt_eq ((srt_perm ns).trans h) (srt_le ns)
theorem el_sorted {ns : List Int} (h : Ev te σ H (.ref a)) (hx : SqL K H a (il ns)) (hl : ns.length < 64) : EvL (tCB (rSorted K) (tCons te tNil)) σ H (il (srt ns)) := fun H1 e Q q =>
  h H1 e _ fun H2 e2 => ⟨a, ns, rfl, ex_l (e.trans e2) hx, hl, fun ms l hp hs hn => by
    rw [srt_eq hp hs]
    exact q l _ (fresh_back e2 hn) (e2.trans (Ex.new hn)) upd_same⟩
/-- list(range(n)) -/
theorem el_listRg {n : Nat} (h : Ev te σ H (.int (n : Int))) (hn : n ≤ 100000) : EvL (tLstRg (tRg1 te)) σ H (il ((List.range n).map fun i : Nat => (i : Int))) := fun H1 e Q q =>
  h H1 e _ fun H2 e2 => by
    refine ⟨(n : Int), rfl, ⟨by omega, by omega, by omega, by omega, by omega⟩, fun l hl => ?_⟩
    refine q l _ (fresh_back e2 hl) (e2.trans (Ex.new hl)) ?_
    rw [upd_same]
    unfold rgV il
    rw [List.map_map]
    simp only [Int.sub_zero, Int.toNat_natCast]
    congr 3
    funext i
    simp
end
end Sh
namespace Sh
open PySem PySem.Spec PyProof.Rows L2 Evl
section
variable {K : PySem.W.Frag} {H0 H H1 : Hp} {a p : Addr} {σ : L2.St} {te ta tb tl : TE} {t : TT}
theorem ev_ixn {ns : List Int} {z : Int} (i : Nat) (h : Ev tl σ H (.ref a)) (hx : SqL K H a (il ns)) (hi : Ev tb σ H (.int z)) (hz : z = (i : Int)) (hb : i < ns.length) : Ev (tOp (rIxL K) tl tb) σ H (.int (gt ns i)) :=
  ev_ix h hx (ev_is hi (congrArg V.int hz)) hb
/-- a comprehension over range(lo, n) -/
theorem lcR2 {ta : TA} {j : Nat} {vs : List Nat} {lo n : Int} (f : Nat → Bool) (g : Nat → V) (h : EvA ta σ H [.int lo, .int n]) (hn : 0 ≤ lo ∧ lo ≤ 40000 ∧ -40000 ≤ n ∧ n ≤ 40000) (hw : ∀ x, wipe ((wipe σ vs).set j (some x)) vs = wipe σ vs)
    (ht : ∀ (i : Nat) H1, Ex H H1 → lo + (i : Int) < n → EvT t ((wipe σ vs).set j (some (.int (lo + (i : Int))))) H1 (f i)) (he : ∀ (i : Nat) H1, Ex H H1 → lo + (i : Int) < n → f i = true → Ev te ((wipe σ vs).set j (some (.int (lo + (i : Int))))) H1 (g i)) :
    EvL (tLc (iRng2 ta) (gName j) t te vs) σ H (((List.range (n - lo).toNat).filter f).map g) := fun H0 e Q q => h H0 e _ fun H1 e1 => ⟨lo, n, rfl, ⟨by omega, by omega, by omega, by omega⟩, fun Dl hD =>
  lc_range (lo := lo) (n := (n - lo).toNat) (Cw H1 f g Dl) ⟨hD, Ex.new hD, upd_same⟩ (fun i H' hi p => ⟨hw _, cw_turn p (by omega) (ht i H1 (e.trans e1) (by omega)) fun hf => he i H1 (e.trans e1) (by omega) hf⟩)
    fun H' p => q Dl H' (fresh_back e1 p.1) (e1.trans p.2.1) p.2.2⟩
end
end Sh
namespace Sh
open PySem PySem.Spec PyProof.Rows L2 Evl
section
variable {K : PySem.W.Frag} {H0 H : Hp} {M : List (Addr × List V)} {a p : Addr} {xs : List V} {v w : V} {D : Ends} {σ : L2.St} {te te2 ta ta2 tb tb2 : TE} {tz : TS}
/-- xs[j], xs[j2] = v, w -/
theorem SWAP (i j j2 : Nat) (O : Own H0 M H) (hi : M[i]? = some (p, xs)) (h : Ev te σ H v) (h2 : Ev te2 σ H w) (ha : ∀ H', Ev ta σ H' (.ref p)) (hb : ∀ H', Ev tb σ H' (.int (j : Int))) (ha2 : ∀ H', Ev ta2 σ H' (.ref p)) (hb2 : ∀ H', Ev tb2 σ H' (.int (j2 : Int)))
    (hj : j < xs.length) (hj2 : j2 < xs.length) (k : ∀ H1, Own H0 (M.set i (p, (xs.set j v).set j2 w)) H1 → D.nx σ H1) :
    tAsg (tTup (tCons te (tCons te2 tNil))) (gTup K 2 (gCons (gSub ta tb rSetL) (gCons (gSub ta2 tb2 rSetL) gNil))) D σ H :=
  eu_tup (ea_cons h (ea_cons h2 ea_nil)) (by show 2 ≤ 100000; decide) H (Ex.refl H) _ fun t H1 _ e ht => by
    refine ⟨t, [v, w], rfl, st_of ht, rfl, v, [w], rfl, ?_⟩
    have O1 := O.mono e
    refine ha H1 H1 (Ex.refl H1) _ fun H2 e2 => hb H2 H2 (Ex.refl H2) _ fun H3 e3 => ?_
    have O3 := (O1.mono e2).mono e3
    refine ⟨p, xs, (j : Int), j, rfl, rfl, O3.get i hi, ixN_nat hj, ?_⟩
    have O4 := O3.upd (ys := xs.set j v) i hi
    have il' : i < M.length := (List.getElem?_eq_some_iff.mp hi).1
    have hi4 : (M.set i (p, xs.set j v))[i]? = some (p, xs.set j v) := List.getElem?_set_self il'
    refine ⟨w, [], rfl, ?_⟩
    refine ha2 _ _ (Ex.refl _) _ fun H5 e5 => hb2 H5 H5 (Ex.refl H5) _ fun H6 e6 => ?_
    have O6 := (O4.mono e5).mono e6
    refine ⟨p, _, (j2 : Int), j2, rfl, rfl, O6.get i hi4, ixN_nat (by rw [List.length_set]; exact hj2), rfl, ?_⟩
    have O7 := O6.upd (ys := (xs.set j v).set j2 w) i hi4
    rw [List.set_set] at O7
    exact k _ O7
theorem qSWAP (i j j2 : Nat) (O : Own H0 M H) (hi : M[i]? = some (p, xs)) (h : Ev te σ H v) (h2 : Ev te2 σ H w) (ha : ∀ H', Ev ta σ H' (.ref p)) (hb : ∀ H', Ev tb σ H' (.int (j : Int))) (ha2 : ∀ H', Ev ta2 σ H' (.ref p)) (hb2 : ∀ H', Ev tb2 σ H' (.int (j2 : Int)))
    (hj : j < xs.length) (hj2 : j2 < xs.length) (k : ∀ H1, Own H0 (M.set i (p, (xs.set j v).set j2 w)) H1 → tz D σ H1) :
    tSeq (tAsg (tTup (tCons te (tCons te2 tNil))) (gTup K 2 (gCons (gSub ta tb rSetL) (gCons (gSub ta2 tb2 rSetL) gNil)))) tz D σ H := SWAP (D := { D with nx := tz D }) i j j2 O hi h h2 ha hb ha2 hb2 hj hj2 k
end
end Sh
namespace Sh
open PySem PySem.Spec PyProof.Rows L2 Evl
section
variable {K : PySem.W.Frag} {H0 H : Hp} {σ : L2.St} {ta tb : TE} {xs : List V} {z : V} {E : XK} {sp : Sp}
/-- f(xs), xs a new list -/
theorem ec_call1N (h1 : EvL ta σ H xs) (hs : ∀ p H1, H1 p = some (.lst xs) → Ex H H1 → SpV sp [.ref p] H1 z) : Ev (tCall sp [] E (tCons ta tNil)) σ H z := fun H1 e Q q =>
  h1 H1 e _ fun p H2 _ e2 hp => hs p H2 hp (e.trans e2) H2 (Ex.refl H2) Q (fun H3 e3 => q H3 (e2.trans e3)) E
theorem el_call1N {ys : List V} (h1 : EvL ta σ H xs) (hs : ∀ p H1, H1 p = some (.lst xs) → Ex H H1 → SpL sp [.ref p] H1 ys) : EvL (tCall sp [] E (tCons ta tNil)) σ H ys := fun H1 e Q q =>
  h1 H1 e _ fun p H2 _ e2 hp => hs p H2 hp (e.trans e2) H2 (Ex.refl H2) Q (fun q2 H3 hq e3 h3 => q q2 H3 (fresh_back e2 hq) (e2.trans e3) h3) E
theorem rv_neB {x y : Bool} : RV rNe (.bl x) (.bl y) H (.bl (x != y)) := fun H1 _ Q q => ⟨rfl, by
  have e : (!decide (V.bl x = V.bl y)) = (x != y) := by cases x <;> cases y <;> decide
  rw [e]
  exact q H1 (Ex.refl H1)⟩
/-- tuples of two ints, by < -/
theorem ev_ltP {i j k l : Int} (ha : EvU ta σ H [.int i, .int j]) (hb : EvU tb σ H [.int k, .int l]) : Ev (tOp (rLtT K) ta tb) σ H (.bl (decide (i < k ∨ (i = k ∧ j < l)))) :=
  ev_opUU ha hb fun p q H1 hp hq _ H2 e2 Q qq => by
    refine ⟨p, q, [i, j], [k, l], rfl, rfl, st_of (e2 _ _ hp), st_of (e2 _ _ hq), ?_⟩
    have e : HT.lexLt [i, j] [k, l] = decide (i < k ∨ (i = k ∧ j < l)) := by
      show (if i = k then (if j = l then false else decide (j < l)) else decide (i < k)) = _
      by_cases h1 : i = k
      · rw [if_pos h1]
        by_cases h2 : j = l
        · rw [if_pos h2, Eq.comm, decide_eq_false_iff_not]
          omega
        · rw [if_neg h2, decide_eq_decide]
          omega
      · rw [if_neg h1, decide_eq_decide]
        omega
    rw [e]
    exact qq H2 (Ex.refl H2)
end
end Sh
namespace Sh
open PySem PySem.Spec PyProof.Rows L2 Evl
section
variable {K : PySem.W.Frag} {H0 H : Hp} {M : List (Addr × List V)} {a p q : Addr} {xs ys : List V} {v w y : V} {D : Ends} {σ : L2.St} {te ta tb tc tl : TE} {tz : TS}
/-- xs.append(ys.pop(z)) -/
theorem APPPOP (i j : Nat) {z : Int} (O : Own H0 M H) (hi : M[i]? = some (p, xs)) (hj : M[j]? = some (q, ys)) (hij : i ≠ j) (ha : ∀ H', Ev ta σ H' (.ref p)) (hb : ∀ H', Ev tb σ H' (.ref q)) (hc : Ev tc σ H (.int z)) (h0 : 0 ≤ z) (h1 : z < 1000000) (hy : ys[z.toNat]? = some y) (hl : xs.length < 100000)
    (k : ∀ H1, Own H0 ((M.set j (q, ys.eraseIdx z.toNat)).set i (p, xs ++ [y])) H1 → D.nx σ H1) :
    tDrop (tBM K "list" rAppend ta (tCons (tBM K "list" rPopAt tb (tCons tc tNil)) tNil)) D σ H :=
  ha H H (Ex.refl H) _ fun H1 e1 => by
    have O1 := O.mono e1
    refine ⟨.inl ⟨rfl, xs, O1.seq i hi⟩, ?_⟩
    refine hb H1 H1 (Ex.refl H1) _ fun H2 e2 => ?_
    have O2 := O1.mono e2
    refine ⟨.inl ⟨rfl, ys, O2.seq j hj⟩, ?_⟩
    refine hc H2 (e1.trans e2) _ fun H3 e3 => ?_
    have O3 := O2.mono e3
    have hlt : z.toNat < ys.length := (List.getElem?_eq_some_iff.mp hy).1
    refine ⟨q, ys, z, z.toNat, y, rfl, rfl, O3.get j hj, by omega, by omega, seqIndex_of h0 (by omega), hy, ?_⟩
    have O4 := O3.upd (ys := ys.eraseIdx z.toNat) j hj
    have hi4 : (M.set j (q, ys.eraseIdx z.toNat))[i]? = some (p, xs) := by rw [List.getElem?_set_ne hij.symm]; exact hi
    exact ⟨p, xs, y, rfl, rfl, O4.get i hi4, sz_lt hl, k _ (O4.upd i hi4)⟩
theorem ev_index {ns : List Int} {x : Int} (h : Ev ta σ H (.ref a)) (hs : SqL K H a (il ns)) (hx : Ev tb σ H (.int x)) (hm : x ∈ ns) : Ev (tBM K "list" (rIndex K) ta (tCons tb tNil)) σ H (.int (ns.idxOf x : Nat)) := fun H1 e Q k =>
  h H1 e _ fun H2 e2 => ⟨.inl ⟨rfl, il ns, ex_l (e.trans e2) hs⟩, hx H2 (e.trans e2) _ fun H3 e3 => by
    have hlt := List.idxOf_lt_length_iff.mpr hm
    refine ⟨a, il ns, .int x, ns.idxOf x, .int x, rfl, rfl, ex_l ((e.trans e2).trans e3) hs, rfl, ?_, ?_, ?_, ?_, k H3 (e2.trans e3)⟩
    · rw [List.all_eq_true]
      intro y hy
      obtain ⟨n, _, rfl⟩ := List.mem_map.mp hy
      rfl
    · rw [List.getElem?_map, List.getElem?_eq_getElem hlt, List.getElem_idxOf] <;> rfl
    · show (x == x) = true
      exact beq_self_eq_true x
    · intro m z' hm' hz
      obtain ⟨rfl, _⟩ := getI hz
      show (gt ns m == x) = false
      have e1 := some_gt (ns := ns) (k := m) (by omega)
      have := List.not_of_lt_findIdx (p := fun y => y == x) (xs := ns) (i := m) hm'
      rw [List.getElem?_eq_getElem (by omega)] at e1
      rw [← Option.some.inj e1]
      simpa using this⟩
end
end Sh
namespace Sh
open PySem PySem.Spec PyProof.Rows L2 Evl
section
variable {K : PySem.W.Frag} {H0 H : Hp} {M : List (Addr × List V)} {a p q : Addr} {xs ys : List V} {v w y : V} {D : Ends} {σ : L2.St} {te ta tb tc tl : TE} {tz : TS}
/-- a comprehension over ints whose element changes things -/
theorem LCM {ns : List Int} {j : Nat} {vs : List Nat} {Q : VK} (O : Own H0 M H) (h : Ev tl σ H (.ref a)) (hx : SqL K H a (il ns)) (Pv : Addr → Nat → Hp → Prop) (h0 : ∀ Dl H1, Own H0 ((Dl, []) :: M) H1 → Pv Dl 0 H1)
    (hl : ∀ Dl i H', Pv Dl i H' → SqL K H' a (il ns)) (hw : ∀ x, wipe ((wipe σ vs).set j (some x)) vs = wipe σ vs)
    (hs : ∀ Dl i x H', ns[i]? = some x → Pv Dl i H' → te ((wipe σ vs).set j (some (.int x))) H' fun y H4 => ∃ acc, H4 Dl = some (.lst acc) ∧ acc.length < sizeLine ∧ Pv Dl (i + 1) (upd H4 Dl (.lst (acc ++ [y])))) (hd : ∀ Dl H', Pv Dl ns.length H' → Q (.ref Dl) H') :
    tLc (iList K tl) (gName j) tYes te vs σ H Q := h H (Ex.refl H) _ fun H1 e1 => ⟨a, rfl, ⟨il ns, ex_l e1 hx⟩, fun Dl hD =>
  lc_list (xs := il ns) (Pv Dl) (h0 Dl _ ((O.mono e1).new hD (Ex.new hD) upd_same)) (fun i H' _ p => hl Dl i H' p) (fun i x H' hi p => by
    obtain ⟨rfl, m⟩ := getI hi
    have hi2 : ns[i]? = some (gt ns i) := by
      rw [List.getElem?_map] at hi
      cases e : ns[i]? with
      | none => rw [e] at hi; cases hi
      | some z => rw [gt_some e]
    exact ⟨hw _, hs Dl i _ H' hi2 p⟩) (fun H' p => hd Dl H' (by rw [List.length_map] at p; exact p))⟩
/-- ys.pop(z) into the comprehension's list -/
theorem LPOP (i j : Nat) {z : Int} {Dl : Addr} {Pv : Hp → Prop} (O : Own H0 M H) (hi : M[i]? = some (Dl, xs)) (hj : M[j]? = some (q, ys)) (hij : i ≠ j) (hb : ∀ H', Ev tb σ H' (.ref q)) (hc : Ev tc σ H (.int z)) (h0 : 0 ≤ z) (h1 : z < 1000000) (hy : ys[z.toNat]? = some y) (hl : xs.length < 100000)
    (k : ∀ H1, Own H0 ((M.set j (q, ys.eraseIdx z.toNat)).set i (Dl, xs ++ [y])) H1 → Pv H1) :
    tBM K "list" rPopAt tb (tCons tc tNil) σ H fun y H4 => ∃ acc, H4 Dl = some (.lst acc) ∧ acc.length < sizeLine ∧ Pv (upd H4 Dl (.lst (acc ++ [y]))) :=
  hb H H (Ex.refl H) _ fun H2 e2 => by
    have O2 := O.mono e2
    refine ⟨.inl ⟨rfl, ys, O2.seq j hj⟩, ?_⟩
    refine hc H2 e2 _ fun H3 e3 => ?_
    have O3 := O2.mono e3
    have hlt : z.toNat < ys.length := (List.getElem?_eq_some_iff.mp hy).1
    refine ⟨q, ys, z, z.toNat, y, rfl, rfl, O3.get j hj, by omega, by omega, seqIndex_of h0 (by omega), hy, ?_⟩
    have O4 := O3.upd (ys := ys.eraseIdx z.toNat) j hj
    have hi4 : (M.set j (q, ys.eraseIdx z.toNat))[i]? = some (Dl, xs) := by rw [List.getElem?_set_ne hij.symm]; exact hi
    exact ⟨xs, O4.get i hi4, sz_lt hl, k _ (O4.upd i hi4)⟩
end
end Sh
namespace Sh
open PySem PySem.Spec PyProof.Rows L2 Evl
section
variable {K : PySem.W.Frag} {H0 H : Hp} {M : List (Addr × List V)} {a p q : Addr} {xs ys : List V} {v w y : V} {D : Ends} {σ : L2.St} {te ta tb tc tl : TE} {tz : TS}
def rIns : V → List V → Hp → VK → Prop := fun x vs H Q => ∃ (l : Addr) (xs : List V) (i : Int) (y : V), x = .ref l ∧ vs = [.int i, y] ∧ H l = some (.lst xs) ∧ xs.length < sizeLine ∧ 0 ≤ i ∧ i < 2 ^ 63 ∧ Q .non (upd H l (.lst (xs.take i.toNat ++ [y] ++ xs.drop i.toNat)))
theorem mt_insertS {X : Cx} : MtR X "list.insert" rIns := mt_insert
/-- xs.insert(z, e) -/
theorem qINS (i : Nat) {z : Int} (O : Own H0 M H) (hi : M[i]? = some (p, xs)) (ha : ∀ H', Ev ta σ H' (.ref p)) (hb : Ev tb σ H (.int z)) (hc : Ev tc σ H y) (h0 : 0 ≤ z) (h1 : z < 1000000) (hl : xs.length < 100000)
    (k : ∀ H1, Own H0 (M.set i (p, xs.take z.toNat ++ [y] ++ xs.drop z.toNat)) H1 → tz D σ H1) : tSeq (tDrop (tBM K "list" rIns ta (tCons tb (tCons tc tNil)))) tz D σ H :=
  ha H H (Ex.refl H) _ fun H1 e1 => by
    have O1 := O.mono e1
    refine ⟨.inl ⟨rfl, xs, O1.seq i hi⟩, ?_⟩
    refine hb H1 e1 _ fun H2 e2 => hc H2 (e1.trans e2) _ fun H3 e3 => ?_
    have O3 := (O1.mono e2).mono e3
    exact ⟨p, xs, z, y, rfl, rfl, O3.get i hi, sz_lt hl, h0, by omega, k _ (O3.upd i hi)⟩
theorem INS (i : Nat) {z : Int} (O : Own H0 M H) (hi : M[i]? = some (p, xs)) (ha : ∀ H', Ev ta σ H' (.ref p)) (hb : Ev tb σ H (.int z)) (hc : Ev tc σ H y) (h0 : 0 ≤ z) (h1 : z < 1000000) (hl : xs.length < 100000)
    (k : ∀ H1, Own H0 (M.set i (p, xs.take z.toNat ++ [y] ++ xs.drop z.toNat)) H1 → D.nx σ H1) : tDrop (tBM K "list" rIns ta (tCons tb (tCons tc tNil))) D σ H :=
  qINS (D := D) (tz := fun D σ H => D.nx σ H) i O hi ha hb hc h0 h1 hl k
theorem Own.keep {t : Addr} (O : Own H0 M H) (h : H t = some (.tup xs)) : Own (L2.upd H0 t (.tup xs)) M H := by
  refine ⟨fun b o hb => ?_, fun m hm => ⟨?_, (O.own m hm).2⟩, O.nd⟩
  · by_cases z : b = t
    · subst z
      rw [upd_same] at hb
      cases hb
      exact h
    · rw [upd_ne z] at hb
      exact O.ex _ _ hb
  · have := O.own m hm
    rw [upd_ne (ne_of this.2 h (by intro z; cases z))]
    exact this.1
/-- xs + ys, both new -/
theorem el_catNN (ha : EvL ta σ H xs) (hb : EvL tb σ H ys) (hl : xs.length + ys.length ≤ 100000) : EvL (tOp rCat ta tb) σ H (xs ++ ys) := fun H1 e Q q =>
  ha H1 e _ fun p H2 hp e2 h2 => hb H2 (e.trans e2) _ fun r H3 hr e3 h3 => ⟨p, r, xs, ys, rfl, rfl, e3 _ _ h2, h3, sz_of hl, fun l hl => q l _ (fresh_back (e2.trans e3) hl) ((e2.trans e3).trans (Ex.new hl)) upd_same⟩
def rNon : R2 := fun x y H Q => y = .non ∧ Q (.bl (decide (x = .non))) H
theorem op_isNon {X : Cx} : OpR X (compareOp .Is) rNon := op_isN
theorem el_sortedN {ns : List Int} (h : EvL te σ H (il ns)) (hl : ns.length < 64) : EvL (tCB (rSorted K) (tCons te tNil)) σ H (il (srt ns)) := fun H1 e Q q =>
  h H1 e _ fun p H2 hp e2 h2 => ⟨p, ns, rfl, sq_of h2, hl, fun ms l hp hs hn => by
    rw [srt_eq hp hs]
    exact q l _ (fresh_back e2 hn) (e2.trans (Ex.new hn)) upd_same⟩
end
end Sh
namespace Sh
open PySem PySem.Spec PyProof.Rows L2 Evl
section
variable {K : PySem.W.Frag} {H0 H H1 : Hp} {M M' : List (Addr × List V)} {a p q : Addr} {xs ys : List V} {v w y : V} {D : Ends} {σ : L2.St} {te ta tb tc tl : TE} {tz tu : TS}
theorem Own.perm (O : Own H0 M H) (h : M.Perm M') : Own H0 M' H := ⟨O.ex, fun m hm => O.own m (h.mem_iff.mpr hm), (h.map _).nodup_iff.mp O.nd⟩
theorem Own.of_ex (e : Ex H0 H) : Own H0 [] H := ⟨e, (fun _ h => by cases h), List.nodup_nil⟩
/-- name = [e], e a new list -/
theorem qALL {i : Nat} (O : Own H0 M H) (h : EvL te σ H xs) (k : ∀ p q H1, Own H0 ((p, [.ref q]) :: (q, xs) :: M) H1 → tz D (σ.set i (some (.ref p))) H1) : tSeq (tAsg (tLst (tCons te tNil)) (gName i)) tz D σ H :=
  h H (Ex.refl H) _ fun q H1 hq e h1 => ⟨sz_of (by show 1 ≤ 100000; decide), fun p hp => k p q _ ((O.new hq e h1).new hp (Ex.new hp) upd_same)⟩
theorem atI_neg {α : Type} {l : List α} {x : α} (h : l[l.length - 1]? = some x) (hl : 0 < l.length) : atI l (-1) = some x := by
  unfold atI ixN
  rw [if_neg (by decide), if_pos (by omega)]
  show l[((-1 : Int) + (l.length : Int)).toNat]? = some x
  rw [show ((-1 : Int) + (l.length : Int)).toNat = l.length - 1 by omega]
  exact h
theorem ev_last {ns : List Int} (h : Ev tl σ H (.ref a)) (hx : SqL K H a (il ns)) (hi : Ev tb σ H (.int (-1))) (hl : 0 < ns.length) : Ev (tOp (rIxL K) tl tb) σ H (.int (gt ns (ns.length - 1))) :=
  ev_op h hi (rv_ixL hx (atI_neg (by rw [List.length_map, List.getElem?_map, some_gt (by omega)] <;> rfl) (by rw [List.length_map]; exact hl)))
theorem el_listN (h : EvL te σ H xs) : EvL (tCB (rListS K) (tCons te tNil)) σ H xs := fun H1 e Q q =>
  h H1 e _ fun p H2 _ e2 hp => ⟨p, xs, rfl, .inl (sq_of hp), fun l hl => q l _ (fresh_back e2 hl) (e2.trans (Ex.new hl)) upd_same⟩
theorem el_catRN (ha : Ev ta σ H (.ref a)) (hA : H a = some (.lst xs)) (hb : EvL tb σ H ys) (hl : xs.length + ys.length ≤ 100000) : EvL (tOp rCat ta tb) σ H (xs ++ ys) := fun H1 e Q q =>
  ha H1 e _ fun H2 e2 => hb H2 (e.trans e2) _ fun r H3 hr e3 h3 => ⟨a, r, xs, ys, rfl, rfl, e3 _ _ (e2 _ _ (e _ _ hA)), h3, sz_of hl, fun l hl => q l _ (fresh_back (e2.trans e3) hl) ((e2.trans e3).trans (Ex.new hl)) upd_same⟩
theorem el_catNR (ha : EvL ta σ H xs) (hb : ∀ H1, Ex H H1 → Ev tb σ H1 (.ref a)) (hA : H a = some (.lst ys)) (hl : xs.length + ys.length ≤ 100000) : EvL (tOp rCat ta tb) σ H (xs ++ ys) := fun H1 e Q q =>
  ha H1 e _ fun p H2 hp e2 h2 => hb H2 (e.trans e2) H2 (Ex.refl H2) _ fun H3 e3 => ⟨p, a, xs, ys, rfl, rfl, e3 _ _ h2, e3 _ _ (e2 _ _ (e _ _ hA)), sz_of hl, fun l hl => q l _ (fresh_back (e2.trans e3) hl) ((e2.trans e3).trans (Ex.new hl)) upd_same⟩
theorem el_catRR {c : Addr} (ha : Ev ta σ H (.ref a)) (hA : H a = some (.lst xs)) (hb : Ev tb σ H (.ref c)) (hC : H c = some (.lst ys)) (hl : xs.length + ys.length ≤ 100000) : EvL (tOp rCat ta tb) σ H (xs ++ ys) := fun H1 e Q q =>
  ha H1 e _ fun H2 e2 => hb H2 (e.trans e2) _ fun H3 e3 => ⟨a, c, xs, ys, rfl, rfl, e3 _ _ (e2 _ _ (e _ _ hA)), e3 _ _ (e2 _ _ (e _ _ hC)), sz_of hl, fun l hl => q l _ (fresh_back (e2.trans e3) hl) ((e2.trans e3).trans (Ex.new hl)) upd_same⟩
theorem sIx_m1 (n d : Nat) : HT.sIx n d (some (-1)) = n - 1 := by
  have h := HT.clip_eq (-1) n d
  rw [if_pos (by decide)] at h
  omega
theorem cut_last (xs : List V) : cutV xs (some (-1)) none = xs.drop (xs.length - 1) := by
  unfold cutV
  rw [sIx_m1, HT.sIx_none]
  exact List.take_of_length_le (by rw [List.length_drop]; exact Nat.le_refl _)
theorem cut_init (xs : List V) : cutV xs none (some (-1)) = xs.take (xs.length - 1) := by
  unfold cutV
  rw [sIx_m1, HT.sIx_none, List.drop_zero, Nat.sub_zero]
theorem sl_last {tl2 : TO} {ns : List Int} (h : Ev te σ H (.ref a)) (hs : SqL K H a (il ns)) (h1 : EvO tl2 σ H (some (-1))) : EvL (tSl (rSlL K) te tl2 tNoPart) σ H (il (ns.drop (ns.length - 1))) := by
  have z := el_sl h h1 eo_none hs
  rw [cut_last, List.length_map, ← List.map_drop] at z
  exact z
theorem sl_init {tl2 : TO} {ns : List Int} (h : Ev te σ H (.ref a)) (hs : SqL K H a (il ns)) (h1 : EvO tl2 σ H (some (-1))) : EvL (tSl (rSlL K) te tNoPart tl2) σ H (il (ns.take (ns.length - 1))) := by
  have z := el_sl h eo_none h1 hs
  rw [cut_init, List.length_map, ← List.map_take] at z
  exact z
theorem cut_mid (ns : List Int) (i j : Nat) (hij : i ≤ j) (hj : j ≤ ns.length) : cutV (il ns) (some (i : Int)) (some (j : Int)) = il ((ns.take j).drop i) := by
  unfold cutV
  rw [HT.sIx_nat, HT.sIx_nat]
  simp only [List.length_map]
  rw [Nat.min_eq_left (show i ≤ ns.length by omega), Nat.min_eq_left hj, ← List.map_drop, ← List.map_take, List.drop_take]
theorem sl_mid {i j : Nat} {tl2 th2 : TO} {ns : List Int} (h : Ev te σ H (.ref a)) (hs : SqL K H a (il ns)) (h1 : EvO tl2 σ H (some (i : Int))) (h2 : EvO th2 σ H (some (j : Int))) (hij : i ≤ j) (hj : j ≤ ns.length) : EvL (tSl (rSlL K) te tl2 th2) σ H (il ((ns.take j).drop i)) := by
  rw [← cut_mid ns i j hij hj]
  exact el_sl h h1 h2 hs
/-- for v in a new list of ints -/
theorem FLN {ns : List Int} {j : Nat} (O : Own H0 M H) (h : EvL tl σ H (il ns)) (Pv : Addr → Nat → L2.St → Hp → Prop) (h0 : ∀ p H1, Own H0 ((p, il ns) :: M) H1 → Pv p 0 σ H1) (hl : ∀ p i σ' H', Pv p i σ' H' → SqL K H' p (il ns))
    (hs : ∀ p i x σ' H', ns[i]? = some x → Pv p i σ' H' → tu { D with nx := Pv p (i + 1), ct := Pv p (i + 1), bk := D.nx } (σ'.set j (some (.int x))) H') (hd : ∀ p σ' H', Pv p ns.length σ' H' → D.nx σ' H') : tFor (iList K tl) (gName j) tu D σ H :=
  s_forNL (g := gName j) h Pv (fun p H1 hp e h1 => h0 p H1 (O.new hp e h1)) (fun p i σ' H' _ q => hl p i σ' H' q) (fun p i x σ' H' hi q => by
    rw [List.getElem?_map] at hi
    cases e : ns[i]? with
    | none => rw [e] at hi; cases hi
    | some y =>
      rw [e] at hi
      cases hi
      exact hs p i y σ' H' e q) (fun p σ' H' q => hd p σ' H' (by rw [List.length_map] at q; exact q))
theorem qFLN {ns : List Int} {j : Nat} (O : Own H0 M H) (h : EvL tl σ H (il ns)) (Pv : Addr → Nat → L2.St → Hp → Prop) (h0 : ∀ p H1, Own H0 ((p, il ns) :: M) H1 → Pv p 0 σ H1) (hl : ∀ p i σ' H', Pv p i σ' H' → SqL K H' p (il ns))
    (hs : ∀ p i x σ' H', ns[i]? = some x → Pv p i σ' H' → tu { D with nx := Pv p (i + 1), ct := Pv p (i + 1), bk := tz D } (σ'.set j (some (.int x))) H') (hd : ∀ p σ' H', Pv p ns.length σ' H' → tz D σ' H') : tSeq (tFor (iList K tl) (gName j) tu) tz D σ H :=
  FLN (D := { D with nx := tz D }) O h Pv h0 hl hs hd
/-- xss[-1].append(e) -/
theorem qAPPin (i j : Nat) (O : Own H0 M H) (hi : M[i]? = some (p, xs)) (hx : xs[xs.length - 1]? = some (.ref q)) (hj : M[j]? = some (q, ys)) (ha : Ev ta σ H (.ref p)) (hb : ∀ H', Ev tb σ H' (.int (-1))) (h : Ev te σ H v) (hz : ys.length < 100000) (k : ∀ H1, Own H0 (M.set j (q, ys ++ [v])) H1 → tz D σ H1) :
    tSeq (tDrop (tBM K "list" rAppend (tOp (rIxL K) ta tb) (tCons te tNil))) tz D σ H :=
  qAPP j O hj (ev_op ha (hb H) (rv_ixL (O.seq i hi) (atI_neg hx (Nat.pos_of_ne_zero fun z => by rw [List.length_eq_zero_iff.mp z] at hx; cases hx)))) h hz k
theorem APPin (i j : Nat) (O : Own H0 M H) (hi : M[i]? = some (p, xs)) (hx : xs[xs.length - 1]? = some (.ref q)) (hj : M[j]? = some (q, ys)) (ha : Ev ta σ H (.ref p)) (hb : ∀ H', Ev tb σ H' (.int (-1))) (h : Ev te σ H v) (hz : ys.length < 100000) (k : ∀ H1, Own H0 (M.set j (q, ys ++ [v])) H1 → D.nx σ H1) :
    tDrop (tBM K "list" rAppend (tOp (rIxL K) ta tb) (tCons te tNil)) D σ H :=
  APP j O hj (ev_op ha (hb H) (rv_ixL (O.seq i hi) (atI_neg hx (Nat.pos_of_ne_zero fun z => by rw [List.length_eq_zero_iff.mp z] at hx; cases hx)))) h hz k
theorem rv_eqB {x y : Bool} : RV rEq (.bl x) (.bl y) H (.bl (x == y)) := fun H1 _ Q q => ⟨rfl, by
  have e : decide (V.bl x = V.bl y) = (x == y) := by cases x <;> cases y <;> decide
  rw [e]
  exact q H1 (Ex.refl H1)⟩
/-- what is told of a list of lists: where each stands, what it holds -/
abbrev Dr (Dn : List (Addr × List Int)) : List V := Dn.map fun d => V.ref d.1
def RetP (ps : List (List Int)) (H : Hp) (Q : VK) : Prop := ∀ (p : Addr) (Dn : List (Addr × List Int)) (H2 : Hp), Dn.map (·.2) = ps → H p = none → Ex H H2 → H2 p = some (.lst (Dr Dn)) → (∀ d, d ∈ Dn → H2 d.1 = some (.lst (il d.2))) → Q (.ref p) H2
abbrev Dm (Dn : List (Addr × List Int)) : List (Addr × List V) := Dn.map fun d => (d.1, il d.2)
theorem Dr_snoc (Dn : List (Addr × List Int)) (d : Addr × List Int) : Dr (Dn ++ [d]) = Dr Dn ++ [V.ref d.1] := List.map_append
theorem Dm_snoc (Dn : List (Addr × List Int)) (d : Addr × List Int) : Dm (Dn ++ [d]) = Dm Dn ++ [(d.1, il d.2)] := List.map_append
end
end Sh
namespace Sh
open PySem PySem.Spec PyProof.Rows L2 Evl
theorem Own.sub {H0 H : Hp} {M M' : List (Addr × List V)} (O : Own H0 M H) (h : M'.Sublist M) : Own H0 M' H := ⟨O.ex, fun m hm => O.own m (h.subset hm), O.nd.sublist (h.map _)⟩
theorem Own.skip1 {H0 H : Hp} {M : List (Addr × List V)} {m n : Addr × List V} (O : Own H0 (m :: n :: M) H) : Own H0 (m :: M) H := O.sub (.cons₂ _ (.cons _ (List.Sublist.refl _)))
theorem Own.skip2 {H0 H : Hp} {M : List (Addr × List V)} {m n o : Addr × List V} (O : Own H0 (m :: n :: o :: M) H) : Own H0 (m :: n :: M) H := O.sub (.cons₂ _ (.cons₂ _ (.cons _ (List.Sublist.refl _))))
end Sh
namespace Sh
open PySem PySem.Spec PyProof.Rows L2 Evl
section
variable {K : PySem.W.Frag} {H0 H : Hp} {M : List (Addr × List V)} {D : Ends} {σ : L2.St} {tz tu : TS} {sp : Sp} {vs : List V} {tr : TA} {E : XK} {g : TG}
/-- for v in f(..) -/
theorem FC (O : Own H0 M H) (ha : EvA tr σ H vs) (hs : ∀ H1, Own H0 M H1 → sp (vs ++ []) H1 (fun x H2 => tFor (iList K (tC x)) g tu D σ H2) E) : tFor (iList K (tCall sp [] E tr)) g tu D σ H :=
  ha H (Ex.refl H) _ fun H1 e => hs H1 (O.mono e)
theorem qFC (O : Own H0 M H) (ha : EvA tr σ H vs) (hs : ∀ H1, Own H0 M H1 → sp (vs ++ []) H1 (fun x H2 => tFor (iList K (tC x)) g tu { D with nx := tz D } σ H2) E) : tSeq (tFor (iList K (tCall sp [] E tr)) g tu) tz D σ H :=
  FC (D := { D with nx := tz D }) O ha hs
/-- the same, its first word a new list -/
theorem FCN {v : V} {ta tb : TE} {xs : List V} (O : Own H0 M H) (h1 : EvL ta σ H xs) (h2 : ∀ H1, Ex H H1 → Ev tb σ H1 v) (hs : ∀ p H1, Own H0 ((p, xs) :: M) H1 → sp ([.ref p, v] ++ []) H1 (fun x H2 => tFor (iList K (tC x)) g tu D σ H2) E) :
    tFor (iList K (tCall sp [] E (tCons ta (tCons tb tNil)))) g tu D σ H :=
  h1 H (Ex.refl H) _ fun p H1 hp e h => (ea_cons (h2 H1 e) ea_nil : EvA (tCons tb tNil) σ H1 [v]) H1 (Ex.refl H1) _ fun H2 e2 => hs p H2 ((O.new hp e h).mono e2)
theorem qFCN {v : V} {ta tb : TE} {xs : List V} (O : Own H0 M H) (h1 : EvL ta σ H xs) (h2 : ∀ H1, Ex H H1 → Ev tb σ H1 v) (hs : ∀ p H1, Own H0 ((p, xs) :: M) H1 → sp ([.ref p, v] ++ []) H1 (fun x H2 => tFor (iList K (tC x)) g tu { D with nx := tz D } σ H2) E) :
    tSeq (tFor (iList K (tCall sp [] E (tCons ta (tCons tb tNil)))) g tu) tz D σ H := FCN (D := { D with nx := tz D }) O h1 h2 hs
end
end Sh
namespace Sh
open PySem PySem.Spec PyProof.Rows L2 Evl
section
variable {K : PySem.W.Frag} {H0 H H' : Hp} {M : List (Addr × List V)} {a p q Dl : Addr} {xs ys acc : List V} {v w y : V} {D : Ends} {σ : L2.St} {te ta tb tc tl : TE} {tz : TS}
/-- a comprehension over range(n) whose element changes things -/
theorem LCMR {tr : TA} {n j : Nat} {vs : List Nat} {Q : VK} (O : Own H0 M H) (h : EvA tr σ H [.int (n : Int)]) (hn : n ≤ 40000) (Pv : Addr → Nat → Hp → Prop) (h0 : ∀ Dl H1, Own H0 ((Dl, []) :: M) H1 → Pv Dl 0 H1)
    (hw : ∀ x, wipe ((wipe σ vs).set j (some x)) vs = wipe σ vs)
    (hs : ∀ Dl (i : Nat) H', i < n → Pv Dl i H' → te ((wipe σ vs).set j (some (.int (i : Int)))) H' fun y H4 => ∃ acc, H4 Dl = some (.lst acc) ∧ acc.length < sizeLine ∧ Pv Dl (i + 1) (upd H4 Dl (.lst (acc ++ [y])))) (hd : ∀ Dl H', Pv Dl n H' → Q (.ref Dl) H') :
    tLc (iRng1 tr) (gName j) tYes te vs σ H Q := h H (Ex.refl H) _ fun H1 e1 => ⟨(n : Int), rfl, by omega, by omega, fun Dl hD =>
  lc_range (lo := 0) (n := (n : Int).toNat) (Pv Dl) (h0 Dl _ ((O.mono e1).new hD (Ex.new hD) upd_same)) (fun i H' hi p => by
    have e0 : (0 : Int) + (i : Int) = (i : Int) := Int.zero_add _
    show wipe ((wipe σ vs).set j (some (.int ((0 : Int) + (i : Int))))) vs = wipe σ vs ∧ te ((wipe σ vs).set j (some (.int ((0 : Int) + (i : Int))))) H' fun y H4 => ∃ acc, H4 Dl = some (.lst acc) ∧ acc.length < sizeLine ∧ Pv Dl (i + 1) (upd H4 Dl (.lst (acc ++ [y])))
    rw [e0]
    exact ⟨hw _, hs Dl i H' (by omega) p⟩) (fun H' p => hd Dl H' (by rw [Int.toNat_natCast] at p; exact p))⟩
theorem qALC {tr : TA} {n j i : Nat} {vs : List Nat} (O : Own H0 M H) (h : EvA tr σ H [.int (n : Int)]) (hn : n ≤ 40000) (Pv : Addr → Nat → Hp → Prop) (h0 : ∀ Dl H1, Own H0 ((Dl, []) :: M) H1 → Pv Dl 0 H1)
    (hw : ∀ x, wipe ((wipe σ vs).set j (some x)) vs = wipe σ vs)
    (hs : ∀ Dl (i : Nat) H', i < n → Pv Dl i H' → te ((wipe σ vs).set j (some (.int (i : Int)))) H' fun y H4 => ∃ acc, H4 Dl = some (.lst acc) ∧ acc.length < sizeLine ∧ Pv Dl (i + 1) (upd H4 Dl (.lst (acc ++ [y])))) (hd : ∀ Dl H', Pv Dl n H' → tz D (σ.set i (some (.ref Dl))) H') :
    tSeq (tAsg (tLc (iRng1 tr) (gName j) tYes te vs) (gName i)) tz D σ H := LCMR (Q := fun v H1 => tz D (σ.set i (some v)) H1) O h hn Pv h0 hw hs hd
/-- name = f(e, v, w), e a new list -/
theorem qAC3N {sp : Sp} {E : XK} {i : Nat} (O : Own H0 M H) (h1 : EvL ta σ H xs) (h2 : ∀ H1, Ex H H1 → Ev tb σ H1 v) (h3 : ∀ H1, Ex H H1 → Ev tc σ H1 w)
    (hs : ∀ p H1, Own H0 ((p, xs) :: M) H1 → sp ([.ref p, v, w] ++ []) H1 (fun x H2 => tz D (σ.set i (some x)) H2) E) : tSeq (tAsg (tCall sp [] E (tCons ta (tCons tb (tCons tc tNil)))) (gName i)) tz D σ H :=
  h1 H (Ex.refl H) (fun x H1 => tCons tb (tCons tc tNil) σ H1 fun xs H2 => sp ((x :: xs) ++ []) H2 (fun x H3 => tz D (σ.set i (some x)) H3) E) fun p H1 hp e h =>
    (ea_cons (h2 H1 e) (ea_cons (h3 H1 e) ea_nil) : EvA (tCons tb (tCons tc tNil)) σ H1 [v, w]) H1 (Ex.refl H1) (fun xs H2 => sp ((V.ref p :: xs) ++ []) H2 (fun x H3 => tz D (σ.set i (some x)) H3) E) fun H2 e2 => hs p H2 ((O.new hp e h).mono e2)
/-- its element: a new list -/
theorem LNEW {Pv : Hp → Prop} (O : Own H0 ((Dl, acc) :: M) H') (h : EvL te σ H' ys) (hl : acc.length < 100000) (k : ∀ q H4, Own H0 ((q, ys) :: (Dl, acc ++ [.ref q]) :: M) H4 → Pv H4) :
    te σ H' fun y H4 => ∃ acc, H4 Dl = some (.lst acc) ∧ acc.length < sizeLine ∧ Pv (upd H4 Dl (.lst (acc ++ [y]))) :=
  h H' (Ex.refl H') _ fun q H4 hq e h4 => by
    have O4 := O.new hq e h4
    exact ⟨acc, O4.get 1 rfl, sz_lt hl, k q _ (O4.upd 1 rfl)⟩
/-- xs[j] = e, e a new list -/
theorem SETL (i j : Nat) (O : Own H0 M H) (hi : M[i]? = some (p, xs)) (h : EvL te σ H ys) (ho : ∀ H1, Ev ta σ H1 (.ref p)) (hx : ∀ H1, Ev tb σ H1 (.int (j : Int))) (hj : j < xs.length) (k : ∀ q H1, Own H0 ((q, ys) :: M.set i (p, xs.set j (.ref q))) H1 → D.nx σ H1) : tAsg te (gSub ta tb rSetL) D σ H :=
  h H (Ex.refl H) _ fun q H1 hq e h1 => SET (te := tC (.ref q)) (i + 1) j (O.new hq e h1) (by rw [List.getElem?_cons_succ]; exact hi) ev_c (ho H1) (hx H1) hj fun H2 O2 => k q H2 O2
/-- [e for k in range(n)], e one number, n below nought too -/
theorem lcZ {tr : TA} {n z : Int} {j : Nat} {vs : List Nat} (h : EvA tr σ H [.int n]) (hn : -40000 ≤ n ∧ n ≤ 40000) (hw : ∀ x, wipe ((wipe σ vs).set j (some x)) vs = wipe σ vs) (he : ∀ (i : Nat) H1, Ev te ((wipe σ vs).set j (some (.int (i : Int)))) H1 (.int z)) :
    EvL (tLc (iRng1 tr) (gName j) tYes te vs) σ H (il (List.replicate n.toNat z)) := fun H0 e Q q => h H0 e _ fun H1 e1 => ⟨n, rfl, by omega, by omega, fun Dl hD =>
  lc_range (lo := 0) (n := n.toNat) (fun i H' => H' Dl = some (.lst (il (List.replicate i z))) ∧ Ex H1 H') ⟨upd_same, Ex.new hD⟩ (fun i H' hi p => by
    have e0 : (0 : Int) + (i : Int) = (i : Int) := Int.zero_add _
    show wipe ((wipe σ vs).set j (some (.int ((0 : Int) + (i : Int))))) vs = wipe σ vs ∧ te ((wipe σ vs).set j (some (.int ((0 : Int) + (i : Int))))) H' fun y H4 => ∃ acc, H4 Dl = some (.lst acc) ∧ acc.length < sizeLine ∧ (upd H4 Dl (.lst (acc ++ [y])) Dl = some (.lst (il (List.replicate (i + 1) z))) ∧ Ex H1 (upd H4 Dl (.lst (acc ++ [y]))))
    rw [e0]
    refine ⟨hw _, he i H' H' (Ex.refl H') _ fun H4 e4 => ⟨il (List.replicate i z), e4 _ _ p.1, sz_lt (by rw [List.length_map, List.length_replicate]; omega), ?_, (p.2.trans e4).mut hD⟩⟩
    rw [upd_same, List.replicate_succ', il_append]
    rfl) fun H' p => q Dl H' (fresh_back e1 hD) (e1.trans p.2) p.1⟩
/-- d[i, j, k] -/
theorem ev_dgetT {td ty : TE} {d : Addr} {kvs : List (List Key × V)} {key : List Key} (h : Ev td σ H (.ref d)) (hd : H d = some (.dT kvs)) (hk : EvU ty σ H (key.map kV)) (hv : valV kvs key = some v) : Ev (tDGet td ty) σ H v := fun H1 e Q q =>
  h H1 e _ fun H2 e2 => hk H2 (e.trans e2) _ fun b H3 _ e3 h3 => ⟨d, v, rfl, hv ▸ DGet.t (((e.trans e2).trans e3) _ _ hd) h3, q H3 (e2.trans e3)⟩
theorem el_ifE {t : TT} {b : Bool} (ht : EvT t σ H b) (h1 : b = true → EvL ta σ H xs) (h2 : b = false → EvL tb σ H xs) : EvL (tIf t ta tb) σ H xs := fun H1 e Q q =>
  ht H1 e _ fun H2 e2 => by
    cases b with
    | true => exact h1 rfl H2 (e.trans e2) Q fun p H3 hp e3 h3 => q p H3 (fresh_back e2 hp) (e2.trans e3) h3
    | false => exact h2 rfl H2 (e.trans e2) Q fun p H3 hp e3 h3 => q p H3 (fresh_back e2 hp) (e2.trans e3) h3
def rGetN (K : PySem.W.Frag) : V → V → Hp → VK → Prop := fun x y H Q => ∃ p xs i v, x = .ref p ∧ y = .int i ∧ SqL K H p xs ∧ 0 ≤ i ∧ i < 1000000 ∧ xs[i.toNat]? = some v ∧ Q v H
theorem pg_listN {X : Cx} : PGet X (rGetN X.K) := by
  rintro pins s σ H o i ov iv Q I ro ri ⟨p, xs, k, v, rfl, rfl, hq, h0, h1, hv, q⟩
  cases ro
  obtain ⟨t, rfl⟩ := ri
  obtain ⟨its, r, pl, hz⟩ := I.list hq
  obtain ⟨w, ew, rw'⟩ := r.get hv
  exact wpAny_getItem_list pl.isList h0 (by omega) (by simpa using ew) ⟨v, H, I, rw', q⟩
/-- xs[j] += e -/
theorem AUG (i j : Nat) {z z2 : Int} (O : Own H0 M H) (hi : M[i]? = some (p, xs)) (ho : ∀ H1, Ev ta σ H1 (.ref p)) (hx : ∀ H1, Ev tb σ H1 (.int (j : Int))) (hj : xs[j]? = some (.int z)) (hz : j < 1000000) (h : Ev te σ H (.int z2)) (k : ∀ H1, Own H0 (M.set i (p, xs.set j (.int (z + z2)))) H1 → D.nx σ H1) :
    tAugS ta tb te (rGetN K) (ipI fun i j => i + j) rSetL D σ H :=
  ho H H (Ex.refl H) _ fun H1 e1 => hx H1 H1 (Ex.refl H1) _ fun H2 e2 => by
    have O2 := (O.mono e1).mono e2
    refine ⟨p, xs, (j : Int), .int z, rfl, rfl, O2.seq i hi, by omega, by omega, by rw [Int.toNat_natCast]; exact hj, ?_⟩
    refine h H2 (e1.trans e2) _ fun H3 e3 => ⟨z, z2, rfl, rfl, ?_⟩
    have O3 := O2.mono e3
    exact ⟨p, xs, (j : Int), j, rfl, rfl, O3.get i hi, ixN_nat (List.getElem?_eq_some_iff.mp hj).1, k _ (O3.upd i hi)⟩
theorem ev_cntI {ns : List Int} {x : Int} (h : Ev ta σ H (.ref a)) (hs : SqL K H a (il ns)) (hx : Ev tb σ H (.int x)) : Ev (tBM K "list" (rCntI K) ta (tCons tb tNil)) σ H (.int (ns.count x : Nat)) := fun H1 e Q k =>
  h H1 e _ fun H2 e2 => ⟨.inl ⟨rfl, il ns, ex_l (e.trans e2) hs⟩, hx H2 (e.trans e2) _ fun H3 e3 => ⟨a, ns, x, rfl, rfl, ex_l ((e.trans e2).trans e3) hs, k H3 (e2.trans e3)⟩⟩
theorem ev_maxI {ns : List Int} {m : Int} (h : Ev te σ H (.ref a)) (hs : SqL K H a (il ns)) (hn : 0 < ns.length) (hm : ∀ x, x ∈ ns → (∀ y, y ∈ ns → y ≤ x) → x = m) : Ev (tCB (rMax K) (tCons te tNil)) σ H (.int m) := fun H1 e Q q =>
  h H1 e _ fun H2 e2 => ⟨a, ns, rfl, ex_l (e.trans e2) hs, hn, fun x h1 h2 => by
    rw [hm x h1 h2]
    exact q H2 e2⟩
theorem given_map {α : Type} (xs : List α) (d : α) (g : α → V) : given xs.length (fun _ => true) (fun i => g (xs.getD i d)) = xs.map g := by
  have h : ∀ n, given n (fun _ => true) (fun i => g (xs.getD i d)) = (List.range n).map fun i => g (xs.getD i d) := by
    intro n
    induction n with
    | zero => rfl
    | succ n ih => rw [given_yes (f := fun _ => true) rfl, ih, List.range_succ, List.map_append] <;> rfl
  rw [h]
  refine List.ext_getElem? fun i => ?_
  rw [List.getElem?_map, List.getElem?_map]
  by_cases hi : i < xs.length
  · rw [List.getElem?_range hi, List.getElem?_eq_getElem hi]
    show some (g (xs.getD i d)) = some (g xs[i])
    rw [List.getD_eq_getElem?_getD, List.getElem?_eq_getElem hi] <;> rfl
  · rw [List.getElem?_eq_none (by rw [List.length_range]; omega), List.getElem?_eq_none (by omega)] <;> rfl
theorem lc_zeros (z : Nat) (v : Int) : ((List.range z).filter fun _ => true).map (fun _ => V.int v) = il (List.replicate z v) := by
  rw [filter_yes]
  unfold il
  rw [List.map_replicate]
  exact List.eq_replicate_iff.mpr ⟨by rw [List.length_map, List.length_range], fun b hb => by obtain ⟨_, _, rfl⟩ := List.mem_map.mp hb; rfl⟩
end
end Sh
namespace Sh
/-! ### counting pairs -/
def cLt (l : List Int) (x : Int) : Nat := (l.filter fun y => decide (y < x)).length
def cGt (l : List Int) (x : Int) : Nat := (l.filter fun y => decide (x < y)).length
def inv : List Int → Nat
  | [] => 0
  | x :: l => cLt l x + inv l
def lessB : List Int → List Int
  | [] => []
  | x :: l => (cLt l x : Int) :: lessB l
theorem lessB_sum (l : List Int) : (lessB l).sum = (inv l : Int) := by
  induction l with
  | nil => rfl
  | cons x l ih => simp only [lessB, inv, List.sum_cons, ih]; omega
theorem lessB_len (l : List Int) : (lessB l).length = l.length := by
  induction l with
  | nil => rfl
  | cons x l ih => simp only [lessB, List.length_cons, ih]
theorem lessB_at (l : List Int) (k : Nat) (h : k < l.length) : (lessB l)[k]? = some ((cLt (l.drop (k + 1)) (gt l k) : Nat) : Int) := by
  induction l generalizing k with
  | nil => cases h
  | cons x l ih =>
    cases k with
    | zero => rfl
    | succ k =>
      have q := ih k (by simp only [List.length_cons] at h; omega)
      simp only [lessB, List.getElem?_cons_succ, q, List.drop_succ_cons]
      rfl
theorem cLt_append (l m : List Int) (x : Int) : cLt (l ++ m) x = cLt l x + cLt m x := by unfold cLt; rw [List.filter_append, List.length_append]
theorem cGt_append (l m : List Int) (x : Int) : cGt (l ++ m) x = cGt l x + cGt m x := by unfold cGt; rw [List.filter_append, List.length_append]
theorem inv_snoc (l : List Int) (x : Int) : inv (l ++ [x]) = inv l + cGt l x := by
  induction l with
  | nil => rfl
  | cons y l ih =>
    have e : cGt (y :: l) x = cGt [y] x + cGt l x := cGt_append [y] l x
    have e2 : cLt [x] y = cGt [y] x := by
      unfold cLt cGt
      by_cases h : x < y <;> simp [h]
    simp only [List.cons_append, inv, ih, cLt_append, e, e2]
    omega
/-- the pairs, the later place first -/
def pairsTo (ns : List Int) : Nat → Nat
  | 0 => 0
  | n + 1 => pairsTo ns n + cGt (ns.take n) (gt ns n)
theorem pairsTo_inv (ns : List Int) (n : Nat) (h : n ≤ ns.length) : pairsTo ns n = inv (ns.take n) := by
  induction n with
  | zero => rfl
  | succ n ih =>
    have e : ns[n]? = some (gt ns n) := some_gt (by omega)
    rw [pairsTo, ih (by omega), List.take_add_one, e]
    exact (inv_snoc _ _).symm
theorem pairs_inv (ns : List Int) : pairsTo ns ns.length = inv ns := by rw [pairsTo_inv ns _ (Nat.le_refl _), List.take_length]
theorem cGt_take (ns : List Int) (j : Nat) (x : Int) (h : j < ns.length) : cGt (ns.take (j + 1)) x = cGt (ns.take j) x + if x < gt ns j then 1 else 0 := by
  have e : ns[j]? = some (gt ns j) := some_gt h
  rw [List.take_add_one, e, cGt_append]
  congr 1
  unfold cGt
  by_cases q : x < gt ns j <;> simp [q]
def IsRow (ns : List Int) : Prop := ns.length ≤ 12 ∧ ∀ v, v ∈ ns → 0 ≤ v ∧ v ≤ 99
theorem IsRow.srt {ns : List Int} (h : IsRow ns) : IsRow (srt ns) := ⟨by rw [(srt_perm ns).length_eq]; exact h.1, fun v hv => h.2 v ((srt_perm ns).mem_iff.mp hv)⟩
theorem IsRow.rev {ns : List Int} (h : IsRow ns) : IsRow ns.reverse := ⟨by rw [List.length_reverse]; exact h.1, fun v hv => h.2 v (List.mem_reverse.mp hv)⟩
end Sh
namespace Sh
def nxt (n : Int) : Int := let s := (n + 7919) % 2147483647; (s * s + 48271 * s + 12345) % 2147483629
theorem kinds_ok (z : Int) : 0 < gt [100, 5, 2, 12] (z % 4).toNat ∧ gt [100, 5, 2, 12] (z % 4).toNat ≤ 100 := by
  have h0 : 0 ≤ z % 4 := Int.emod_nonneg _ (by decide)
  have h1 : z % 4 < 4 := Int.emod_lt_of_pos _ (by decide)
  generalize (z % 4) = y at *
  obtain ⟨n, rfl⟩ : ∃ n : Nat, y = n := ⟨y.toNat, (Int.toNat_of_nonneg h0).symm⟩
  rw [Int.toNat_natCast]
  have : n = 0 ∨ n = 1 ∨ n = 2 ∨ n = 3 := by omega
  rcases this with rfl | rfl | rfl | rfl <;> decide
end Sh
namespace Sh
/-! ### falls -/
def fallsTo (ns : List Int) (n : Nat) : List Int := ((List.range n).filter fun i => decide (gt ns (1 + i) < gt ns i)).map fun i : Nat => 1 + (i : Int)
def fallsL (ns : List Int) : List Int := fallsTo ns (ns.length - 1)
theorem fallsTo_succ (ns : List Int) (n : Nat) : fallsTo ns (n + 1) = fallsTo ns n ++ if gt ns (1 + n) < gt ns n then [1 + (n : Int)] else [] := by
  unfold fallsTo
  rw [List.range_succ, List.filter_append, List.map_append]
  congr 1
  by_cases h : gt ns (1 + n) < gt ns n <;> simp [h]
theorem fallsTo_len (ns : List Int) (n : Nat) : (fallsTo ns n).length ≤ n := by
  unfold fallsTo
  rw [List.length_map]
  exact Nat.le_trans (List.length_filter_le _ _) (by rw [List.length_range]; exact Nat.le_refl _)
end Sh
namespace Sh
theorem gt_set (l : List Int) (i j : Nat) (v : Int) (h : i < l.length) : gt (l.set i v) j = if i = j then v else gt l j := by
  unfold gt
  rw [List.getD_eq_getElem?_getD, List.getD_eq_getElem?_getD]
  by_cases e : i = j
  · subst e
    rw [List.getElem?_set_self h, if_pos rfl] <;> rfl
  · rw [List.getElem?_set_ne e, if_neg e]
theorem gtl (l : List Int) (i : Nat) (v : Int) : (il l).set i (.int v) = il (l.set i v) := by unfold il; rw [List.map_set]
end Sh
namespace Sh
theorem gt_snoc (l : List Int) (x : Int) (k : Nat) : gt (l ++ [x]) k = if k = l.length then x else gt l k := by
  unfold gt
  rw [List.getD_eq_getElem?_getD, List.getD_eq_getElem?_getD]
  by_cases e : k = l.length
  · subst e
    rw [if_pos rfl, List.getElem?_append_right (Nat.le_refl _), Nat.sub_self] <;> rfl
  · rw [if_neg e]
    by_cases h : k < l.length
    · rw [List.getElem?_append_left h]
    · rw [List.getElem?_eq_none (by rw [List.length_append, List.length_singleton]; omega), List.getElem?_eq_none (by omega)]
end Sh
namespace Sh
/-! ### rows with each number once -/
def rngI (n : Nat) : List Int := (List.range n).map fun i : Nat => (i : Int)
theorem rngI_len (n : Nat) : (rngI n).length = n := by unfold rngI; rw [List.length_map, List.length_range]
theorem rngI_succ (n : Nat) : rngI (n + 1) = rngI n ++ [(n : Int)] := by unfold rngI; rw [List.range_succ, List.map_append]; rfl
theorem mem_rngI {n : Nat} {x : Int} : x ∈ rngI n ↔ 0 ≤ x ∧ x < n := by
  unfold rngI
  rw [List.mem_map]
  constructor
  · rintro ⟨i, hi, rfl⟩
    have := List.mem_range.mp hi
    omega
  · intro h
    exact ⟨x.toNat, List.mem_range.mpr (by omega), by omega⟩
theorem rngI_sorted (n : Nat) : (rngI n).Pairwise (· ≤ ·) := by
  induction n with
  | zero => exact List.Pairwise.nil
  | succ n ih =>
    rw [rngI_succ, List.pairwise_append]
    refine ⟨ih, List.pairwise_singleton _ _, fun x hx y hy => ?_⟩
    rw [List.mem_singleton.mp hy]
    have := mem_rngI.mp hx
    omega
theorem rngI_nodup (n : Nat) : (rngI n).Nodup := by
  induction n with
  | zero => exact List.nodup_nil
  | succ n ih =>
    rw [rngI_succ, List.nodup_append]
    refine ⟨ih, List.nodup_cons.mpr ⟨by simp, List.nodup_nil⟩, fun x hx y hy => ?_⟩
    rw [List.mem_singleton.mp hy]
    have := mem_rngI.mp hx
    omega
theorem nodup_len : ∀ (n : Nat) (l : List Int), l.Nodup → (∀ x, x ∈ l → 0 ≤ x ∧ x < n) → l.length ≤ n := by
  intro n
  induction n with
  | zero =>
    intro l _ h
    cases l with
    | nil => exact Nat.le_refl _
    | cons x l => have := h x List.mem_cons_self; omega
  | succ n ih =>
    intro l nd h
    by_cases hm : (n : Int) ∈ l
    · have q := ih (l.erase (n : Int)) (nd.erase _) fun x hx => by
        have hx2 := (List.Nodup.mem_erase_iff nd).mp hx
        have := h x hx2.2
        have := hx2.1
        omega
      rw [List.length_erase_of_mem hm] at q
      omega
    · have q := ih l nd fun x hx => by
        have := h x hx
        have : x ≠ n := fun e => hm (e ▸ hx)
        omega
      omega
theorem perm_rng : ∀ (n : Nat) (l : List Int), l.Nodup → (∀ x, x ∈ l → 0 ≤ x ∧ x < n) → l.length = n → l.Perm (rngI n) := by
  intro n
  induction n with
  | zero =>
    intro l _ _ h
    rw [List.length_eq_zero_iff.mp h]
    exact List.Perm.nil
  | succ n ih =>
    intro l nd h hl
    have hm : (n : Int) ∈ l := Decidable.byContradiction fun hm => by
      have q := nodup_len n l nd fun x hx => by
        have := h x hx
        have : x ≠ n := fun e => hm (e ▸ hx)
        omega
      omega
    have q := ih (l.erase (n : Int)) (nd.erase _) (fun x hx => by
        have hx2 := (List.Nodup.mem_erase_iff nd).mp hx
        have := h x hx2.2
        have := hx2.1
        omega) (by rw [List.length_erase_of_mem hm]; omega)
    rw [rngI_succ]
    exact (List.perm_cons_erase hm).trans ((q.cons _).trans (List.perm_append_comm (l₁ := [(n : Int)])))
def IsFull (row : List Int) : Prop := row.length ≤ 12 ∧ row.Perm (rngI row.length)
theorem IsFull.nodup {row : List Int} (h : IsFull row) : row.Nodup := h.2.nodup_iff.mpr (rngI_nodup _)
theorem IsFull.mem {row : List Int} (h : IsFull row) {x : Int} : x ∈ row ↔ 0 ≤ x ∧ x < row.length := by rw [h.2.mem_iff, mem_rngI]
theorem IsFull.row {row : List Int} (h : IsFull row) : IsRow row := ⟨h.1, fun v hv => by have := h.mem.mp hv; have := h.1; omega⟩
theorem IsFull.srt {row : List Int} (h : IsFull row) : srt row = rngI row.length := (srt_eq (h.2.symm) (rngI_sorted _)).symm
theorem full_of_srt {row : List Int} (hl : row.length ≤ 12) (h : Sh.srt row = rngI row.length) : IsFull row := ⟨hl, h ▸ (srt_perm row).symm⟩
theorem full_of {row : List Int} (hl : row.length ≤ 12) (nd : row.Nodup) (h : ∀ x, x ∈ row → 0 ≤ x ∧ x < row.length) : IsFull row := ⟨hl, perm_rng _ _ nd h rfl⟩
theorem IsFull.perm {row other : List Int} (h : IsFull row) (p : other.Perm row) : IsFull other := ⟨by rw [p.length_eq]; exact h.1, by rw [p.length_eq]; exact p.trans h.2⟩
/-! ### counting by places -/
theorem map_gt (ns : List Int) : (List.range ns.length).map (gt ns) = ns := by
  refine List.ext_getElem? fun i => ?_
  rw [List.getElem?_map]
  by_cases h : i < ns.length
  · rw [List.getElem?_range h, some_gt h] <;> rfl
  · rw [List.getElem?_eq_none (by rw [List.length_range]; omega), List.getElem?_eq_none (by omega)] <;> rfl
theorem map_gt_take (ns : List Int) (n : Nat) (h : n ≤ ns.length) : (List.range n).map (gt ns) = ns.take n := by
  refine List.ext_getElem? fun i => ?_
  rw [List.getElem?_map, List.getElem?_take]
  by_cases hi : i < n
  · rw [List.getElem?_range hi, if_pos hi, some_gt (by omega)] <;> rfl
  · rw [List.getElem?_eq_none (by rw [List.length_range]; omega), if_neg hi] <;> rfl
theorem filter_gt (ns : List Int) (n : Nat) (h : n ≤ ns.length) (f : Int → Bool) : ((ns.take n).filter f).length = ((List.range n).filter fun i => f (gt ns i)).length := by
  rw [← map_gt_take ns n h, List.filter_map, List.length_map]
  rfl
theorem inv_by {a b : List Int} (hl : a.length = b.length) (h : ∀ i j, i < j → j < a.length → (gt b j < gt b i ↔ gt a j < gt a i)) : inv a = inv b := by
  rw [← pairs_inv, ← pairs_inv, ← hl]
  have : ∀ n, n ≤ a.length → pairsTo a n = pairsTo b n := by
    intro n
    induction n with
    | zero => intro _; rfl
    | succ n ih =>
      intro hn
      rw [pairsTo, pairsTo, ih (by omega)]
      congr 1
      unfold cGt
      rw [filter_gt a n (by omega), filter_gt b n (by omega)]
      congr 1
      refine List.filter_congr fun i hi => ?_
      have hi := List.mem_range.mp hi
      rw [decide_eq_decide]
      exact (h i n hi (by omega)).symm
  exact this _ (Nat.le_refl _)
theorem falls_by {a b : List Int} (hl : a.length = b.length) (h : ∀ i j, i < j → j < a.length → (gt b j < gt b i ↔ gt a j < gt a i)) : fallsL a = fallsL b := by
  unfold fallsL fallsTo
  rw [← hl]
  congr 1
  refine List.filter_congr fun i hi => ?_
  have hi := List.mem_range.mp hi
  rw [decide_eq_decide]
  exact (h i (1 + i) (by omega) (by omega)).symm
end Sh
namespace Sh
theorem perm_pop : ∀ {l : List Int} {k : Nat}, k < l.length → (gt l k :: l.eraseIdx k).Perm l
  | x :: l, 0, _ => List.Perm.refl _
  | x :: l, k + 1, h => (List.Perm.swap x (gt l k) _).trans ((perm_pop (l := l) (k := k) (by simp only [List.length_cons] at h; omega)).cons x)
theorem il_erase (l : List Int) (k : Nat) : il (l.eraseIdx k) = (il l).eraseIdx k := by
  unfold il
  rw [List.eraseIdx_eq_take_drop_succ, List.eraseIdx_eq_take_drop_succ, List.map_append, List.map_take, List.map_drop]
/-! ### the inverse -/
def invL (row : List Int) : List Int := (List.range row.length).map fun i : Nat => (row.idxOf (i : Int) : Int)
theorem invL_len (row : List Int) : (invL row).length = row.length := by unfold invL; rw [List.length_map, List.length_range]
theorem invL_gt (row : List Int) {v : Nat} (h : v < row.length) : gt (invL row) v = row.idxOf (v : Int) := by
  refine gt_some ?_
  unfold invL
  rw [List.getElem?_map, List.getElem?_range h] <;> rfl
theorem gt_idx {row : List Int} {x : Int} (h : x ∈ row) : gt row (row.idxOf x) = x := by
  have hlt := List.idxOf_lt_length_iff.mpr h
  refine gt_some ?_
  rw [List.getElem?_eq_getElem hlt, List.getElem_idxOf]
theorem gt_mem {row : List Int} {k : Nat} (h : k < row.length) : gt row k ∈ row := List.mem_of_getElem? (some_gt h)
theorem gt_inj {row : List Int} (nd : row.Nodup) {i j : Nat} (hi : i < row.length) (hj : j < row.length) (h : gt row i = gt row j) : i = j := by
  refine (List.getElem?_inj hi nd).mp ?_
  rw [some_gt hi, some_gt hj, h]
theorem idx_gt {row : List Int} (nd : row.Nodup) {k : Nat} (h : k < row.length) : row.idxOf (gt row k) = k :=
  gt_inj nd (List.idxOf_lt_length_iff.mpr (gt_mem h)) h (gt_idx (gt_mem h))
theorem ext_gt {a b : List Int} (hl : a.length = b.length) (h : ∀ i, i < a.length → gt a i = gt b i) : a = b := by
  refine List.ext_getElem? fun i => ?_
  by_cases hi : i < a.length
  · rw [some_gt hi, some_gt (by omega), h i hi]
  · rw [List.getElem?_eq_none (by omega), List.getElem?_eq_none (by omega)]
theorem nodup_gt {l : List Int} (h : ∀ i j, i < j → j < l.length → gt l i ≠ gt l j) : l.Nodup := by
  refine List.pairwise_iff_getElem.mpr fun i j hi hj hij => ?_
  have e1 := some_gt hi
  have e2 := some_gt hj
  rw [List.getElem?_eq_getElem hi] at e1
  rw [List.getElem?_eq_getElem hj] at e2
  rw [Option.some.inj e1, Option.some.inj e2]
  exact h i j hij hj
theorem IsFull.at {row : List Int} (h : IsFull row) {k : Nat} (hk : k < row.length) : 0 ≤ gt row k ∧ gt row k < row.length := h.mem.mp (gt_mem hk)
theorem IsFull.has {row : List Int} (h : IsFull row) {v : Nat} (hv : v < row.length) : (v : Int) ∈ row := h.mem.mpr ⟨by omega, by omega⟩
theorem IsFull.idx {row : List Int} (h : IsFull row) {v : Nat} (hv : v < row.length) : row.idxOf (v : Int) < row.length := List.idxOf_lt_length_iff.mpr (h.has hv)
theorem due_inv {row due : List Int} (h : IsFull row) (hl : due.length = row.length) (hd : ∀ k, k < row.length → gt due (gt row k).toNat = k) : due = invL row := by
  refine ext_gt (by rw [invL_len, hl]) fun v hv => ?_
  rw [hl] at hv
  rw [invL_gt row hv]
  have q := hd _ (h.idx hv)
  rw [gt_idx (h.has hv), Int.toNat_natCast] at q
  exact q
theorem invL_full {row : List Int} (h : IsFull row) : IsFull (invL row) := by
  have hl := invL_len row
  refine full_of (by rw [hl]; exact h.1) (nodup_gt fun i j hij hj => ?_) fun x hx => ?_
  · rw [hl] at hj
    rw [invL_gt row hj, invL_gt row (by omega : i < row.length)]
    intro e
    have := gt_idx (h.has hj)
    rw [← Int.ofNat_inj.mp e, gt_idx (h.has (by omega : i < row.length))] at this
    omega
  · unfold invL at hx
    obtain ⟨i, hi, rfl⟩ := List.mem_map.mp hx
    have := h.idx (List.mem_range.mp hi)
    rw [hl]
    omega
end Sh
namespace Sh
theorem drop_gt {l : List Int} {k : Nat} (h : k < l.length) : l.drop k = gt l k :: l.drop (k + 1) := by
  have := some_gt h
  rw [List.getElem?_eq_getElem h] at this
  rw [List.drop_eq_getElem_cons h, Option.some.inj this]
end Sh
namespace Sh
/-! ### lists as sums of powers -/
def evq : List Int → Int → Int
  | [], _ => 0
  | a :: p, q => a + q * evq p q
def addAt (l : List Int) (k : Nat) (v : Int) : List Int := l.set k (gt l k + v)
/-- n steps: f k is added at place s + k -/
def addF (l : List Int) (f : Nat → Int) (s : Nat) : Nat → List Int
  | 0 => l
  | n + 1 => addAt (addF l f s n) (s + n) (f n)
def zeros (n : Nat) : List Int := List.replicate n 0
def togN (one other : List Int) (s : Nat) : Nat := max one.length (other.length + s)
def togetherL (one other : List Int) (s : Nat) : List Int := addF (addF (zeros (togN one other s)) (gt one) 0 one.length) (gt other) s other.length
def prodTo (one other l : List Int) : Nat → List Int
  | 0 => l
  | j + 1 => addF (prodTo one other l j) (fun k => gt one j * gt other k) j other.length
def productL (one other : List Int) : List Int := prodTo one other (zeros (one.length + other.length - 1)) one.length
def Gm : Nat → Nat → List Int
  | 0, _ => [1]
  | _ + 1, 0 => [1]
  | m + 1, n + 1 => togetherL (Gm (m + 1) n) (Gm m (n + 1)) (n + 1)
def sprTo : List Int → Nat → List Int → List Int
  | found, _, [] => found
  | found, met, a :: l => sprTo (productL found (Gm met a.toNat)) (met + a.toNat) l
def spreadL (am : List Int) : List Int := sprTo [1] 0 am
/-! lengths -/
theorem addAt_len (l : List Int) (k : Nat) (v : Int) : (addAt l k v).length = l.length := List.length_set ..
theorem addF_len (l : List Int) (f : Nat → Int) (s n : Nat) : (addF l f s n).length = l.length := by
  induction n with
  | zero => rfl
  | succ n ih => rw [addF, addAt_len, ih]
theorem zeros_len (n : Nat) : (zeros n).length = n := List.length_replicate ..
theorem tog_len (one other : List Int) (s : Nat) : (togetherL one other s).length = togN one other s := by unfold togetherL; rw [addF_len, addF_len, zeros_len]
theorem prodTo_len (one other l : List Int) (n : Nat) : (prodTo one other l n).length = l.length := by
  induction n with
  | zero => rfl
  | succ n ih => rw [prodTo, addF_len, ih]
theorem prod_len (one other : List Int) : (productL one other).length = one.length + other.length - 1 := by unfold productL; rw [prodTo_len, zeros_len]
theorem Gm_len : ∀ m n : Nat, (Gm m n).length = m * n + 1
  | 0, n => by rw [Gm, Nat.zero_mul] <;> rfl
  | m + 1, 0 => by rw [Gm, Nat.mul_zero] <;> rfl
  | m + 1, n + 1 => by
    rw [Gm, tog_len, togN, Gm_len (m + 1) n, Gm_len m (n + 1)]
    have e1 : (m + 1) * (n + 1) = (m + 1) * n + (m + 1) := Nat.mul_succ _ _
    have e2 : (m + 1) * (n + 1) = m * (n + 1) + (n + 1) := Nat.succ_mul _ _
    omega
/-! what they come to -/
theorem evq_zeros (n : Nat) (q : Int) : evq (zeros n) q = 0 := by
  induction n with
  | zero => rfl
  | succ n ih =>
    show 0 + q * evq (zeros n) q = 0
    rw [ih, Int.mul_zero] <;> rfl
theorem evq_addAt : ∀ (l : List Int) (k : Nat) (v q : Int), k < l.length → evq (addAt l k v) q = evq l q + v * q ^ k
  | [], k, v, q, h => by cases h
  | a :: l, 0, v, q, _ => by
    show (gt (a :: l) 0 + v) + q * evq l q = a + q * evq l q + v * q ^ 0
    have : gt (a :: l) 0 = a := rfl
    rw [this, Int.pow_zero, Int.mul_one]
    omega
  | a :: l, k + 1, v, q, h => by
    have ih := evq_addAt l k v q (Nat.lt_of_succ_lt_succ h)
    have e : addAt (a :: l) (k + 1) v = a :: addAt l k v := rfl
    rw [e, evq, evq, ih, Int.pow_succ, Int.mul_add]
    have : q * (v * q ^ k) = v * (q ^ k * q) := by rw [Int.mul_left_comm, Int.mul_comm q]
    omega
def sumTo (f : Nat → Int) : Nat → Int
  | 0 => 0
  | n + 1 => sumTo f n + f n
theorem evq_addF (l : List Int) (f : Nat → Int) (s n : Nat) (q : Int) (h : s + n ≤ l.length) : evq (addF l f s n) q = evq l q + q ^ s * sumTo (fun k => f k * q ^ k) n := by
  induction n with
  | zero => rw [addF, sumTo, Int.mul_zero, Int.add_zero]
  | succ n ih =>
    rw [addF, evq_addAt _ _ _ _ (by rw [addF_len]; omega), ih (by omega), sumTo, Int.mul_add, Int.pow_add]
    have : f n * (q ^ s * q ^ n) = q ^ s * (f n * q ^ n) := by rw [Int.mul_left_comm]
    omega
theorem sumTo_congr {f g : Nat → Int} {n : Nat} (h : ∀ k, k < n → f k = g k) : sumTo f n = sumTo g n := by
  induction n with
  | zero => rfl
  | succ n ih => rw [sumTo, sumTo, ih fun k hk => h k (by omega), h n (by omega)]
theorem sumTo_mul (c : Int) (f : Nat → Int) (n : Nat) : sumTo (fun k => c * f k) n = c * sumTo f n := by
  induction n with
  | zero => rw [sumTo, sumTo, Int.mul_zero]
  | succ n ih => rw [sumTo, sumTo, ih, Int.mul_add]
theorem sumTo_shift (f : Nat → Int) (n : Nat) : sumTo f (n + 1) = f 0 + sumTo (fun k => f (k + 1)) n := by
  induction n with
  | zero => show 0 + f 0 = f 0 + 0; omega
  | succ n ih => rw [sumTo, ih, sumTo]; omega
theorem evq_sum : ∀ (l : List Int) (q : Int), sumTo (fun k => gt l k * q ^ k) l.length = evq l q
  | [], q => rfl
  | a :: l, q => by
    show sumTo _ (l.length + 1) = a + q * evq l q
    rw [sumTo_shift, ← evq_sum l q, ← sumTo_mul]
    have e0 : gt (a :: l) 0 * q ^ 0 = a := by rw [Int.pow_zero, Int.mul_one] <;> rfl
    rw [e0]
    congr 1
    refine sumTo_congr fun k _ => ?_
    show gt l k * q ^ (k + 1) = q * (gt l k * q ^ k)
    rw [Int.pow_succ, Int.mul_left_comm q, Int.mul_comm q (q ^ k)]
theorem evq_tog (one other : List Int) (s : Nat) (q : Int) : evq (togetherL one other s) q = evq one q + q ^ s * evq other q := by
  unfold togetherL
  rw [evq_addF _ _ _ _ _ (by rw [addF_len, zeros_len]; unfold togN; omega), evq_addF _ _ _ _ _ (by rw [zeros_len]; unfold togN; omega), evq_zeros, evq_sum, evq_sum, Int.pow_zero, Int.one_mul, Int.zero_add]
theorem evq_prodTo (one other l : List Int) (q : Int) (hl : one.length + other.length - 1 ≤ l.length) (h0 : 0 < other.length) : ∀ n, n ≤ one.length → evq (prodTo one other l n) q = evq l q + sumTo (fun k => gt one k * q ^ k) n * evq other q
  | 0, _ => by rw [prodTo, sumTo, Int.zero_mul, Int.add_zero]
  | n + 1, hn => by
    rw [prodTo, evq_addF _ _ _ _ _ (by rw [prodTo_len]; omega), evq_prodTo one other l q hl h0 n (by omega), sumTo, Int.add_mul]
    have e : sumTo (fun k => gt one n * gt other k * q ^ k) other.length = gt one n * evq other q := by
      rw [← evq_sum, ← sumTo_mul]
      exact sumTo_congr fun k _ => Int.mul_assoc _ _ _
    rw [e, Int.mul_left_comm, ← Int.mul_assoc, Int.add_assoc]
theorem evq_prod (one other : List Int) (q : Int) (h0 : 0 < other.length) : evq (productL one other) q = evq one q * evq other q := by
  unfold productL
  rw [evq_prodTo _ _ _ _ (by rw [zeros_len]; omega) h0 _ (Nat.le_refl _), evq_zeros, evq_sum, Int.zero_add]
/-- two lists of one length that come to the same for each q are the same -/
theorem small_zero {a : Int} (h : ∀ q : Nat, 1 ≤ q → ∃ c : Int, a = (q : Int) * c) : a = 0 := by
  obtain ⟨c, hc⟩ := h (a.natAbs + 1) (by omega)
  by_cases hz : c = 0
  · rw [hc, hz, Int.mul_zero]
  · exfalso
    have h1 : a.natAbs = (a.natAbs + 1) * c.natAbs := by
      have := congrArg Int.natAbs hc
      rw [Int.natAbs_mul, Int.natAbs_natCast] at this
      exact this
    have h2 : 1 ≤ c.natAbs := by omega
    have h3 : (a.natAbs + 1) * 1 ≤ (a.natAbs + 1) * c.natAbs := Nat.mul_le_mul_left _ h2
    omega
theorem evq_inj : ∀ {p r : List Int}, p.length = r.length → (∀ q : Nat, 1 ≤ q → evq p q = evq r q) → p = r
  | [], [], _, _ => rfl
  | [], _ :: _, h, _ => by cases h
  | _ :: _, [], h, _ => by cases h
  | a :: p, b :: r, hl, h => by
    have h' : ∀ q : Nat, 1 ≤ q → a + (q : Int) * evq p q = b + (q : Int) * evq r q := h
    have e : a - b = 0 := small_zero fun q hq => ⟨evq r q - evq p q, by
      have := h' q hq
      rw [Int.mul_sub]
      omega⟩
    have e : a = b := by omega
    subst e
    have := evq_inj (p := p) (r := r) (by simpa using hl) fun q hq => by
      have h2 := h' q hq
      have h3 : (q : Int) * evq p q = (q : Int) * evq r q := by omega
      exact Int.eq_of_mul_eq_mul_left (by omega) h3
    rw [this]
/-! no number below nought, none great -/
def NN (l : List Int) : Prop := ∀ k, 0 ≤ gt l k
theorem addAt_nn {l : List Int} {k : Nat} {v : Int} (h : NN l) (hv : 0 ≤ v) : NN (addAt l k v) := fun j => by
  unfold addAt
  by_cases hk : k < l.length
  · rw [gt_set _ _ _ _ hk]
    have := h k
    have := h j
    split <;> omega
  · rw [List.set_eq_of_length_le (by omega)]
    exact h j
theorem addF_nn {l : List Int} {f : Nat → Int} {s n : Nat} (h : NN l) (hf : ∀ k, 0 ≤ f k) : NN (addF l f s n) := by
  induction n with
  | zero => exact h
  | succ n ih => exact addAt_nn ih (hf n)
theorem zeros_nn (n : Nat) : NN (zeros n) := fun k => by
  unfold gt zeros
  rw [List.getD_eq_getElem?_getD, List.getElem?_replicate]
  split <;> exact Int.le_refl _
theorem one_nn : NN [1] := fun k => by
  cases k with
  | zero => decide
  | succ k => exact Int.le_refl 0
theorem tog_nn {one other : List Int} {s : Nat} (h1 : NN one) (h2 : NN other) : NN (togetherL one other s) := addF_nn (addF_nn (zeros_nn _) h1) h2
theorem Gm_nn : ∀ m n : Nat, NN (Gm m n)
  | 0, n => by rw [Gm]; exact one_nn
  | m + 1, 0 => by rw [Gm]; exact one_nn
  | m + 1, n + 1 => by rw [Gm]; exact tog_nn (Gm_nn (m + 1) n) (Gm_nn m (n + 1))
theorem gt_le_ev : ∀ {l : List Int} (k : Nat), NN l → 0 ≤ evq l 1 ∧ gt l k ≤ evq l 1
  | [], k, _ => ⟨Int.le_refl _, Int.le_refl _⟩
  | a :: l, k, h => by
    have hl : NN l := fun j => h (j + 1)
    have ha : 0 ≤ a := h 0
    rw [evq, Int.one_mul]
    cases k with
    | zero =>
      have := (gt_le_ev 0 hl).1
      exact ⟨by omega, by show a ≤ _; omega⟩
    | succ k =>
      have := gt_le_ev k hl
      exact ⟨by omega, by show gt l k ≤ _; omega⟩
theorem Gm_rec (m n : Nat) (q : Int) : evq (Gm (m + 1) (n + 1)) q = evq (Gm (m + 1) n) q + q ^ (n + 1) * evq (Gm m (n + 1)) q := by rw [Gm, evq_tog]
theorem Gm_zero (n : Nat) (q : Int) : evq (Gm 0 n) q = 1 := by rw [Gm]; show 1 + q * 0 = 1; omega
theorem Gm_zero' (m : Nat) (q : Int) : evq (Gm m 0) q = 1 := by
  cases m with
  | zero => exact Gm_zero 0 q
  | succ m => rw [Gm]; show 1 + q * 0 = 1; omega
theorem two_pos (n : Nat) : (1 : Int) ≤ 2 ^ n := by
  induction n with
  | zero => decide
  | succ n ih => rw [Int.pow_succ]; omega
theorem two_mono {m n : Nat} (h : m ≤ n) : (2 : Int) ^ m ≤ 2 ^ n := by
  induction n with
  | zero => rw [Nat.le_zero.mp h]; exact Int.le_refl _
  | succ n ih =>
    by_cases e : m = n + 1
    · rw [e]; exact Int.le_refl _
    · have := ih (by omega)
      have := two_pos n
      rw [Int.pow_succ]
      omega
theorem Gm_le : ∀ m n : Nat, evq (Gm m n) 1 ≤ 2 ^ (m + n)
  | 0, n => by rw [Gm_zero]; exact two_pos _
  | m + 1, 0 => by rw [Gm_zero']; exact two_pos _
  | m + 1, n + 1 => by
    have h1 := Gm_le (m + 1) n
    have h2 := Gm_le m (n + 1)
    rw [Gm_rec, Int.one_pow, Int.one_mul]
    have e : (2 : Int) ^ (m + 1 + (n + 1)) = 2 ^ (m + 1 + n) * 2 := Int.pow_succ _ _
    have e2 : m + (n + 1) = m + 1 + n := by omega
    rw [e2] at h2
    omega
theorem Gm_small {m n : Nat} (h : m + n ≤ 12) (k : Nat) : 0 ≤ gt (Gm m n) k ∧ gt (Gm m n) k ≤ 4096 := by
  refine ⟨Gm_nn m n k, ?_⟩
  have h1 := (gt_le_ev k (Gm_nn m n)).2
  have h2 := Gm_le m n
  have h3 : (2 : Int) ^ (m + n) ≤ 2 ^ 12 := two_mono h
  have h4 : (2 : Int) ^ 12 = 4096 := by decide
  omega
end Sh
namespace Sh
/-! ### amounts -/
def IsAm (ns : List Int) : Prop := ns.length ≤ 6 ∧ (∀ v, v ∈ ns → 0 ≤ v) ∧ ns.sum ≤ 12
theorem sum_nn : ∀ {ns : List Int}, (∀ v, v ∈ ns → 0 ≤ v) → 0 ≤ ns.sum
  | [], _ => Int.le_refl _
  | x :: ns, h => by
    have h1 := h x List.mem_cons_self
    have h2 := sum_nn (ns := ns) fun v hv => h v (List.mem_cons_of_mem _ hv)
    rw [List.sum_cons]
    omega
theorem mem_le_sum : ∀ {ns : List Int} {x : Int}, (∀ v, v ∈ ns → 0 ≤ v) → x ∈ ns → x ≤ ns.sum
  | [], _, _, h => by cases h
  | y :: ns, x, h, hm => by
    have h1 := h y List.mem_cons_self
    have h2 := sum_nn (ns := ns) fun v hv => h v (List.mem_cons_of_mem _ hv)
    rw [List.sum_cons]
    rcases List.mem_cons.mp hm with e | hm
    · rw [e]; omega
    · have := mem_le_sum (fun v hv => h v (List.mem_cons_of_mem _ hv)) hm
      omega
theorem IsAm.small {ns : List Int} (h : IsAm ns) {v : Int} (hv : v ∈ ns) : 0 ≤ v ∧ v ≤ 12 := ⟨h.2.1 v hv, by have := mem_le_sum h.2.1 hv; have := h.2.2; omega⟩
theorem sum_app (a b : List Int) : (a ++ b).sum = a.sum + b.sum := List.sum_append
theorem sum_take_le {ns : List Int} (h : ∀ v, v ∈ ns → 0 ≤ v) (i : Nat) : 0 ≤ (ns.take i).sum ∧ (ns.take i).sum ≤ ns.sum := by
  have e : ns.take i ++ ns.drop i = ns := List.take_append_drop i ns
  have h1 := sum_nn (ns := ns.take i) fun v hv => h v (List.mem_of_mem_take hv)
  have h2 := sum_nn (ns := ns.drop i) fun v hv => h v (List.mem_of_mem_drop hv)
  have h3 := congrArg List.sum e
  rw [sum_app] at h3
  omega
theorem sum_take_gt {ns : List Int} {i : Nat} (hi : i < ns.length) : (ns.take (i + 1)).sum = (ns.take i).sum + gt ns i := by
  rw [List.take_add_one, some_gt hi, sum_app]
  show _ + (gt ns i + 0) = _
  omega
theorem IsAm.rev {ns : List Int} (h : IsAm ns) : IsAm ns.reverse := ⟨by rw [List.length_reverse]; exact h.1, fun v hv => h.2.1 v (List.mem_reverse.mp hv), by rw [List.sum_reverse]; exact h.2.2⟩
end Sh
namespace Sh
/-! ### all rows of some volumes, counted -/
def nextRows (am : List Int) (row : List Int) : List (List Int) := ((List.range am.length).filter fun k : Nat => decide ((row.count (k : Int) : Int) < gt am k)).map fun k : Nat => row ++ [(k : Int)]
def rowsTo (am : List Int) : Nat → List (List Int)
  | 0 => [[]]
  | n + 1 => (rowsTo am n).flatMap (nextRows am)
def rowsL (am : List Int) : List (List Int) := rowsTo am am.sum.toNat
def mxI : List Int → Int
  | [] => 0
  | x :: l => max x (mxI l)
def cntTo (l : List Int) : List Int → List Int
  | [] => l
  | x :: r => cntTo (addAt l x.toNat 1) r
def countedL (ns : List Int) : List Int := cntTo (zeros ((mxI ns).toNat + 1)) ns
def amsOf : Nat → Nat → List (List Int)
  | 0, _ => [[]]
  | n + 1, r => (List.range (r + 1)).flatMap fun a => (amsOf n (r - a)).map fun l => (a : Int) :: l
theorem mem_ams : ∀ (am : List Int) (r : Nat), (∀ v, v ∈ am → 0 ≤ v) → am.sum ≤ r → am ∈ amsOf am.length r
  | [], _, _, _ => List.mem_cons_self
  | x :: l, r, h0, hs => by
    have hx := h0 x List.mem_cons_self
    have hl : ∀ v, v ∈ l → 0 ≤ v := fun v hv => h0 v (List.mem_cons_of_mem _ hv)
    have hsum : 0 ≤ l.sum := by
      have : ∀ l : List Int, (∀ v, v ∈ l → 0 ≤ v) → 0 ≤ l.sum := by
        intro l
        induction l with
        | nil => intro _; exact Int.le_refl _
        | cons y l ih =>
          intro h
          have h1 := h y List.mem_cons_self
          have h2 := ih fun v hv => h v (List.mem_cons_of_mem _ hv)
          rw [List.sum_cons]
          omega
      exact this l hl
    rw [List.sum_cons] at hs
    show _ ∈ (List.range (r + 1)).flatMap _
    rw [List.mem_flatMap]
    refine ⟨x.toNat, List.mem_range.mpr (by omega), List.mem_map.mpr ⟨l, mem_ams l (r - x.toNat) hl (by omega), ?_⟩⟩
    rw [Int.toNat_of_nonneg hx]
/-! the spread again, by structural recursion (for the kernel) -/
def Gin (f : Nat → List Int) (s : Nat) : Nat → List Int
  | 0 => [1]
  | m + 1 => togetherL (f (m + 1)) (Gin f s m) s
def Gs : Nat → Nat → List Int
  | 0, _ => [1]
  | n + 1, m => Gin (Gs n) (n + 1) m
theorem Gs_eq : ∀ n m : Nat, Gs n m = Gm m n
  | 0, m => by cases m <;> rw [Gm] <;> rfl
  | n + 1, 0 => by rw [Gm]; rfl
  | n + 1, m + 1 => by
    show togetherL (Gs n (m + 1)) (Gin (Gs n) (n + 1) m) (n + 1) = _
    have e : Gin (Gs n) (n + 1) m = Gm m (n + 1) := Gs_eq (n + 1) m
    rw [Gs_eq n (m + 1), e, Gm]
def sprS : List Int → Nat → List Int → List Int
  | found, _, [] => found
  | found, met, a :: l => sprS (productL found (Gs a.toNat met)) (met + a.toNat) l
theorem sprS_eq : ∀ (am found : List Int) (met : Nat), sprS found met am = sprTo found met am
  | [], _, _ => rfl
  | a :: l, found, met => by rw [sprS, sprTo, sprS_eq l, Gs_eq]
def okAm (am : List Int) : Bool := countedL ((rowsL am).map fun r => (inv r : Int)) == sprS [1] 0 am && countedL ((rowsL am).map fun r => (fallsL r).sum) == sprS [1] 0 am && decide ((rowsL am).length ≤ 200) && (rowsL am).all (fun r => decide (r.length ≤ 5) && decide (inv r ≤ 100) && decide (0 ≤ (fallsL r).sum) && decide ((fallsL r).sum ≤ 1000)) && decide (0 < (rowsL am).length)
theorem all_ok : (amsOf 0 5 ++ amsOf 1 5 ++ amsOf 2 5 ++ amsOf 3 5 ++ amsOf 4 5).all okAm = true := by decide +kernel
theorem sprS_spread (am : List Int) : sprS [1] 0 am = spreadL am := sprS_eq am [1] 0
theorem am_ok {am : List Int} (hl : am.length ≤ 4) (h0 : ∀ v, v ∈ am → 0 ≤ v) (hs : am.sum ≤ 5) : okAm am = true := by
  have hm := mem_ams am 5 h0 hs
  refine List.all_eq_true.mp all_ok am ?_
  have : am.length = 0 ∨ am.length = 1 ∨ am.length = 2 ∨ am.length = 3 ∨ am.length = 4 := by omega
  simp only [List.mem_append]
  rcases this with e | e | e | e | e <;> rw [e] at hm <;> simp [hm]
structure AmOk (am : List Int) : Prop where
  pairs : countedL ((rowsL am).map fun r => (inv r : Int)) = spreadL am
  fall : countedL ((rowsL am).map fun r => (fallsL r).sum) = spreadL am
  len : (rowsL am).length ≤ 200
  row : ∀ r, r ∈ rowsL am → r.length ≤ 5 ∧ inv r ≤ 100 ∧ 0 ≤ (fallsL r).sum ∧ (fallsL r).sum ≤ 1000
  pos : 0 < (rowsL am).length
theorem AmOk.of {am : List Int} (h : okAm am = true) : AmOk am := by
  unfold okAm at h
  simp only [Bool.and_eq_true, beq_iff_eq, decide_eq_true_eq, List.all_eq_true] at h
  obtain ⟨⟨⟨⟨h1, h2⟩, h3⟩, h4⟩, h5⟩ := h
  rw [sprS_spread] at h1 h2
  exact ⟨h1, h2, h3, fun r hr => ⟨(h4 r hr).1.1.1, (h4 r hr).1.1.2, (h4 r hr).1.2, (h4 r hr).2⟩, h5⟩
theorem nextRows_len (am row : List Int) : (nextRows am row).length ≤ am.length := by
  unfold nextRows
  rw [List.length_map]
  exact Nat.le_trans (List.length_filter_le _ _) (by rw [List.length_range]; exact Nat.le_refl _)
theorem flat_len (am : List Int) : ∀ rs : List (List Int), (rs.flatMap (nextRows am)).length ≤ rs.length * am.length
  | [] => Nat.zero_le _
  | r :: rs => by
    rw [List.flatMap_cons, List.length_append, List.length_cons, Nat.succ_mul]
    have h1 := nextRows_len am r
    have h2 := flat_len am rs
    omega
theorem rowsTo_len {am : List Int} (h : am.length ≤ 4) : ∀ n, (rowsTo am n).length ≤ 4 ^ n
  | 0 => Nat.le_refl _
  | n + 1 => by
    have h1 := flat_len am (rowsTo am n)
    have h2 := rowsTo_len h n
    have h3 : (rowsTo am n).length * am.length ≤ 4 ^ n * 4 := Nat.mul_le_mul h2 h
    rw [Nat.pow_succ]
    exact Nat.le_trans h1 h3
theorem rowsTo_row {am : List Int} : ∀ (n : Nat) (r : List Int), r ∈ rowsTo am n → r.length = n
  | 0, r, h => by rw [List.mem_singleton.mp h]; rfl
  | n + 1, r, h => by
    obtain ⟨r', h1, h2⟩ := List.mem_flatMap.mp h
    obtain ⟨k, _, rfl⟩ := List.mem_map.mp h2
    rw [List.length_append, rowsTo_row n r' h1]
    rfl
theorem mxI_ge : ∀ {l : List Int} {x : Int}, x ∈ l → x ≤ mxI l
  | y :: l, x, h => by
    show x ≤ max y (mxI l)
    rcases List.mem_cons.mp h with e | h
    · rw [e]; omega
    · have := mxI_ge h
      omega
theorem mxI_le : ∀ {l : List Int} {m : Int}, 0 ≤ m → (∀ y, y ∈ l → y ≤ m) → mxI l ≤ m
  | [], _, h, _ => h
  | y :: l, m, h, hy => by
    have h1 := hy y List.mem_cons_self
    have h2 := mxI_le h fun z hz => hy z (List.mem_cons_of_mem _ hz)
    show max y (mxI l) ≤ m
    omega
theorem cntTo_len : ∀ (l r : List Int), (cntTo l r).length = l.length
  | l, [] => rfl
  | l, x :: r => by rw [cntTo, cntTo_len, addAt_len]
end Sh
namespace Sh
open PySem PySem.Spec PyProof.Rows L2 Evl
/-! ### short ways: "sq" a list that stands, "e" what an expression is worth, "t" a test -/
local macro_rules | `(tactic| walk_at "sq") => `(tactic| first
  | assumption
  | exact Own.arg (by assumption) (by assumption)
  | exact Own.seq (by assumption) 0 rfl
  | exact Own.seq (by assumption) 1 rfl
  | exact Own.seq (by assumption) 2 rfl
  | exact Own.seq (by assumption) 3 rfl
  | exact ex_l (by assumption) (by assumption)
  | exact ex_l (by assumption) (Own.arg (by assumption) (by assumption))
  | exact ex_l (by assumption) (Own.seq (by assumption) 0 rfl)
  | exact ex_l (by assumption) (Own.seq (by assumption) 1 rfl)
  | exact ex_l (by assumption) (Own.seq (by assumption) 2 rfl)
  | exact ex_l (by assumption) (Own.seq (by assumption) 3 rfl))
local macro_rules | `(tactic| walk_at "s") => `(tactic| first | assumption | omega | (constructor <;> omega) | decide | exact ⟨by decide, by decide⟩ | exact .inl ⟨by omega, by omega⟩ | exact .inr ⟨by omega, by omega⟩)
local macro_rules | `(tactic| walk_at "e") => `(tactic| first
  | with_reducible exact ev_c
  | ((with_reducible refine' ev_var ?h); (case h => rfl))
  | ((with_reducible refine' ev_op ?h ?h2 rv_I0); (case h => walk_at "e"); (case h2 => walk_at "e"))
  | ((with_reducible refine' ev_op ?h ?h2 (rv_I ?h3)); (case h => walk_at "e"); (case h2 => walk_at "e"); (case h3 => walk_at "s"))
  | ((with_reducible refine' ev_op ?h ?h2 rv_eqI); (case h => walk_at "e"); (case h2 => walk_at "e"))
  | ((with_reducible refine' ev_op ?h ?h2 rv_neI); (case h => walk_at "e"); (case h2 => walk_at "e"))
  | ((with_reducible refine' ev_op ?h ?h2 (rv_eqL ?h3 ?h4)); (case h => walk_at "e"); (case h2 => walk_at "e"); (case h3 => walk_at "sq"); (case h4 => walk_at "sq"))
  | ((with_reducible refine' ev_op ?h ?h2 (rv_neL ?h3 ?h4)); (case h => walk_at "e"); (case h2 => walk_at "e"); (case h3 => walk_at "sq"); (case h4 => walk_at "sq"))
  | ((with_reducible refine' ev_un ?h ru_neg); (case h => walk_at "e"))
  | ((with_reducible refine' ev_ix ?h ?h2 ?h3 ?h4); (case h => walk_at "e"); (case h2 => walk_at "sq"); (case h3 => walk_at "e"); (case h4 => walk_at "s"))
  | ((with_reducible refine' ev_ixz ?h ?h2 ?h3 ?h4); (case h => walk_at "e"); (case h2 => walk_at "sq"); (case h3 => walk_at "e"); (case h4 => walk_at "s"))
  | ((with_reducible refine' ev_lenI ?h ?h2); (case h => walk_at "e"); (case h2 => walk_at "sq"))
  | ((with_reducible refine' ev_sum ?h ?h2); (case h => walk_at "e"); (case h2 => walk_at "sq"))
  | ((with_reducible refine' ev_chain ?h ?h2 rv_I0 ?h3 rv_I0); (case h => walk_at "e"); (case h2 => walk_at "e"); (case h3 => walk_at "e"))
  | ((with_reducible refine' ev_andV ?h ?h2); (case h => walk_at "e"); (case h2 => intro _; (walk_at "e")))
  | ((with_reducible refine' ev_orV ?h ?h2); (case h => walk_at "e"); (case h2 => intro _; (walk_at "e")))
  | ((with_reducible refine' ev_notV ?h); (case h => walk_at "e"))
  | walk_at "c")
local macro_rules | `(tactic| walk_at "t") => `(tactic| first
  | ((with_reducible refine' et_test ?h); (case h => walk_at "e"))
  | ((with_reducible refine' et_B ?h); (case h => walk_at "e"))
  | ((with_reducible refine' et_not ?h); (case h => walk_at "t"))
  | ((with_reducible refine' et_and ?h ?h2); (case h => walk_at "t"); (case h2 => intro _; (walk_at "t")))
  | ((with_reducible refine' et_or ?h ?h2); (case h => walk_at "t"); (case h2 => intro _; (walk_at "t")))
  | with_reducible exact et_yes)
local macro_rules | `(tactic| walk_at "a") => `(tactic| first
  | with_reducible exact ea_nil
  | ((with_reducible refine' ea_cons ?h ?h2); (case h => walk_at "e"); (case h2 => walk_at "a")))
local macro_rules | `(tactic| walk_at "if") => `(tactic| first
  | ((with_reducible refine' qWH (by assumption) ?h ?_ ?_); (case h => walk_at "t"))
  | ((with_reducible refine' WH (by assumption) ?h ?_ ?_); (case h => walk_at "t"))
  | ((with_reducible refine' qIF (by assumption) ?h ?_ ?_); (case h => walk_at "t"))
  | ((with_reducible refine' IF (by assumption) ?h ?_ ?_); (case h => walk_at "t")))
local macro_rules | `(tactic| walk_at "set") => `(tactic| first
  | ((with_reducible refine' qAS (by assumption) ?h ?_); (case h => walk_at "e"))
  | ((with_reducible refine' AS (by assumption) ?h ?_); (case h => walk_at "e")))
local macro_rules | `(tactic| walk_at "ret") => `(tactic| ((with_reducible refine' RT (by assumption) ?h ?_); (case h => walk_at "e")))
/-! ### the text -/
def topS (i : Nat) : Stmt := PySem.Challenge.pw_shelfway_k18_whole_spread.main.body.getD i (.Pass ⟨0, 0, 0, 0⟩)
abbrev s_law_cell_at : Stmt := topS 12
theorem sc_law_cell_at : FnScope ["script", "k"] ["script", "k"] (defScope s_law_cell_at) := ⟨rfl, rfl, rfl, by decide +kernel, rfl, by decide +kernel, by decide +kernel⟩
abbrev s_law_next : Stmt := topS 14
theorem sc_law_next : FnScope ["seed"] ["seed"] (defScope s_law_next) := ⟨rfl, rfl, rfl, by decide +kernel, rfl, by decide +kernel, by decide +kernel⟩
abbrev s_law_amounts : Stmt := topS 18
theorem sc_law_amounts : FnScope ["script", "kinds", "most", "amounts", "k"] ["script", "kinds", "most"] (defScope s_law_amounts) := ⟨rfl, rfl, rfl, by decide +kernel, rfl, by decide +kernel, by decide +kernel⟩
abbrev s_law_all_rows : Stmt := topS 19
theorem sc_law_all_rows : FnScope ["amounts", "found", "turn", "longer", "row", "kind"] ["amounts"] (defScope s_law_all_rows) := ⟨rfl, rfl, rfl, by decide +kernel, rfl, by decide +kernel, by decide +kernel⟩
abbrev s_asked_amounts : Stmt := topS 6
theorem sc_asked_amounts : FnScope ["amounts", "amount"] ["amounts"] (defScope s_asked_amounts) := ⟨rfl, rfl, rfl, by decide +kernel, rfl, by decide +kernel, by decide +kernel⟩
abbrev s_product : Stmt := topS 8
theorem sc_product : FnScope ["one", "other", "k", "found", "j"] ["one", "other"] (defScope s_product) := ⟨rfl, rfl, rfl, by decide +kernel, rfl, by decide +kernel, by decide +kernel⟩
abbrev s_together : Stmt := topS 7
theorem sc_together : FnScope ["one", "other", "shift", "k", "found"] ["one", "other", "shift"] (defScope s_together) := ⟨rfl, rfl, rfl, by decide +kernel, rfl, by decide +kernel, by decide +kernel⟩
abbrev s_two_kinds : Stmt := topS 9
theorem sc_two_kinds : FnScope ["less", "greater", "k", "table", "many"] ["less", "greater"] (defScope s_two_kinds) := ⟨rfl, rfl, rfl, by decide +kernel, rfl, by decide +kernel, by decide +kernel⟩
abbrev s_spread : Stmt := topS 10
theorem sc_spread : FnScope ["amounts", "found", "met", "amount"] ["amounts"] (defScope s_spread) := ⟨rfl, rfl, rfl, by decide +kernel, rfl, by decide +kernel, by decide +kernel⟩
abbrev s_law_counted : Stmt := topS 20
theorem sc_law_counted : FnScope ["numbers", "found", "number", "k"] ["numbers"] (defScope s_law_counted) := ⟨rfl, rfl, rfl, by decide +kernel, rfl, by decide +kernel, by decide +kernel⟩
abbrev s_law_pairs : Stmt := topS 15
theorem sc_law_pairs : FnScope ["row", "many", "later", "earlier"] ["row"] (defScope s_law_pairs) := ⟨rfl, rfl, rfl, by decide +kernel, rfl, by decide +kernel, by decide +kernel⟩
abbrev s_law_whole : Stmt := topS 13
theorem sc_law_whole : FnScope ["found"] ["found"] (defScope s_law_whole) := ⟨rfl, rfl, rfl, by decide +kernel, rfl, by decide +kernel, by decide +kernel⟩
abbrev s_law_alike : Stmt := topS 17
theorem sc_law_alike : FnScope ["found", "due", "k"] ["found", "due"] (defScope s_law_alike) := ⟨rfl, rfl, rfl, by decide +kernel, rfl, by decide +kernel, by decide +kernel⟩
abbrev s_law_falls : Stmt := topS 16
theorem sc_law_falls : FnScope ["row", "found", "place"] ["row"] (defScope s_law_falls) := ⟨rfl, rfl, rfl, by decide +kernel, rfl, by decide +kernel, by decide +kernel⟩
abbrev s_law : Stmt := topS 21
theorem sc_law : FnScope ["script", "amounts", "rows", "handed", "found", "due", "row"] ["script"] (defScope s_law) := ⟨rfl, rfl, rfl, by decide +kernel, rfl, by decide +kernel, by decide +kernel⟩
structure Bi (mg : Str → Option Value) : Prop where
  b_bool : mg "bool" = none
  b_int : mg "int" = none
  b_isinstance : mg "isinstance" = none
  b_len : mg "len" = none
  b_list : mg "list" = none
  b_max : mg "max" = none
  b_range : mg "range" = none
  b_reversed : mg "reversed" = none
  b_sum : mg "sum" = none
  c_MOST : ∃ t, mg "MOST" = some (.int 12 t)
  c_MOST_KINDS : ∃ t, mg "MOST_KINDS" = some (.int 6 t)
section
variable {P : Program} {w : World} {K : PySem.W.Frag} {mg : Str → Option Value} {base : Heap}
/-! #### _law_cell_at -/
def sp_law_cell_at (K : PySem.W.Frag) : Sp := fun vs H Q _ => ∃ (a : Addr) (ns : List Int) (z : Int), vs = [.ref a, .int z] ∧ SqL K H a (il ns) ∧ 0 ≤ z ∧ RetV (.int (gt ns z.toNat)) H Q
theorem ec_law_cell_at {σ : L2.St} {H : Hp} {ta tb : TE} {a : Addr} {ns : List Int} {z : Int} {E : XK} (h1 : Ev ta σ H (.ref a)) (hx : SqL K H a (il ns)) (h2 : Ev tb σ H (.int z)) (hz : 0 ≤ z) :
    Ev (tCall (sp_law_cell_at K) [] E (tCons ta (tCons tb tNil))) σ H (.int (gt ns z.toNat)) :=
  ev_call (ea_cons h1 (ea_cons h2 ea_nil)) fun H1 e Q q _ => ⟨a, ns, z, rfl, ex_l e hx, hz, q⟩
theorem ok_law_cell_at (T : Bi mg) (df : Def K mg "_law_cell_at" s_law_cell_at) : Has P w K mg base CX0 "_law_cell_at" 1 ["script", "k"] (sp_law_cell_at K) := by
  obtain ⟨f, fd, F, g⟩ := df
  refine ⟨f, fd, F.ok sc_law_cell_at (fun vs H Q E h => ?_) (fun cdv A outer s H vs Q E hr h => ?_), g, F.kp, F.binds fun _ _ _ _ _ _ us hl => match us, hl with | [_, _], _ => rfl⟩
  · obtain ⟨a, ns, z, rfl, hS, hz, k⟩ := h; rfl
  · obtain ⟨a, ns, z, rfl, hS, hz, k⟩ := h
    refine ⟨_, (pss_cons (ps_if (pt_cmpR op_lt (pv 1) (pe_callB (r := rLenS K) call_lenS (by rfl) T.b_len PySem.boot_len (pa_cons (pv 0) pa_nil)) (nomark _)) (pss_one (ps_ret (pe_ix (r := rIxL K) ix_list (pv 0) (pv 1) (fun _ _ => rfl)))) pss_nil)
        (pss_one (ps_ret pe_int))), ?_⟩
    have O : Own H [] H := .start
    walk_at "if"
    · intro hb H1 O
      refine RT O (ev_ixz (ev_var rfl) (O.arg hS) (ev_var rfl) ⟨hz, of_decide_eq_true hb⟩) fun H2 O => O.ret k
    · intro hb H1 O
      refine RT O ev_c fun H2 O => ?_
      have e : gt ns z.toNat = 0 := by
        have := of_decide_eq_false hb
        unfold gt
        rw [List.getD_eq_getElem?_getD, List.getElem?_eq_none (by omega)] <;> rfl
      rw [e] at k
      exact O.ret k
/-! #### _law_next -/
def sp_law_next (_ : PySem.W.Frag) : Sp := fun vs H Q _ => ∃ n : Int, vs = [.int n] ∧ RetV (.int (nxt n)) H Q
theorem ec_law_next {σ : L2.St} {H : Hp} {ta : TE} {n : Int} {E : XK} (h1 : Ev ta σ H (.int n)) : Ev (tCall (sp_law_next K) [] E (tCons ta tNil)) σ H (.int (nxt n)) :=
  ev_call (ea_cons h1 ea_nil) fun H1 e Q q _ => ⟨n, rfl, q⟩
theorem ok_law_next (T : Bi mg) (df : Def K mg "_law_next" s_law_next) : Has P w K mg base CX0 "_law_next" 1 ["seed"] (sp_law_next K) := by
  obtain ⟨f, fd, F, g⟩ := df
  refine ⟨f, fd, F.ok sc_law_next (fun vs H Q E h => ?_) (fun cdv A outer s H vs Q E hr h => ?_), g, F.kp, F.binds fun _ _ _ _ _ _ us hl => match us, hl with | [_], _ => rfl⟩
  · obtain ⟨n, rfl, k⟩ := h; rfl
  · obtain ⟨n, rfl, k⟩ := h
    refine ⟨_, (pss_cons (ps_set (i := 0) sc_law_next.nd rfl (Or.inl rfl) (pe_op op_mod (pe_op op_add (pv 0) pe_int) pe_int))
        (pss_one (ps_ret (pe_op op_mod (pe_op op_add (pe_op op_add (pe_op op_mul (pv 0) (pv 0)) (pe_op op_mul pe_int (pv 0))) pe_int) pe_int)))), ?_⟩
    have O : Own H [] H := .start
    have b1 : 0 ≤ (n + 7919) % 2147483647 := Int.emod_nonneg _ (by decide)
    have b2 : (n + 7919) % 2147483647 < 2147483647 := Int.emod_lt_of_pos _ (by decide)
    walk_at "set"
    intro H1 O
    refine RT O (ev_op (ev_op (ev_op (ev_op (ev_var rfl) (ev_var rfl) (rv_I (.inl ⟨by omega, by omega⟩))) (ev_op ev_c (ev_var rfl) (rv_I (.inl ⟨by omega, by omega⟩))) rv_I0) ev_c rv_I0) ev_c (rv_I (by decide))) fun H2 O => O.ret k
/-! #### _law_amounts -/
def sp_law_amounts (K : PySem.W.Frag) : Sp := fun vs H Q _ => ∃ (a : Addr) (ns : List Int) (kinds most : Nat), vs = [.ref a, .int (kinds : Int), .int (most : Int)] ∧ SqL K H a (il ns) ∧ kinds ≤ 6 ∧ most ≤ 12 ∧
  ∀ am : List Int, am.length ≤ kinds → (∀ v, v ∈ am → 0 ≤ v) → am.sum ≤ most → (am.length : Int) = gt ns 0 % ((kinds : Int) + 1) → RetL (il am) H Q
theorem ok_law_amounts (T : Bi mg) (h_law_cell_at : Has P w K mg base CX0 "_law_cell_at" 1 ["script", "k"] (sp_law_cell_at K)) (h_law_next : Has P w K mg base CX0 "_law_next" 1 ["seed"] (sp_law_next K)) (df : Def K mg "_law_amounts" s_law_amounts) : Has P w K mg base CX0 "_law_amounts" 2 ["script", "kinds", "most"] (sp_law_amounts K) := by
  obtain ⟨f, fd, F, g⟩ := df
  obtain ⟨f_law_cell_at, fd_law_cell_at, G_law_cell_at, g_law_cell_at, kp_law_cell_at, bd_law_cell_at⟩ := h_law_cell_at
  obtain ⟨f_law_next, fd_law_next, G_law_next, g_law_next, kp_law_next, bd_law_next⟩ := h_law_next
  refine ⟨f, fd, F.ok sc_law_amounts (fun vs H Q E h => ?_) (fun cdv A outer s H vs Q E hr h => ?_), g, F.kp, F.binds fun _ _ _ _ _ _ us hl => match us, hl with | [_, _, _], _ => rfl⟩
  · obtain ⟨a, ns, kinds, most, rfl, hS, hk, hm, k⟩ := h; rfl
  · obtain ⟨a, ns, kinds, most, rfl, hS, hk, hm, k⟩ := h
    have hr_law_cell_at : Room 1 _ := hr.mono (by decide)
    have hr_law_next : Room 1 _ := hr.mono (by decide)
    refine ⟨_, (pss_cons (ps_set (i := 3) sc_law_amounts.nd rfl (Or.inl rfl) (pe_lst pa_nil))
        (pss_cons (ps_for PassesOwn.never rfl (pi_range1 rfl T.b_range (pa_cons (pe_op op_mod (pe_call G_law_cell_at hr_law_cell_at (by rfl) g_law_cell_at kp_law_cell_at bd_law_cell_at .nil pass0 (pa_cons (pv 0) (pa_cons pe_int pa_nil))) (pe_op op_add (pv 1) pe_int)) pa_nil)) (pg_name (i := 4) sc_law_amounts.nd rfl (Or.inl rfl))
         (pss_one (ps_expr (show PE _ _ (tBM K "list" rAppend _ (tCons _ tNil)) from pe_bm PySem.F.plainAttrs_list PySem.F.slot_list_append PySem.F.type_list_append mt_append (pv 3) (pa_cons (pe_op op_mod (pe_op op_fdiv (pe_call G_law_next hr_law_next (by rfl) g_law_next kp_law_next bd_law_next .nil pass0 (pa_cons (pe_op op_add (pe_call G_law_cell_at hr_law_cell_at (by rfl) g_law_cell_at kp_law_cell_at bd_law_cell_at .nil pass0 (pa_cons (pv 0) (pa_cons (pe_op op_add pe_int (pv 4)) pa_nil))) (pv 4)) pa_nil)) pe_int) (pe_op op_add (pe_op op_sub (pv 2) (pe_callB (r := rSum K) (cr_sum rfl) (by rfl) T.b_sum (by decide +kernel) (pa_cons (pv 3) pa_nil))) pe_int)) pa_nil)))))
        (pss_cut (ps_if (pt_cmpR op_eq (pe_op op_mod (pe_call G_law_cell_at hr_law_cell_at (by rfl) g_law_cell_at kp_law_cell_at bd_law_cell_at .nil pass0 (pa_cons (pv 0) (pa_cons pe_int pa_nil))) pe_int) pe_int (nomark _)) (pss_one (ps_set (i := 3) sc_law_amounts.nd rfl (Or.inl rfl) (pe_listRev (by rfl) (by rfl) T.b_list (by rfl) T.b_reversed (pv 3)))) pss_nil)
        (pss_one (ps_ret (pv 3)))))), ?_⟩
    have O : Own H [] H := .start
    have hl0 : 0 ≤ gt ns 0 % ((kinds : Int) + 1) := Int.emod_nonneg _ (by omega)
    have hl1 : gt ns 0 % ((kinds : Int) + 1) < (kinds : Int) + 1 := Int.emod_lt_of_pos _ (by omega)
    obtain ⟨n, hn⟩ : ∃ n : Nat, gt ns 0 % ((kinds : Int) + 1) = (n : Int) := ⟨(gt ns 0 % ((kinds : Int) + 1)).toNat, (Int.toNat_of_nonneg hl0).symm⟩
    refine qAL O (el_lst ea_nil (Nat.zero_le _)) fun p H1 O => ?_
    refine qFR O (ea_cons (ev_is (ev_op (ec_law_cell_at (ev_var rfl) (O.arg hS) ev_c (by decide)) (ev_op (ev_var rfl) ev_c rv_I0) (rv_I (show (0 : Int) < (kinds : Int) + 1 by omega))) (w := .int (n : Int)) (congrArg V.int hn)) ea_nil) ⟨by omega, by omega⟩
      (fun i σ' H' => ∃ (am : List Int) (x : Option V), σ' = [some (.ref a), some (.int (kinds : Int)), some (.int (most : Int)), some (.ref p), x] ∧ am.length = i ∧ (∀ v, v ∈ am → 0 ≤ v) ∧ am.sum ≤ most ∧ Own H [(p, il am)] H')
      (fun H2 O => ⟨[], none, rfl, rfl, (fun v hv => by cases hv), by show (0 : Int) ≤ most; omega, O⟩) (fun i σ' H' hi hP => ?_) (fun σ' H' hP => ?_)
    · obtain ⟨am, x, rfl, hal, h0, hs, O⟩ := hP
      have hs0 := sum_nn h0
      have hpos : 0 < (most : Int) - am.sum + 1 := by omega
      have hb0 : 0 ≤ nxt (gt ns (1 + (i : Int)).toNat + (i : Int)) / 7 % ((most : Int) - am.sum + 1) := Int.emod_nonneg _ (by omega)
      have hb1 := Int.emod_lt_of_pos (nxt (gt ns (1 + (i : Int)).toNat + (i : Int)) / 7) hpos
      refine APP 0 O rfl (ev_var rfl) (ev_op (ev_op (ec_law_next (ev_op (ec_law_cell_at (ev_var rfl) (O.arg hS) (ev_op ev_c (ev_var rfl) rv_I0) (by omega)) (ev_var rfl) rv_I0)) ev_c (rv_I ⟨by decide, by decide⟩)) (ev_op (ev_op (ev_var rfl) (ev_sum (ev_var rfl) (O.seq 0 rfl)) rv_I0) ev_c rv_I0) (rv_I hpos)) (by rw [List.length_map]; omega) fun H5 O => ?_
      refine ⟨am ++ [_], _, rfl, by rw [List.length_append, hal]; rfl, fun v hv => ?_, ?_, by rw [il_append]; exact O⟩
      · rcases List.mem_append.mp hv with hv | hv
        · exact h0 v hv
        · rw [List.mem_singleton.mp hv]
          exact hb0
      · rw [sum_app]
        show am.sum + (_ + 0) ≤ _
        omega
    · obtain ⟨am, x, rfl, hal, h0, hs, O⟩ := hP
      rw [Int.toNat_natCast] at hal
      refine q_cut (M := fun σ' H' => ∃ (q : Addr) (am : List Int) (x : Option V), σ' = [some (.ref a), some (.int (kinds : Int)), some (.int (most : Int)), some (.ref q), x] ∧ am.length = n ∧ (∀ v, v ∈ am → 0 ≤ v) ∧ am.sum ≤ most ∧ ∃ M, Own H ((q, il am) :: M) H') ?_ (fun σ' H' hM => ?_)
      · refine WH O (et_test (ev_op (ev_op (ec_law_cell_at (ev_var rfl) (O.arg hS) ev_c (by decide)) ev_c (rv_I (by decide))) ev_c rv_eqI)) (fun _ H6 O => ?_) (fun _ H6 O => ⟨p, am, _, rfl, hal, h0, hs, _, O⟩)
        refine AL O (el_rev (ev_var rfl) (O.seq 0 rfl)) fun q H7 O => ⟨q, am.reverse, _, rfl, by rw [List.length_reverse]; exact hal, fun v hv => h0 v (List.mem_reverse.mp hv), by rw [List.sum_reverse]; exact hs, _, by rw [il_rev]; exact O⟩
      · obtain ⟨q, am, x, rfl, hal, h0, hs, M, O⟩ := hM
        exact RT O (ev_var rfl) fun H8 O => O.retL 0 rfl (k am (by omega) h0 hs (by omega))
/-! #### _law_all_rows -/
def sp_law_all_rows (K : PySem.W.Frag) : Sp := fun vs H Q _ => ∃ (a : Addr) (am : List Int), vs = [.ref a] ∧ SqL K H a (il am) ∧ am.length ≤ 4 ∧ 0 ≤ am.sum ∧ am.sum ≤ 5 ∧ RetP (rowsL am) H Q
theorem ok_law_all_rows (T : Bi mg) (df : Def K mg "_law_all_rows" s_law_all_rows) : Has P w K mg base CX0 "_law_all_rows" 1 ["amounts"] (sp_law_all_rows K) := by
  obtain ⟨f, fd, F, g⟩ := df
  refine ⟨f, fd, F.ok sc_law_all_rows (fun vs H Q E h => ?_) (fun cdv A outer s H vs Q E hr h => ?_), g, F.kp, F.binds fun _ _ _ _ _ _ us hl => match us, hl with | [_], _ => rfl⟩
  · obtain ⟨a, am, rfl, hS, hl, hs0, hs5, k⟩ := h; rfl
  · obtain ⟨a, am, rfl, hS, hl, hs0, hs5, k⟩ := h
    refine ⟨_, (pss_cons (ps_set (i := 1) sc_law_all_rows.nd rfl (Or.inl rfl) (pe_lst (pa_cons (pe_lst pa_nil) pa_nil)))
        (pss_cons (ps_for PassesOwn.never rfl (pi_range1 rfl T.b_range (pa_cons (pe_callB (r := rSum K) (cr_sum rfl) (by rfl) T.b_sum (by decide +kernel) (pa_cons (pv 0) pa_nil)) pa_nil)) (pg_name (i := 2) sc_law_all_rows.nd rfl (Or.inl rfl))
         (pss_cons (ps_set (i := 3) sc_law_all_rows.nd rfl (Or.inl rfl) (pe_lst pa_nil))
         (pss_cons (ps_for PassesOwn.never rfl (pi_list (pv 1)) (pg_name (i := 4) sc_law_all_rows.nd rfl (Or.inl rfl))
          (pss_one (ps_for PassesOwn.never rfl (pi_range1 rfl T.b_range (pa_cons (pe_callB (r := rLenS K) call_lenS (by rfl) T.b_len PySem.boot_len (pa_cons (pv 0) pa_nil)) pa_nil)) (pg_name (i := 5) sc_law_all_rows.nd rfl (Or.inl rfl))
           (pss_one (ps_if (pt_cmpR op_lt (show PE _ _ (tBM K "list" (rCntI K) _ (tCons _ tNil)) from pe_bm PySem.F.plainAttrs_list PySem.F.slot_list_count PySem.F.type_list_count mt_lcount (pv 4) (pa_cons (pv 5) pa_nil)) (pe_ix (r := rIxL K) ix_list (pv 0) (pv 5) (fun _ _ => rfl)) (nomark _)) (pss_one (ps_expr (show PE _ _ (tBM K "list" rAppend _ (tCons _ tNil)) from pe_bm PySem.F.plainAttrs_list PySem.F.slot_list_append PySem.F.type_list_append mt_append (pv 3) (pa_cons (pe_op op_cat (pv 4) (pe_lst (pa_cons (pv 5) pa_nil))) pa_nil)))) pss_nil)))))
         (pss_one (ps_set (i := 1) sc_law_all_rows.nd rfl (Or.inl rfl) (pv 3))))))
        (pss_one (ps_ret (pv 1))))), ?_⟩
    have O : Own H [] H := .start
    obtain ⟨N, hN⟩ : ∃ N : Nat, am.sum = (N : Int) := ⟨am.sum.toNat, (Int.toNat_of_nonneg hs0).symm⟩
    have hrows : rowsL am = rowsTo am N := by unfold rowsL; rw [hN, Int.toNat_natCast]
    rw [hrows] at k
    refine qALL O (el_lst ea_nil (Nat.zero_le _)) fun p q0 H1 O => ?_
    refine qFR O (ea_cons (ev_is (ev_sum (ev_var rfl) (O.arg hS)) (congrArg V.int hN)) ea_nil) ⟨by omega, by omega⟩ (fun i σ' H' => ∃ (p : Addr) (x y z u : Option V) (Dn : List (Addr × List Int)) (Mx : List (Addr × List V)), σ' = [some (.ref a), some (.ref p), x, y, z, u] ∧ Dn.map (·.2) = rowsTo am i ∧ (∀ d, d ∈ Dn → (d.1, il d.2) ∈ Mx) ∧ Own H ((p, Dr Dn) :: Mx) H')
      (fun H2 O => ⟨p, none, none, none, none, [(q0, [])], [(q0, [])], rfl, rfl, (fun d hd => by rw [List.mem_singleton.mp hd]; exact List.mem_cons_self), O⟩) (fun i σ' H' hi hP => ?_) (fun σ' H' hP => ?_)
    · obtain ⟨p, x, y, z, u, Dn, Mx, rfl, hD, hm, O⟩ := hP
      have hi5 : i ≤ 4 := by omega
      have hrl := rowsTo_len hl i
      have hpow : 4 ^ i ≤ 4 ^ 4 := Nat.pow_le_pow_right (by decide) hi5
      have h256 : (4 : Nat) ^ 4 = 256 := by decide
      refine qAL O (el_lst ea_nil (Nat.zero_le _)) fun q H3 O => ?_
      refine q_forLn (a := p) (xs := Dr Dn) (ev_var rfl) (O.seq 1 rfl) (fun j σ' H' => ∃ (z u : Option V) (En : List (Addr × List Int)) (My : List (Addr × List V)), σ' = [some (.ref a), some (.ref p), some (.int (i : Int)), some (.ref q), z, u] ∧ En.map (·.2) = ((rowsTo am i).take j).flatMap (nextRows am) ∧ (p, Dr Dn) ∈ My ∧
          (∀ d, d ∈ Dn → (d.1, il d.2) ∈ My) ∧ (∀ d, d ∈ En → (d.1, il d.2) ∈ My) ∧ Own H ((q, Dr En) :: My) H')
        (fun H4 e4 => ⟨z, u, [], (p, Dr Dn) :: Mx, rfl, rfl, List.mem_cons_self, fun d hd => List.mem_cons_of_mem _ (hm d hd), (fun d hd => by cases hd), O.mono e4⟩)
        (fun j σ' H' _ hP => by obtain ⟨_, _, _, My, _, _, hp, _, _, O⟩ := hP; exact sq_of (O.own _ (List.mem_cons_of_mem _ hp)).2) (fun j y σ' H' hy hP => ?_) (fun σ' H' hP => ?_)
      · obtain ⟨z, u, En, My, rfl, hE, hp, hDm, hEm, O⟩ := hP
        rw [List.getElem?_map] at hy
        cases hdj : Dn[j]? with
        | none => rw [hdj] at hy; cases hy
        | some d =>
          rw [hdj] at hy
          cases hy
          have hrj : (rowsTo am i)[j]? = some d.2 := by rw [← hD, List.getElem?_map, hdj] <;> rfl
          have hmem := hDm d (List.mem_of_getElem? hdj)
          have hjl : j < (rowsTo am i).length := (List.getElem?_eq_some_iff.mp hrj).1
          have hprev := flat_len am ((rowsTo am i).take j)
          have hpl : (((rowsTo am i).take j).flatMap (nextRows am)).length ≤ 1024 := by
            have h1 : ((rowsTo am i).take j).length * am.length ≤ 256 * 4 := Nat.mul_le_mul (by rw [List.length_take]; omega) hl
            omega
          have hd2 := rowsTo_row i d.2 (List.mem_of_getElem? hrj)
          have hnx : ((rowsTo am i).take (j + 1)).flatMap (nextRows am) = ((rowsTo am i).take j).flatMap (nextRows am) ++ nextRows am d.2 := by
            rw [List.take_add_one, hrj]
            show (_ ++ [d.2]).flatMap _ = _
            rw [List.flatMap_append]
            show _ ++ (nextRows am d.2 ++ []) = _
            rw [List.append_nil]
          rw [hnx]
          generalize ((rowsTo am i).take j).flatMap (nextRows am) = prev at *
          refine FR O (ea_cons (ev_lenI (ev_var rfl) (O.arg hS)) ea_nil) ⟨by omega, by omega⟩ (fun t σ' H' => ∃ (u : Option V) (En : List (Addr × List Int)) (My : List (Addr × List V)), σ' = [some (.ref a), some (.ref p), some (.int (i : Int)), some (.ref q), some (.ref d.1), u] ∧
              En.map (·.2) = prev ++ ((List.range t).filter fun k : Nat => decide ((d.2.count (k : Int) : Int) < gt am k)).map (fun k : Nat => d.2 ++ [(k : Int)]) ∧ (p, Dr Dn) ∈ My ∧ (∀ d, d ∈ Dn → (d.1, il d.2) ∈ My) ∧ (∀ d, d ∈ En → (d.1, il d.2) ∈ My) ∧ Own H ((q, Dr En) :: My) H')
            (fun H4 O => ⟨u, En, My, rfl, by rw [hE]; exact (List.append_nil _).symm, hp, hDm, hEm, O⟩) (fun t σ' H' ht hP => ?_) (fun σ' H' hP => ?_)
          · obtain ⟨u, En, My, rfl, hE, hp, hDm, hEm, O⟩ := hP
            have ht : t < am.length := by omega
            have hrow := (O.own _ (List.mem_cons_of_mem _ (hDm d (List.mem_of_getElem? hdj)))).2
            have hEl : En.length ≤ 1030 := by
              have := congrArg List.length hE
              rw [List.length_map, List.length_append, List.length_map] at this
              have h2 := List.length_filter_le (fun k : Nat => decide ((d.2.count (k : Int) : Int) < gt am k)) (List.range t)
              rw [List.length_range] at h2
              omega
            have hsucc : ((List.range (t + 1)).filter fun k : Nat => decide ((d.2.count (k : Int) : Int) < gt am k)).map (fun k : Nat => d.2 ++ [(k : Int)]) = ((List.range t).filter fun k : Nat => decide ((d.2.count (k : Int) : Int) < gt am k)).map (fun k : Nat => d.2 ++ [(k : Int)]) ++ (if (d.2.count (t : Int) : Int) < gt am t then [d.2 ++ [(t : Int)]] else []) := by
              rw [List.range_succ, List.filter_append, List.map_append]
              congr 1
              by_cases h : (d.2.count (t : Int) : Int) < gt am t <;> simp [h]
            rw [hsucc]
            refine WH O (et_test (ev_op (ev_cntI (ev_var rfl) (sq_of hrow) (ev_var rfl)) (ev_ix (ev_var rfl) (O.arg hS) (ev_var rfl) ht) rv_I0)) (fun hb H4 O => ?_) (fun hb H4 O => ?_)
            · have hb : (d.2.count (t : Int) : Int) < gt am t := of_decide_eq_true hb
              have hrow := (O.own _ (List.mem_cons_of_mem _ (hDm d (List.mem_of_getElem? hdj)))).2
              refine APPL 0 O rfl (ev_var rfl) (el_catRN (ev_var rfl) hrow (el_lst (ea_cons (ev_var rfl) ea_nil) (by show 1 ≤ 100000; decide)) (by rw [List.length_map]; show _ + 1 ≤ _; omega)) (by rw [List.length_map]; omega) fun s H5 O => ?_
              have e1 : il d.2 ++ [V.int (t : Int)] = il (d.2 ++ [(t : Int)]) := by rw [il_append]; rfl
              rw [e1] at O
              refine ⟨_, En ++ [(s, d.2 ++ [(t : Int)])], (s, il (d.2 ++ [(t : Int)])) :: My, rfl, ?_, List.mem_cons_of_mem _ hp, fun d hd => List.mem_cons_of_mem _ (hDm d hd), fun e he => ?_, ?_⟩
              · rw [List.map_append, hE, if_pos hb, List.append_assoc]
                rfl
              · rcases List.mem_append.mp he with he | he
                · exact List.mem_cons_of_mem _ (hEm e he)
                · rw [List.mem_singleton.mp he]
                  exact List.mem_cons_self
              · rw [Dr_snoc]
                exact O.perm (List.Perm.swap _ _ _)
            · have hb : ¬ (d.2.count (t : Int) : Int) < gt am t := of_decide_eq_false hb
              refine ⟨_, En, My, rfl, ?_, hp, hDm, hEm, O⟩
              rw [hE, if_neg hb, List.append_nil]
          · obtain ⟨u, En, My, rfl, hE, hp, hDm, hEm, O⟩ := hP
            rw [Int.toNat_natCast] at hE
            exact ⟨_, _, En, My, rfl, hE, hp, hDm, hEm, O⟩
      · obtain ⟨z, u, En, My, rfl, hE, hp, hDm, hEm, O⟩ := hP
        have hlen : (Dr Dn).length = (rowsTo am i).length := by
          have := congrArg List.length hD
          rw [List.length_map] at this
          rw [List.length_map]
          exact this
        rw [hlen, List.take_length] at hE
        exact AS O (ev_var rfl) fun H5 O => ⟨q, _, _, _, _, En, My, rfl, hE, hEm, O⟩
    · obtain ⟨p, x, y, z, u, Dn, Mx, rfl, hD, hm, O⟩ := hP
      rw [Int.toNat_natCast] at hD
      exact RT O (ev_var rfl) fun H4 O => k p Dn H4 hD (O.own _ List.mem_cons_self).1 O.ex (O.get 0 rfl) fun d hd => (O.own _ (List.mem_cons_of_mem _ (hm d hd))).2
/-! #### asked_amounts -/
def sp_asked_amounts (K : PySem.W.Frag) : Sp := fun vs H Q _ => ∃ (a : Addr) (ns : List Int), vs = [.ref a] ∧ SqL K H a (il ns) ∧ IsAm ns ∧ RetV .non H Q
theorem ec_asked_amounts {σ : L2.St} {H : Hp} {ta : TE} {a : Addr} {ns : List Int} {E : XK} (h1 : Ev ta σ H (.ref a)) (hx : SqL K H a (il ns)) (hr : IsAm ns) : Ev (tCall (sp_asked_amounts K) [] E (tCons ta tNil)) σ H .non :=
  ev_call (ea_cons h1 ea_nil) fun H1 e Q q _ => ⟨a, ns, rfl, ex_l e hx, hr, q⟩
theorem ok_asked_amounts (T : Bi mg) (df : Def K mg "asked_amounts" s_asked_amounts) : Has P w K mg base CX0 "asked_amounts" 1 ["amounts"] (sp_asked_amounts K) := by
  obtain ⟨f, fd, F, g⟩ := df
  obtain ⟨t_MOST_KINDS, g_MOST_KINDS⟩ := T.c_MOST_KINDS
  obtain ⟨t_MOST, g_MOST⟩ := T.c_MOST
  refine ⟨f, fd, F.ok sc_asked_amounts (fun vs H Q E h => ?_) (fun cdv A outer s H vs Q E hr h => ?_), g, F.kp, F.binds fun _ _ _ _ _ _ us hl => match us, hl with | [_], _ => rfl⟩
  · obtain ⟨a, ns, rfl, hS, hR, k⟩ := h; rfl
  · obtain ⟨a, ns, rfl, hS, hR, k⟩ := h
    refine ⟨_, (pss_cons (ps_if (pt_cmpR op_gt (pe_callB (r := rLenS K) call_lenS (by rfl) T.b_len PySem.boot_len (pa_cons (pv 0) pa_nil)) (pe_glob (v := .int 6) rfl g_MOST_KINDS ⟨_, rfl⟩) (nomark _)) (pss_one ps_never) pss_nil)
        (pss_cons (ps_for PassesOwn.never rfl (pi_list (pv 0)) (pg_name (i := 1) sc_asked_amounts.nd rfl (Or.inl rfl))
         (pss_one (ps_if (pt_not (pt_chain op_le op_le pe_int (pv 1) (pe_glob (v := .int 12) rfl g_MOST ⟨_, rfl⟩))) (pss_one ps_never) pss_nil)))
        (pss_one (ps_if (pt_cmpR op_gt (pe_callB (r := rSum K) (cr_sum rfl) (by rfl) T.b_sum (by decide +kernel) (pa_cons (pv 0) pa_nil)) (pe_glob (v := .int 12) rfl g_MOST ⟨_, rfl⟩) (nomark _)) (pss_one ps_never) pss_nil)))), ?_⟩
    have O : Own H [] H := .start
    refine qWH O (et_test (ev_op (ev_lenI (ev_var rfl) hS) ev_c rv_I0)) (fun hb H1 O => ?_) (fun hb H1 O => ?_)
    · have := hR.1
      have hb := of_decide_eq_true hb
      omega
    refine qFL O (ev_var rfl) (O.arg hS) (fun i σ' H' => ∃ x : Option V, σ' = [some (.ref a), x] ∧ Own H [] H') (fun H2 O => ⟨none, rfl, O⟩) (fun i σ' H' hP => hP.elim fun _ q => q.2.arg hS) (fun i x σ' H' hx hP => ?_) (fun σ' H' hP => ?_)
    · obtain ⟨y, rfl, O⟩ := hP
      have hv := hR.small (List.mem_of_getElem? hx)
      refine WH O (et_not (et_test (ev_chain ev_c (ev_var rfl) rv_I0 ev_c rv_I0))) (fun hb H2 O => ?_) (fun hb H2 O => ⟨_, rfl, O⟩)
      rw [decide_eq_true hv.1, decide_eq_true hv.2] at hb
      cases hb
    · obtain ⟨x, rfl, O⟩ := hP
      refine WH O (et_test (ev_op (ev_sum (ev_var rfl) (O.arg hS)) ev_c rv_I0)) (fun hb H1 O => ?_) (fun hb H1 O => O.ret k)
      have := hR.2.2
      have hb := of_decide_eq_true hb
      omega
/-! #### product -/
def sp_product (K : PySem.W.Frag) : Sp := fun vs H Q _ => ∃ (a c : Addr) (one other : List Int), vs = [.ref a, .ref c] ∧ SqL K H a (il one) ∧ SqL K H c (il other) ∧ 1 ≤ one.length ∧ one.length ≤ 1000 ∧ 1 ≤ other.length ∧ other.length ≤ 1000 ∧ (∀ k, 0 ≤ gt other k ∧ gt other k ≤ 4096) ∧ RetL (il (productL one other)) H Q
theorem ok_product (T : Bi mg) (df : Def K mg "product" s_product) : Has P w K mg base CX0 "product" 1 ["one", "other"] (sp_product K) := by
  obtain ⟨f, fd, F, g⟩ := df
  refine ⟨f, fd, F.ok sc_product (fun vs H Q E h => ?_) (fun cdv A outer s H vs Q E hr h => ?_), g, F.kp, F.binds fun _ _ _ _ _ _ us hl => match us, hl with | [_, _], _ => rfl⟩
  · obtain ⟨a, c, one, other, rfl, hA, hC, h1, hl1, h2, hl2, hsm, k⟩ := h; rfl
  · obtain ⟨a, c, one, other, rfl, hA, hC, h1, hl1, h2, hl2, hsm, k⟩ := h
    refine ⟨_, (pss_cons (ps_setLc (i := 3) (own := [("k", 2)]) (g := gName 2) (by rfl) sc_product.nd rfl rfl (sw_true rfl rfl rfl (by decide +kernel)) (pi_range1 rfl T.b_range (pa_cons (pe_op op_sub (pe_op op_add (pe_callB (r := rLenS K) call_lenS (by rfl) T.b_len PySem.boot_len (pa_cons (pv 0) pa_nil)) (pe_callB (r := rLenS K) call_lenS (by rfl) T.b_len PySem.boot_len (pa_cons (pv 1) pa_nil))) pe_int) pa_nil)) (blkOk_by (own := [("k", 2)]) (N := ["one", "other", "k", "found", "j"]) (sc := defScope s_product) (by decide +kernel)) (fun _ _ _ _ _ => pg_name (i := 2) sc_product.nd rfl (Or.inl rfl)) (fun _ _ _ _ _ => pts_nil) (fun _ _ _ _ _ => pe_int))
        (pss_cons (ps_for PassesOwn.never rfl (pi_range1 rfl T.b_range (pa_cons (pe_callB (r := rLenS K) call_lenS (by rfl) T.b_len PySem.boot_len (pa_cons (pv 0) pa_nil)) pa_nil)) (pg_name (i := 4) sc_product.nd rfl (Or.inl rfl))
         (pss_one (ps_for PassesOwn.never rfl (pi_range1 rfl T.b_range (pa_cons (pe_callB (r := rLenS K) call_lenS (by rfl) T.b_len PySem.boot_len (pa_cons (pv 1) pa_nil)) pa_nil)) (pg_name (i := 2) sc_product.nd rfl (Or.inl rfl))
          (pss_one (ps_asg (pe_op op_add (pe_ix (r := rIxL K) ix_list (pv 3) (pe_op op_add (pv 4) (pv 2)) (fun _ _ => rfl)) (pe_op op_mul (pe_ix (r := rIxL K) ix_list (pv 0) (pv 4) (fun _ _ => rfl)) (pe_ix (r := rIxL K) ix_list (pv 1) (pv 2) (fun _ _ => rfl)))) (pg_sub (pv 3) (pe_op op_add (pv 4) (pv 2)) set_list))))))
        (pss_one (ps_ret (pv 3))))), ?_⟩
    have O : Own H [] H := .start
    obtain ⟨N, hN⟩ : ∃ N, one.length + other.length - 1 = N := ⟨_, rfl⟩
    have k : RetL (il (prodTo one other (zeros N) one.length)) H Q := by rw [← hN]; exact k
    refine qAL O ((lc_zeros N 0) ▸ lcR (n := N) (fun _ => true) (fun _ => V.int 0) (ea_cons (ev_is (ev_op (ev_op (ev_lenI (ev_var rfl) hA) (ev_lenI (ev_var rfl) hC) rv_I0) ev_c rv_I0) (congrArg V.int (by omega))) ea_nil) (by omega) (fun x => rfl) (fun i H2 e hi => et_yes) (fun i H2 e hi _ => ev_c)) fun p H1 O => ?_
    refine qFR O (ea_cons (ev_lenI (ev_var rfl) (O.arg hA)) ea_nil) ⟨by omega, by omega⟩ (fun i σ' H' => ∃ x y : Option V, σ' = [some (.ref a), some (.ref c), y, some (.ref p), x] ∧ Own H [(p, il (prodTo one other (zeros N) i))] H') (fun H2 O => ⟨none, none, rfl, O⟩) (fun i σ' H' hi hP => ?_) (fun σ' H' hP => ?_)
    · obtain ⟨x, y, rfl, O⟩ := hP
      have hi : i < one.length := by omega
      have hl := prodTo_len one other (zeros N) i
      rw [zeros_len] at hl
      refine FR O (ea_cons (ev_lenI (ev_var rfl) (O.arg hC)) ea_nil) ⟨by omega, by omega⟩ (fun j σ' H' => ∃ y : Option V, σ' = [some (.ref a), some (.ref c), y, some (.ref p), some (.int (i : Int))] ∧ Own H [(p, il (addF (prodTo one other (zeros N) i) (fun k => gt one i * gt other k) i j))] H') (fun H2 O => ⟨y, rfl, O⟩) (fun j σ' H' hj hP => ?_) (fun σ' H' hP => ?_)
      · obtain ⟨y, rfl, O⟩ := hP
        have hj : j < other.length := by omega
        have hl2 := addF_len (prodTo one other (zeros N) i) (fun k => gt one i * gt other k) i j
        have hb := hsm j
        refine SET 0 (i + j) O rfl (ev_op (ev_ixn (i + j) (ev_var rfl) (O.seq 0 rfl) (ev_op (ev_var rfl) (ev_var rfl) rv_I0) (by omega) (by omega)) (ev_op (ev_ix (ev_var rfl) (O.arg hA) (ev_var rfl) hi) (ev_ix (ev_var rfl) (O.arg hC) (ev_var rfl) hj) (rv_I (.inr ⟨by omega, by omega⟩))) rv_I0) (ev_var rfl) (ev_is (ev_op (ev_var rfl) (ev_var rfl) rv_I0) (congrArg V.int (by omega))) (by rw [List.length_map]; omega) fun H3 O => ⟨_, rfl, ?_⟩
        rw [gtl] at O
        exact O
      · obtain ⟨y, rfl, O⟩ := hP
        rw [Int.toNat_natCast] at O
        exact ⟨_, _, rfl, O⟩
    · obtain ⟨x, y, rfl, O⟩ := hP
      rw [Int.toNat_natCast] at O
      exact RT O (ev_var rfl) fun H4 O => O.retL 0 rfl k
/-! #### together -/
def sp_together (K : PySem.W.Frag) : Sp := fun vs H Q _ => ∃ (a c : Addr) (one other : List Int) (s : Nat), vs = [.ref a, .ref c, .int (s : Int)] ∧ SqL K H a (il one) ∧ SqL K H c (il other) ∧ one.length ≤ 1000 ∧ other.length ≤ 1000 ∧ s ≤ 1000 ∧ RetL (il (togetherL one other s)) H Q
theorem el_together {σ : L2.St} {H : Hp} {ta tb tc : TE} {a c : Addr} {one other : List Int} {s : Nat} {E : XK} (h1 : Ev ta σ H (.ref a)) (h2 : Ev tb σ H (.ref c)) (h3 : Ev tc σ H (.int (s : Int))) (hx : SqL K H a (il one)) (hp : SqL K H c (il other)) (hl1 : one.length ≤ 1000) (hl2 : other.length ≤ 1000) (hs : s ≤ 1000) :
    EvL (tCall (sp_together K) [] E (tCons ta (tCons tb (tCons tc tNil)))) σ H (il (togetherL one other s)) :=
  el_call (ea_cons h1 (ea_cons h2 (ea_cons h3 ea_nil))) fun H1 e Q q _ => ⟨a, c, one, other, s, rfl, ex_l e hx, ex_l e hp, hl1, hl2, hs, q⟩
theorem ok_together (T : Bi mg) (df : Def K mg "together" s_together) : Has P w K mg base CX0 "together" 1 ["one", "other", "shift"] (sp_together K) := by
  obtain ⟨f, fd, F, g⟩ := df
  refine ⟨f, fd, F.ok sc_together (fun vs H Q E h => ?_) (fun cdv A outer s H vs Q E hr h => ?_), g, F.kp, F.binds fun _ _ _ _ _ _ us hl => match us, hl with | [_, _, _], _ => rfl⟩
  · obtain ⟨a, c, one, other, s, rfl, hA, hC, hl1, hl2, hs, k⟩ := h; rfl
  · obtain ⟨a, c, one, other, s, rfl, hA, hC, hl1, hl2, hs, k⟩ := h
    refine ⟨_, (pss_cons (ps_setLc (i := 4) (own := [("k", 3)]) (g := gName 3) (by rfl) sc_together.nd rfl rfl (sw_true rfl rfl rfl (by decide +kernel)) (pi_range1 rfl T.b_range (pa_cons (pe_callB (r := rMax2) (call_max2 rfl) (by rfl) T.b_max (by decide +kernel) (pa_cons (pe_callB (r := rLenS K) call_lenS (by rfl) T.b_len PySem.boot_len (pa_cons (pv 0) pa_nil)) (pa_cons (pe_op op_add (pe_callB (r := rLenS K) call_lenS (by rfl) T.b_len PySem.boot_len (pa_cons (pv 1) pa_nil)) (pv 2)) pa_nil))) pa_nil)) (blkOk_by (own := [("k", 3)]) (N := ["one", "other", "shift", "k", "found"]) (sc := defScope s_together) (by decide +kernel)) (fun _ _ _ _ _ => pg_name (i := 3) sc_together.nd rfl (Or.inl rfl)) (fun _ _ _ _ _ => pts_nil) (fun _ _ _ _ _ => pe_int))
        (pss_cons (ps_for PassesOwn.never rfl (pi_range1 rfl T.b_range (pa_cons (pe_callB (r := rLenS K) call_lenS (by rfl) T.b_len PySem.boot_len (pa_cons (pv 0) pa_nil)) pa_nil)) (pg_name (i := 3) sc_together.nd rfl (Or.inl rfl))
         (pss_one (ps_asg (pe_op op_add (pe_ix (r := rIxL K) ix_list (pv 4) (pv 3) (fun _ _ => rfl)) (pe_ix (r := rIxL K) ix_list (pv 0) (pv 3) (fun _ _ => rfl))) (pg_sub (pv 4) (pv 3) set_list))))
        (pss_cons (ps_for PassesOwn.never rfl (pi_range1 rfl T.b_range (pa_cons (pe_callB (r := rLenS K) call_lenS (by rfl) T.b_len PySem.boot_len (pa_cons (pv 1) pa_nil)) pa_nil)) (pg_name (i := 3) sc_together.nd rfl (Or.inl rfl))
         (pss_one (ps_asg (pe_op op_add (pe_ix (r := rIxL K) ix_list (pv 4) (pe_op op_add (pv 3) (pv 2)) (fun _ _ => rfl)) (pe_ix (r := rIxL K) ix_list (pv 1) (pv 3) (fun _ _ => rfl))) (pg_sub (pv 4) (pe_op op_add (pv 3) (pv 2)) set_list))))
        (pss_one (ps_ret (pv 4)))))), ?_⟩
    have O : Own H [] H := .start
    obtain ⟨N, hN⟩ : ∃ N, togN one other s = N := ⟨_, rfl⟩
    have hN1 : one.length ≤ N ∧ other.length + s ≤ N ∧ N ≤ 2000 := by
      unfold togN at hN
      omega
    have hN2 : (if ((other.length : Int) + (s : Int)) > (one.length : Int) then ((other.length : Int) + (s : Int)) else (one.length : Int)) = (N : Int) := by
      unfold togN at hN
      split <;> omega
    have k : RetL (il (addF (addF (zeros N) (gt one) 0 one.length) (gt other) s other.length)) H Q := by rw [← hN]; exact k
    refine qAL O ((lc_zeros N 0) ▸ lcR (n := N) (fun _ => true) (fun _ => V.int 0) (ea_cons (ev_is (ev_max2 (ev_lenI (ev_var rfl) hA) (ev_op (ev_lenI (ev_var rfl) hC) (ev_var rfl) rv_I0)) (congrArg V.int hN2)) ea_nil) (by omega) (fun x => rfl) (fun i H2 e hi => et_yes) (fun i H2 e hi _ => ev_c)) fun p H1 O => ?_
    refine qFR O (ea_cons (ev_lenI (ev_var rfl) (O.arg hA)) ea_nil) ⟨by omega, by omega⟩ (fun i σ' H' => ∃ x : Option V, σ' = [some (.ref a), some (.ref c), some (.int (s : Int)), x, some (.ref p)] ∧ Own H [(p, il (addF (zeros N) (gt one) 0 i))] H') (fun H2 O => ⟨none, rfl, O⟩) (fun i σ' H' hi hP => ?_) (fun σ' H' hP => ?_)
    · obtain ⟨x, rfl, O⟩ := hP
      have hi : i < one.length := by omega
      have hl := addF_len (zeros N) (gt one) 0 i
      rw [zeros_len] at hl
      refine SET 0 i O rfl (ev_op (ev_ix (ev_var rfl) (O.seq 0 rfl) (ev_var rfl) (by omega)) (ev_ix (ev_var rfl) (O.arg hA) (ev_var rfl) hi) rv_I0) (ev_var rfl) (ev_var rfl) (by rw [List.length_map]; omega) fun H3 O => ⟨_, rfl, ?_⟩
      rw [gtl] at O
      rw [addF, Nat.zero_add]
      exact O
    · obtain ⟨x, rfl, O⟩ := hP
      rw [Int.toNat_natCast] at O
      refine qFR O (ea_cons (ev_lenI (ev_var rfl) (O.arg hC)) ea_nil) ⟨by omega, by omega⟩ (fun i σ' H' => ∃ x : Option V, σ' = [some (.ref a), some (.ref c), some (.int (s : Int)), x, some (.ref p)] ∧ Own H [(p, il (addF (addF (zeros N) (gt one) 0 one.length) (gt other) s i))] H') (fun H2 O => ⟨_, rfl, O⟩) (fun i σ' H' hi hP => ?_) (fun σ' H' hP => ?_)
      · obtain ⟨x, rfl, O⟩ := hP
        have hi : i < other.length := by omega
        have hl := addF_len (addF (zeros N) (gt one) 0 one.length) (gt other) s i
        rw [addF_len (zeros N), zeros_len] at hl
        refine SET 0 (s + i) O rfl (ev_op (ev_ixn (s + i) (ev_var rfl) (O.seq 0 rfl) (ev_op (ev_var rfl) (ev_var rfl) rv_I0) (by omega) (by omega)) (ev_ix (ev_var rfl) (O.arg hC) (ev_var rfl) hi) rv_I0) (ev_var rfl) (ev_is (ev_op (ev_var rfl) (ev_var rfl) rv_I0) (congrArg V.int (by omega))) (by rw [List.length_map]; omega) fun H3 O => ⟨_, rfl, ?_⟩
        rw [gtl] at O
        exact O
      · obtain ⟨x, rfl, O⟩ := hP
        rw [Int.toNat_natCast] at O
        exact RT O (ev_var rfl) fun H4 O => O.retL 0 rfl k
/-! #### two_kinds -/
def sp_two_kinds (K : PySem.W.Frag) : Sp := fun vs H Q _ => ∃ (m n : Nat), vs = [.int (m : Int), .int (n : Int)] ∧ m + n ≤ 12 ∧ RetL (il (Gm m n)) H Q
theorem el_two_kinds {σ : L2.St} {H : Hp} {ta tb : TE} {m n : Nat} {E : XK} (h1 : Ev ta σ H (.int (m : Int))) (h2 : Ev tb σ H (.int (n : Int))) (h : m + n ≤ 12) : EvL (tCall (sp_two_kinds K) [] E (tCons ta (tCons tb tNil))) σ H (il (Gm m n)) :=
  el_call (ea_cons h1 (ea_cons h2 ea_nil)) fun H1 e Q q _ => ⟨m, n, rfl, h, q⟩
/-- the table: where its lists stand, what they hold -/
def Tab (H H' : Hp) (p : Addr) (m : Nat) (f : Nat → List Int) : Prop := ∃ (Dn : List (Addr × List Int)) (Mx : List (Addr × List V)), Dn.length = m + 1 ∧ (∀ j, j ≤ m → ∃ q, Dn[j]? = some (q, f j)) ∧ (∀ d, d ∈ Dn → (d.1, il d.2) ∈ Mx) ∧ Own H ((p, Dr Dn) :: Mx) H'
theorem Dr_at {Dn : List (Addr × List Int)} {j : Nat} {q : Addr} {l : List Int} (h : Dn[j]? = some (q, l)) : (Dr Dn)[j]? = some (.ref q) := by rw [List.getElem?_map, h] <;> rfl
theorem Gm_len_le {m n : Nat} (h : m + n ≤ 12) : (Gm m n).length ≤ 1000 := by
  rw [Gm_len]
  have : m * n ≤ 12 * 12 := Nat.mul_le_mul (by omega) (by omega)
  omega
theorem ok_two_kinds (T : Bi mg) (h_together : Has P w K mg base CX0 "together" 1 ["one", "other", "shift"] (sp_together K)) (df : Def K mg "two_kinds" s_two_kinds) : Has P w K mg base CX0 "two_kinds" 2 ["less", "greater"] (sp_two_kinds K) := by
  obtain ⟨f, fd, F, g⟩ := df
  obtain ⟨f_together, fd_together, G_together, g_together, kp_together, bd_together⟩ := h_together
  refine ⟨f, fd, F.ok sc_two_kinds (fun vs H Q E h => ?_) (fun cdv A outer s H vs Q E hr h => ?_), g, F.kp, F.binds fun _ _ _ _ _ _ us hl => match us, hl with | [_, _], _ => rfl⟩
  · obtain ⟨m, n, rfl, hmn, k⟩ := h; rfl
  · obtain ⟨m, n, rfl, hmn, k⟩ := h
    have hr_together : Room 1 _ := hr.mono (by decide)
    refine ⟨_, (pss_cons (ps_setLc (i := 3) (own := [("k", 2)]) (g := gName 2) (by rfl) sc_two_kinds.nd rfl rfl (sw_true rfl rfl rfl (by decide +kernel)) (pi_range1 rfl T.b_range (pa_cons (pe_op op_add (pv 0) pe_int) pa_nil)) (blkOk_by (own := [("k", 2)]) (N := ["less", "greater", "k", "table", "many"]) (sc := defScope s_two_kinds) (by decide +kernel)) (fun _ _ _ _ _ => pg_name (i := 2) sc_two_kinds.nd rfl (Or.inl rfl)) (fun _ _ _ _ _ => pts_nil) (fun _ _ _ _ _ => (pe_lst (pa_cons pe_int pa_nil))))
        (pss_cons (ps_for PassesOwn.never rfl (pi_range2 rfl T.b_range (pa_cons pe_int (pa_cons (pe_op op_add (pv 1) pe_int) pa_nil))) (pg_name (i := 4) sc_two_kinds.nd rfl (Or.inl rfl))
         (pss_one (ps_for PassesOwn.never rfl (pi_range2 rfl T.b_range (pa_cons pe_int (pa_cons (pe_op op_add (pv 0) pe_int) pa_nil))) (pg_name (i := 2) sc_two_kinds.nd rfl (Or.inl rfl))
          (pss_one (ps_asg (pe_call G_together hr_together (by rfl) g_together kp_together bd_together .nil pass0 (pa_cons (pe_ix (r := rIxL K) ix_list (pv 3) (pv 2) (fun _ _ => rfl)) (pa_cons (pe_ix (r := rIxL K) ix_list (pv 3) (pe_op op_sub (pv 2) pe_int) (fun _ _ => rfl)) (pa_cons (pv 4) pa_nil)))) (pg_sub (pv 3) (pv 2) set_list))))))
        (pss_one (ps_ret (pe_ix (r := rIxL K) ix_list (pv 3) (pv 0) (fun _ _ => rfl)))))), ?_⟩
    have O : Own H [] H := .start
    refine qALC (n := m + 1) O (ea_cons (ev_is (ev_op (ev_var rfl) ev_c rv_I0) (congrArg V.int (by omega))) ea_nil) (by omega) (fun Dl i H' => ∃ (Dn : List (Addr × List Int)) (Mx : List (Addr × List V)), Dn.length = i ∧ (∀ d, d ∈ Dn → d.2 = [1] ∧ (d.1, il d.2) ∈ Mx) ∧ Own H ((Dl, Dr Dn) :: Mx) H')
      (fun Dl H1 O => ⟨[], [], rfl, (fun d hd => by cases hd), O⟩) (fun x => rfl) (fun Dl i H' hi hP => ?_) (fun Dl H' hP => ?_)
    · obtain ⟨Dn, Mx, hl, hd, O⟩ := hP
      refine LNEW (ys := [V.int 1]) (Pv := fun H4 => ∃ (Dn : List (Addr × List Int)) (Mx : List (Addr × List V)), Dn.length = i + 1 ∧ (∀ d, d ∈ Dn → d.2 = [1] ∧ (d.1, il d.2) ∈ Mx) ∧ Own H ((Dl, Dr Dn) :: Mx) H4) O (el_lst (ea_cons ev_c ea_nil) (by show 1 ≤ 100000; decide)) (by rw [List.length_map]; omega) fun q H4 O => ⟨Dn ++ [(q, [1])], (q, il [1]) :: Mx, by rw [List.length_append, hl]; rfl, fun d hd' => ?_, ?_⟩
      · rcases List.mem_append.mp hd' with h | h
        · exact ⟨(hd d h).1, List.mem_cons_of_mem _ (hd d h).2⟩
        · rw [List.mem_singleton.mp h]
          exact ⟨rfl, List.mem_cons_self⟩
      · rw [Dr_snoc]
        exact O.perm (List.Perm.swap _ _ _)
    obtain ⟨Dn, Mx, hl, hd, O⟩ := hP
    refine qFR2 O (ea_cons ev_c (ea_cons (ev_op (ev_var rfl) ev_c rv_I0) ea_nil)) ⟨by omega, by omega, by omega, by omega⟩ (fun i σ' H' => ∃ x y : Option V, σ' = [some (.int (m : Int)), some (.int (n : Int)), y, some (.ref Dl), x] ∧ Tab H H' Dl m (fun j => Gm j i)) (fun H1 O => ⟨none, none, rfl, Dn, Mx, hl, fun j hj => ?_, fun d h => (hd d h).2, O⟩) (fun i σ' H' hi hP => ?_) (fun σ' H' hP => ?_)
    · have e := List.getElem?_eq_getElem (l := Dn) (i := j) (by omega)
      refine ⟨Dn[j].1, ?_⟩
      show Dn[j]? = some (Dn[j].1, Gm j 0)
      rw [e]
      have e2 := (hd _ (List.getElem_mem (l := Dn) (n := j) (by omega))).1
      have e3 : Gm j 0 = [1] := by cases j <;> rw [Gm]
      rw [e3, ← e2]
    · obtain ⟨x, y, rfl, Dn, Mx, hl, hf, hm, O⟩ := hP
      refine FR2 O (ea_cons ev_c (ea_cons (ev_op (ev_var rfl) ev_c rv_I0) ea_nil)) ⟨by omega, by omega, by omega, by omega⟩ (fun t σ' H' => ∃ y : Option V, σ' = [some (.int (m : Int)), some (.int (n : Int)), y, some (.ref Dl), some (.int (1 + (i : Int)))] ∧ Tab H H' Dl m (fun j => if j ≤ t then Gm j (i + 1) else Gm j i)) (fun H1 O => ⟨y, rfl, Dn, Mx, hl, fun j hj => ?_, hm, O⟩) (fun t σ' H' ht hP => ?_) (fun σ' H' hP => ?_)
      · obtain ⟨q, hq⟩ := hf j hj
        refine ⟨q, ?_⟩
        rw [hq]
        show some (q, Gm j i) = some (q, if j ≤ 0 then Gm j (i + 1) else Gm j i)
        by_cases h0 : j ≤ 0
        · have h0 : j = 0 := by omega
          subst h0
          rw [if_pos (Nat.le_refl 0), Gm, Gm]
        · rw [if_neg h0]
      · obtain ⟨y, rfl, Dn, Mx, hl, hf, hm, O⟩ := hP
        obtain ⟨q1, h1⟩ := hf (1 + t) (by omega)
        obtain ⟨q0, h0⟩ := hf t (by omega)
        have h1 : Dn[1 + t]? = some (q1, if 1 + t ≤ t then Gm (1 + t) (i + 1) else Gm (1 + t) i) := h1
        have h0 : Dn[t]? = some (q0, if t ≤ t then Gm t (i + 1) else Gm t i) := h0
        rw [if_neg (by omega)] at h1
        rw [if_pos (Nat.le_refl t)] at h0
        have m1 := O.own _ (List.mem_cons_of_mem _ (hm _ (List.mem_of_getElem? h1)))
        have m0 := O.own _ (List.mem_cons_of_mem _ (hm _ (List.mem_of_getElem? h0)))
        refine SETL 0 (1 + t) O rfl (el_together (s := 1 + i) (ev_op (ev_var rfl) (ev_is (ev_var rfl) (congrArg V.int (by omega))) (rv_ixL (O.seq 0 rfl) (atI_nat (Dr_at h1)))) (ev_op (ev_var rfl) (ev_is (ev_op (ev_var rfl) ev_c rv_I0) (congrArg V.int (by omega))) (rv_ixL (O.seq 0 rfl) (atI_nat (Dr_at h0)))) (ev_is (ev_var rfl) (congrArg V.int (by omega)))
          (sq_of m1.2) (sq_of m0.2) (Gm_len_le (by omega)) (Gm_len_le (by omega)) (by omega)) (fun _ => ev_var rfl) (fun _ => ev_is (ev_var rfl) (congrArg V.int (by omega))) (by rw [List.length_map]; omega) fun q H3 O => ⟨_, rfl, ?_⟩
        have e : togetherL (Gm (1 + t) i) (Gm t (i + 1)) (1 + i) = Gm (t + 1) (i + 1) := by rw [Nat.add_comm 1 t, Nat.add_comm 1 i, Gm]
        rw [e] at O
        have e2 : (Dr Dn).set (1 + t) (.ref q) = Dr (Dn.set (1 + t) (q, Gm (t + 1) (i + 1))) := by
          show (Dn.map fun d => V.ref d.1).set (1 + t) (.ref q) = (Dn.set (1 + t) (q, Gm (t + 1) (i + 1))).map fun d => V.ref d.1
          rw [List.map_set]
        refine ⟨Dn.set (1 + t) (q, Gm (t + 1) (i + 1)), (q, il (Gm (t + 1) (i + 1))) :: Mx, by rw [List.length_set]; exact hl, fun j hj => ?_, fun d hd => ?_, by rw [← e2]; exact O.perm (List.Perm.swap _ _ _)⟩
        · by_cases ej : 1 + t = j
          · subst ej
            refine ⟨q, ?_⟩
            show _ = some (q, if 1 + t ≤ t + 1 then Gm (1 + t) (i + 1) else Gm (1 + t) i)
            rw [List.getElem?_set_self (by omega), if_pos (by omega), Nat.add_comm 1 t]
          · rw [List.getElem?_set_ne ej]
            obtain ⟨q', hq'⟩ := hf j hj
            refine ⟨q', ?_⟩
            rw [hq']
            show some (q', if j ≤ t then Gm j (i + 1) else Gm j i) = some (q', if j ≤ t + 1 then Gm j (i + 1) else Gm j i)
            by_cases hjt : j ≤ t
            · rw [if_pos hjt, if_pos (by omega)]
            · rw [if_neg hjt, if_neg (by omega)]
        · rcases List.mem_or_eq_of_mem_set hd with h | h
          · exact List.mem_cons_of_mem _ (hm d h)
          · rw [h]
            exact List.mem_cons_self
      · obtain ⟨y, rfl, Dn, Mx, hl, hf, hm, O⟩ := hP
        refine ⟨_, _, rfl, Dn, Mx, hl, fun j hj => ?_, hm, O⟩
        obtain ⟨q, hq⟩ := hf j hj
        have hq : Dn[j]? = some (q, if j ≤ ((m : Int) + 1 - 1).toNat then Gm j (i + 1) else Gm j i) := hq
        rw [if_pos (by omega)] at hq
        exact ⟨q, hq⟩
    · obtain ⟨x, y, rfl, Dn, Mx, hl, hf, hm, O⟩ := hP
      obtain ⟨q, hq⟩ := hf m (Nat.le_refl m)
      have hq : Dn[m]? = some (q, Gm m ((n : Int) + 1 - 1).toNat) := hq
      rw [show ((n : Int) + 1 - 1).toNat = n by omega] at hq
      refine RT O (ev_op (ev_var rfl) (ev_var rfl) (rv_ixL (O.seq 0 rfl) (atI_nat (Dr_at hq)))) fun H4 O => ?_
      have m1 := O.own _ (List.mem_cons_of_mem _ (hm _ (List.mem_of_getElem? hq)))
      exact k q H4 m1.1 O.ex m1.2
/-! #### spread -/
def sp_spread (K : PySem.W.Frag) : Sp := fun vs H Q _ => ∃ (a : Addr) (ns : List Int), vs = [.ref a] ∧ SqL K H a (il ns) ∧ IsAm ns ∧ RetL (il (spreadL ns)) H Q
theorem el_spread {σ : L2.St} {H : Hp} {ta : TE} {a : Addr} {ns : List Int} {E : XK} (h1 : Ev ta σ H (.ref a)) (hx : SqL K H a (il ns)) (hr : IsAm ns) : EvL (tCall (sp_spread K) [] E (tCons ta tNil)) σ H (il (spreadL ns)) :=
  el_call (ea_cons h1 ea_nil) fun H1 e Q q _ => ⟨a, ns, rfl, ex_l e hx, hr, q⟩
theorem el_spreadN {σ : L2.St} {H : Hp} {ta : TE} {ns : List Int} {E : XK} (h1 : EvL ta σ H (il ns)) (hr : IsAm ns) : EvL (tCall (sp_spread K) [] E (tCons ta tNil)) σ H (il (spreadL ns)) :=
  el_call1N h1 fun p H1 hp _ H2 e Q q E => ⟨p, ns, rfl, ex_l e (sq_of hp), hr, q⟩
theorem ok_spread (T : Bi mg) (h_asked_amounts : Has P w K mg base CX0 "asked_amounts" 1 ["amounts"] (sp_asked_amounts K)) (h_product : Has P w K mg base CX0 "product" 1 ["one", "other"] (sp_product K)) (h_two_kinds : Has P w K mg base CX0 "two_kinds" 2 ["less", "greater"] (sp_two_kinds K)) (df : Def K mg "spread" s_spread) : Has P w K mg base CX0 "spread" 3 ["amounts"] (sp_spread K) := by
  obtain ⟨f, fd, F, g⟩ := df
  obtain ⟨f_asked_amounts, fd_asked_amounts, G_asked_amounts, g_asked_amounts, kp_asked_amounts, bd_asked_amounts⟩ := h_asked_amounts
  obtain ⟨f_product, fd_product, G_product, g_product, kp_product, bd_product⟩ := h_product
  obtain ⟨f_two_kinds, fd_two_kinds, G_two_kinds, g_two_kinds, kp_two_kinds, bd_two_kinds⟩ := h_two_kinds
  refine ⟨f, fd, F.ok sc_spread (fun vs H Q E h => ?_) (fun cdv A outer s H vs Q E hr h => ?_), g, F.kp, F.binds fun _ _ _ _ _ _ us hl => match us, hl with | [_], _ => rfl⟩
  · obtain ⟨a, ns, rfl, hS, hR, k⟩ := h; rfl
  · obtain ⟨a, ns, rfl, hS, hR, k⟩ := h
    have hr_asked_amounts : Room 1 _ := hr.mono (by decide)
    have hr_product : Room 1 _ := hr.mono (by decide)
    have hr_two_kinds : Room 2 _ := hr.mono (by decide)
    refine ⟨_, (pss_cons (ps_expr (pe_call G_asked_amounts hr_asked_amounts (by rfl) g_asked_amounts kp_asked_amounts bd_asked_amounts .nil pass0 (pa_cons (pv 0) pa_nil)))
        (pss_cons (ps_set (i := 1) sc_spread.nd rfl (Or.inl rfl) (pe_lst (pa_cons pe_int pa_nil)))
        (pss_cons (ps_set (i := 2) sc_spread.nd rfl (Or.inl rfl) pe_int)
        (pss_cons (ps_for PassesOwn.never rfl (pi_list (pv 0)) (pg_name (i := 3) sc_spread.nd rfl (Or.inl rfl))
         (pss_cons (ps_set (i := 1) sc_spread.nd rfl (Or.inl rfl) (pe_call G_product hr_product (by rfl) g_product kp_product bd_product .nil pass0 (pa_cons (pv 1) (pa_cons (pe_call G_two_kinds hr_two_kinds (by rfl) g_two_kinds kp_two_kinds bd_two_kinds .nil pass0 (pa_cons (pv 2) (pa_cons (pv 3) pa_nil))) pa_nil))))
         (pss_one (ps_set (i := 2) sc_spread.nd rfl (Or.inl rfl) (pe_op op_add (pv 2) (pv 3))))))
        (pss_one (ps_ret (pv 1))))))), ?_⟩
    have O : Own H [] H := .start
    have hl := hR.1
    refine qDR O (ec_asked_amounts (ev_var rfl) hS hR) fun H1 O => ?_
    refine qAL O (el_lst (ea_cons ev_c ea_nil) (by show 1 ≤ 100000; decide)) fun f H2 O => ?_
    refine qAS O ev_c fun H3 O => ?_
    refine qFL O (ev_var rfl) (O.arg hS) (fun i σ' H' => ∃ (f : Addr) (cur : List Int) (met : Nat) (x : Option V), σ' = [some (.ref a), some (.ref f), some (.int (met : Int)), x] ∧ (met : Int) = (ns.take i).sum ∧ spreadL ns = sprTo cur met (ns.drop i) ∧ 1 ≤ cur.length ∧ cur.length ≤ 1 + 144 * i ∧ Own H [(f, il cur)] H')
      (fun H4 O => ⟨f, [1], 0, none, rfl, rfl, rfl, by decide, by decide, O⟩) (fun i σ' H' hP => by obtain ⟨_, _, _, _, _, _, _, _, _, O⟩ := hP; exact O.arg hS) (fun i x σ' H' hx hP => ?_) (fun σ' H' hP => ?_)
    · obtain ⟨f, cur, met, y, rfl, hmet, hsp, hc1, hc2, O⟩ := hP
      have hi : i < ns.length := (List.getElem?_eq_some_iff.mp hx).1
      have hg := gt_some hx
      have hv := hR.small (List.mem_of_getElem? hx)
      obtain ⟨n, rfl⟩ : ∃ n : Nat, x = (n : Int) := ⟨x.toNat, (Int.toNat_of_nonneg hv.1).symm⟩
      have ht := sum_take_gt hi
      have ht2 := (sum_take_le hR.2.1 (i + 1)).2
      have hsum := hR.2.2
      have hmn : met + n ≤ 12 := by omega
      have hGl := Gm_len met n
      have hmul : met * n ≤ 12 * 12 := Nat.mul_le_mul (by omega) (by omega)
      have hpl := prod_len cur (Gm met n)
      rw [drop_gt hi, hg, sprTo, Int.toNat_natCast] at hsp
      refine qAL O (xs := il (productL cur (Gm met n))) ?_ fun f2 H5 O => ?_
      · refine fun H1 e Q q => (ev_var rfl : Ev (tVar 1) _ H' (.ref f)) H1 e (fun x H2 => tCons (tCall (sp_two_kinds K) [] E0 (tCons (tVar 2) (tCons (tVar 3) tNil))) tNil _ H2 fun xs H3 => sp_product K ((x :: xs) ++ []) H3 Q E0) fun H2 e2 => el_two_kinds (m := met) (n := n) (ev_var rfl) (ev_var rfl) hmn H2 (e.trans e2) (fun x H3 => sp_product K ([.ref f, x] ++ []) H3 Q E0) fun p H3 hp e3 h3 =>
          ⟨f, p, cur, Gm met n, rfl, ex_l ((e.trans e2).trans e3) (O.seq 0 rfl), sq_of h3, hc1, by omega, by omega, by omega, Gm_small hmn, fun r H4 hr e4 h4 => q r H4 (fresh_back (e2.trans e3) hr) ((e2.trans e3).trans e4) h4⟩
      · refine AS O (ev_op (ev_var rfl) (ev_var rfl) rv_I0) fun H6 O => ⟨f2, _, met + n, _, rfl, by omega, hsp, by omega, by omega, O.sub (.cons₂ _ (List.nil_sublist _))⟩
    · obtain ⟨f, cur, met, y, rfl, hmet, hsp, hc1, hc2, O⟩ := hP
      rw [List.drop_length, sprTo] at hsp
      rw [← hsp] at O
      exact RT O (ev_var rfl) fun H4 O => O.retL 0 rfl k
/-! #### _law_counted -/
def sp_law_counted (K : PySem.W.Frag) : Sp := fun vs H Q _ => ∃ (a : Addr) (ns : List Int), vs = [.ref a] ∧ SqL K H a (il ns) ∧ 0 < ns.length ∧ ns.length ≤ 1000 ∧ (∀ v, v ∈ ns → 0 ≤ v ∧ v ≤ 1000) ∧ RetL (il (countedL ns)) H Q
theorem el_law_countedN {σ : L2.St} {H : Hp} {ta : TE} {ns : List Int} {E : XK} (h1 : EvL ta σ H (il ns)) (h0 : 0 < ns.length) (hl : ns.length ≤ 1000) (hv : ∀ v, v ∈ ns → 0 ≤ v ∧ v ≤ 1000) : EvL (tCall (sp_law_counted K) [] E (tCons ta tNil)) σ H (il (countedL ns)) :=
  el_call1N h1 fun p H1 hp _ H2 e Q q E => ⟨p, ns, rfl, ex_l e (sq_of hp), h0, hl, hv, q⟩
theorem ok_law_counted (T : Bi mg) (df : Def K mg "_law_counted" s_law_counted) : Has P w K mg base CX0 "_law_counted" 1 ["numbers"] (sp_law_counted K) := by
  obtain ⟨f, fd, F, g⟩ := df
  refine ⟨f, fd, F.ok sc_law_counted (fun vs H Q E h => ?_) (fun cdv A outer s H vs Q E hr h => ?_), g, F.kp, F.binds fun _ _ _ _ _ _ us hl => match us, hl with | [_], _ => rfl⟩
  · obtain ⟨a, ns, rfl, hS, hn, hl, hv, k⟩ := h; rfl
  · obtain ⟨a, ns, rfl, hS, hn, hl, hv, k⟩ := h
    refine ⟨_, (pss_cons (ps_setLc (i := 1) (own := [("k", 3)]) (g := gName 3) (by rfl) sc_law_counted.nd rfl rfl (sw_true rfl rfl rfl (by decide +kernel)) (pi_range1 rfl T.b_range (pa_cons (pe_op op_add (pe_callB (r := rMax K) (cr_max rfl) (by rfl) T.b_max (by decide +kernel) (pa_cons (pv 0) pa_nil)) pe_int) pa_nil)) (blkOk_by (own := [("k", 3)]) (N := ["numbers", "found", "number", "k"]) (sc := defScope s_law_counted) (by decide +kernel)) (fun _ _ _ _ _ => pg_name (i := 3) sc_law_counted.nd rfl (Or.inl rfl)) (fun _ _ _ _ _ => pts_nil) (fun _ _ _ _ _ => pe_int))
        (pss_cons (ps_for PassesOwn.never rfl (pi_list (pv 0)) (pg_name (i := 2) sc_law_counted.nd rfl (Or.inl rfl))
         (pss_one (ps_asg (pe_op op_add (pe_ix (r := rIxL K) ix_list (pv 1) (pv 2) (fun _ _ => rfl)) pe_int) (pg_sub (pv 1) (pv 2) set_list))))
        (pss_one (ps_ret (pv 1))))), ?_⟩
    have O : Own H [] H := .start
    obtain ⟨v0, hv0⟩ : ∃ v0, v0 ∈ ns := ⟨_, List.getElem_mem hn⟩
    have hm0 : 0 ≤ mxI ns := Int.le_trans (hv v0 hv0).1 (mxI_ge hv0)
    have hm1 : mxI ns ≤ 1000 := mxI_le (by decide) fun y hy => (hv y hy).2
    have hmx : ∀ x, x ∈ ns → (∀ y, y ∈ ns → y ≤ x) → x = mxI ns := fun x hx hy => by
      have h1 := mxI_ge hx
      have h2 := mxI_le (hv x hx).1 hy
      omega
    obtain ⟨N, hN⟩ : ∃ N : Nat, mxI ns + 1 = (N : Int) := ⟨(mxI ns + 1).toNat, by omega⟩
    have hN2 : (mxI ns).toNat + 1 = N := by omega
    unfold countedL at k
    rw [hN2] at k
    refine qAL O ((lc_zeros N 0) ▸ lcR (n := N) (fun _ => true) (fun _ => V.int 0) (ea_cons (ev_is (ev_op (ev_maxI (ev_var rfl) hS hn hmx) ev_c rv_I0) (congrArg V.int hN)) ea_nil) (by omega) (fun x => rfl) (fun i H2 e hi => et_yes) (fun i H2 e hi _ => ev_c)) fun p H1 O => ?_
    refine qFL O (ev_var rfl) (O.arg hS) (fun i σ' H' => ∃ (cur : List Int) (x : Option V), σ' = [some (.ref a), some (.ref p), x, none] ∧ cur.length = N ∧ cntTo (zeros N) ns = cntTo cur (ns.drop i) ∧ Own H [(p, il cur)] H')
      (fun H2 O => ⟨zeros N, none, rfl, zeros_len N, rfl, O⟩) (fun i σ' H' hP => by obtain ⟨_, _, _, _, _, O⟩ := hP; exact O.arg hS) (fun i x σ' H' hx hP => ?_) (fun σ' H' hP => ?_)
    · obtain ⟨cur, y, rfl, hcl, hc, O⟩ := hP
      have hi : i < ns.length := (List.getElem?_eq_some_iff.mp hx).1
      have hxm := List.mem_of_getElem? hx
      have hxv := hv x hxm
      have hxle := mxI_ge hxm
      rw [drop_gt hi, gt_some hx, cntTo] at hc
      have hx2 : x.toNat < cur.length := by omega
      refine SET 0 x.toNat O rfl (ev_op (ev_ixz (ev_var rfl) (O.seq 0 rfl) (ev_var rfl) ⟨hxv.1, by omega⟩) ev_c rv_I0) (ev_var rfl) (ev_is (ev_var rfl) (congrArg V.int (Int.toNat_of_nonneg hxv.1).symm)) (by rw [List.length_map]; exact hx2) fun H3 O => ?_
      rw [gtl] at O
      exact ⟨addAt cur x.toNat 1, _, rfl, by rw [addAt_len]; exact hcl, hc, O⟩
    · obtain ⟨cur, y, rfl, hcl, hc, O⟩ := hP
      rw [List.drop_length, cntTo] at hc
      rw [← hc] at O
      exact RT O (ev_var rfl) fun H4 O => O.retL 0 rfl k
/-! #### _law_pairs -/
def sp_law_pairs (K : PySem.W.Frag) : Sp := fun vs H Q _ => ∃ (a : Addr) (ns : List Int), vs = [.ref a] ∧ SqL K H a (il ns) ∧ ns.length ≤ 1000 ∧ RetV (.int (inv ns : Nat)) H Q
theorem ec_law_pairs {σ : L2.St} {H : Hp} {ta : TE} {a : Addr} {ns : List Int} {E : XK} (h1 : Ev ta σ H (.ref a)) (hx : SqL K H a (il ns)) (hl : ns.length ≤ 1000) : Ev (tCall (sp_law_pairs K) [] E (tCons ta tNil)) σ H (.int (inv ns : Nat)) :=
  ev_call (ea_cons h1 ea_nil) fun H1 e Q q _ => ⟨a, ns, rfl, ex_l e hx, hl, q⟩
theorem ok_law_pairs (T : Bi mg) (df : Def K mg "_law_pairs" s_law_pairs) : Has P w K mg base CX0 "_law_pairs" 1 ["row"] (sp_law_pairs K) := by
  obtain ⟨f, fd, F, g⟩ := df
  refine ⟨f, fd, F.ok sc_law_pairs (fun vs H Q E h => ?_) (fun cdv A outer s H vs Q E hr h => ?_), g, F.kp, F.binds fun _ _ _ _ _ _ us hl => match us, hl with | [_], _ => rfl⟩
  · obtain ⟨a, ns, rfl, hS, hl, k⟩ := h; rfl
  · obtain ⟨a, ns, rfl, hS, hl, k⟩ := h
    refine ⟨_, (pss_cons (ps_set (i := 1) sc_law_pairs.nd rfl (Or.inl rfl) pe_int)
        (pss_cons (ps_for PassesOwn.never rfl (pi_range1 rfl T.b_range (pa_cons (pe_callB (r := rLenS K) call_lenS (by rfl) T.b_len PySem.boot_len (pa_cons (pv 0) pa_nil)) pa_nil)) (pg_name (i := 2) sc_law_pairs.nd rfl (Or.inl rfl))
         (pss_one (ps_for PassesOwn.never rfl (pi_range1 rfl T.b_range (pa_cons (pv 2) pa_nil)) (pg_name (i := 3) sc_law_pairs.nd rfl (Or.inl rfl))
          (pss_one (ps_if (pt_cmpR op_gt (pe_ix (r := rIxL K) ix_list (pv 0) (pv 3) (fun _ _ => rfl)) (pe_ix (r := rIxL K) ix_list (pv 0) (pv 2) (fun _ _ => rfl)) (nomark _)) (pss_one (ps_set (i := 1) sc_law_pairs.nd rfl (Or.inl rfl) (pe_op op_add (pv 1) pe_int))) pss_nil)))))
        (pss_one (ps_ret (pv 1))))), ?_⟩
    have O : Own H [] H := .start
    refine sq (AS O ev_c fun H1 O => ?_)
    refine sq (FR O (ea_cons (ev_lenI (ev_var rfl) (O.arg hS)) ea_nil) ⟨by omega, by omega⟩ (fun i σ' H' => ∃ (x y : Option V), σ' = [some (.ref a), some (.int (pairsTo ns i : Nat)), x, y] ∧ Own H [] H')
      (fun H2 O => ⟨none, none, rfl, O⟩) (fun i σ' H' hi hP => ?_) (fun σ' H' hP => ?_))
    · obtain ⟨x, y, rfl, O⟩ := hP
      have hi' : i < ns.length := by omega
      refine FR O (ea_cons (ev_var rfl) ea_nil) ⟨by omega, by omega⟩ (fun j σ' H' => ∃ (y : Option V), σ' = [some (.ref a), some (.int ((pairsTo ns i + cGt (ns.take j) (gt ns i) : Nat) : Int)), some (.int (i : Int)), y] ∧ Own H [] H')
        (fun H2 O => ⟨y, rfl, O⟩) (fun j σ' H' hj hP => ?_) (fun σ' H' hP => ?_)
      · obtain ⟨y, rfl, O⟩ := hP
        have hj' : j < ns.length := by omega
        have e := cGt_take ns j (gt ns i) hj'
        walk_at "if"
        · intro hb H2 O
          have hb := of_decide_eq_true hb
          rw [if_pos hb] at e
          walk_at "set"
          refine fun H3 O => ⟨some (.int (j : Int)), ?_, O⟩
          rw [e]
          rfl
        · intro hb H2 O
          have hb := of_decide_eq_false hb
          rw [if_neg hb] at e
          refine ⟨some (.int (j : Int)), ?_, O⟩
          rw [e]
          rfl
      · obtain ⟨y, rfl, O⟩ := hP
        exact ⟨_, _, rfl, O⟩
    · obtain ⟨x, y, rfl, O⟩ := hP
      refine RT O (ev_var rfl) fun H2 O => ?_
      rw [Int.toNat_natCast, pairs_inv]
      exact O.ret k
/-! #### _law_whole -/
def sp_law_whole (_ : PySem.W.Frag) : Sp := fun vs H Q _ => ∃ n : Int, vs = [.int n] ∧ RetV (.bl true) H Q
theorem ec_law_whole {σ : L2.St} {H : Hp} {ta : TE} {n : Int} {E : XK} (h1 : Ev ta σ H (.int n)) : Ev (tCall (sp_law_whole K) [] E (tCons ta tNil)) σ H (.bl true) :=
  ev_call (ea_cons h1 ea_nil) fun H1 e Q q _ => ⟨n, rfl, q⟩
theorem ok_law_whole (T : Bi mg) (df : Def K mg "_law_whole" s_law_whole) : Has P w K mg base CX0 "_law_whole" 1 ["found"] (sp_law_whole K) := by
  obtain ⟨f, fd, F, g⟩ := df
  refine ⟨f, fd, F.ok sc_law_whole (fun vs H Q E h => ?_) (fun cdv A outer s H vs Q E hr h => ?_), g, F.kp, F.binds fun _ _ _ _ _ _ us hl => match us, hl with | [_], _ => rfl⟩
  · obtain ⟨n, rfl, k⟩ := h; rfl
  · obtain ⟨n, rfl, k⟩ := h
    refine ⟨_, (pss_one (ps_ret (pe_and (pe_callB (r := rIsi K) call_isiS (by rfl) T.b_isinstance (by decide +kernel) (pa_cons (pv 0) (pa_cons (pe_bltn (v := .ty "int") (by rfl) T.b_int (by decide +kernel) rfl) pa_nil))) (pe_one (pe_not (pe_callB (r := rIsi K) call_isiS (by rfl) T.b_isinstance (by decide +kernel) (pa_cons (pv 0) (pa_cons (pe_bltn (v := .ty "bool") (by rfl) T.b_bool (by decide +kernel) rfl) pa_nil)))))))), ?_⟩
    have O : Own H [] H := .start
    exact RT O (ev_andV (ev_isiInt (ev_var rfl) rfl) fun _ => ev_notV (ev_isiInt (b := false) (ev_var rfl) rfl)) fun H2 O => O.ret k
/-! #### _law_alike -/
def sp_law_alike (K : PySem.W.Frag) : Sp := fun vs H Q _ => ∃ (a c : Addr) (ns : List Int), vs = [.ref a, .ref c] ∧ H a = some (.lst (il ns)) ∧ SqL K H c (il ns) ∧ ns.length ≤ 1000 ∧ RetV (.bl true) H Q
theorem ec_law_alike {σ : L2.St} {H : Hp} {ta tb : TE} {a c : Addr} {ns : List Int} {E : XK} (h1 : Ev ta σ H (.ref a)) (h2 : Ev tb σ H (.ref c)) (ha : H a = some (.lst (il ns))) (hc : SqL K H c (il ns)) (hl : ns.length ≤ 1000) :
    Ev (tCall (sp_law_alike K) [] E (tCons ta (tCons tb tNil))) σ H (.bl true) :=
  ev_call (ea_cons h1 (ea_cons h2 ea_nil)) fun H1 e Q q _ => ⟨a, c, ns, rfl, e _ _ ha, ex_l e hc, hl, q⟩
theorem ec_law_alikeN {σ : L2.St} {H : Hp} {ta tb : TE} {c : Addr} {ns : List Int} {E : XK} (h1 : EvL ta σ H (il ns)) (h2 : ∀ H1, Ex H H1 → Ev tb σ H1 (.ref c)) (hc : SqL K H c (il ns)) (hl : ns.length ≤ 1000) :
    Ev (tCall (sp_law_alike K) [] E (tCons ta (tCons tb tNil))) σ H (.bl true) := fun H1 e Q q =>
  h1 H1 e _ fun p H2 _ e2 hp => h2 H2 (e.trans e2) H2 (Ex.refl H2) _ fun H3 e3 => ⟨p, c, ns, rfl, e3 p _ hp, ex_l ((e.trans e2).trans e3) hc, hl, fun H4 e4 => q H4 ((e2.trans e3).trans e4)⟩
theorem ec_law_alikeM {σ : L2.St} {H : Hp} {ta tb : TE} {a : Addr} {ns : List Int} {E : XK} (h1 : Ev ta σ H (.ref a)) (h2 : EvL tb σ H (il ns)) (ha : H a = some (.lst (il ns))) (hl : ns.length ≤ 1000) :
    Ev (tCall (sp_law_alike K) [] E (tCons ta (tCons tb tNil))) σ H (.bl true) := fun H1 e Q q =>
  h1 H1 e _ fun H2 e2 => h2 H2 (e.trans e2) _ fun p H3 hp e3 hc => ⟨a, p, ns, rfl, ((e.trans e2).trans e3) _ _ ha, sq_of hc, hl, fun H4 e4 => q H4 ((e2.trans e3).trans e4)⟩
theorem ec_law_alikeNN {σ : L2.St} {H : Hp} {ta tb : TE} {ns : List Int} {E : XK} (h1 : EvL ta σ H (il ns)) (h2 : ∀ H1, Ex H H1 → EvL tb σ H1 (il ns)) (hl : ns.length ≤ 1000) :
    Ev (tCall (sp_law_alike K) [] E (tCons ta (tCons tb tNil))) σ H (.bl true) := fun H1 e Q q =>
  h1 H1 e _ fun p H2 _ e2 hp => h2 H2 (e.trans e2) H2 (Ex.refl H2) _ fun r H3 _ e3 hr => ⟨p, r, ns, rfl, e3 p _ hp, sq_of hr, hl, fun H4 e4 => q H4 ((e2.trans e3).trans e4)⟩
theorem ok_law_alike (T : Bi mg) (h_law_whole : Has P w K mg base CX0 "_law_whole" 1 ["found"] (sp_law_whole K)) (df : Def K mg "_law_alike" s_law_alike) : Has P w K mg base CX0 "_law_alike" 2 ["found", "due"] (sp_law_alike K) := by
  obtain ⟨f, fd, F, g⟩ := df
  obtain ⟨f_law_whole, fd_law_whole, G_law_whole, g_law_whole, kp_law_whole, bd_law_whole⟩ := h_law_whole
  refine ⟨f, fd, F.ok sc_law_alike (fun vs H Q E h => ?_) (fun cdv A outer s H vs Q E hr h => ?_), g, F.kp, F.binds fun _ _ _ _ _ _ us hl => match us, hl with | [_, _], _ => rfl⟩
  · obtain ⟨a, c, ns, rfl, ha, hc, hl, k⟩ := h; rfl
  · obtain ⟨a, c, ns, rfl, ha, hc, hl, k⟩ := h
    have hr_law_whole : Room 1 _ := hr.mono (by decide)
    refine ⟨_, (pss_cons (ps_if (PW.pt (pw_or (pt_not (pt_val (pe_callB (r := rIsi K) call_isiS (by rfl) T.b_isinstance (by decide +kernel) (pa_cons (pv 0) (pa_cons (pe_bltn (v := .ty "list") (by rfl) T.b_list (by decide +kernel) rfl) pa_nil))))) (pw_or1 (pt_cmpR op_ne (pe_callB (r := rLenS K) call_lenS (by rfl) T.b_len PySem.boot_len (pa_cons (pv 0) pa_nil)) (pe_callB (r := rLenS K) call_lenS (by rfl) T.b_len PySem.boot_len (pa_cons (pv 1) pa_nil)) (nomark _))))) (pss_one (ps_ret pe_bl)) pss_nil)
        (pss_cons (ps_for PassesOwn.never rfl (pi_range1 rfl T.b_range (pa_cons (pe_callB (r := rLenS K) call_lenS (by rfl) T.b_len PySem.boot_len (pa_cons (pv 1) pa_nil)) pa_nil)) (pg_name (i := 2) sc_law_alike.nd rfl (Or.inl rfl))
         (pss_one (ps_if (PW.pt (pw_or (pt_not (pt_val (pe_call G_law_whole hr_law_whole (by rfl) g_law_whole kp_law_whole bd_law_whole .nil pass0 (pa_cons (pe_ix (r := rIxL K) ix_list (pv 0) (pv 2) (fun _ _ => rfl)) pa_nil)))) (pw_or1 (pt_cmpR op_ne (pe_ix (r := rIxL K) ix_list (pv 0) (pv 2) (fun _ _ => rfl)) (pe_ix (r := rIxL K) ix_list (pv 1) (pv 2) (fun _ _ => rfl)) (nomark _))))) (pss_one (ps_ret pe_bl)) pss_nil)))
        (pss_one (ps_ret pe_bl)))), ?_⟩
    have O : Own H [] H := .start
    refine qWH O (et_or (et_not (et_B (ev_isiLst (b := true) (ev_var rfl) ha rfl))) fun _ => et_test (ev_op (ev_lenI (ev_var rfl) (sq_of ha)) (ev_lenI (ev_var rfl) hc) rv_neI)) (fun hb H1 O => ?_) (fun hb H1 O => ?_)
    · rw [decide_eq_true (show (ns.length : Int) = ns.length from rfl)] at hb
      cases hb
    · refine qFR O (ea_cons (ev_lenI (ev_var rfl) (O.arg hc)) ea_nil) ⟨by omega, by omega⟩ (fun i σ' H' => ∃ x : Option V, σ' = [some (.ref a), some (.ref c), x] ∧ Own H [] H')
        (fun H2 O => ⟨none, rfl, O⟩) (fun i σ' H' hi hP => ?_) (fun σ' H' hP => ?_)
      · obtain ⟨x, rfl, O⟩ := hP
        have ha := O.arg (sq_of (K := K) ha)
        have hi : i < ns.length := by omega
        refine WH O (et_or (et_not (et_B (ec_law_whole (ev_ix (ev_var rfl) ha (ev_var rfl) hi)))) fun _ => et_test (ev_op (ev_ix (ev_var rfl) ha (ev_var rfl) hi) (ev_ix (ev_var rfl) (O.arg hc) (ev_var rfl) hi) rv_neI)) (fun hb H2 O => ?_) (fun hb H2 O => ⟨_, rfl, O⟩)
        rw [decide_eq_true (show gt ns i = gt ns i from rfl)] at hb
        cases hb
      · obtain ⟨x, rfl, O⟩ := hP
        exact RT O ev_c fun H2 O => O.ret k
/-! #### _law_falls -/
def sp_law_falls (K : PySem.W.Frag) : Sp := fun vs H Q _ => ∃ (a : Addr) (ns : List Int), vs = [.ref a] ∧ SqL K H a (il ns) ∧ ns.length ≤ 1000 ∧ RetL (il (fallsL ns)) H Q
theorem el_law_falls {σ : L2.St} {H : Hp} {ta : TE} {a : Addr} {ns : List Int} {E : XK} (h1 : Ev ta σ H (.ref a)) (hx : SqL K H a (il ns)) (hl : ns.length ≤ 1000) : EvL (tCall (sp_law_falls K) [] E (tCons ta tNil)) σ H (il (fallsL ns)) :=
  el_call (ea_cons h1 ea_nil) fun H1 e Q q _ => ⟨a, ns, rfl, ex_l e hx, hl, q⟩
theorem ok_law_falls (T : Bi mg) (df : Def K mg "_law_falls" s_law_falls) : Has P w K mg base CX0 "_law_falls" 1 ["row"] (sp_law_falls K) := by
  obtain ⟨f, fd, F, g⟩ := df
  refine ⟨f, fd, F.ok sc_law_falls (fun vs H Q E h => ?_) (fun cdv A outer s H vs Q E hr h => ?_), g, F.kp, F.binds fun _ _ _ _ _ _ us hl => match us, hl with | [_], _ => rfl⟩
  · obtain ⟨a, ns, rfl, hS, hl, k⟩ := h; rfl
  · obtain ⟨a, ns, rfl, hS, hl, k⟩ := h
    refine ⟨_, (pss_cons (ps_set (i := 1) sc_law_falls.nd rfl (Or.inl rfl) (pe_lst pa_nil))
        (pss_cons (ps_for PassesOwn.never rfl (pi_range2 rfl T.b_range (pa_cons pe_int (pa_cons (pe_callB (r := rLenS K) call_lenS (by rfl) T.b_len PySem.boot_len (pa_cons (pv 0) pa_nil)) pa_nil))) (pg_name (i := 2) sc_law_falls.nd rfl (Or.inl rfl))
         (pss_one (ps_if (pt_cmpR op_lt (pe_ix (r := rIxL K) ix_list (pv 0) (pv 2) (fun _ _ => rfl)) (pe_ix (r := rIxL K) ix_list (pv 0) (pe_op op_sub (pv 2) pe_int) (fun _ _ => rfl)) (nomark _)) (pss_one (ps_expr (show PE _ _ (tBM K "list" rAppend _ (tCons _ tNil)) from pe_bm PySem.F.plainAttrs_list PySem.F.slot_list_append PySem.F.type_list_append mt_append (pv 1) (pa_cons (pv 2) pa_nil)))) pss_nil)))
        (pss_one (ps_ret (pv 1))))), ?_⟩
    have O : Own H [] H := .start
    refine qAL O (el_lst ea_nil (Nat.zero_le _)) fun p H1 O => ?_
    refine qFR2 O (ea_cons ev_c (ea_cons (ev_lenI (ev_var rfl) (O.arg hS)) ea_nil)) ⟨by omega, by omega, by omega, by omega⟩ (fun i σ' H' => ∃ x : Option V, σ' = [some (.ref a), some (.ref p), x] ∧ Own H [(p, il (fallsTo ns i))] H')
      (fun H2 O => ⟨none, rfl, O⟩) (fun i σ' H' hi hP => ?_) (fun σ' H' hP => ?_)
    · obtain ⟨x, rfl, O⟩ := hP
      have hS := O.arg hS
      have e := fallsTo_succ ns i
      have hz := fallsTo_len ns i
      refine WH O (et_test (ev_op (ev_ixn (1 + i) (ev_var rfl) hS (ev_var rfl) (by omega) (by omega)) (ev_ixn i (ev_var rfl) hS (ev_op (ev_var rfl) ev_c rv_I0) (by omega) (by omega)) rv_I0)) (fun hb H2 O => ?_) (fun hb H2 O => ?_)
      · rw [if_pos (of_decide_eq_true hb)] at e
        refine APP 0 O rfl (ev_var rfl) (ev_var rfl) (by rw [List.length_map]; omega) fun H3 O => ⟨_, rfl, ?_⟩
        rw [e, il_append]
        exact O
      · rw [if_neg (of_decide_eq_false hb)] at e
        refine ⟨_, rfl, ?_⟩
        rw [e, List.append_nil]
        exact O
    · obtain ⟨x, rfl, O⟩ := hP
      rw [show ((ns.length : Int) - 1).toNat = ns.length - 1 by omega] at O
      exact RT O (ev_var rfl) fun H2 O => O.retL 0 rfl k
/-! #### law -/
def sp_law (K : PySem.W.Frag) : Sp := fun vs H Q _ => ∃ (a : Addr) (ns : List Int), vs = [.ref a] ∧ SqL K H a (ns.map V.int) ∧ ns.length ≤ 63 ∧ ∀ H', Q (.bl true) H'
/-- [f(row) for row in rows] -/
theorem lcRows {K : PySem.W.Frag} {H : Hp} {σ : L2.St} {tl te : TE} {p : Addr} {j : Nat} {vs : List Nat} {Dn : List (Addr × List Int)} (g : List Int → Int) (h : Ev tl σ H (.ref p)) (hp : SqL K H p (Dr Dn)) (hz : Dn.length ≤ 1000) (hw : ∀ x, wipe ((wipe σ vs).set j (some x)) vs = wipe σ vs)
    (he : ∀ d, d ∈ Dn → ∀ H1, Ex H H1 → Ev te ((wipe σ vs).set j (some (.ref d.1))) H1 (.int (g d.2))) : EvL (tLc (iList K tl) (gName j) tYes te vs) σ H (il ((Dn.map (·.2)).map g)) := by
  have eg := given_map Dn ((0 : Addr), ([] : List Int)) (fun d => V.int (g d.2))
  have e2 : Dn.map (fun d => V.int (g d.2)) = il ((Dn.map (·.2)).map g) := by
    unfold il
    rw [List.map_map, List.map_map]
    rfl
  rw [← e2, ← eg]
  have hl : (Dr Dn).length = Dn.length := List.length_map ..
  rw [← hl]
  refine el_lcL (fun _ => true) (fun i => V.int (g (Dn.getD i (0, [])).2)) h hp (by rw [hl]; omega) hw (fun i x H1 e hi => et_yes) fun i x H1 e hi _ => ?_
  rw [List.getElem?_map] at hi
  cases hd : Dn[i]? with
  | none => rw [hd] at hi; cases hi
  | some d =>
    rw [hd] at hi
    cases hi
    have e3 : Dn.getD i (0, []) = d := by rw [List.getD_eq_getElem?_getD, hd] <;> rfl
    rw [e3]
    exact he d (List.mem_of_getElem? hd) H1 e
theorem ok_law (T : Bi mg) (h_law_amounts : Has P w K mg base CX0 "_law_amounts" 2 ["script", "kinds", "most"] (sp_law_amounts K)) (h_law_all_rows : Has P w K mg base CX0 "_law_all_rows" 1 ["amounts"] (sp_law_all_rows K)) (h_spread : Has P w K mg base CX0 "spread" 3 ["amounts"] (sp_spread K)) (h_law_counted : Has P w K mg base CX0 "_law_counted" 1 ["numbers"] (sp_law_counted K)) (h_law_pairs : Has P w K mg base CX0 "_law_pairs" 1 ["row"] (sp_law_pairs K)) (h_law_alike : Has P w K mg base CX0 "_law_alike" 2 ["found", "due"] (sp_law_alike K)) (h_law_falls : Has P w K mg base CX0 "_law_falls" 1 ["row"] (sp_law_falls K)) {f : Addr} {fd : FuncData} (F : Fun K "law" "law" s_law f fd) : FnOk P w K mg base CX0 4 f fd ["script"] (sp_law K) := by
  obtain ⟨f_law_amounts, fd_law_amounts, G_law_amounts, g_law_amounts, kp_law_amounts, bd_law_amounts⟩ := h_law_amounts
  obtain ⟨f_law_all_rows, fd_law_all_rows, G_law_all_rows, g_law_all_rows, kp_law_all_rows, bd_law_all_rows⟩ := h_law_all_rows
  obtain ⟨f_spread, fd_spread, G_spread, g_spread, kp_spread, bd_spread⟩ := h_spread
  obtain ⟨f_law_counted, fd_law_counted, G_law_counted, g_law_counted, kp_law_counted, bd_law_counted⟩ := h_law_counted
  obtain ⟨f_law_pairs, fd_law_pairs, G_law_pairs, g_law_pairs, kp_law_pairs, bd_law_pairs⟩ := h_law_pairs
  obtain ⟨f_law_alike, fd_law_alike, G_law_alike, g_law_alike, kp_law_alike, bd_law_alike⟩ := h_law_alike
  obtain ⟨f_law_falls, fd_law_falls, G_law_falls, g_law_falls, kp_law_falls, bd_law_falls⟩ := h_law_falls
  refine F.ok sc_law (fun vs H Q E h => ?_) (fun cdv A outer s H vs Q E hr h => ?_)
  · obtain ⟨a, ns, rfl, hS, hlen, k⟩ := h; rfl
  · obtain ⟨a, ns, rfl, hS, hlen, k⟩ := h
    have hr_law_amounts : Room 2 _ := hr.mono (by decide)
    have hr_law_all_rows : Room 1 _ := hr.mono (by decide)
    have hr_spread : Room 3 _ := hr.mono (by decide)
    have hr_law_counted : Room 1 _ := hr.mono (by decide)
    have hr_law_pairs : Room 1 _ := hr.mono (by decide)
    have hr_law_alike : Room 2 _ := hr.mono (by decide)
    have hr_law_falls : Room 1 _ := hr.mono (by decide)
    refine ⟨_, (pss_cons (ps_set (i := 1) sc_law.nd rfl (Or.inl rfl) (pe_call G_law_amounts hr_law_amounts (by rfl) g_law_amounts kp_law_amounts bd_law_amounts .nil pass0 (pa_cons (pv 0) (pa_cons pe_int (pa_cons pe_int pa_nil)))))
        (pss_cons (ps_set (i := 2) sc_law.nd rfl (Or.inl rfl) (pe_call G_law_all_rows hr_law_all_rows (by rfl) g_law_all_rows kp_law_all_rows bd_law_all_rows .nil pass0 (pa_cons (pv 1) pa_nil)))
        (pss_cons (ps_set (i := 3) sc_law.nd rfl (Or.inl rfl) (pe_callTy (r := rListS K) call_listS (by rfl) T.b_list (by decide +kernel) (pa_cons (pv 1) pa_nil)))
        (pss_cons (ps_set (i := 4) sc_law.nd rfl (Or.inl rfl) (pe_call G_spread hr_spread (by rfl) g_spread kp_spread bd_spread .nil pass0 (pa_cons (pv 3) pa_nil)))
        (pss_cons (ps_set (i := 5) sc_law.nd rfl (Or.inl rfl) (pe_call G_law_counted hr_law_counted (by rfl) g_law_counted kp_law_counted bd_law_counted .nil pass0 (pa_cons (pe_lc (own := [("row", 6)]) (g := gName 6) (by rfl) sc_law.nd (pi_list (pv 2)) (blkOk_by (own := [("row", 6)]) (N := ["script", "amounts", "rows", "handed", "found", "due", "row"]) (sc := defScope s_law) (by decide +kernel)) (fun _ _ _ _ _ => pg_name (i := 6) sc_law.nd rfl (Or.inl rfl)) (fun _ _ _ _ _ => pts_nil) (fun _ _ _ _ _ => (pe_call G_law_pairs hr_law_pairs (by rfl) g_law_pairs kp_law_pairs bd_law_pairs .nil pass0 (pa_cons (pv 6) pa_nil)))) pa_nil)))
        (pss_cons (ps_if (PW.pt (pw_or (pt_not (pt_val (pe_call G_law_alike hr_law_alike (by rfl) g_law_alike kp_law_alike bd_law_alike .nil pass0 (pa_cons (pv 4) (pa_cons (pv 5) pa_nil))))) (pw_or1 (pt_cmpR (r := rNeD K) (op_neD hr.units) (pv 3) (pv 1) (nomark _))))) (pss_one (ps_ret pe_bl)) pss_nil)
        (pss_cons (ps_if (pt_cmpR (r := rNeD K) (op_neD hr.units) (pe_call G_law_counted hr_law_counted (by rfl) g_law_counted kp_law_counted bd_law_counted .nil pass0 (pa_cons (pe_lc (own := [("row", 6)]) (g := gName 6) (by rfl) sc_law.nd (pi_list (pv 2)) (blkOk_by (own := [("row", 6)]) (N := ["script", "amounts", "rows", "handed", "found", "due", "row"]) (sc := defScope s_law) (by decide +kernel)) (fun _ _ _ _ _ => pg_name (i := 6) sc_law.nd rfl (Or.inl rfl)) (fun _ _ _ _ _ => pts_nil) (fun _ _ _ _ _ => (pe_callB (r := rSum K) (cr_sum rfl) (by rfl) T.b_sum (by decide +kernel) (pa_cons (pe_call G_law_falls hr_law_falls (by rfl) g_law_falls kp_law_falls bd_law_falls .nil pass0 (pa_cons (pv 6) pa_nil)) pa_nil)))) pa_nil)) (pv 5) (nomark _)) (pss_one (ps_ret pe_bl)) pss_nil)
        (pss_cons (ps_expr (show PE _ _ (tBM K "list" rAppend _ (tCons _ tNil)) from pe_bm PySem.F.plainAttrs_list PySem.F.slot_list_append PySem.F.type_list_append mt_append (pv 4) (pa_cons pe_int pa_nil)))
        (pss_one (ps_ret (pe_call G_law_alike hr_law_alike (by rfl) g_law_alike kp_law_alike bd_law_alike .nil pass0 (pa_cons (pe_call G_spread hr_spread (by rfl) g_spread kp_spread bd_spread .nil pass0 (pa_cons (pv 3) pa_nil)) (pa_cons (pv 5) pa_nil))))))))))))), ?_⟩
    have O : Own H [] H := .start
    refine qAC O (ea_cons (ev_var rfl) (ea_cons ev_c (ea_cons ev_c ea_nil))) fun H1 O => ⟨a, ns, 4, 5, rfl, O.arg hS, by decide, by decide, fun am hal h0 hs _ p H2 hp e h => ?_⟩
    have O := O.new hp e h
    have hAm : IsAm am := ⟨by omega, h0, by omega⟩
    have hok := AmOk.of (am_ok hal h0 hs)
    refine qAC O (ea_cons (ev_var rfl) ea_nil) fun H3 O => ⟨p, am, rfl, O.seq 0 rfl, hal, sum_nn h0, hs, fun r Dn H4 hD hr e hrd hdn => ?_⟩
    have hpA : H4 p = some (.lst (il am)) := e _ _ (O.get 0 rfl)
    have hDl : Dn.length ≤ 200 := by
      have := congrArg List.length hD
      rw [List.length_map] at this
      have := hok.len
      omega
    have hDp : 0 < Dn.length := by
      have := congrArg List.length hD
      rw [List.length_map] at this
      have := hok.pos
      omega
    have hrow : ∀ d, d ∈ Dn → d.2 ∈ rowsL am := fun d hd => by rw [← hD]; exact List.mem_map.mpr ⟨d, hd, rfl⟩
    have O : Own H4 [] H4 := .start
    refine qAL O (el_list (ev_var rfl) (O.arg (sq_of hpA))) fun hd H5 O => ?_
    refine qAL O (el_spread (ev_var rfl) (O.seq 0 rfl) hAm) fun f H6 O => ?_
    have b1 : ∀ v, v ∈ (Dn.map (·.2)).map (fun r => (inv r : Int)) → 0 ≤ v ∧ v ≤ 1000 := fun v hv => by
      obtain ⟨r, hr, rfl⟩ := List.mem_map.mp hv
      rw [hD] at hr
      have := (hok.row r hr).2.1
      omega
    have b2 : ∀ v, v ∈ (Dn.map (·.2)).map (fun r => (fallsL r).sum) → 0 ≤ v ∧ v ≤ 1000 := fun v hv => by
      obtain ⟨r, hr, rfl⟩ := List.mem_map.mp hv
      rw [hD] at hr
      exact (hok.row r hr).2.2
    have c1 : countedL ((Dn.map (·.2)).map fun r => (inv r : Int)) = spreadL am := by rw [hD]; exact hok.pairs
    have c2 : countedL ((Dn.map (·.2)).map fun r => (fallsL r).sum) = spreadL am := by rw [hD]; exact hok.fall
    refine qAL O (el_law_countedN (lcRows (Dn := Dn) (fun r => (inv r : Int)) (ev_var rfl) (O.arg (sq_of hrd)) (by omega) (fun x => rfl) fun d hd' H7 e7 => ec_law_pairs (ev_var rfl) (sq_of (e7 _ _ (O.ex _ _ (hdn d hd')))) (by have := (hok.row d.2 (hrow d hd')).1; omega)) (by rw [List.length_map, List.length_map]; exact hDp) (by rw [List.length_map, List.length_map]; omega) b1) fun du H8 O => ?_
    rw [c1] at O
    have hsl : (spreadL am).length ≤ 1000 := by
      rw [← c1]
      unfold countedL
      rw [cntTo_len, zeros_len]
      have := mxI_le (l := (Dn.map (·.2)).map fun r => (inv r : Int)) (m := 100) (by decide) fun y hy => by
        obtain ⟨r, hr, rfl⟩ := List.mem_map.mp hy
        rw [hD] at hr
        have := (hok.row r hr).2.1
        omega
      omega
    refine qWH O (et_or (et_not (et_B (ec_law_alike (ev_var rfl) (ev_var rfl) (O.get 1 rfl) (O.seq 0 rfl) hsl))) fun _ => et_test (ev_op (ev_var rfl) (ev_var rfl) (rv_neL (O.seq 2 rfl) (O.arg (sq_of hpA))))) (fun hb H9 O => ?_) (fun hb H9 O => ?_)
    · simp at hb
    have cnt2 : EvL (tCall (sp_law_counted K) [] E0 (tCons (tLc (iList K (tVar 2)) (gName 6) tYes (tCB (rSum K) (tCons (tCall (sp_law_falls K) [] E0 (tCons (tVar 6) tNil)) tNil)) [6]) tNil)) [some (.ref a), some (.ref p), some (.ref r), some (.ref hd), some (.ref f), some (.ref du), none] H9 (il (spreadL am)) := c2 ▸ el_law_countedN (lcRows (Dn := Dn) (fun r => (fallsL r).sum) (ev_var rfl) (O.arg (sq_of hrd)) (by omega) (fun x => rfl) fun d hd' H7 e7 => ev_sumN (el_law_falls (ev_var rfl) (sq_of (e7 _ _ (O.ex _ _ (hdn d hd')))) (by have := (hok.row d.2 (hrow d hd')).1; omega))) (by rw [List.length_map, List.length_map]; exact hDp) (by rw [List.length_map, List.length_map]; omega) b2
    refine qWH O (et_test (ev_opL1 cnt2 (fun H10 e => ev_var rfl) fun q H10 hq e => rv_neL (sq_of hq) (ex_l e (O.seq 0 rfl)))) (fun hb H10 O => ?_) (fun hb H10 O => ?_)
    · simp at hb
    refine qAPP 1 O rfl (ev_var rfl) ev_c (by rw [List.length_map]; omega) fun H11 O => ?_
    exact RT O (ec_law_alikeN (el_spread (ev_var rfl) (O.seq 2 rfl) hAm) (fun _ _ => ev_var rfl) (O.seq 0 rfl) hsl) fun H12 _ => k H12
end
theorem all_mk {l : PySem.W.OpenLaw} {w : World} {K : PySem.W.Frag} {h : Heap} {mg : Str → Option Value} {fa : Addr} (X : K.In h) (G : h.Ns mainGlobals mg) (hfa : mg "law" = some (.ref fa))
    {f0 : Addr} {od0 an0 : Option Addr} {sl0 : Array (Option Value)} {oc0 kV0 dc0 pm0 cd0 ct0 : Value}
    (a0 : PySem.W.nsIn K mainGlobals "_law_cell_at" = some (some (.ref f0))) (l0 : K.lookup f0 = some ⟨oc0, od0, .func (PySem.W.fnOf "_law_cell_at" "_law_cell_at" (defArgs s_law_cell_at) (defBody s_law_cell_at) (defScope s_law_cell_at) .none kV0 dc0 pm0 an0 cd0 ct0), sl0⟩) (c0 : PySem.W.codeIn K cd0 "_law_cell_at" = true) (k0 : PySem.W.keepIn K (.ref f0) = true)
    {f1 : Addr} {od1 an1 : Option Addr} {sl1 : Array (Option Value)} {oc1 kV1 dc1 pm1 cd1 ct1 : Value}
    (a1 : PySem.W.nsIn K mainGlobals "_law_next" = some (some (.ref f1))) (l1 : K.lookup f1 = some ⟨oc1, od1, .func (PySem.W.fnOf "_law_next" "_law_next" (defArgs s_law_next) (defBody s_law_next) (defScope s_law_next) .none kV1 dc1 pm1 an1 cd1 ct1), sl1⟩) (c1 : PySem.W.codeIn K cd1 "_law_next" = true) (k1 : PySem.W.keepIn K (.ref f1) = true)
    {f2 : Addr} {od2 an2 : Option Addr} {sl2 : Array (Option Value)} {oc2 kV2 dc2 pm2 cd2 ct2 : Value}
    (a2 : PySem.W.nsIn K mainGlobals "_law_amounts" = some (some (.ref f2))) (l2 : K.lookup f2 = some ⟨oc2, od2, .func (PySem.W.fnOf "_law_amounts" "_law_amounts" (defArgs s_law_amounts) (defBody s_law_amounts) (defScope s_law_amounts) .none kV2 dc2 pm2 an2 cd2 ct2), sl2⟩) (c2 : PySem.W.codeIn K cd2 "_law_amounts" = true) (k2 : PySem.W.keepIn K (.ref f2) = true)
    {f3 : Addr} {od3 an3 : Option Addr} {sl3 : Array (Option Value)} {oc3 kV3 dc3 pm3 cd3 ct3 : Value}
    (a3 : PySem.W.nsIn K mainGlobals "_law_all_rows" = some (some (.ref f3))) (l3 : K.lookup f3 = some ⟨oc3, od3, .func (PySem.W.fnOf "_law_all_rows" "_law_all_rows" (defArgs s_law_all_rows) (defBody s_law_all_rows) (defScope s_law_all_rows) .none kV3 dc3 pm3 an3 cd3 ct3), sl3⟩) (c3 : PySem.W.codeIn K cd3 "_law_all_rows" = true) (k3 : PySem.W.keepIn K (.ref f3) = true)
    {f4 : Addr} {od4 an4 : Option Addr} {sl4 : Array (Option Value)} {oc4 kV4 dc4 pm4 cd4 ct4 : Value}
    (a4 : PySem.W.nsIn K mainGlobals "asked_amounts" = some (some (.ref f4))) (l4 : K.lookup f4 = some ⟨oc4, od4, .func (PySem.W.fnOf "asked_amounts" "asked_amounts" (defArgs s_asked_amounts) (defBody s_asked_amounts) (defScope s_asked_amounts) .none kV4 dc4 pm4 an4 cd4 ct4), sl4⟩) (c4 : PySem.W.codeIn K cd4 "asked_amounts" = true) (k4 : PySem.W.keepIn K (.ref f4) = true)
    {f5 : Addr} {od5 an5 : Option Addr} {sl5 : Array (Option Value)} {oc5 kV5 dc5 pm5 cd5 ct5 : Value}
    (a5 : PySem.W.nsIn K mainGlobals "product" = some (some (.ref f5))) (l5 : K.lookup f5 = some ⟨oc5, od5, .func (PySem.W.fnOf "product" "product" (defArgs s_product) (defBody s_product) (defScope s_product) .none kV5 dc5 pm5 an5 cd5 ct5), sl5⟩) (c5 : PySem.W.codeIn K cd5 "product" = true) (k5 : PySem.W.keepIn K (.ref f5) = true)
    {f6 : Addr} {od6 an6 : Option Addr} {sl6 : Array (Option Value)} {oc6 kV6 dc6 pm6 cd6 ct6 : Value}
    (a6 : PySem.W.nsIn K mainGlobals "together" = some (some (.ref f6))) (l6 : K.lookup f6 = some ⟨oc6, od6, .func (PySem.W.fnOf "together" "together" (defArgs s_together) (defBody s_together) (defScope s_together) .none kV6 dc6 pm6 an6 cd6 ct6), sl6⟩) (c6 : PySem.W.codeIn K cd6 "together" = true) (k6 : PySem.W.keepIn K (.ref f6) = true)
    {f7 : Addr} {od7 an7 : Option Addr} {sl7 : Array (Option Value)} {oc7 kV7 dc7 pm7 cd7 ct7 : Value}
    (a7 : PySem.W.nsIn K mainGlobals "two_kinds" = some (some (.ref f7))) (l7 : K.lookup f7 = some ⟨oc7, od7, .func (PySem.W.fnOf "two_kinds" "two_kinds" (defArgs s_two_kinds) (defBody s_two_kinds) (defScope s_two_kinds) .none kV7 dc7 pm7 an7 cd7 ct7), sl7⟩) (c7 : PySem.W.codeIn K cd7 "two_kinds" = true) (k7 : PySem.W.keepIn K (.ref f7) = true)
    {f8 : Addr} {od8 an8 : Option Addr} {sl8 : Array (Option Value)} {oc8 kV8 dc8 pm8 cd8 ct8 : Value}
    (a8 : PySem.W.nsIn K mainGlobals "spread" = some (some (.ref f8))) (l8 : K.lookup f8 = some ⟨oc8, od8, .func (PySem.W.fnOf "spread" "spread" (defArgs s_spread) (defBody s_spread) (defScope s_spread) .none kV8 dc8 pm8 an8 cd8 ct8), sl8⟩) (c8 : PySem.W.codeIn K cd8 "spread" = true) (k8 : PySem.W.keepIn K (.ref f8) = true)
    {f9 : Addr} {od9 an9 : Option Addr} {sl9 : Array (Option Value)} {oc9 kV9 dc9 pm9 cd9 ct9 : Value}
    (a9 : PySem.W.nsIn K mainGlobals "_law_counted" = some (some (.ref f9))) (l9 : K.lookup f9 = some ⟨oc9, od9, .func (PySem.W.fnOf "_law_counted" "_law_counted" (defArgs s_law_counted) (defBody s_law_counted) (defScope s_law_counted) .none kV9 dc9 pm9 an9 cd9 ct9), sl9⟩) (c9 : PySem.W.codeIn K cd9 "_law_counted" = true) (k9 : PySem.W.keepIn K (.ref f9) = true)
    {f10 : Addr} {od10 an10 : Option Addr} {sl10 : Array (Option Value)} {oc10 kV10 dc10 pm10 cd10 ct10 : Value}
    (a10 : PySem.W.nsIn K mainGlobals "_law_pairs" = some (some (.ref f10))) (l10 : K.lookup f10 = some ⟨oc10, od10, .func (PySem.W.fnOf "_law_pairs" "_law_pairs" (defArgs s_law_pairs) (defBody s_law_pairs) (defScope s_law_pairs) .none kV10 dc10 pm10 an10 cd10 ct10), sl10⟩) (c10 : PySem.W.codeIn K cd10 "_law_pairs" = true) (k10 : PySem.W.keepIn K (.ref f10) = true)
    {f11 : Addr} {od11 an11 : Option Addr} {sl11 : Array (Option Value)} {oc11 kV11 dc11 pm11 cd11 ct11 : Value}
    (a11 : PySem.W.nsIn K mainGlobals "_law_whole" = some (some (.ref f11))) (l11 : K.lookup f11 = some ⟨oc11, od11, .func (PySem.W.fnOf "_law_whole" "_law_whole" (defArgs s_law_whole) (defBody s_law_whole) (defScope s_law_whole) .none kV11 dc11 pm11 an11 cd11 ct11), sl11⟩) (c11 : PySem.W.codeIn K cd11 "_law_whole" = true) (k11 : PySem.W.keepIn K (.ref f11) = true)
    {f12 : Addr} {od12 an12 : Option Addr} {sl12 : Array (Option Value)} {oc12 kV12 dc12 pm12 cd12 ct12 : Value}
    (a12 : PySem.W.nsIn K mainGlobals "_law_alike" = some (some (.ref f12))) (l12 : K.lookup f12 = some ⟨oc12, od12, .func (PySem.W.fnOf "_law_alike" "_law_alike" (defArgs s_law_alike) (defBody s_law_alike) (defScope s_law_alike) .none kV12 dc12 pm12 an12 cd12 ct12), sl12⟩) (c12 : PySem.W.codeIn K cd12 "_law_alike" = true) (k12 : PySem.W.keepIn K (.ref f12) = true)
    {f13 : Addr} {od13 an13 : Option Addr} {sl13 : Array (Option Value)} {oc13 kV13 dc13 pm13 cd13 ct13 : Value}
    (a13 : PySem.W.nsIn K mainGlobals "_law_falls" = some (some (.ref f13))) (l13 : K.lookup f13 = some ⟨oc13, od13, .func (PySem.W.fnOf "_law_falls" "_law_falls" (defArgs s_law_falls) (defBody s_law_falls) (defScope s_law_falls) .none kV13 dc13 pm13 an13 cd13 ct13), sl13⟩) (c13 : PySem.W.codeIn K cd13 "_law_falls" = true) (k13 : PySem.W.keepIn K (.ref f13) = true)
    {f14 : Addr} {od14 an14 : Option Addr} {sl14 : Array (Option Value)} {oc14 kV14 dc14 pm14 cd14 ct14 : Value}
    (a14 : PySem.W.nsIn K mainGlobals "law" = some (some (.ref f14))) (l14 : K.lookup f14 = some ⟨oc14, od14, .func (PySem.W.fnOf "law" "law" (defArgs s_law) (defBody s_law) (defScope s_law) .none kV14 dc14 pm14 an14 cd14 ct14), sl14⟩) (c14 : PySem.W.codeIn K cd14 "law" = true) (k14 : PySem.W.keepIn K (.ref f14) = true)
    (z_bool : PySem.W.nsIn K mainGlobals "bool" = some none)
    (z_int : PySem.W.nsIn K mainGlobals "int" = some none)
    (z_isinstance : PySem.W.nsIn K mainGlobals "isinstance" = some none)
    (z_len : PySem.W.nsIn K mainGlobals "len" = some none)
    (z_list : PySem.W.nsIn K mainGlobals "list" = some none)
    (z_max : PySem.W.nsIn K mainGlobals "max" = some none)
    (z_range : PySem.W.nsIn K mainGlobals "range" = some none)
    (z_reversed : PySem.W.nsIn K mainGlobals "reversed" = some none)
    (z_sum : PySem.W.nsIn K mainGlobals "sum" = some none)
    {t_MOST : Tok} (y_MOST : PySem.W.nsIn K mainGlobals "MOST" = some (some (.int 12 t_MOST)))
    {t_MOST_KINDS : Tok} (y_MOST_KINDS : PySem.W.nsIn K mainGlobals "MOST_KINDS" = some (some (.int 6 t_MOST_KINDS)))
    : ∃ fd : FuncData, (∀ (s : Shared) (v : Value), BindsTo s fd ⟨[v], []⟩ [("script", v)]) ∧ ∀ base : Heap, K.In base → base.Ns mainGlobals mg → FnOk l.prog w K mg base CX0 4 fa fd ["script"] (sp_law K) := by
  have e := hfa.symm.trans (PySem.W.mg_of X G a14)
  cases e
  have T : Bi mg := ⟨PySem.W.mg_none_of X G z_bool, PySem.W.mg_none_of X G z_int, PySem.W.mg_none_of X G z_isinstance, PySem.W.mg_none_of X G z_len, PySem.W.mg_none_of X G z_list, PySem.W.mg_none_of X G z_max, PySem.W.mg_none_of X G z_range, PySem.W.mg_none_of X G z_reversed, PySem.W.mg_none_of X G z_sum, ⟨_, PySem.W.mg_of X G y_MOST⟩, ⟨_, PySem.W.mg_of X G y_MOST_KINDS⟩⟩
  refine ⟨PySem.W.fnOf "law" "law" (defArgs s_law) (defBody s_law) (defScope s_law) .none kV14 dc14 pm14 an14 cd14 ct14, fun s v => .of_eq rfl, fun base _ _ => ?_⟩
  have h_law_cell_at := ok_law_cell_at (P := l.prog) (w := w) (base := base) T ⟨_, _, fun_mk (st := s_law_cell_at) l0 c0 k0, PySem.W.mg_of X G a0⟩
  have h_law_next := ok_law_next (P := l.prog) (w := w) (base := base) T ⟨_, _, fun_mk (st := s_law_next) l1 c1 k1, PySem.W.mg_of X G a1⟩
  have h_law_amounts := ok_law_amounts (P := l.prog) (w := w) (base := base) T h_law_cell_at h_law_next ⟨_, _, fun_mk (st := s_law_amounts) l2 c2 k2, PySem.W.mg_of X G a2⟩
  have h_law_all_rows := ok_law_all_rows (P := l.prog) (w := w) (base := base) T ⟨_, _, fun_mk (st := s_law_all_rows) l3 c3 k3, PySem.W.mg_of X G a3⟩
  have h_asked_amounts := ok_asked_amounts (P := l.prog) (w := w) (base := base) T ⟨_, _, fun_mk (st := s_asked_amounts) l4 c4 k4, PySem.W.mg_of X G a4⟩
  have h_product := ok_product (P := l.prog) (w := w) (base := base) T ⟨_, _, fun_mk (st := s_product) l5 c5 k5, PySem.W.mg_of X G a5⟩
  have h_together := ok_together (P := l.prog) (w := w) (base := base) T ⟨_, _, fun_mk (st := s_together) l6 c6 k6, PySem.W.mg_of X G a6⟩
  have h_two_kinds := ok_two_kinds (P := l.prog) (w := w) (base := base) T h_together ⟨_, _, fun_mk (st := s_two_kinds) l7 c7 k7, PySem.W.mg_of X G a7⟩
  have h_spread := ok_spread (P := l.prog) (w := w) (base := base) T h_asked_amounts h_product h_two_kinds ⟨_, _, fun_mk (st := s_spread) l8 c8 k8, PySem.W.mg_of X G a8⟩
  have h_law_counted := ok_law_counted (P := l.prog) (w := w) (base := base) T ⟨_, _, fun_mk (st := s_law_counted) l9 c9 k9, PySem.W.mg_of X G a9⟩
  have h_law_pairs := ok_law_pairs (P := l.prog) (w := w) (base := base) T ⟨_, _, fun_mk (st := s_law_pairs) l10 c10 k10, PySem.W.mg_of X G a10⟩
  have h_law_whole := ok_law_whole (P := l.prog) (w := w) (base := base) T ⟨_, _, fun_mk (st := s_law_whole) l11 c11 k11, PySem.W.mg_of X G a11⟩
  have h_law_alike := ok_law_alike (P := l.prog) (w := w) (base := base) T h_law_whole ⟨_, _, fun_mk (st := s_law_alike) l12 c12 k12, PySem.W.mg_of X G a12⟩
  have h_law_falls := ok_law_falls (P := l.prog) (w := w) (base := base) T ⟨_, _, fun_mk (st := s_law_falls) l13 c13 k13, PySem.W.mg_of X G a13⟩
  exact ok_law T h_law_amounts h_law_all_rows h_spread h_law_counted h_law_pairs h_law_alike h_law_falls (fun_mk (st := s_law) l14 c14 k14)
end Sh
open PySem PySem.W PyProof.Rows
set_option maxHeartbeats 0 in
theorem PySem.Challenge.cw_shelfway_k18_whole_spread_holds : PySem.Challenge.rw_shelfway_k18_whole_spread.Holds := by
  w_on; o_law; k_head; (case hw => w_witness2)
  k_fill
  refine L2.walk_of (l := PySem.Challenge.rw_shelfway_k18_whole_spread) (n := 63) (k := 4) (x := "script") (CX := fun _ => L2.CX0) (sp := fun w => Sh.sp_law _) rfl (by decide) rfl ⟨rfl, by decide, by decide⟩ (fun w h Y => PySem.W.kIn_of Y) ?F (fun _ _ a ns hl _ hS => ⟨a, ns, rfl, hS, hl, fun _ => rfl⟩) (fun _ _ _ _ _ h => h)
  case F =>
    intro w mg fa h KX G hmg
    refine' Sh.all_mk KX G hmg ?a0 ?l0 ?c0 ?k0 ?a1 ?l1 ?c1 ?k1 ?a2 ?l2 ?c2 ?k2 ?a3 ?l3 ?c3 ?k3 ?a4 ?l4 ?c4 ?k4 ?a5 ?l5 ?c5 ?k5 ?a6 ?l6 ?c6 ?k6 ?a7 ?l7 ?c7 ?k7 ?a8 ?l8 ?c8 ?k8 ?a9 ?l9 ?c9 ?k9 ?a10 ?l10 ?c10 ?k10 ?a11 ?l11 ?c11 ?k11 ?a12 ?l12 ?c12 ?k12 ?a13 ?l13 ?c13 ?k13 ?a14 ?l14 ?c14 ?k14 ?z_bool ?z_int ?z_isinstance ?z_len ?z_list ?z_max ?z_range ?z_reversed ?z_sum ?y_MOST ?y_MOST_KINDS
    (case a0 => k_is); (case l0 => k_is); (case c0 => k_is); (case k0 => k_is); (case a1 => k_is); (case l1 => k_is)
    (case c1 => k_is); (case k1 => k_is); (case a2 => k_is); (case l2 => k_is); (case c2 => k_is); (case k2 => k_is)
    (case a3 => k_is); (case l3 => k_is); (case c3 => k_is); (case k3 => k_is); (case a4 => k_is); (case l4 => k_is)
    (case c4 => k_is); (case k4 => k_is); (case a5 => k_is); (case l5 => k_is); (case c5 => k_is); (case k5 => k_is)
    (case a6 => k_is); (case l6 => k_is); (case c6 => k_is); (case k6 => k_is); (case a7 => k_is); (case l7 => k_is)
    (case c7 => k_is); (case k7 => k_is); (case a8 => k_is); (case l8 => k_is); (case c8 => k_is); (case k8 => k_is)
    (case a9 => k_is); (case l9 => k_is); (case c9 => k_is); (case k9 => k_is); (case a10 => k_is); (case l10 => k_is)
    (case c10 => k_is); (case k10 => k_is); (case a11 => k_is); (case l11 => k_is); (case c11 => k_is); (case k11 => k_is)
    (case a12 => k_is); (case l12 => k_is); (case c12 => k_is); (case k12 => k_is); (case a13 => k_is); (case l13 => k_is)
    (case c13 => k_is); (case k13 => k_is); (case a14 => k_is); (case l14 => k_is); (case c14 => k_is); (case k14 => k_is)
    (case z_bool => k_is); (case z_int => k_is); (case z_isinstance => k_is); (case z_len => k_is); (case z_list => k_is); (case z_max => k_is)
    (case z_range => k_is); (case z_reversed => k_is); (case z_sum => k_is); (case y_MOST => k_is); (case y_MOST_KINDS => k_is)
