import PyProof.Rows.All
import Wide.All
import OpenK.AllK
import Wide.FinOn
import HandS.ForMost
import HandS.Evl
import HandS.IsInst
import HandS.Rev
import HandS.Conv
import HandS.More
import HandS.SetFor
import HandS.Exc
import HandS.ExcOwn
import HandS.TryOnly
import HandS.WordsExc
import HandS.ExcIs
import HandS.ExcCtx
import HandS.HotCalls
import HandS.Text
import HandS.Codes
import PySem.Challenge.RW_shelfway_k22_unread
set_option Elab.async false
set_option linter.all false
set_option maxRecDepth 100000
set_option maxHeartbeats 2000000
namespace Sh
open PySem PySem.Spec PyProof.Rows L2 Evl
/-! ### what the call has made (M), beside what stood when it began (H0) -/
abbrev il (ns : List Int) : List V := ns.map V.int
theorem il_append (a b : List Int) : il (a ++ b) = il a ++ il b := List.map_append
theorem il_rev (a : List Int) : il a.reverse = (il a).reverse := List.map_reverse
structure Own (H0 : Hp) (M : List (Addr × List V)) (H : Hp) : Prop where
  ex : Ex H0 H
  own : ∀ m, m ∈ M → H0 m.1 = none ∧ H m.1 = some (.lst m.2)
  nd : (M.map (·.1)).Nodup
section
variable {K : PySem.W.Frag} {H0 H H1 : Hp} {M : List (Addr × List V)} {a p : Addr} {xs ys : List V} {v : V} {Q : VK}
theorem Own.start : Own H [] H := ⟨Ex.refl H, (fun _ h => by cases h), List.nodup_nil⟩
theorem Own.mono (O : Own H0 M H) (e : Ex H H1) : Own H0 M H1 := ⟨O.ex.trans e, fun m h => ⟨(O.own m h).1, e _ _ (O.own m h).2⟩, O.nd⟩
theorem Own.new (O : Own H0 M H) (hp : H p = none) (e : Ex H H1) (h : H1 p = some (.lst xs)) : Own H0 ((p, xs) :: M) H1 := by
  refine ⟨O.ex.trans e, fun m hm => ?_, ?_⟩
  · rcases List.mem_cons.mp hm with rfl | hm
    · exact ⟨fresh_back O.ex hp, h⟩
    · exact (O.mono e).own m hm
  · rw [List.map_cons, List.nodup_cons]
    refine ⟨fun hm => ?_, O.nd⟩
    obtain ⟨m, hm, e2⟩ := List.mem_map.mp hm
    have z := (O.own m hm).2
    rw [e2] at z
    have z2 : H p = some (.lst m.2) := z
    rw [hp] at z2
    cases z2
theorem Own.get (O : Own H0 M H) (i : Nat) (h : M[i]? = some (p, xs)) : H p = some (.lst xs) := (O.own (p, xs) (List.mem_of_getElem? h)).2
theorem Own.seq (O : Own H0 M H) (i : Nat) (h : M[i]? = some (p, xs)) : SqL K H p xs := sq_of (O.get i h)
theorem Own.arg (O : Own H0 M H) (h : SqL K H0 a xs) : SqL K H a xs := ex_l O.ex h
theorem Own.cons (O : Own H0 ((p, xs) :: M) H) : Own H0 M H := ⟨O.ex, fun m h => O.own m (List.mem_cons_of_mem _ h), (List.nodup_cons.mp O.nd).2⟩
theorem nodup_key {l : List (Addr × List V)} : ∀ {i j : Nat} {x y : Addr × List V}, (l.map (·.1)).Nodup → l[i]? = some x → l[j]? = some y → x.1 = y.1 → i = j := by
  intro i j x y nd hi hj e
  have h1 : (l.map (·.1))[i]? = some x.1 := by rw [List.getElem?_map, hi] <;> rfl
  have h2 : (l.map (·.1))[j]? = some y.1 := by rw [List.getElem?_map, hj] <;> rfl
  have li : i < (l.map (·.1)).length := (List.getElem?_eq_some_iff.mp h1).1
  exact (List.getElem?_inj li nd).mp (by rw [h1, h2, e])
theorem Own.upd (O : Own H0 M H) (i : Nat) (h : M[i]? = some (p, xs)) : Own H0 (M.set i (p, ys)) (L2.upd H p (.lst ys)) := by
  have hp0 : H0 p = none := (O.own (p, xs) (List.mem_of_getElem? h)).1
  have hi : i < M.length := (List.getElem?_eq_some_iff.mp h).1
  refine ⟨O.ex.mut hp0, fun m hm => ?_, ?_⟩
  · obtain ⟨j, hj⟩ := List.getElem?_of_mem hm
    by_cases e : i = j
    · subst e
      rw [List.getElem?_set_self hi] at hj
      cases hj
      exact ⟨hp0, upd_same⟩
    · rw [List.getElem?_set_ne e] at hj
      have q := O.own m (List.mem_of_getElem? hj)
      refine ⟨q.1, ?_⟩
      have hne : m.1 ≠ p := fun z => e (nodup_key O.nd h hj z.symm)
      rw [upd_ne hne]
      exact q.2
  · have : (M.set i (p, ys)).map (·.1) = M.map (·.1) := by
      rw [List.map_set]
      refine List.ext_getElem? fun j => ?_
      by_cases e : i = j
      · subst e
        rw [List.getElem?_set_self (by rw [List.length_map]; exact hi), List.getElem?_map, h] <;> rfl
      · rw [List.getElem?_set_ne e]
    rw [this]
    exact O.nd
theorem Own.ne {q : Addr} (O : Own H0 M H) (i j : Nat) (h : M[i]? = some (p, xs)) (h2 : M[j]? = some (q, ys)) (hij : i ≠ j) : p ≠ q := fun z => hij (nodup_key O.nd h h2 z)
theorem Own.retL (O : Own H0 M H) (i : Nat) (h : M[i]? = some (p, xs)) (k : RetL xs H0 Q) : Q (.ref p) H := k p H (O.own (p, xs) (List.mem_of_getElem? h)).1 O.ex (O.get i h)
theorem Own.ret (O : Own H0 M H) (k : RetV v H0 Q) : Q v H := k H O.ex
/-! ### statements, in terms of Own -/
variable {D : Ends} {σ : L2.St} {te ta tb tl : TE} {t : TT} {tu tw tz : TS} {b : Bool}
theorem sq (h : tu { D with nx := tz D } σ H) : tSeq tu tz D σ H := h
theorem AS {i : Nat} (O : Own H0 M H) (h : Ev te σ H v) (k : ∀ H1, Own H0 M H1 → D.nx (σ.set i (some v)) H1) : tAsg te (gName i) D σ H := s_asg h fun H1 e => k H1 (O.mono e)
theorem AL {i : Nat} (O : Own H0 M H) (h : EvL te σ H xs) (k : ∀ p H1, Own H0 ((p, xs) :: M) H1 → D.nx (σ.set i (some (.ref p))) H1) : tAsg te (gName i) D σ H := s_asgL h fun p H1 hp e h1 => k p H1 (O.new hp e h1)
theorem RT (O : Own H0 M H) (h : Ev te σ H v) (k : ∀ H1, Own H0 M H1 → D.rt v H1) : tRet te D σ H := s_ret h fun H1 e => k H1 (O.mono e)
theorem RTL (O : Own H0 M H) (h : EvL te σ H xs) (k : ∀ p H1, Own H0 ((p, xs) :: M) H1 → D.rt (.ref p) H1) : tRet te D σ H := s_retL h fun p H1 hp e h1 => k p H1 (O.new hp e h1)
theorem DR (O : Own H0 M H) (h : Ev te σ H v) (k : ∀ H1, Own H0 M H1 → D.nx σ H1) : tDrop te D σ H := s_drop h fun H1 e => k H1 (O.mono e)
theorem IF (O : Own H0 M H) (h : EvT t σ H b) (h1 : b = true → ∀ H1, Own H0 M H1 → tu D σ H1) (h2 : b = false → ∀ H1, Own H0 M H1 → tw D σ H1) : tIfS t tu tw D σ H :=
  s_if h (fun hb H1 e => h1 hb H1 (O.mono e)) fun hb H1 e => h2 hb H1 (O.mono e)
theorem WH (O : Own H0 M H) (h : EvT t σ H b) (h1 : b = true → ∀ H1, Own H0 M H1 → tu D σ H1) (h2 : b = false → ∀ H1, Own H0 M H1 → D.nx σ H1) : tIfS t tu tNext D σ H := IF O h h1 h2
theorem APP (i : Nat) (O : Own H0 M H) (hi : M[i]? = some (p, xs)) (ha : Ev ta σ H (.ref p)) (h : Ev te σ H v) (hz : xs.length < 100000) (k : ∀ H1, Own H0 (M.set i (p, xs ++ [v])) H1 → D.nx σ H1) :
    tDrop (tBM K "list" rAppend ta (tCons te tNil)) D σ H := s_app (O.get i hi) ha h hz fun H1 e => k _ ((O.mono e).upd i hi)
theorem APPL (i : Nat) (O : Own H0 M H) (hi : M[i]? = some (p, xs)) (ha : Ev ta σ H (.ref p)) (h : EvL te σ H ys) (hz : xs.length < 100000) (k : ∀ q H1, Own H0 ((q, ys) :: M.set i (p, xs ++ [.ref q])) H1 → D.nx σ H1) :
    tDrop (tBM K "list" rAppend ta (tCons te tNil)) D σ H := s_appL (O.get i hi) ha h hz fun q H1 hq e h1 => k q _ ((O.new hq e h1).upd (i + 1) (by rw [List.getElem?_cons_succ]; exact hi))
theorem SET (i j : Nat) (O : Own H0 M H) (hi : M[i]? = some (p, xs)) (h : Ev te σ H v) (ho : Ev ta σ H (.ref p)) (hx : Ev tb σ H (.int (j : Int))) (hj : j < xs.length) (k : ∀ H1, Own H0 (M.set i (p, xs.set j v)) H1 → D.nx σ H1) :
    tAsg te (gSub ta tb rSetL) D σ H := s_setL (O.get i hi) h ho hx hj fun H1 e => k _ ((O.mono e).upd i hi)
/-- for k in range(n) -/
theorem FR {ta : TA} {j : Nat} {n : Int} (O : Own H0 M H) (h : EvA ta σ H [.int n]) (hn : 0 ≤ n ∧ n ≤ 100000) (Pv : Nat → L2.St → Hp → Prop) (h0 : ∀ H1, Own H0 M H1 → Pv 0 σ H1)
    (hs : ∀ (i : Nat) σ' H', (i : Int) < n → Pv i σ' H' → tu { D with nx := Pv (i + 1), ct := Pv (i + 1), bk := D.nx } (σ'.set j (some (.int (i : Int)))) H') (hd : ∀ σ' H', Pv n.toNat σ' H' → D.nx σ' H') : tFor (iRng1 ta) (gName j) tu D σ H :=
  s_forR1 h hn Pv (fun H1 e => h0 H1 (O.mono e)) hs hd
theorem FR2 {ta : TA} {j : Nat} {lo n : Int} (O : Own H0 M H) (h : EvA ta σ H [.int lo, .int n]) (hn : 0 ≤ lo ∧ lo ≤ 100000 ∧ -100000 ≤ n ∧ n ≤ 100000) (Pv : Nat → L2.St → Hp → Prop) (h0 : ∀ H1, Own H0 M H1 → Pv 0 σ H1)
    (hs : ∀ (i : Nat) σ' H', lo + (i : Int) < n → Pv i σ' H' → tu { D with nx := Pv (i + 1), ct := Pv (i + 1), bk := D.nx } (σ'.set j (some (.int (lo + (i : Int))))) H') (hd : ∀ σ' H', Pv (n - lo).toNat σ' H' → D.nx σ' H') : tFor (iRng2 ta) (gName j) tu D σ H :=
  s_forR2 h hn Pv (fun H1 e => h0 H1 (O.mono e)) hs hd
/-- for v in a list that stands still: of ints -/
theorem FL {a : Addr} {ns : List Int} {j : Nat} (O : Own H0 M H) (h : Ev tl σ H (.ref a)) (hx : SqL K H a (il ns)) (Pv : Nat → L2.St → Hp → Prop) (h0 : ∀ H1, Own H0 M H1 → Pv 0 σ H1) (hl : ∀ i σ' H', Pv i σ' H' → SqL K H' a (il ns))
    (hs : ∀ i x σ' H', ns[i]? = some x → Pv i σ' H' → tu { D with nx := Pv (i + 1), ct := Pv (i + 1), bk := D.nx } (σ'.set j (some (.int x))) H') (hd : ∀ σ' H', Pv ns.length σ' H' → D.nx σ' H') : tFor (iList K tl) (gName j) tu D σ H :=
  s_forLn h hx Pv (fun H1 e => h0 H1 (O.mono e)) (fun i σ' H' _ q => hl i σ' H' q) (fun i x σ' H' hi q => by
    rw [List.getElem?_map] at hi
    cases e : ns[i]? with
    | none => rw [e] at hi; cases hi
    | some y =>
      rw [e] at hi
      cases hi
      exact hs i y σ' H' e q) (fun σ' H' q => hd σ' H' (by rw [List.length_map] at q; exact q))
/-! the same, something behind -/
theorem qAS {i : Nat} (O : Own H0 M H) (h : Ev te σ H v) (k : ∀ H1, Own H0 M H1 → tz D (σ.set i (some v)) H1) : tSeq (tAsg te (gName i)) tz D σ H := AS (D := { D with nx := tz D }) O h k
theorem qAL {i : Nat} (O : Own H0 M H) (h : EvL te σ H xs) (k : ∀ p H1, Own H0 ((p, xs) :: M) H1 → tz D (σ.set i (some (.ref p))) H1) : tSeq (tAsg te (gName i)) tz D σ H := AL (D := { D with nx := tz D }) O h k
theorem qDR (O : Own H0 M H) (h : Ev te σ H v) (k : ∀ H1, Own H0 M H1 → tz D σ H1) : tSeq (tDrop te) tz D σ H := DR (D := { D with nx := tz D }) O h k
theorem qIF (O : Own H0 M H) (h : EvT t σ H b) (h1 : b = true → ∀ H1, Own H0 M H1 → tu { D with nx := tz D } σ H1) (h2 : b = false → ∀ H1, Own H0 M H1 → tw { D with nx := tz D } σ H1) : tSeq (tIfS t tu tw) tz D σ H := IF (D := { D with nx := tz D }) O h h1 h2
theorem qWH (O : Own H0 M H) (h : EvT t σ H b) (h1 : b = true → ∀ H1, Own H0 M H1 → tu { D with nx := tz D } σ H1) (h2 : b = false → ∀ H1, Own H0 M H1 → tz D σ H1) : tSeq (tIfS t tu tNext) tz D σ H := WH (D := { D with nx := tz D }) O h h1 h2
theorem qAPP (i : Nat) (O : Own H0 M H) (hi : M[i]? = some (p, xs)) (ha : Ev ta σ H (.ref p)) (h : Ev te σ H v) (hz : xs.length < 100000) (k : ∀ H1, Own H0 (M.set i (p, xs ++ [v])) H1 → tz D σ H1) :
    tSeq (tDrop (tBM K "list" rAppend ta (tCons te tNil))) tz D σ H := APP (D := { D with nx := tz D }) i O hi ha h hz k
theorem qAPPL (i : Nat) (O : Own H0 M H) (hi : M[i]? = some (p, xs)) (ha : Ev ta σ H (.ref p)) (h : EvL te σ H ys) (hz : xs.length < 100000) (k : ∀ q H1, Own H0 ((q, ys) :: M.set i (p, xs ++ [.ref q])) H1 → tz D σ H1) :
    tSeq (tDrop (tBM K "list" rAppend ta (tCons te tNil))) tz D σ H := APPL (D := { D with nx := tz D }) i O hi ha h hz k
theorem qSET (i j : Nat) (O : Own H0 M H) (hi : M[i]? = some (p, xs)) (h : Ev te σ H v) (ho : Ev ta σ H (.ref p)) (hx : Ev tb σ H (.int (j : Int))) (hj : j < xs.length) (k : ∀ H1, Own H0 (M.set i (p, xs.set j v)) H1 → tz D σ H1) :
    tSeq (tAsg te (gSub ta tb rSetL)) tz D σ H := SET (D := { D with nx := tz D }) i j O hi h ho hx hj k
theorem qFR {ta : TA} {j : Nat} {n : Int} (O : Own H0 M H) (h : EvA ta σ H [.int n]) (hn : 0 ≤ n ∧ n ≤ 100000) (Pv : Nat → L2.St → Hp → Prop) (h0 : ∀ H1, Own H0 M H1 → Pv 0 σ H1)
    (hs : ∀ (i : Nat) σ' H', (i : Int) < n → Pv i σ' H' → tu { D with nx := Pv (i + 1), ct := Pv (i + 1), bk := tz D } (σ'.set j (some (.int (i : Int)))) H') (hd : ∀ σ' H', Pv n.toNat σ' H' → tz D σ' H') : tSeq (tFor (iRng1 ta) (gName j) tu) tz D σ H := FR (D := { D with nx := tz D }) O h hn Pv h0 hs hd
theorem qFR2 {ta : TA} {j : Nat} {lo n : Int} (O : Own H0 M H) (h : EvA ta σ H [.int lo, .int n]) (hn : 0 ≤ lo ∧ lo ≤ 100000 ∧ -100000 ≤ n ∧ n ≤ 100000) (Pv : Nat → L2.St → Hp → Prop) (h0 : ∀ H1, Own H0 M H1 → Pv 0 σ H1)
    (hs : ∀ (i : Nat) σ' H', lo + (i : Int) < n → Pv i σ' H' → tu { D with nx := Pv (i + 1), ct := Pv (i + 1), bk := tz D } (σ'.set j (some (.int (lo + (i : Int))))) H') (hd : ∀ σ' H', Pv (n - lo).toNat σ' H' → tz D σ' H') : tSeq (tFor (iRng2 ta) (gName j) tu) tz D σ H := FR2 (D := { D with nx := tz D }) O h hn Pv h0 hs hd
theorem qFL {a : Addr} {ns : List Int} {j : Nat} (O : Own H0 M H) (h : Ev tl σ H (.ref a)) (hx : SqL K H a (il ns)) (Pv : Nat → L2.St → Hp → Prop) (h0 : ∀ H1, Own H0 M H1 → Pv 0 σ H1) (hl : ∀ i σ' H', Pv i σ' H' → SqL K H' a (il ns))
    (hs : ∀ i x σ' H', ns[i]? = some x → Pv i σ' H' → tu { D with nx := Pv (i + 1), ct := Pv (i + 1), bk := tz D } (σ'.set j (some (.int x))) H') (hd : ∀ σ' H', Pv ns.length σ' H' → tz D σ' H') : tSeq (tFor (iList K tl) (gName j) tu) tz D σ H := FL (D := { D with nx := tz D }) O h hx Pv h0 hl hs hd
/-! ### expressions -/
theorem call_lenS {X : Cx} : CallR X (.builtin "len") (rLenS X.K) := call_len_seq
theorem call_listS {X : Cx} : CallR X (.type "list") (rListS X.K) := call_list_of
def gt (ns : List Int) (k : Nat) : Int := ns.getD k 0
theorem gt_some {ns : List Int} {k : Nat} {x : Int} (h : ns[k]? = some x) : gt ns k = x := by
  unfold gt
  rw [List.getD_eq_getElem?_getD, h] <;> rfl
theorem some_gt {ns : List Int} {k : Nat} (h : k < ns.length) : ns[k]? = some (gt ns k) := by
  unfold gt
  rw [List.getD_eq_getElem?_getD, List.getElem?_eq_getElem h] <;> rfl
theorem atI_gt {ns : List Int} {k : Nat} (h : k < ns.length) : atI (il ns) (k : Int) = some (.int (gt ns k)) := atI_nat (by rw [List.getElem?_map, some_gt h] <;> rfl)
theorem ev_ix {i : Nat} (h : Ev tl σ H (.ref a)) {ns : List Int} (hx : SqL K H a (il ns)) (hi : Ev tb σ H (.int (i : Int))) (hb : i < ns.length) : Ev (tOp (rIxL K) tl tb) σ H (.int (gt ns i)) := ev_op h hi (rv_ixL hx (atI_gt hb))
theorem ev_ixz {z : Int} (h : Ev tl σ H (.ref a)) {ns : List Int} (hx : SqL K H a (il ns)) (hi : Ev tb σ H (.int z)) (hb : 0 ≤ z ∧ z < ns.length) : Ev (tOp (rIxL K) tl tb) σ H (.int (gt ns z.toNat)) :=
  ev_ix h hx (ev_is hi (congrArg V.int (Int.toNat_of_nonneg hb.1).symm)) (by omega)
theorem ev_sum {ns : List Int} (h : Ev te σ H (.ref a)) (hx : SqL K H a (il ns)) : Ev (tCB (rSum K) (tCons te tNil)) σ H (.int ns.sum) := fun H1 e _ q =>
  h H1 e _ fun H2 e2 => ⟨a, ns, rfl, ex_l (e.trans e2) hx, q H2 e2⟩
theorem ev_sumN {ns : List Int} (h : EvL te σ H (il ns)) : Ev (tCB (rSum K) (tCons te tNil)) σ H (.int ns.sum) := fun H1 e _ q =>
  h H1 e _ fun p H2 _ e2 h2 => ⟨p, ns, rfl, sq_of h2, q H2 e2⟩
theorem ev_lenI {ns : List Int} (h : Ev te σ H (.ref a)) (hx : SqL K H a (il ns)) : Ev (tCB (rLenS K) (tCons te tNil)) σ H (.int (ns.length : Int)) := ev_is (ev_len h hx) (by rw [List.length_map])
theorem ev_lenNI {ns : List Int} (h : EvL te σ H (il ns)) : Ev (tCB (rLenS K) (tCons te tNil)) σ H (.int (ns.length : Int)) := ev_is (ev_lenN h) (by rw [List.length_map])
theorem ev_chain {r r' : R2} {tc : TE} {x y z : V} {c d : Bool} (ha : Ev ta σ H x) (hb : Ev tb σ H y) (hr : RV r x y H (.bl c)) (hc : Ev tc σ H z) (hr' : RV r' y z H (.bl d)) : Ev (tChain r r' ta tb tc) σ H (.bl (c && d)) := fun H1 e Q q =>
  ha H1 e _ fun H2 e2 => hb H2 (e.trans e2) _ fun H3 e3 => hr H3 ((e.trans e2).trans e3) _ fun H4 e4 => ⟨c, rfl, by
    cases c with
    | true =>
      rw [if_pos rfl]
      refine hc H4 (((e.trans e2).trans e3).trans e4) _ fun H5 e5 => hr' H5 ((((e.trans e2).trans e3).trans e4).trans e5) Q fun H6 e6 => ?_
      rw [Bool.true_and] at q
      exact q H6 ((((e2.trans e3).trans e4).trans e5).trans e6)
    | false =>
      rw [if_neg Bool.false_ne_true]
      exact q H4 ((e2.trans e3).trans e4)⟩
/-! == of two lists of ints -/
theorem dpAll (ns : List Int) : DpAll K H (il ns) (ns.map PyData.int) := by
  induction ns with
  | nil => exact .nil
  | cons n ns ih => exact .cons (.int n) ih
theorem depI (ns : List Int) : PyData.depthAll (ns.map PyData.int) ≤ 1 := by
  induction ns with
  | nil => exact Nat.zero_le _
  | cons n ns ih =>
    simp only [List.map_cons, PyData.depthAll, PyData.depth]
    omega
theorem canI (ns : List Int) : PyData.canLayAll0 (ns.map PyData.int) = true := by
  induction ns with
  | nil => rfl
  | cons n ns ih => simp [PyData.canLayAll0, PyData.canLay0, ih]
theorem shapedI (ns : List Int) : SeqAt.shaped (.list (ns.map PyData.int)) = true := by
  have h := depI ns
  have c : (PyData.list (ns.map PyData.int)).canLay0 = true := by
    simp only [PyData.canLay0]
    exact canI ns
  have d : (PyData.list (ns.map PyData.int)).depth ≤ 64 := by
    simp only [PyData.depth]
    omega
  show (_ && decide _) = true
  rw [c, decide_eq_true d] <;> rfl
theorem eqvI : ∀ xs ys : List Int, PyData.eqv (.list (xs.map PyData.int)) (.list (ys.map PyData.int)) = decide (xs = ys) := by
  intro xs
  induction xs with
  | nil => intro ys; cases ys <;> simp [PyData.eqv, PyData.eqvAll]
  | cons x xs ih =>
    intro ys
    cases ys with
    | nil => simp [PyData.eqv, PyData.eqvAll]
    | cons y ys =>
      have q := ih ys
      simp only [PyData.eqv] at q
      simp only [PyData.eqv, List.map_cons, PyData.eqvAll, q]
      rw [Bool.eq_iff_iff]
      simp
theorem rv_eqL {c : Addr} {ns ms : List Int} (ha : SqL K H a (il ns)) (hc : SqL K H c (il ms)) : RV (rEqD K) (.ref a) (.ref c) H (.bl (decide (ns = ms))) := fun H1 e Q q => by
  refine ⟨_, _, .lst (ex_l e ha) (dpAll ns), .lst (ex_l e hc) (dpAll ms), shapedI ns, shapedI ms, ?_⟩
  rw [eqvI]
  exact q H1 (Ex.refl H1)
theorem rv_neL {c : Addr} {ns ms : List Int} (ha : SqL K H a (il ns)) (hc : SqL K H c (il ms)) : RV (rNeD K) (.ref a) (.ref c) H (.bl (!decide (ns = ms))) := fun H1 e Q q => by
  refine ⟨_, _, .lst (ex_l e ha) (dpAll ns), .lst (ex_l e hc) (dpAll ms), shapedI ns, shapedI ms, ?_⟩
  rw [eqvI]
  exact q H1 (Ex.refl H1)
/-! ### comprehensions over ints -/
theorem given_list (ns : List Int) (f : Int → Bool) (g : Int → V) : given ns.length (fun i => f (gt ns i)) (fun i => g (gt ns i)) = (ns.filter f).map g := by
  have h : ∀ n, n ≤ ns.length → given n (fun i => f (gt ns i)) (fun i => g (gt ns i)) = ((ns.take n).filter f).map g := by
    intro n
    induction n with
    | zero => intro _; rfl
    | succ n ih =>
      intro hn
      have e := some_gt (ns := ns) (k := n) (by omega)
      rw [List.take_add_one, e]
      cases hf : f (gt ns n) with
      | true =>
        rw [given_yes (f := fun i => f (gt ns i)) hf, ih (by omega)]
        simp [hf]
      | false =>
        rw [given_no (f := fun i => f (gt ns i)) hf, ih (by omega)]
        simp [hf]
  have q := h ns.length (Nat.le_refl _)
  rw [List.take_length] at q
  exact q
theorem getI {ns : List Int} {i : Nat} {x : V} (h : (il ns)[i]? = some x) : x = .int (gt ns i) ∧ gt ns i ∈ ns := by
  rw [List.getElem?_map] at h
  cases e : ns[i]? with
  | none => rw [e] at h; cases h
  | some y =>
    rw [e] at h
    cases h
    rw [gt_some e]
    exact ⟨rfl, List.mem_of_getElem? e⟩
theorem lcL {ns : List Int} {j : Nat} {vs : List Nat} (f : Int → Bool) (g : Int → V) (h : Ev tl σ H (.ref a)) (hx : SqL K H a (il ns)) (hz : ns.length ≤ 40000) (hw : ∀ x, wipe ((wipe σ vs).set j (some x)) vs = wipe σ vs)
    (ht : ∀ x, x ∈ ns → ∀ H1, Ex H H1 → EvT t ((wipe σ vs).set j (some (.int x))) H1 (f x)) (he : ∀ x, x ∈ ns → ∀ H1, Ex H H1 → f x = true → Ev te ((wipe σ vs).set j (some (.int x))) H1 (g x)) :
    EvL (tLc (iList K tl) (gName j) t te vs) σ H ((ns.filter f).map g) := by
  have z := el_lcL (K := K) (t := t) (te := te) (tl := tl) (j := j) (vs := vs) (σ := σ) (H := H) (fun i => f (gt ns i)) (fun i => g (gt ns i)) h hx (by rw [List.length_map]; exact hz) hw
    (fun i x H1 e hi => by obtain ⟨rfl, m⟩ := getI hi; exact ht _ m H1 e) (fun i x H1 e hi hf => by obtain ⟨rfl, m⟩ := getI hi; exact he _ m H1 e hf)
  rw [List.length_map, given_list] at z
  exact z
theorem lcNL {ns : List Int} {j : Nat} {vs : List Nat} (f : Int → Bool) (g : Int → V) (h : EvL tl σ H (il ns)) (hz : ns.length ≤ 40000) (hw : ∀ x, wipe ((wipe σ vs).set j (some x)) vs = wipe σ vs)
    (ht : ∀ x, x ∈ ns → ∀ H1, Ex H H1 → EvT t ((wipe σ vs).set j (some (.int x))) H1 (f x)) (he : ∀ x, x ∈ ns → ∀ H1, Ex H H1 → f x = true → Ev te ((wipe σ vs).set j (some (.int x))) H1 (g x)) :
    EvL (tLc (iList K tl) (gName j) t te vs) σ H ((ns.filter f).map g) := by
  have z := el_lcNL (K := K) (t := t) (te := te) (tl := tl) (j := j) (vs := vs) (σ := σ) (H := H) (fun i => f (gt ns i)) (fun i => g (gt ns i)) h (by rw [List.length_map]; exact hz) hw
    (fun i x H1 e hi => by obtain ⟨rfl, m⟩ := getI hi; exact ht _ m H1 e) (fun i x H1 e hi hf => by obtain ⟨rfl, m⟩ := getI hi; exact he _ m H1 e hf)
  rw [List.length_map, given_list] at z
  exact z
theorem lcR {ta : TA} {j : Nat} {vs : List Nat} {n : Nat} (f : Nat → Bool) (g : Nat → V) (h : EvA ta σ H [.int (n : Int)]) (hn : n ≤ 40000) (hw : ∀ x, wipe ((wipe σ vs).set j (some x)) vs = wipe σ vs)
    (ht : ∀ (i : Nat) H1, Ex H H1 → i < n → EvT t ((wipe σ vs).set j (some (.int (i : Int)))) H1 (f i)) (he : ∀ (i : Nat) H1, Ex H H1 → i < n → f i = true → Ev te ((wipe σ vs).set j (some (.int (i : Int)))) H1 (g i)) :
    EvL (tLc (iRng1 ta) (gName j) t te vs) σ H (((List.range n).filter f).map g) :=
  el_lcR1 f g h (by omega) hw (fun i H1 e hi => ht i H1 e (by omega)) fun i H1 e hi hf => he i H1 e (by omega) hf
theorem et_yes : EvT tYes σ H true := fun H1 _ _ q => q H1 (Ex.refl H1)
theorem filter_yes {α : Type} (l : List α) : l.filter (fun _ => true) = l := List.filter_eq_self.mpr fun _ _ => rfl
/-! ### slices -/
theorem sIx_hi (n k : Nat) (h : k ≤ n) (d : Nat) : HT.sIx n d (some (k : Int)) = k := by
  rw [HT.sIx_nat]
  omega
theorem cut_from (ns : List Int) (k : Nat) : cutV (il ns) (some (k : Int)) none = il (ns.drop k) := by
  unfold cutV
  rw [HT.sIx_nat, HT.sIx_none]
  simp only [List.length_map]
  rw [List.take_of_length_le (by rw [List.length_drop, List.length_map]; exact Nat.le_refl _), ← List.map_drop]
  congr 1
  by_cases h : k ≤ ns.length
  · rw [Nat.min_eq_left h]
  · rw [Nat.min_eq_right (by omega), List.drop_length, List.drop_of_length_le (by omega)]
theorem cut_to (ns : List Int) (k : Nat) : cutV (il ns) none (some (k : Int)) = il (ns.take k) := by
  unfold cutV
  rw [HT.sIx_nat, HT.sIx_none]
  simp only [List.length_map]
  rw [List.drop_zero, Nat.sub_zero, ← List.map_take]
  congr 1
  by_cases h : k ≤ ns.length
  · rw [Nat.min_eq_left h]
  · rw [Nat.min_eq_right (by omega), List.take_length, List.take_of_length_le (by omega)]
theorem sl_from {k : Nat} {tl2 : TO} {ns : List Int} (h : Ev te σ H (.ref a)) (hs : SqL K H a (il ns)) (h1 : EvO tl2 σ H (some (k : Int))) : EvL (tSl (rSlL K) te tl2 tNoPart) σ H (il (ns.drop k)) := by
  rw [← cut_from]
  exact el_sl h h1 eo_none hs
theorem sl_to {k : Nat} {tl2 : TO} {ns : List Int} (h : Ev te σ H (.ref a)) (hs : SqL K H a (il ns)) (h1 : EvO tl2 σ H (some (k : Int))) : EvL (tSl (rSlL K) te tNoPart tl2) σ H (il (ns.take k)) := by
  rw [← cut_to]
  exact el_sl h eo_none h1 hs
/-! ### isinstance of an int, a list -/
theorem call_isiS {X : Cx} : CallR X (.builtin "isinstance") (rIsi X.K) := call_isi
theorem ev_isiInt {n : Int} {T : String} {b : Bool} (h : Ev te σ H (.int n)) (hk : PySem.W.kitOne K (.type "int") (.type T) = some b) : Ev (tCB (rIsi K) (tCons te (tCons (tC (.ty T)) tNil))) σ H (.bl b) := fun H1 e _ q =>
  h H1 e _ fun H2 e2 => ⟨.int n, .ty T, _, _, b, rfl, .ty T, .base (.int n), hk, q H2 e2⟩
theorem ev_isiLst {T : String} {b : Bool} (h : Ev te σ H (.ref a)) (ha : H a = some (.lst xs)) (hk : PySem.W.kitOne K (.type "list") (.type T) = some b) : Ev (tCB (rIsi K) (tCons te (tCons (tC (.ty T)) tNil))) σ H (.bl b) := fun H1 e _ q =>
  h H1 e _ fun H2 e2 => ⟨.ref a, .ty T, _, _, b, rfl, .ty T, .base (.lst (e2 _ _ (e _ _ ha))), hk, q H2 e2⟩
end
/-! ### defs of the text -/
def Def (K : PySem.W.Frag) (mg : Str → Option Value) (x : Str) (st : Stmt) : Prop := ∃ f fd, Fun K x x st f fd ∧ mg x = some (.ref f)
def Has (P : Program) (w : World) (K : PySem.W.Frag) (mg : Str → Option Value) (base : Heap) (CX : CXT) (x : Str) (k : Nat) (ps : List Str) (sp : Sp) : Prop :=
  ∃ f fd, FnOk P w K mg base CX k f fd ps sp ∧ mg x = some (.ref f) ∧ PySem.W.keepIn K (.ref f) = true ∧ Binds K fd ps []
def len2 {K : PySem.W.Frag} := K
end Sh
namespace Sh
/-! ### list(reversed(xs)), xs a list: a new list, the items from the end -/
section
open PySem PySem.Spec PySem.Calls PyProof.Rows L2 RT
variable {prog : Program} {w : World} {A : Around} {E : Value → Shared → Prop} {s : Shared}
theorem ext_rev {R : Result → Shared → Prop} {it l S : Addr} {res : Value} {c0 : Nat} {items : Array Value} (hh : A.handled = none) (hit : s.heap.IsRevIter it l ((items.size : Int) - 1)) (hl : s.heap.IsList l items) (hne : l ≠ it) (hn : items.size ≤ sizeLine)
    (hSi : S ≠ it) (hSl : S ≠ l) (hS : s.heap.get? S = some { cls := .type "list", data := .seq #[] c0 })
    (hR : ∀ (h' : Heap) (tk : Nat) (acc : Array Value) (c' : Nat), (∀ b o, b ≠ S → b ≠ it → s.heap.get? b = some o → h'.get? b = some o) → h'.get? S = some { cls := .type "list", dict := none, data := .seq acc c', slots := #[] } →
      ItemsOf (fun i v => items[items.size - 1 - i]? = some v) acc items.size → R (.ok (.ret res)) { s with heap := h', toks := tk }) :
    wpAny (model prog w) A.in1 (Builtin.List.listExtendWith (.ref S) (.ref it) res)
      (fun fin s2 => match fin with | .done f => R (.ok f) s2 | .again c2 => c2.quiet = true ∧ codeAny (model prog w) A c2 R s2) (fun e s2 => R (.error e) s2) s := by
  have W := (Walks.listRev (prog := prog) (w := w) (A := A.in1) hh it l hne items).toS
  have hSf : S ∉ [it, l] := fun hm => (List.mem_cons.mp hm).elim hSi fun hm => hSl (List.mem_singleton.mp hm)
  have hT : s.TypeIs (.ref it) "list_reverseiterator" := hit.typeIs
  have h1 : Builtin.List.listSameRef (.ref S) (.ref it) = false := by simp [Builtin.List.listSameRef, hSi]
  unfold Builtin.List.listExtendWith
  refine wpAny_bind (wpAny_typeOf hT ?_); rw [if_neg (by rw [h1]; decide)]
  refine wpAny_bind (wpAny_pyIter_revIter hit ?_); refine wpAny_bind (wpAny_holding ?_)
  unfold Builtin.List.listLengthHint
  refine wpAny_bind (wpAny_specialOf hT nolen_lri ?_)
  show wpAny _ A.in1 (specialOf (Value.ref it) (Str.ofString "__length_hint__") >>= _) _ _ _
  refine wpAny_bind (wpAny_specialOf hT hint_lri ?_)
  generalize hid : ("list_reverseiterator.__length_hint__" : String) = id0
  wp_delta
  rw [show splitId id0 = some ("list_reverseiterator", "__length_hint__") from by subst hid; decide +kernel]; subst hid
  refine wpAny_bind (wpAny_isInstance (b := true) hT (by rw [isSubtype_type]; kernel_rfl) ?_); refine wpAny_pure ?_
  rw [if_neg (by decide)]
  have e0 : ((items.size : Nat) : Int) - 1 - ((0 : Nat) : Int) = (items.size : Int) - 1 := by omega
  refine wpAny_pure ⟨plainId_quiet F.plain_extend_loop _, codeAny_extend_loopS W hn _ hSf _ items.size 0 _ _ _ rfl (Nat.zero_le _) ⟨Nat.zero_le _, by rw [e0]; exact hit, hl⟩ hS (ItemsOf.nil _) fun s2 acc c2 hm hS2 hacc => ?_⟩
  rw [Moved.eq_with hm]
  refine hR s2.heap s2.toks acc c2 (fun b o hb hb2 e => hm.heap b o (fun hmem => ?_) e) hS2 hacc
  exact (List.mem_cons.mp hmem).elim hb fun hmem => hb2 (List.mem_singleton.mp hmem)
theorem init_rev {R : Result → Shared → Prop} {it l S : Addr} {items : Array Value} (hh : A.handled = none) (hit : s.heap.IsRevIter it l ((items.size : Int) - 1)) (hl : s.heap.IsList l items) (hne : l ≠ it) (hn : items.size ≤ sizeLine)
    (hSi : S ≠ it) (hSl : S ≠ l) (hS : s.heap.get? S = some { cls := .type "list", data := .seq #[] })
    (hR : ∀ (h' : Heap) (tk : Nat) (acc : Array Value) (c' : Nat), (∀ b o, b ≠ S → b ≠ it → s.heap.get? b = some o → h'.get? b = some o) → h'.get? S = some { cls := .type "list", dict := none, data := .seq acc c', slots := #[] } →
      ItemsOf (fun i v => items[items.size - 1 - i]? = some v) acc items.size → R (.ok (.ret .none)) { s with heap := h', toks := tk }) :
    wpAny (model prog w) A.in1 (Builtin.«list.__init__» ⟨[.ref S, .ref it], []⟩)
      (fun fin s2 => match fin with | .done f => R (.ok f) s2 | .again c2 => c2.quiet = true ∧ codeAny (model prog w) A c2 R s2) (fun e s2 => R (.error e) s2) s := by
  show wpAny _ A.in1 (do let old ← Builtin.List.listItems (.ref S); Builtin.List.listUpdate (.ref S) (fun _ => #[]); letGo old.toList.reverse; Builtin.List.listExtendWith (.ref S) (.ref it) .none) _ _ s
  refine wpAny_bind ?_; unfold Builtin.List.listItems; refine wpAny_bind (wpAny_seqItems hS rfl (wpAny_pure ?_))
  show wpAny _ A.in1 (updateSeq S (fun _ => #[]) >>= fun _ => letGo (#[] : Array Value).toList.reverse >>= fun _ => Builtin.List.listExtendWith (.ref S) (.ref it) .none) _ _ s
  refine wpAny_bind (wpAny_updateSeq hS rfl ?_)
  have hS2 := Heap.get?_update_self (Obj.mapSeq (fun _ => (#[] : Array Value))) hS rfl
  have oth : ∀ b o, b ≠ S → s.heap.get? b = some o → (s.heap.update S (Obj.mapSeq (fun _ => (#[] : Array Value)))).get? b = some o := fun b o hb e => (Heap.get?_update_other _ _ (Ne.symm hb)).trans e
  refine wpAny_bind (wpAny_letGo ?_)
  refine ext_rev (l := l) (items := items) hh (hit.at fun o e => oth it o (Ne.symm hSi) e) (hl.at fun o e => oth l o (Ne.symm hSl) e) hne hn hSi hSl hS2 fun h' tk acc c' hk hS3 hacc => ?_
  exact hR h' tk acc c' (fun b o hb hb2 e => hk b o hb hb2 (oth b o hb e)) hS3 hacc
theorem call_list_rev {it l : Addr} {items : Array Value} {Q : Value → Shared → Prop} (hh : A.handled = none) (hit : s.heap.IsRevIter it l ((items.size : Int) - 1)) (hl : s.heap.IsList l items) (hne : l ≠ it) (hn : items.size ≤ sizeLine)
    (hQ : ∀ (h' : Heap) (tk : Nat) (acc : Array Value) (c' : Nat), (∀ b o, b ≠ it → s.heap.get? b = some o → h'.get? b = some o) → h'.get? s.heap.objs.size = some { cls := .type "list", dict := none, data := .seq acc c', slots := #[] } →
      ItemsOf (fun i v => items[items.size - 1 - i]? = some v) acc items.size → Q (.ref s.heap.objs.size) { s with heap := h', toks := tk }) : wpAny (model prog w) A (call (.type "list") [.ref it]) Q E s := by
  obtain ⟨oi, hoi, _⟩ := id hit
  obtain ⟨ol, hol, _⟩ := id hl
  refine callType_codes (Q₁ := fun obj s₁ => obj = .ref s.heap.objs.size ∧ s₁ = { s with heap := s.heap.push { cls := .type "list", data := .seq #[] } }) F.called_list (F.typeCall_list_1 _) F.entry_list_init (code_list_new _ ⟨rfl, rfl⟩) fun obj s₁ h₁ => ?_
  obtain ⟨rfl, rfl⟩ := h₁
  have hS : (s.heap.push { cls := .type "list", data := .seq #[] }).get? s.heap.objs.size = some { cls := .type "list", data := .seq #[] } := Heap.get?_push_size _ rfl
  refine ⟨⟨_, hS, rfl⟩, F.args_list_init_2 _ _, init_rev (A := A.in1) (l := l) (items := items) hh (hit.at fun o e => Heap.get?_push_of_some _ e) (hl.push _) hne hn (Nat.ne_of_gt (Heap.lt_size hoi)) (Nat.ne_of_gt (Heap.lt_size hol)) hS fun h' tk acc c' hk hS2 hacc => ?_⟩
  exact ⟨rfl, hQ h' tk acc c' (fun b o hb e => hk b o (Nat.ne_of_lt (Heap.lt_size e)) hb (Heap.get?_push_of_some _ e)) hS2 hacc⟩
end
open PySem PySem.Spec PyProof.Rows L2 Evl
def tListRev (K : PySem.W.Frag) (te : TE) : TE := fun σ H Q => te σ H fun v H1 => ∃ (a : Addr) (xs : List V), v = .ref a ∧ SqL K H1 a xs ∧ ∀ q, H1 q = none → Q (.ref q) (upd H1 q (.lst xs.reverse))
theorem pe_listRev {X : Cx} {e : Expr} {te : TE} {p p2 pos pos2 : Pos} (hc : X.calm = true) (hg : Gl X "list") (hm : X.mg "list" = none) (hg2 : Gl X "reversed") (hm2 : X.mg "reversed" = none) (he : PE X e te)
    (hs : starEach [e] X.env = (false, eval e X.env) :: starEach [] X.env := by rfl)
    (hs2 : starEach [.Call (.Name "reversed" p2) [e] [] pos2] X.env = (false, eval (.Call (.Name "reversed" p2) [e] [] pos2) X.env) :: starEach [] X.env := by rfl) :
    PE X (.Call (.Name "list" p) [.Call (.Name "reversed" p2) [e] [] pos2] [] pos) (tListRev X.K te) := by
  refine ⟨fun pins s σ H Q I h => ?_⟩
  refine Call_ (ld_blt I hg hm boot_list (PyProof.Rows.callWith_type1 (args_cons (Call_ (ld_blt I hg2 hm2 PyProof.Rows.boot_reversed (PyProof.Rows.callWith_type1 (args_cons (thn (he.run pins s σ H _ I h) fun u s1 ⟨v, H1, I1, r1, q1⟩ => args_nil ?_) hs) hs rfl))) hs2) hs2 rfl))
  obtain ⟨a, xs, rfl, hq, q⟩ := q1
  obtain rfl : u = Value.ref a := r1
  obtain ⟨its, rv, p', hz⟩ := I1.list hq
  refine call_reversed_list p'.isList (args_nil ?_)
  have I2 : Inv X pins σ H1 { s1 with heap := s1.heap.push (revObj a ((its.toArray.size : Int) - 1)) } := I1.kept (t' := s1.toks) fun b o e => Heap.get?_push_of_some _ e
  obtain ⟨f0, f1, f2, f3, f4, f5⟩ := I1.fpOk (H' := H1) (b := s1.heap.objs.size) (Nat.le_refl _) (I1.hok.fresh (Nat.le_refl _))
  have hl := p'.isList
  obtain ⟨ol, hol, _⟩ := id hl
  have hn : its.toArray.size ≤ sizeLine := by rw [List.size_toArray, ← rv.length]; exact hz
  refine call_list_rev (s := { s1 with heap := s1.heap.push (revObj a ((its.toArray.size : Int) - 1)) }) (I1.ok.hd hc) ⟨_, Heap.get?_push_size _ rfl, rfl, rfl⟩ (hl.push _) (Nat.ne_of_lt (Heap.lt_size hol)) hn fun h' tk acc c' hk hS hi => ?_
  have k2 : ∀ b o, s1.heap.get? b = some o → h'.get? b = some o := fun b o e => hk b o (Nat.ne_of_lt (Heap.lt_size e)) (Heap.get?_push_of_some _ e)
  have hle : s1.heap.objs.size ≤ (s1.heap.push (revObj a ((its.toArray.size : Int) - 1))).objs.size := by rw [Heap.size_push]; exact Nat.le_succ _
  refine ⟨.ref _, upd H1 _ (.lst xs.reverse), I1.laid (t' := tk) k2 hle (show ObjOk X.prog X.w _ _ _ (.lst xs.reverse) from ⟨by rw [List.length_reverse]; exact hz, acc.toList, c', RT.vals_rev rv hi, ?_⟩), rfl, q _ (I1.hok.fresh hle)⟩
  rw [Array.toArray_toList]
  exact hS
section
variable {K : PySem.W.Frag} {σ : L2.St} {H : Hp} {te : TE} {a : Addr} {xs : List V}
theorem el_rev (h : Ev te σ H (.ref a)) (hx : SqL K H a xs) : EvL (tListRev K te) σ H xs.reverse := fun H1 e Q q =>
  h H1 e _ fun H2 e2 => ⟨a, xs, rfl, ex_l (e.trans e2) hx, fun l hl => q l _ (fresh_back e2 hl) (e2.trans (Ex.new hl)) upd_same⟩
theorem el_revN (h : EvL te σ H xs) : EvL (tListRev K te) σ H xs.reverse := fun H1 e Q q =>
  h H1 e _ fun p H2 _ e2 hp => ⟨p, xs, rfl, sq_of hp, fun l hl => q l _ (fresh_back e2 hl) (e2.trans (Ex.new hl)) upd_same⟩
end
end Sh
namespace Sh
open PySem PySem.Spec PyProof.Rows L2 Evl
section
variable {K : PySem.W.Frag} {H0 H H1 : Hp} {M : List (Addr × List V)} {a p : Addr} {xs ys : List V} {v : V} {Q : VK}
variable {D : Ends} {σ : L2.St} {te ta tb tl : TE} {t : TT} {tu tw tz : TS} {b : Bool}
/-- name = f(..), the answer told by the promise alone -/
theorem AC {i : Nat} {sp : Sp} {dvs vs : List V} {E : XK} {tr : TA} (O : Own H0 M H) (ha : EvA tr σ H vs) (hs : ∀ H1, Own H0 M H1 → sp (vs ++ dvs) H1 (fun x H2 => D.nx (σ.set i (some x)) H2) E) : tAsg (tCall sp dvs E tr) (gName i) D σ H :=
  ha H (Ex.refl H) _ fun H1 e => hs H1 (O.mono e)
/-- f(..) as a statement -/
theorem DC {sp : Sp} {dvs vs : List V} {E : XK} {tr : TA} (O : Own H0 M H) (ha : EvA tr σ H vs) (hs : ∀ H1, Own H0 M H1 → sp (vs ++ dvs) H1 (fun _ H2 => D.nx σ H2) E) : tDrop (tCall sp dvs E tr) D σ H :=
  ha H (Ex.refl H) _ fun H1 e => hs H1 (O.mono e)
theorem qAC {i : Nat} {sp : Sp} {dvs vs : List V} {E : XK} {tr : TA} (O : Own H0 M H) (ha : EvA tr σ H vs) (hs : ∀ H1, Own H0 M H1 → sp (vs ++ dvs) H1 (fun x H2 => tz D (σ.set i (some x)) H2) E) : tSeq (tAsg (tCall sp dvs E tr) (gName i)) tz D σ H := AC (D := { D with nx := tz D }) O ha hs
theorem qDC {sp : Sp} {dvs vs : List V} {E : XK} {tr : TA} (O : Own H0 M H) (ha : EvA tr σ H vs) (hs : ∀ H1, Own H0 M H1 → sp (vs ++ dvs) H1 (fun _ H2 => tz D σ H2) E) : tSeq (tDrop (tCall sp dvs E tr)) tz D σ H := DC (D := { D with nx := tz D }) O ha hs
theorem rv_eqI {i j : Int} : RV rEq (.int i) (.int j) H (.bl (decide (i = j))) := fun H1 _ Q q => ⟨rfl, by
  have e : decide (V.int i = V.int j) = decide (i = j) := by
    rw [Bool.eq_iff_iff, decide_eq_true_eq, decide_eq_true_eq]
    exact ⟨V.int.inj, congrArg V.int⟩
  rw [e]
  exact q H1 (Ex.refl H1)⟩
theorem rv_neI {i j : Int} : RV rNe (.int i) (.int j) H (.bl (!decide (i = j))) := fun H1 _ Q q => ⟨rfl, by
  have e : decide (V.int i = V.int j) = decide (i = j) := by
    rw [Bool.eq_iff_iff, decide_eq_true_eq, decide_eq_true_eq]
    exact ⟨V.int.inj, congrArg V.int⟩
  rw [e]
  exact q H1 (Ex.refl H1)⟩
theorem ev_ixNL {ns : List Int} {z : Int} (h : EvL tl σ H (il ns)) (hi : ∀ H1, Ex H H1 → Ev tb σ H1 (.int z)) (hb : 0 ≤ z ∧ z < ns.length) : Ev (tOp (rIxL K) tl tb) σ H (.int (gt ns z.toNat)) :=
  ev_opL1 h hi fun q H1 hq _ => rv_ixL (sq_of hq) (by
    have e : z = ((z.toNat : Nat) : Int) := (Int.toNat_of_nonneg hb.1).symm
    rw [e]
    exact atI_gt (by omega))
/-! sorted -/
def srt (ns : List Int) : List Int := ns.mergeSort fun x y => decide (x ≤ y)
theorem srt_perm (ns : List Int) : (srt ns).Perm ns := List.mergeSort_perm ns _
theorem srt_le (ns : List Int) : (srt ns).Pairwise (· ≤ ·) := by
  have h := List.pairwise_mergeSort (le := fun x y : Int => decide (x ≤ y)) (fun x y z h1 h2 => by simp only [decide_eq_true_eq] at *; omega) (fun x y => by simp only [Bool.or_eq_true, decide_eq_true_eq]; omega) ns
  exact h.imp fun h => by simpa using h
theorem srt_eq {ns ms : List Int} (h : ms.Perm ns) (hp : ms.Pairwise (· ≤ ·)) : ms = srt ns :=
  (h.trans (srt_perm ns).symm).eq_of_pairwise (fun x y _ _ h1 h2 => by omega) hp (srt_le ns)
theorem srt_of_perm {ns ms : List Int} (h : ns.Perm ms) : srt ns = srt ms := srt_eq ((srt_perm ns).trans h) (srt_le ns)
theorem el_sorted {ns : List Int} (h : Ev te σ H (.ref a)) (hx : SqL K H a (il ns)) (hl : ns.length < 64) : EvL (tCB (rSorted K) (tCons te tNil)) σ H (il (srt ns)) := fun H1 e Q q =>
  h H1 e _ fun H2 e2 => ⟨a, ns, rfl, ex_l (e.trans e2) hx, hl, fun ms l hp hs hn => by
    rw [srt_eq hp hs]
    exact q l _ (fresh_back e2 hn) (e2.trans (Ex.new hn)) upd_same⟩
/-- list(range(n)) -/
theorem el_listRg {n : Nat} (h : Ev te σ H (.int (n : Int))) (hn : n ≤ 100000) : EvL (tLstRg (tRg1 te)) σ H (il ((List.range n).map fun i : Nat => (i : Int))) := fun H1 e Q q =>
  h H1 e _ fun H2 e2 => by
    refine ⟨(n : Int), rfl, ⟨by omega, by omega, by omega, by omega, by omega⟩, fun l hl => ?_⟩
    refine q l _ (fresh_back e2 hl) (e2.trans (Ex.new hl)) ?_
    rw [upd_same]
    unfold rgV il
    rw [List.map_map]
    simp only [Int.sub_zero, Int.toNat_natCast]
    congr 3
    funext i
    simp
end
end Sh
namespace Sh
open PySem PySem.Spec PyProof.Rows L2 Evl
section
variable {K : PySem.W.Frag} {H0 H H1 : Hp} {a p : Addr} {σ : L2.St} {te ta tb tl : TE} {t : TT}
theorem ev_ixn {ns : List Int} {z : Int} (i : Nat) (h : Ev tl σ H (.ref a)) (hx : SqL K H a (il ns)) (hi : Ev tb σ H (.int z)) (hz : z = (i : Int)) (hb : i < ns.length) : Ev (tOp (rIxL K) tl tb) σ H (.int (gt ns i)) :=
  ev_ix h hx (ev_is hi (congrArg V.int hz)) hb
/-- a comprehension over range(lo, n) -/
theorem lcR2 {ta : TA} {j : Nat} {vs : List Nat} {lo n : Int} (f : Nat → Bool) (g : Nat → V) (h : EvA ta σ H [.int lo, .int n]) (hn : 0 ≤ lo ∧ lo ≤ 40000 ∧ -40000 ≤ n ∧ n ≤ 40000) (hw : ∀ x, wipe ((wipe σ vs).set j (some x)) vs = wipe σ vs)
    (ht : ∀ (i : Nat) H1, Ex H H1 → lo + (i : Int) < n → EvT t ((wipe σ vs).set j (some (.int (lo + (i : Int))))) H1 (f i)) (he : ∀ (i : Nat) H1, Ex H H1 → lo + (i : Int) < n → f i = true → Ev te ((wipe σ vs).set j (some (.int (lo + (i : Int))))) H1 (g i)) :
    EvL (tLc (iRng2 ta) (gName j) t te vs) σ H (((List.range (n - lo).toNat).filter f).map g) := fun H0 e Q q => h H0 e _ fun H1 e1 => ⟨lo, n, rfl, ⟨by omega, by omega, by omega, by omega⟩, fun Dl hD =>
  lc_range (lo := lo) (n := (n - lo).toNat) (Cw H1 f g Dl) ⟨hD, Ex.new hD, upd_same⟩ (fun i H' hi p => ⟨hw _, cw_turn p (by omega) (ht i H1 (e.trans e1) (by omega)) fun hf => he i H1 (e.trans e1) (by omega) hf⟩)
    fun H' p => q Dl H' (fresh_back e1 p.1) (e1.trans p.2.1) p.2.2⟩
end
end Sh
namespace Sh
open PySem PySem.Spec PyProof.Rows L2 Evl
section
variable {K : PySem.W.Frag} {H0 H : Hp} {M : List (Addr × List V)} {a p : Addr} {xs : List V} {v w : V} {D : Ends} {σ : L2.St} {te te2 ta ta2 tb tb2 : TE} {tz : TS}
/-- xs[j], xs[j2] = v, w -/
theorem SWAP (i j j2 : Nat) (O : Own H0 M H) (hi : M[i]? = some (p, xs)) (h : Ev te σ H v) (h2 : Ev te2 σ H w) (ha : ∀ H', Ev ta σ H' (.ref p)) (hb : ∀ H', Ev tb σ H' (.int (j : Int))) (ha2 : ∀ H', Ev ta2 σ H' (.ref p)) (hb2 : ∀ H', Ev tb2 σ H' (.int (j2 : Int)))
    (hj : j < xs.length) (hj2 : j2 < xs.length) (k : ∀ H1, Own H0 (M.set i (p, (xs.set j v).set j2 w)) H1 → D.nx σ H1) :
    tAsg (tTup (tCons te (tCons te2 tNil))) (gTup K 2 (gCons (gSub ta tb rSetL) (gCons (gSub ta2 tb2 rSetL) gNil))) D σ H :=
  eu_tup (ea_cons h (ea_cons h2 ea_nil)) (by show 2 ≤ 100000; decide) H (Ex.refl H) _ fun t H1 _ e ht => by
    refine ⟨t, [v, w], rfl, st_of ht, rfl, v, [w], rfl, ?_⟩
    have O1 := O.mono e
    refine ha H1 H1 (Ex.refl H1) _ fun H2 e2 => hb H2 H2 (Ex.refl H2) _ fun H3 e3 => ?_
    have O3 := (O1.mono e2).mono e3
    refine ⟨p, xs, (j : Int), j, rfl, rfl, O3.get i hi, ixN_nat hj, ?_⟩
    have O4 := O3.upd (ys := xs.set j v) i hi
    have il' : i < M.length := (List.getElem?_eq_some_iff.mp hi).1
    have hi4 : (M.set i (p, xs.set j v))[i]? = some (p, xs.set j v) := List.getElem?_set_self il'
    refine ⟨w, [], rfl, ?_⟩
    refine ha2 _ _ (Ex.refl _) _ fun H5 e5 => hb2 H5 H5 (Ex.refl H5) _ fun H6 e6 => ?_
    have O6 := (O4.mono e5).mono e6
    refine ⟨p, _, (j2 : Int), j2, rfl, rfl, O6.get i hi4, ixN_nat (by rw [List.length_set]; exact hj2), rfl, ?_⟩
    have O7 := O6.upd (ys := (xs.set j v).set j2 w) i hi4
    rw [List.set_set] at O7
    exact k _ O7
theorem qSWAP (i j j2 : Nat) (O : Own H0 M H) (hi : M[i]? = some (p, xs)) (h : Ev te σ H v) (h2 : Ev te2 σ H w) (ha : ∀ H', Ev ta σ H' (.ref p)) (hb : ∀ H', Ev tb σ H' (.int (j : Int))) (ha2 : ∀ H', Ev ta2 σ H' (.ref p)) (hb2 : ∀ H', Ev tb2 σ H' (.int (j2 : Int)))
    (hj : j < xs.length) (hj2 : j2 < xs.length) (k : ∀ H1, Own H0 (M.set i (p, (xs.set j v).set j2 w)) H1 → tz D σ H1) :
    tSeq (tAsg (tTup (tCons te (tCons te2 tNil))) (gTup K 2 (gCons (gSub ta tb rSetL) (gCons (gSub ta2 tb2 rSetL) gNil)))) tz D σ H := SWAP (D := { D with nx := tz D }) i j j2 O hi h h2 ha hb ha2 hb2 hj hj2 k
end
end Sh
namespace Sh
open PySem PySem.Spec PyProof.Rows L2 Evl
section
variable {K : PySem.W.Frag} {H0 H : Hp} {σ : L2.St} {ta tb : TE} {xs : List V} {z : V} {E : XK} {sp : Sp}
/-- f(xs), xs a new list -/
theorem ec_call1N (h1 : EvL ta σ H xs) (hs : ∀ p H1, H1 p = some (.lst xs) → Ex H H1 → SpV sp [.ref p] H1 z) : Ev (tCall sp [] E (tCons ta tNil)) σ H z := fun H1 e Q q =>
  h1 H1 e _ fun p H2 _ e2 hp => hs p H2 hp (e.trans e2) H2 (Ex.refl H2) Q (fun H3 e3 => q H3 (e2.trans e3)) E
theorem el_call1N {ys : List V} (h1 : EvL ta σ H xs) (hs : ∀ p H1, H1 p = some (.lst xs) → Ex H H1 → SpL sp [.ref p] H1 ys) : EvL (tCall sp [] E (tCons ta tNil)) σ H ys := fun H1 e Q q =>
  h1 H1 e _ fun p H2 _ e2 hp => hs p H2 hp (e.trans e2) H2 (Ex.refl H2) Q (fun q2 H3 hq e3 h3 => q q2 H3 (fresh_back e2 hq) (e2.trans e3) h3) E
theorem rv_neB {x y : Bool} : RV rNe (.bl x) (.bl y) H (.bl (x != y)) := fun H1 _ Q q => ⟨rfl, by
  have e : (!decide (V.bl x = V.bl y)) = (x != y) := by cases x <;> cases y <;> decide
  rw [e]
  exact q H1 (Ex.refl H1)⟩
/-- tuples of two ints, by < -/
theorem ev_ltP {i j k l : Int} (ha : EvU ta σ H [.int i, .int j]) (hb : EvU tb σ H [.int k, .int l]) : Ev (tOp (rLtT K) ta tb) σ H (.bl (decide (i < k ∨ (i = k ∧ j < l)))) :=
  ev_opUU ha hb fun p q H1 hp hq _ H2 e2 Q qq => by
    refine ⟨p, q, [i, j], [k, l], rfl, rfl, st_of (e2 _ _ hp), st_of (e2 _ _ hq), ?_⟩
    have e : HT.lexLt [i, j] [k, l] = decide (i < k ∨ (i = k ∧ j < l)) := by
      show (if i = k then (if j = l then false else decide (j < l)) else decide (i < k)) = _
      by_cases h1 : i = k
      · rw [if_pos h1]
        by_cases h2 : j = l
        · rw [if_pos h2, Eq.comm, decide_eq_false_iff_not]
          omega
        · rw [if_neg h2, decide_eq_decide]
          omega
      · rw [if_neg h1, decide_eq_decide]
        omega
    rw [e]
    exact qq H2 (Ex.refl H2)
end
end Sh
namespace Sh
open PySem PySem.Spec PyProof.Rows L2 Evl L2H
/-! ### defs that raise where nothing is handled; a def that a suite hands its exception to -/
def E0 : XK := fun _ _ _ => False
theorem okN {P : Program} {w : World} {K : PySem.W.Frag} {mg : Str → Option Value} {base : Heap} {x qual : Str} {st : Stmt} {f : Addr} {fd : FuncData} {N ps : List Str} {k : Nat} {sp : Sp} (F : Fun K x qual st f fd) (S : FnScope N ps (defScope st))
    (len : ∀ vs H Q E, sp vs H Q E → vs.length = ps.length)
    (hbody : ∀ (cdv : Value) (A : Around) (outer : List Env) (s : Shared) (H : Hp) (vs : List V) (Q : VK) (E : XK), Room k (A.deeper (envOfC qual (defScope st) s.heap.objs.size f cdv)) → sp vs H Q E →
      ∃ t, PSs (cxOf (L2N.CX P w) P w K mg base N qual (defScope st) f cdv A outer s H E) (defBody st) t ∧ t { nx := fun _ H' => Q .non H', rt := Q } (L2.start N vs) H) : FnOk P w K mg base (L2N.CX P w) (k + 1) f fd ps sp := by
  obtain ⟨_, _, _, _, _, _, cdv, _, _, rfl, lk, hcd⟩ := F.ex
  exact fn_of lk hcd S len fun A outer s H vs Q E => hbody cdv A outer s H vs Q E
/-- what such a def promises: p is the exception that is handled -/
structure FnP (P : Program) (w : World) (K : PySem.W.Frag) (mg : Str → Option Value) (base : Heap) (k : Nat) (f : Addr) (fd : FuncData) (ps : List Str) (sp : Addr × Obj → Sp) : Prop where
  len : ∀ p vs H Q E, sp p vs H Q E → vs.length = ps.length
  run : ∀ (p : Addr × Obj) (A : Around) (outer : List Env) (s : Shared) (H : Hp) (args : Args) (us : List Value) (vs : List V) (Q : VK) (E : XK), RoomH k A → PinOk outer H s p → Env0 P w K mg base A outer s H → BindsTo s fd args (ps.zip us) → Vals vs us → sp p vs H Q E →
    codeAny (model P w) A (.call (.ref f) args) (CR CX0 outer P w H s Q E) s
theorem okP {P : Program} {w : World} {K : PySem.W.Frag} {mg : Str → Option Value} {base : Heap} {x qual : Str} {st : Stmt} {f : Addr} {fd : FuncData} {N ps : List Str} {k : Nat} {sp : Addr × Obj → Sp} (F : Fun K x qual st f fd) (S : FnScope N ps (defScope st))
    (len : ∀ p vs H Q E, sp p vs H Q E → vs.length = ps.length)
    (hbody : ∀ (p : Addr × Obj) (cdv : Value) (A : Around) (outer : List Env) (s : Shared) (H : Hp) (vs : List V) (Q : VK) (E : XK), RoomH k (A.deeper (envOfC qual (defScope st) s.heap.objs.size f cdv)) → sp p vs H Q E →
      ∃ t, PSs (cxH CX0 P w K mg base N qual (defScope st) f cdv A outer s H E p) (defBody st) t ∧ t { nx := fun _ H' => Q .non H', rt := Q } (L2.start N vs) H) : FnP P w K mg base (k + 1) f fd ps sp := by
  obtain ⟨_, _, _, _, _, _, cdv, _, _, rfl, lk, hcd⟩ := F.ex
  refine ⟨len, fun p A outer s H args us vs Q E room hpin env hbind hv hsp => ?_⟩
  have inK : K.In s.heap := env.mod.kin.keeps fun b o e => (env.bs b o e).1
  have par : ∀ y ∈ ps.zip us, (defScope st).names.lookup y.1 = some .local ∨ ((defScope st).names.lookup y.1 = some .cell ∧ ((cellsFrom (s.heap.objs.size + 1) (defScope st).names []).lookup y.1).isSome = true) := by
    rintro ⟨n, v⟩ hy
    exact (S.par n (List.of_mem_zip hy).1).imp id fun q => ⟨q, PySem.W.cellsFrom_some _ _ _ (.inl q)⟩
  refine codeAny_call_function room.depth (inK _ _ lk) rfl S.co S.gen rfl (PySem.W.codeRec_of inK hcd) (hbind _ _ _ _ (wpAny_newFunctionEnv_cells S.kind par ?_))
  rintro _ rfl s1 x
  refine ⟨(env.mod.nolimit.keeps fun b o e => (env.bs b o e).1).keeps x.toInCall.keep, codeAny_func ?_⟩
  obtain ⟨t, ht, hq⟩ := hbody p cdv A outer s H vs Q E (room.deeper _) hsp
  have J := inv_startH (CX := CX0) (E := E) S hpin env (len _ _ _ _ _ hsp) hv x
  refine wpAny_mono (ht.run [] s1 _ H _ J hq) (fun fl s' hs => ?_) fun _ _ hs => hs
  match fl, hs with
  | .ret u, ⟨v, _, H', J, rv, q⟩ => exact ⟨v, H', J.os, J.bare, J.base, J.hok, rv, q⟩
  | .next, ⟨_, H', J, q⟩ => exact ⟨.non, H', J.os, J.bare, J.base, J.hok, rfl, q⟩
  | .brk, ⟨_, _, _, q⟩ => exact q.elim
  | .cont, ⟨_, _, _, q⟩ => exact q.elim
section
variable {X : Cx} {k : Nat} {f a : Addr} {oe : Obj} {fd : FuncData} {ps : List Str} {sp : Addr × Obj → Sp} {x : Str} {p pos : Pos} {e : Expr} {te : TE}
/-- f(e), e the exception that the suite holds -/
def tCallP (sp : Addr × Obj → Sp) (a : Addr) (cls : Value) (d : Option Addr) (te : TE) : TE := fun σ H Q => tCons te tNil σ H fun vs H1 => vs = [.ref a] ∧ ∀ oe : Obj, Zc cls d oe → (∃ vs, oe.data = .fields vs) → sp (a, oe) [.ref a] H1 Q E0
theorem pe_callP {cls : Value} {d : Option Addr} (hin : (a, oe) ∈ X.pn) (hz : L2N.Zn cls d oe) (hf : ∃ vs, oe.data = .fields vs) (F : FnP X.prog X.w X.K X.mg X.base k f fd ps sp) (hr : RoomH k X.A) (hg : Gl X x) (hm : X.mg x = some (.ref f)) (hk : PySem.W.keepIn X.K (.ref f) = true) (hb : Binds X.K fd ps [])
    (ha : PE X e te) (hdb : (x == ("__debug__" : Str)) = false := by decide) (he : starEach [e] X.env = (false, eval e X.env) :: starEach [] X.env := by rfl) (hpl : (backTo pos (starEach [] X.env)).any (·.1) = false := by rfl) :
    PE X (.Call (.Name x p) [e] [] pos) (tCallP sp a cls d te) := by
  refine ⟨fun pins s σ H Q I h => ?_⟩
  refine wpAny_Call_Name_kw (ld_glob I hg hm (PySem.W.callWith_K (h₀ := X.base) I.ok.mod.kin hk (thn ((pa_cons ha pa_nil (hs := he)).run pos pins s σ H _ I h) fun us s1 hh => ?_) he hpl) hdb)
  obtain ⟨vs, H1, I1, r, rfl, hoe⟩ := hh
  refine ⟨I1.kIn, ?_⟩
  have hq := hoe oe hz.zc hf
  obtain ⟨hget, hno, hnl, hnf, hnc⟩ := I1.pin (a, oe) (List.mem_append.mpr (.inl hin))
  have b := hb s1 us I1.kIn (by rw [List.append_nil, ← r.length]; exact F.len _ _ _ _ _ hq)
  rw [List.append_nil] at b
  refine wpAny_call (codeAny_mono (F.run (a, oe) X.A X.stack s1 H1 ⟨us, []⟩ us [.ref a] _ E0 hr ⟨hget, hno, fun hm => (List.mem_cons.mp (I1.stkSub a hm)).elim hnl hnf, hnc⟩ I1.env0 b r hq) fun r s' hq => ?_)
  match r, hq with
  | .error _, hq => exact hq.elim
  | .ok (.ret u), hq => exact I1.after hq
  | .ok .next, hq => exact hq.elim
  | .ok .brk, hq => exact hq.elim
  | .ok .cont, hq => exact hq.elim
/-- isinstance(e, c), e the parameter that the handled exception was handed to -/
def rIsP (K : PySem.W.Frag) (a : Addr) (D : Addr) : List V → Hp → VK → Prop := fun xs H Q => ∃ (c : V) (cv : Value) (b : Bool), xs = [.ref a, c] ∧ (∀ u, RelV c u → u = cv) ∧ PySem.W.kitOne K (.ref D) cv = some b ∧ Q (.bl b) H
theorem call_isP {D : Addr} (hin : (a, oe) ∈ X.pn) (C : ExcC X.K D) (hz : Zc (.ref D) none oe) (hf : ∃ vs, oe.data = .fields vs) : CallR X (.builtin "isinstance") (rIsP X.K a D) := by
  rintro pins s σ H _ us Q I r ⟨c, cv, b, rfl, hcv, e, q⟩
  cases r with
  | cons rx rr =>
    cases rr with
    | cons rt rr =>
      cases rr
      cases rx
      have ec := hcv _ rt
      subst ec
      have hget := (I.pin (a, oe) (List.mem_append.mpr (.inl hin))).1
      obtain ⟨vs, hv⟩ := hf
      have J : PySem.W.InstAt s.heap a oe D none := by
        rcases oe with ⟨oc, od, oda, osl⟩
        rcases hz with ⟨z1, z2⟩
        dsimp only at z1 z2 hv
        subst z1 z2 hv
        exact ⟨hget, rfl, rfl, trivial⟩
      refine PySem.W.kia_one (PySem.W.handS_kitx_exc C.hg C.hk C.hs C.hd C.ha C.hn C.ht C.hm) I.kIn J e (fun z => nomatch z) ?_
      exact fun tk => ⟨.bl b, H, I.kept (t' := tk) fun _ _ z => z, rfl, q⟩
/-- xs.count(y), of any flat values -/
def rCntV (K : PySem.W.Frag) : V → List V → Hp → VK → Prop := fun x xs H Q => ∃ (a : Addr) (ys : List V) (y : V), x = V.ref a ∧ xs = [y] ∧ SqL K H a ys ∧ flatV y = true ∧ ys.all flatV = true ∧ Q (.int (ys.countP (fun z => eqV z y) : Nat)) H
theorem mt_cntV : MtR X "list.count" (rCntV X.K) := by
  rintro pins s σ H x xs v us Q I rx rxs ⟨a, ys, y, rfl, rfl, hs, fy, fys, q⟩
  cases rx
  obtain ⟨uy, rfl, ry⟩ := rxs.one
  obtain ⟨its, rv, ⟨⟨cls, dd, data, sl⟩, n, ho, hc, hdn, hd⟩, hlen⟩ := I.list hs
  simp only at hc hd
  subst hc hd
  have ec : ∀ (ys : List V) (its : List Value), Vals ys its → ys.all flatV = true → its.countP (eqU y) = ys.countP (fun z => eqV z y) := by
    intro ys its rv
    induction rv with
    | nil => intro _; rfl
    | cons r t ih =>
      intro hf
      rw [List.all_cons, Bool.and_eq_true] at hf
      rw [List.countP_cons, List.countP_cons, ih hf.2, eqU_of r hf.1]
  refine call_meets PySem.F.slot_list_count ⟨_, ho, rfl⟩ PySem.F.entry_list_count (PySem.F.args_list_count_2 _ _) (SeqAt.list_countAt a its.toArray n dd sl uy (eqU y)) ⟨ho, fun u' hu' => mem_eqAt ry fy rv fys u' (by simpa using hu'), ?_⟩
  refine ⟨.int (ys.countP (fun z => eqV z y) : Nat), H, I.tok _, ⟨s.toks, ?_⟩, q⟩
  show Value.int ((its.toArray.toList.countP (eqU y) : Nat) : Int) s.toks = Value.int ((ys.countP (fun z => eqV z y) : Nat) : Int) s.toks
  rw [ec ys its rv fys]
end
theorem takes0N {X : Cx} : L2N.Takes X (fun _ _ _ _ => False) := by
  rintro u s' ⟨_, _, _, _, _, _, _, _, _, _, _, _, _, _, _, _, z⟩
  exact z.elim
theorem passE0 {X : Cx} : Passes (L2N.CX X.prog X.w) X E0 := by
  rintro pins σ H s e s' I ⟨_, _, _, _, _, _, _, _, _, _, _, _, h⟩
  exact h.elim
def HasP (P : Program) (w : World) (K : PySem.W.Frag) (mg : Str → Option Value) (base : Heap) (x : Str) (k : Nat) (ps : List Str) (sp : Addr × Obj → Sp) : Prop :=
  ∃ f fd, FnP P w K mg base k f fd ps sp ∧ mg x = some (.ref f) ∧ PySem.W.keepIn K (.ref f) = true ∧ Binds K fd ps []
/-- try: f(..) as a statement -/
theorem qTRYD {K : PySem.W.Frag} {c : Value} {i : Nat} {ts : Addr → Value → Option Addr → TS} {D : Ends} {σ : L2.St} {H : Hp} {tz : TS} {sp : Sp} {vs : List V} {ta : TA} (ha : EvA ta σ H vs)
    (h : ∀ H1, Ex H H1 → sp vs H1 (fun _ H2 => tz D σ H2) (WE (wAs K c i ts (fun _ _ _ _ => False) { D with nx := tz D }) σ)) : tSeq (fun D σ H => tDrop (tCallS sp (WE (wAs K c i ts (fun _ _ _ _ => False) D)) ta) D σ H) tz D σ H :=
  ha H (Ex.refl H) (fun vs H1 => sp vs H1 (fun _ H2 => tz D σ H2) (WE (wAs K c i ts (fun _ _ _ _ => False) { D with nx := tz D }) σ)) h
/-- try: return (v, f(..)) -/
theorem rt_try {K : PySem.W.Frag} {c : Value} {i : Nat} {ts : Addr → Value → Option Addr → TS} {D : Ends} {σ : L2.St} {H : Hp} {sp : Sp} {v : V} {vs : List V} {ta : TA} (ha : EvA ta σ H vs)
    (h : ∀ H1, Ex H H1 → sp vs H1 (fun x H2 => [v, x].length ≤ sizeLine ∧ ∀ p, H2 p = none → D.rt (.ref p) (upd H2 p (.tup [v, x]))) (WE (wAs K c i ts (fun _ _ _ _ => False) D) σ)) :
    (fun D σ H => tRet (tTup (tCons (tC v) (tCons (tCallS sp (WE (wAs K c i ts (fun _ _ _ _ => False) D)) ta) tNil))) D σ H : TS) D σ H :=
  ha H (Ex.refl H) (fun vs H1 => sp vs H1 (fun x H2 => [v, x].length ≤ sizeLine ∧ ∀ p, H2 p = none → D.rt (.ref p) (upd H2 p (.tup [v, x]))) (WE (wAs K c i ts (fun _ _ _ _ => False) D) σ)) h
/-- name = f(e, v), e a new list -/
theorem qACN {H0 H : Hp} {M : List (Addr × List V)} {D : Ends} {σ : L2.St} {sp : Sp} {v : V} {xs : List V} {ta tb : TE} {tz : TS} {E : XK} {i : Nat} (O : Own H0 M H) (h1 : EvL ta σ H xs) (h2 : ∀ H1, Ex H H1 → Ev tb σ H1 v)
    (hs : ∀ p H1, Own H0 ((p, xs) :: M) H1 → sp ([.ref p, v] ++ []) H1 (fun x H2 => tz D (σ.set i (some x)) H2) E) : tSeq (tAsg (tCall sp [] E (tCons ta (tCons tb tNil))) (gName i)) tz D σ H :=
  h1 H (Ex.refl H) (fun x H1 => tCons tb tNil σ H1 fun xs H2 => sp ((x :: xs) ++ []) H2 (fun x H3 => tz D (σ.set i (some x)) H3) E) fun p H1 hp e h =>
    (ea_cons (h2 H1 e) ea_nil : EvA (tCons tb tNil) σ H1 [v]) H1 (Ex.refl H1) (fun xs H2 => sp ((V.ref p :: xs) ++ []) H2 (fun x H3 => tz D (σ.set i (some x)) H3) E) fun H2 e2 => hs p H2 ((O.new hp e h).mono e2)
/-- return f(..) -/
theorem RTC {H0 H : Hp} {M : List (Addr × List V)} {D : Ends} {σ : L2.St} {sp : Sp} {vs : List V} {ta : TA} {E : XK} (O : Own H0 M H) (ha : EvA ta σ H vs) (hs : ∀ H1, Own H0 M H1 → sp (vs ++ []) H1 D.rt E) : tRet (tCall sp [] E ta) D σ H :=
  ha H (Ex.refl H) (fun vs H1 => sp (vs ++ []) H1 D.rt E) fun H1 e => hs H1 (O.mono e)
theorem RTCN {H0 H : Hp} {M : List (Addr × List V)} {D : Ends} {σ : L2.St} {sp : Sp} {v : V} {xs : List V} {ta tb : TE} {E : XK} (O : Own H0 M H) (h1 : Ev ta σ H v) (h2 : EvL tb σ H xs) (hs : ∀ p H1, Own H0 ((p, xs) :: M) H1 → sp ([v, .ref p] ++ []) H1 D.rt E) : tRet (tCall sp [] E (tCons ta (tCons tb tNil))) D σ H :=
  h1 H (Ex.refl H) (fun x H1 => tCons tb tNil σ H1 fun xs H2 => sp ((x :: xs) ++ []) H2 D.rt E) fun H1 e => h2 H1 e (fun x H2 => sp ([v, x] ++ []) H2 D.rt E) fun p H2 hp e2 h => hs p H2 ((O.mono e).new hp e2 h)
/-- f(..) as a statement, within a try -/
theorem DCS {H0 H : Hp} {M : List (Addr × List V)} {D : Ends} {σ : L2.St} {sp : Sp} {vs : List V} {ta : TA} {W : WX} (O : Own H0 M H) (ha : EvA ta σ H vs) (hs : ∀ H1, Own H0 M H1 → sp vs H1 (fun _ H2 => D.nx σ H2) (WE W σ)) : tDrop (tCallS sp (WE W) ta) D σ H :=
  ha H (Ex.refl H) (fun vs H1 => sp vs H1 (fun _ H2 => D.nx σ H2) (WE W σ)) fun H1 e => hs H1 (O.mono e)
/-! ### what is asked of an own class that is raised -/
structure ClsE (K : PySem.W.Frag) (mg : Str → Option Value) (x : Str) (C S : Addr) : Prop where
  g : mg x = some (.ref C)
  x : PySem.W.excIn K C [.type "ValueError", .type "Exception", .type "BaseException", .type "object"] "ValueError.__new__" = true
  k : PySem.W.keepIn K (.ref C) = true
  b : PySem.W.subIn K (.ref C) (.type "BaseException") = some true
  t : PySem.W.typeIn K (.ref C) = some (.type "type")
  e : PySem.W.exmOne K (.ref C) (.ref S) = some true
  c : ExcC K C
  v : PySem.W.kitOne K (.ref C) (.type "ValueError") = some true
theorem kit_ref {K : PySem.W.Frag} {C D : Addr} {b : Bool} (hd : PySem.W.hasDictIn K D = true) (ht : PySem.W.typeIn K (.ref D) = some (.type "type")) (hs : PySem.W.subIn K (.ref C) (.ref C) = some true) (h : PySem.W.subIn K (.ref C) (.ref D) = some b) :
    PySem.W.kitOne K (.ref C) (.ref D) = some b := by
  obtain ⟨cd, hc, _⟩ := PySem.W.any_some hd
  have e2 : ((PySem.W.clsIn K D).isSome && PySem.W.typeIn K (.ref D) == some (.type "type")) = true := by rw [hc, ht] <;> rfl
  unfold PySem.W.kitOne
  by_cases e : (Value.ref C == Value.ref D) = true
  · rw [if_pos e]
    have e' : C = D := Value.ref.inj (beq_iff_eq.mp e)
    subst e'
    exact hs.symm.trans h
  · rw [if_neg e]
    show (if ((PySem.W.clsIn K D).isSome && PySem.W.typeIn K (.ref D) == some (.type "type")) = true then PySem.W.subIn K (.ref C) (.ref D) else none) = some b
    rw [if_pos e2]
    exact h
theorem kit_ve {K : PySem.W.Frag} {C : Addr} (h : PySem.W.subIn K (.ref C) (.type "ValueError") = some true) : PySem.W.kitOne K (.ref C) (.type "ValueError") = some true := by
  unfold PySem.W.kitOne
  rw [if_neg (by simp)]
  show (if PySem.W.kitMeta "ValueError" = true then PySem.W.subIn K (.ref C) (.type "ValueError") else none) = some true
  rw [if_pos (by decide +kernel)]
  exact h
/-- the class that is raised, among the seven -/
structure KF (K : PySem.W.Frag) (C : Nat → Addr) (i : Nat) : Prop where
  lo : 1 ≤ i
  hi : i ≤ 7
  c : ExcC K (C i)
  v : PySem.W.kitOne K (.ref (C i)) (.type "ValueError") = some true
  kit : ∀ j, 1 ≤ j → j ≤ 7 → PySem.W.kitOne K (.ref (C i)) (.ref (C j)) = some (decide (i = j))
def kindName : Nat → Str
  | 1 => "row"
  | 2 => "place"
  | 3 => "full"
  | 4 => "code"
  | 5 => "rank"
  | 6 => "amount"
  | 7 => "note"
  | _ => "other"
section
variable {K : PySem.W.Frag} {H : Hp} {σ : L2.St} {ta tb te : TE} {a D : Addr} {xs : List V}
theorem ev_isP {c : V} {cv : Value} {b : Bool} (h : Ev te σ H (.ref a)) (hcv : ∀ u, RelV c u → u = cv) (hk : PySem.W.kitOne K (.ref D) cv = some b) : Ev (tCB (rIsP K a D) (tCons te (tCons (tC c) tNil))) σ H (.bl b) := fun H1 e _ q =>
  h H1 e _ fun H2 e2 => ⟨c, cv, b, rfl, hcv, hk, q H2 e2⟩
theorem ev_cntV {y : V} (h : Ev ta σ H (.ref a)) (hs : SqL K H a xs) (hy : Ev tb σ H y) (f1 : flatV y = true) (f2 : xs.all flatV = true) : Ev (tBM K "list" (rCntV K) ta (tCons tb tNil)) σ H (.int (xs.countP (fun z => eqV z y) : Nat)) := fun H1 e _ k =>
  h H1 e _ fun H2 e2 => ⟨.inl ⟨rfl, xs, ex_l (e.trans e2) hs⟩, hy H2 (e.trans e2) _ fun H3 e3 => ⟨a, xs, y, rfl, rfl, ex_l ((e.trans e2).trans e3) hs, f1, f2, k H3 (e2.trans e3)⟩⟩
theorem ev_idxV {y z : V} (j : Nat) (h : Ev ta σ H (.ref a)) (hs : SqL K H a xs) (hy : Ev tb σ H y) (f1 : flatV y = true) (f2 : xs.all flatV = true) (hz : xs[j]? = some z) (hzy : eqV z y = true) (hno : (xs.take j).all (fun z => !eqV z y) = true) :
    Ev (tBM K "list" (rIndex K) ta (tCons tb tNil)) σ H (.int (j : Nat)) := fun H1 e _ k =>
  h H1 e _ fun H2 e2 => ⟨.inl ⟨rfl, xs, ex_l (e.trans e2) hs⟩, hy H2 (e.trans e2) _ fun H3 e3 => ⟨a, xs, y, j, z, rfl, rfl, ex_l ((e.trans e2).trans e3) hs, f1, f2, hz, hzy, fun m z' hm hz' => by
    have := (List.all_eq_true.mp hno) z' (List.mem_of_getElem? (i := m) (by rw [List.getElem?_take_of_lt hm]; exact hz'))
    simpa using this, k H3 (e2.trans e3)⟩⟩
theorem el_catRN' {ys : List V} (ha : Ev ta σ H (.ref a)) (hA : H a = some (.lst xs)) (hb : EvL tb σ H ys) (hl : xs.length + ys.length ≤ 100000) : EvL (tOp rCat ta tb) σ H (xs ++ ys) := fun H1 e Q q =>
  ha H1 e _ fun H2 e2 => hb H2 (e.trans e2) _ fun r H3 hr e3 h3 => ⟨a, r, xs, ys, rfl, rfl, e3 _ _ (e2 _ _ (e _ _ hA)), h3, sz_of hl, fun l hl => q l _ (fresh_back (e2.trans e3) hl) ((e2.trans e3).trans (Ex.new hl)) upd_same⟩
def rMin2 : List V → Hp → VK → Prop := fun xs H Q => ∃ i j, xs = [.int i, .int j] ∧ Q (.int (if j < i then j else i)) H
theorem ev_min2 {i j : Int} (ha : Ev ta σ H (.int i)) (hb : Ev tb σ H (.int j)) : Ev (tCB rMin2 (tCons ta (tCons tb tNil))) σ H (.int (if j < i then j else i)) := fun H1 e Q q =>
  ha H1 e _ fun H2 e2 => hb H2 (e.trans e2) _ fun H3 e3 => ⟨i, j, rfl, q H3 (e2.trans e3)⟩
theorem ev_ifE {t : TT} {b : Bool} {v : V} (ht : EvT t σ H b) (h1 : b = true → Ev ta σ H v) (h2 : b = false → Ev tb σ H v) : Ev (tIf t ta tb) σ H v := fun H1 e Q q =>
  ht H1 e _ fun H2 e2 => by
    cases b with
    | true => exact h1 rfl H2 (e.trans e2) Q fun H3 e3 => q H3 (e2.trans e3)
    | false => exact h2 rfl H2 (e.trans e2) Q fun H3 e3 => q H3 (e2.trans e3)
theorem ev_ixT {t : Addr} {v : V} (k : Nat) (h : Ev te σ H (.ref t)) (ht : H t = some (.tup xs)) (hi : Ev tb σ H (.int (k : Int))) (hv : xs[k]? = some v) : Ev (tOp (rIxT K) te tb) σ H v := ev_op h hi (rv_ixT (st_of ht) (atI_nat hv))
theorem rv_eqS {x y : Str} : RV rEq (.str x) (.str y) H (.bl (decide (x = y))) := fun H1 _ Q q => ⟨rfl, by
  have e : decide (V.str x = V.str y) = decide (x = y) := by
    rw [decide_eq_decide]
    exact ⟨V.str.inj, congrArg V.str⟩
  rw [e]
  exact q H1 (Ex.refl H1)⟩
theorem rv_neS {x y : Str} : RV rNe (.str x) (.str y) H (.bl (!decide (x = y))) := fun H1 _ Q q => ⟨rfl, by
  have e : decide (V.str x = V.str y) = decide (x = y) := by
    rw [decide_eq_decide]
    exact ⟨V.str.inj, congrArg V.str⟩
  rw [e]
  exact q H1 (Ex.refl H1)⟩
end
end Sh
namespace Sh
open PySem PySem.Spec PyProof.Rows L2 Evl
section
variable {K : PySem.W.Frag} {H0 H : Hp} {M : List (Addr × List V)} {a p q : Addr} {xs ys : List V} {v w y : V} {D : Ends} {σ : L2.St} {te ta tb tc tl : TE} {tz : TS}
/-- xs.append(ys.pop(z)) -/
theorem APPPOP (i j : Nat) {z : Int} (O : Own H0 M H) (hi : M[i]? = some (p, xs)) (hj : M[j]? = some (q, ys)) (hij : i ≠ j) (ha : ∀ H', Ev ta σ H' (.ref p)) (hb : ∀ H', Ev tb σ H' (.ref q)) (hc : Ev tc σ H (.int z)) (h0 : 0 ≤ z) (h1 : z < 1000000) (hy : ys[z.toNat]? = some y) (hl : xs.length < 100000)
    (k : ∀ H1, Own H0 ((M.set j (q, ys.eraseIdx z.toNat)).set i (p, xs ++ [y])) H1 → D.nx σ H1) :
    tDrop (tBM K "list" rAppend ta (tCons (tBM K "list" rPopAt tb (tCons tc tNil)) tNil)) D σ H :=
  ha H H (Ex.refl H) _ fun H1 e1 => by
    have O1 := O.mono e1
    refine ⟨.inl ⟨rfl, xs, O1.seq i hi⟩, ?_⟩
    refine hb H1 H1 (Ex.refl H1) _ fun H2 e2 => ?_
    have O2 := O1.mono e2
    refine ⟨.inl ⟨rfl, ys, O2.seq j hj⟩, ?_⟩
    refine hc H2 (e1.trans e2) _ fun H3 e3 => ?_
    have O3 := O2.mono e3
    have hlt : z.toNat < ys.length := (List.getElem?_eq_some_iff.mp hy).1
    refine ⟨q, ys, z, z.toNat, y, rfl, rfl, O3.get j hj, by omega, by omega, seqIndex_of h0 (by omega), hy, ?_⟩
    have O4 := O3.upd (ys := ys.eraseIdx z.toNat) j hj
    have hi4 : (M.set j (q, ys.eraseIdx z.toNat))[i]? = some (p, xs) := by rw [List.getElem?_set_ne hij.symm]; exact hi
    exact ⟨p, xs, y, rfl, rfl, O4.get i hi4, sz_lt hl, k _ (O4.upd i hi4)⟩
theorem ev_index {ns : List Int} {x : Int} (h : Ev ta σ H (.ref a)) (hs : SqL K H a (il ns)) (hx : Ev tb σ H (.int x)) (hm : x ∈ ns) : Ev (tBM K "list" (rIndex K) ta (tCons tb tNil)) σ H (.int (ns.idxOf x : Nat)) := fun H1 e Q k =>
  h H1 e _ fun H2 e2 => ⟨.inl ⟨rfl, il ns, ex_l (e.trans e2) hs⟩, hx H2 (e.trans e2) _ fun H3 e3 => by
    have hlt := List.idxOf_lt_length_iff.mpr hm
    refine ⟨a, il ns, .int x, ns.idxOf x, .int x, rfl, rfl, ex_l ((e.trans e2).trans e3) hs, rfl, ?_, ?_, ?_, ?_, k H3 (e2.trans e3)⟩
    · rw [List.all_eq_true]
      intro y hy
      obtain ⟨n, _, rfl⟩ := List.mem_map.mp hy
      rfl
    · rw [List.getElem?_map, List.getElem?_eq_getElem hlt, List.getElem_idxOf] <;> rfl
    · show (x == x) = true
      exact beq_self_eq_true x
    · intro m z' hm' hz
      obtain ⟨rfl, _⟩ := getI hz
      show (gt ns m == x) = false
      have e1 := some_gt (ns := ns) (k := m) (by omega)
      have := List.not_of_lt_findIdx (p := fun y => y == x) (xs := ns) (i := m) hm'
      rw [List.getElem?_eq_getElem (by omega)] at e1
      rw [← Option.some.inj e1]
      simpa using this⟩
end
end Sh
namespace Sh
open PySem PySem.Spec PyProof.Rows L2 Evl
section
variable {K : PySem.W.Frag} {H0 H : Hp} {M : List (Addr × List V)} {a p q : Addr} {xs ys : List V} {v w y : V} {D : Ends} {σ : L2.St} {te ta tb tc tl : TE} {tz : TS}
/-- a comprehension over ints whose element changes things -/
theorem LCM {ns : List Int} {j : Nat} {vs : List Nat} {Q : VK} (O : Own H0 M H) (h : Ev tl σ H (.ref a)) (hx : SqL K H a (il ns)) (Pv : Addr → Nat → Hp → Prop) (h0 : ∀ Dl H1, Own H0 ((Dl, []) :: M) H1 → Pv Dl 0 H1)
    (hl : ∀ Dl i H', Pv Dl i H' → SqL K H' a (il ns)) (hw : ∀ x, wipe ((wipe σ vs).set j (some x)) vs = wipe σ vs)
    (hs : ∀ Dl i x H', ns[i]? = some x → Pv Dl i H' → te ((wipe σ vs).set j (some (.int x))) H' fun y H4 => ∃ acc, H4 Dl = some (.lst acc) ∧ acc.length < sizeLine ∧ Pv Dl (i + 1) (upd H4 Dl (.lst (acc ++ [y])))) (hd : ∀ Dl H', Pv Dl ns.length H' → Q (.ref Dl) H') :
    tLc (iList K tl) (gName j) tYes te vs σ H Q := h H (Ex.refl H) _ fun H1 e1 => ⟨a, rfl, ⟨il ns, ex_l e1 hx⟩, fun Dl hD =>
  lc_list (xs := il ns) (Pv Dl) (h0 Dl _ ((O.mono e1).new hD (Ex.new hD) upd_same)) (fun i H' _ p => hl Dl i H' p) (fun i x H' hi p => by
    obtain ⟨rfl, m⟩ := getI hi
    have hi2 : ns[i]? = some (gt ns i) := by
      rw [List.getElem?_map] at hi
      cases e : ns[i]? with
      | none => rw [e] at hi; cases hi
      | some z => rw [gt_some e]
    exact ⟨hw _, hs Dl i _ H' hi2 p⟩) (fun H' p => hd Dl H' (by rw [List.length_map] at p; exact p))⟩
/-- ys.pop(z) into the comprehension's list -/
theorem LPOP (i j : Nat) {z : Int} {Dl : Addr} {Pv : Hp → Prop} (O : Own H0 M H) (hi : M[i]? = some (Dl, xs)) (hj : M[j]? = some (q, ys)) (hij : i ≠ j) (hb : ∀ H', Ev tb σ H' (.ref q)) (hc : Ev tc σ H (.int z)) (h0 : 0 ≤ z) (h1 : z < 1000000) (hy : ys[z.toNat]? = some y) (hl : xs.length < 100000)
    (k : ∀ H1, Own H0 ((M.set j (q, ys.eraseIdx z.toNat)).set i (Dl, xs ++ [y])) H1 → Pv H1) :
    tBM K "list" rPopAt tb (tCons tc tNil) σ H fun y H4 => ∃ acc, H4 Dl = some (.lst acc) ∧ acc.length < sizeLine ∧ Pv (upd H4 Dl (.lst (acc ++ [y]))) :=
  hb H H (Ex.refl H) _ fun H2 e2 => by
    have O2 := O.mono e2
    refine ⟨.inl ⟨rfl, ys, O2.seq j hj⟩, ?_⟩
    refine hc H2 e2 _ fun H3 e3 => ?_
    have O3 := O2.mono e3
    have hlt : z.toNat < ys.length := (List.getElem?_eq_some_iff.mp hy).1
    refine ⟨q, ys, z, z.toNat, y, rfl, rfl, O3.get j hj, by omega, by omega, seqIndex_of h0 (by omega), hy, ?_⟩
    have O4 := O3.upd (ys := ys.eraseIdx z.toNat) j hj
    have hi4 : (M.set j (q, ys.eraseIdx z.toNat))[i]? = some (Dl, xs) := by rw [List.getElem?_set_ne hij.symm]; exact hi
    exact ⟨xs, O4.get i hi4, sz_lt hl, k _ (O4.upd i hi4)⟩
end
end Sh
namespace Sh
open PySem PySem.Spec PyProof.Rows L2 Evl
section
variable {K : PySem.W.Frag} {H0 H : Hp} {M : List (Addr × List V)} {a p q : Addr} {xs ys : List V} {v w y : V} {D : Ends} {σ : L2.St} {te ta tb tc tl : TE} {tz : TS}
def rIns : V → List V → Hp → VK → Prop := fun x vs H Q => ∃ (l : Addr) (xs : List V) (i : Int) (y : V), x = .ref l ∧ vs = [.int i, y] ∧ H l = some (.lst xs) ∧ xs.length < sizeLine ∧ 0 ≤ i ∧ i < 2 ^ 63 ∧ Q .non (upd H l (.lst (xs.take i.toNat ++ [y] ++ xs.drop i.toNat)))
theorem mt_insertS {X : Cx} : MtR X "list.insert" rIns := mt_insert
/-- xs.insert(z, e) -/
theorem qINS (i : Nat) {z : Int} (O : Own H0 M H) (hi : M[i]? = some (p, xs)) (ha : ∀ H', Ev ta σ H' (.ref p)) (hb : Ev tb σ H (.int z)) (hc : Ev tc σ H y) (h0 : 0 ≤ z) (h1 : z < 1000000) (hl : xs.length < 100000)
    (k : ∀ H1, Own H0 (M.set i (p, xs.take z.toNat ++ [y] ++ xs.drop z.toNat)) H1 → tz D σ H1) : tSeq (tDrop (tBM K "list" rIns ta (tCons tb (tCons tc tNil)))) tz D σ H :=
  ha H H (Ex.refl H) _ fun H1 e1 => by
    have O1 := O.mono e1
    refine ⟨.inl ⟨rfl, xs, O1.seq i hi⟩, ?_⟩
    refine hb H1 e1 _ fun H2 e2 => hc H2 (e1.trans e2) _ fun H3 e3 => ?_
    have O3 := (O1.mono e2).mono e3
    exact ⟨p, xs, z, y, rfl, rfl, O3.get i hi, sz_lt hl, h0, by omega, k _ (O3.upd i hi)⟩
theorem INS (i : Nat) {z : Int} (O : Own H0 M H) (hi : M[i]? = some (p, xs)) (ha : ∀ H', Ev ta σ H' (.ref p)) (hb : Ev tb σ H (.int z)) (hc : Ev tc σ H y) (h0 : 0 ≤ z) (h1 : z < 1000000) (hl : xs.length < 100000)
    (k : ∀ H1, Own H0 (M.set i (p, xs.take z.toNat ++ [y] ++ xs.drop z.toNat)) H1 → D.nx σ H1) : tDrop (tBM K "list" rIns ta (tCons tb (tCons tc tNil))) D σ H :=
  qINS (D := D) (tz := fun D σ H => D.nx σ H) i O hi ha hb hc h0 h1 hl k
theorem Own.keep {t : Addr} (O : Own H0 M H) (h : H t = some (.tup xs)) : Own (L2.upd H0 t (.tup xs)) M H := by
  refine ⟨fun b o hb => ?_, fun m hm => ⟨?_, (O.own m hm).2⟩, O.nd⟩
  · by_cases z : b = t
    · subst z
      rw [upd_same] at hb
      cases hb
      exact h
    · rw [upd_ne z] at hb
      exact O.ex _ _ hb
  · have := O.own m hm
    rw [upd_ne (ne_of this.2 h (by intro z; cases z))]
    exact this.1
/-- xs + ys, both new -/
theorem el_catNN (ha : EvL ta σ H xs) (hb : EvL tb σ H ys) (hl : xs.length + ys.length ≤ 100000) : EvL (tOp rCat ta tb) σ H (xs ++ ys) := fun H1 e Q q =>
  ha H1 e _ fun p H2 hp e2 h2 => hb H2 (e.trans e2) _ fun r H3 hr e3 h3 => ⟨p, r, xs, ys, rfl, rfl, e3 _ _ h2, h3, sz_of hl, fun l hl => q l _ (fresh_back (e2.trans e3) hl) ((e2.trans e3).trans (Ex.new hl)) upd_same⟩
def rNon : R2 := fun x y H Q => y = .non ∧ Q (.bl (decide (x = .non))) H
theorem op_isNon {X : Cx} : OpR X (compareOp .Is) rNon := op_isN
theorem el_sortedN {ns : List Int} (h : EvL te σ H (il ns)) (hl : ns.length < 64) : EvL (tCB (rSorted K) (tCons te tNil)) σ H (il (srt ns)) := fun H1 e Q q =>
  h H1 e _ fun p H2 hp e2 h2 => ⟨p, ns, rfl, sq_of h2, hl, fun ms l hp hs hn => by
    rw [srt_eq hp hs]
    exact q l _ (fresh_back e2 hn) (e2.trans (Ex.new hn)) upd_same⟩
end
end Sh
namespace Sh
open PySem PySem.Spec PyProof.Rows L2 Evl
section
variable {K : PySem.W.Frag} {H0 H H1 : Hp} {M M' : List (Addr × List V)} {a p q : Addr} {xs ys : List V} {v w y : V} {D : Ends} {σ : L2.St} {te ta tb tc tl : TE} {tz tu : TS}
theorem Own.perm (O : Own H0 M H) (h : M.Perm M') : Own H0 M' H := ⟨O.ex, fun m hm => O.own m (h.mem_iff.mpr hm), (h.map _).nodup_iff.mp O.nd⟩
theorem Own.of_ex (e : Ex H0 H) : Own H0 [] H := ⟨e, (fun _ h => by cases h), List.nodup_nil⟩
/-- name = [e], e a new list -/
theorem qALL {i : Nat} (O : Own H0 M H) (h : EvL te σ H xs) (k : ∀ p q H1, Own H0 ((p, [.ref q]) :: (q, xs) :: M) H1 → tz D (σ.set i (some (.ref p))) H1) : tSeq (tAsg (tLst (tCons te tNil)) (gName i)) tz D σ H :=
  h H (Ex.refl H) _ fun q H1 hq e h1 => ⟨sz_of (by show 1 ≤ 100000; decide), fun p hp => k p q _ ((O.new hq e h1).new hp (Ex.new hp) upd_same)⟩
theorem atI_neg {α : Type} {l : List α} {x : α} (h : l[l.length - 1]? = some x) (hl : 0 < l.length) : atI l (-1) = some x := by
  unfold atI ixN
  rw [if_neg (by decide), if_pos (by omega)]
  show l[((-1 : Int) + (l.length : Int)).toNat]? = some x
  rw [show ((-1 : Int) + (l.length : Int)).toNat = l.length - 1 by omega]
  exact h
theorem ev_last {ns : List Int} (h : Ev tl σ H (.ref a)) (hx : SqL K H a (il ns)) (hi : Ev tb σ H (.int (-1))) (hl : 0 < ns.length) : Ev (tOp (rIxL K) tl tb) σ H (.int (gt ns (ns.length - 1))) :=
  ev_op h hi (rv_ixL hx (atI_neg (by rw [List.length_map, List.getElem?_map, some_gt (by omega)] <;> rfl) (by rw [List.length_map]; exact hl)))
theorem el_listN (h : EvL te σ H xs) : EvL (tCB (rListS K) (tCons te tNil)) σ H xs := fun H1 e Q q =>
  h H1 e _ fun p H2 _ e2 hp => ⟨p, xs, rfl, .inl (sq_of hp), fun l hl => q l _ (fresh_back e2 hl) (e2.trans (Ex.new hl)) upd_same⟩
theorem el_catRN (ha : Ev ta σ H (.ref a)) (hA : H a = some (.lst xs)) (hb : EvL tb σ H ys) (hl : xs.length + ys.length ≤ 100000) : EvL (tOp rCat ta tb) σ H (xs ++ ys) := fun H1 e Q q =>
  ha H1 e _ fun H2 e2 => hb H2 (e.trans e2) _ fun r H3 hr e3 h3 => ⟨a, r, xs, ys, rfl, rfl, e3 _ _ (e2 _ _ (e _ _ hA)), h3, sz_of hl, fun l hl => q l _ (fresh_back (e2.trans e3) hl) ((e2.trans e3).trans (Ex.new hl)) upd_same⟩
theorem el_catNR (ha : EvL ta σ H xs) (hb : ∀ H1, Ex H H1 → Ev tb σ H1 (.ref a)) (hA : H a = some (.lst ys)) (hl : xs.length + ys.length ≤ 100000) : EvL (tOp rCat ta tb) σ H (xs ++ ys) := fun H1 e Q q =>
  ha H1 e _ fun p H2 hp e2 h2 => hb H2 (e.trans e2) H2 (Ex.refl H2) _ fun H3 e3 => ⟨p, a, xs, ys, rfl, rfl, e3 _ _ h2, e3 _ _ (e2 _ _ (e _ _ hA)), sz_of hl, fun l hl => q l _ (fresh_back (e2.trans e3) hl) ((e2.trans e3).trans (Ex.new hl)) upd_same⟩
theorem el_catRR {c : Addr} (ha : Ev ta σ H (.ref a)) (hA : H a = some (.lst xs)) (hb : Ev tb σ H (.ref c)) (hC : H c = some (.lst ys)) (hl : xs.length + ys.length ≤ 100000) : EvL (tOp rCat ta tb) σ H (xs ++ ys) := fun H1 e Q q =>
  ha H1 e _ fun H2 e2 => hb H2 (e.trans e2) _ fun H3 e3 => ⟨a, c, xs, ys, rfl, rfl, e3 _ _ (e2 _ _ (e _ _ hA)), e3 _ _ (e2 _ _ (e _ _ hC)), sz_of hl, fun l hl => q l _ (fresh_back (e2.trans e3) hl) ((e2.trans e3).trans (Ex.new hl)) upd_same⟩
theorem sIx_m1 (n d : Nat) : HT.sIx n d (some (-1)) = n - 1 := by
  have h := HT.clip_eq (-1) n d
  rw [if_pos (by decide)] at h
  omega
theorem cut_last (xs : List V) : cutV xs (some (-1)) none = xs.drop (xs.length - 1) := by
  unfold cutV
  rw [sIx_m1, HT.sIx_none]
  exact List.take_of_length_le (by rw [List.length_drop]; exact Nat.le_refl _)
theorem cut_init (xs : List V) : cutV xs none (some (-1)) = xs.take (xs.length - 1) := by
  unfold cutV
  rw [sIx_m1, HT.sIx_none, List.drop_zero, Nat.sub_zero]
theorem sl_last {tl2 : TO} {ns : List Int} (h : Ev te σ H (.ref a)) (hs : SqL K H a (il ns)) (h1 : EvO tl2 σ H (some (-1))) : EvL (tSl (rSlL K) te tl2 tNoPart) σ H (il (ns.drop (ns.length - 1))) := by
  have z := el_sl h h1 eo_none hs
  rw [cut_last, List.length_map, ← List.map_drop] at z
  exact z
theorem sl_init {tl2 : TO} {ns : List Int} (h : Ev te σ H (.ref a)) (hs : SqL K H a (il ns)) (h1 : EvO tl2 σ H (some (-1))) : EvL (tSl (rSlL K) te tNoPart tl2) σ H (il (ns.take (ns.length - 1))) := by
  have z := el_sl h eo_none h1 hs
  rw [cut_init, List.length_map, ← List.map_take] at z
  exact z
theorem cut_mid (ns : List Int) (i j : Nat) (hij : i ≤ j) (hj : j ≤ ns.length) : cutV (il ns) (some (i : Int)) (some (j : Int)) = il ((ns.take j).drop i) := by
  unfold cutV
  rw [HT.sIx_nat, HT.sIx_nat]
  simp only [List.length_map]
  rw [Nat.min_eq_left (show i ≤ ns.length by omega), Nat.min_eq_left hj, ← List.map_drop, ← List.map_take, List.drop_take]
theorem sl_mid {i j : Nat} {tl2 th2 : TO} {ns : List Int} (h : Ev te σ H (.ref a)) (hs : SqL K H a (il ns)) (h1 : EvO tl2 σ H (some (i : Int))) (h2 : EvO th2 σ H (some (j : Int))) (hij : i ≤ j) (hj : j ≤ ns.length) : EvL (tSl (rSlL K) te tl2 th2) σ H (il ((ns.take j).drop i)) := by
  rw [← cut_mid ns i j hij hj]
  exact el_sl h h1 h2 hs
/-- for v in a new list of ints -/
theorem FLN {ns : List Int} {j : Nat} (O : Own H0 M H) (h : EvL tl σ H (il ns)) (Pv : Addr → Nat → L2.St → Hp → Prop) (h0 : ∀ p H1, Own H0 ((p, il ns) :: M) H1 → Pv p 0 σ H1) (hl : ∀ p i σ' H', Pv p i σ' H' → SqL K H' p (il ns))
    (hs : ∀ p i x σ' H', ns[i]? = some x → Pv p i σ' H' → tu { D with nx := Pv p (i + 1), ct := Pv p (i + 1), bk := D.nx } (σ'.set j (some (.int x))) H') (hd : ∀ p σ' H', Pv p ns.length σ' H' → D.nx σ' H') : tFor (iList K tl) (gName j) tu D σ H :=
  s_forNL (g := gName j) h Pv (fun p H1 hp e h1 => h0 p H1 (O.new hp e h1)) (fun p i σ' H' _ q => hl p i σ' H' q) (fun p i x σ' H' hi q => by
    rw [List.getElem?_map] at hi
    cases e : ns[i]? with
    | none => rw [e] at hi; cases hi
    | some y =>
      rw [e] at hi
      cases hi
      exact hs p i y σ' H' e q) (fun p σ' H' q => hd p σ' H' (by rw [List.length_map] at q; exact q))
theorem qFLN {ns : List Int} {j : Nat} (O : Own H0 M H) (h : EvL tl σ H (il ns)) (Pv : Addr → Nat → L2.St → Hp → Prop) (h0 : ∀ p H1, Own H0 ((p, il ns) :: M) H1 → Pv p 0 σ H1) (hl : ∀ p i σ' H', Pv p i σ' H' → SqL K H' p (il ns))
    (hs : ∀ p i x σ' H', ns[i]? = some x → Pv p i σ' H' → tu { D with nx := Pv p (i + 1), ct := Pv p (i + 1), bk := tz D } (σ'.set j (some (.int x))) H') (hd : ∀ p σ' H', Pv p ns.length σ' H' → tz D σ' H') : tSeq (tFor (iList K tl) (gName j) tu) tz D σ H :=
  FLN (D := { D with nx := tz D }) O h Pv h0 hl hs hd
/-- xss[-1].append(e) -/
theorem qAPPin (i j : Nat) (O : Own H0 M H) (hi : M[i]? = some (p, xs)) (hx : xs[xs.length - 1]? = some (.ref q)) (hj : M[j]? = some (q, ys)) (ha : Ev ta σ H (.ref p)) (hb : ∀ H', Ev tb σ H' (.int (-1))) (h : Ev te σ H v) (hz : ys.length < 100000) (k : ∀ H1, Own H0 (M.set j (q, ys ++ [v])) H1 → tz D σ H1) :
    tSeq (tDrop (tBM K "list" rAppend (tOp (rIxL K) ta tb) (tCons te tNil))) tz D σ H :=
  qAPP j O hj (ev_op ha (hb H) (rv_ixL (O.seq i hi) (atI_neg hx (Nat.pos_of_ne_zero fun z => by rw [List.length_eq_zero_iff.mp z] at hx; cases hx)))) h hz k
theorem APPin (i j : Nat) (O : Own H0 M H) (hi : M[i]? = some (p, xs)) (hx : xs[xs.length - 1]? = some (.ref q)) (hj : M[j]? = some (q, ys)) (ha : Ev ta σ H (.ref p)) (hb : ∀ H', Ev tb σ H' (.int (-1))) (h : Ev te σ H v) (hz : ys.length < 100000) (k : ∀ H1, Own H0 (M.set j (q, ys ++ [v])) H1 → D.nx σ H1) :
    tDrop (tBM K "list" rAppend (tOp (rIxL K) ta tb) (tCons te tNil)) D σ H :=
  APP j O hj (ev_op ha (hb H) (rv_ixL (O.seq i hi) (atI_neg hx (Nat.pos_of_ne_zero fun z => by rw [List.length_eq_zero_iff.mp z] at hx; cases hx)))) h hz k
theorem rv_eqB {x y : Bool} : RV rEq (.bl x) (.bl y) H (.bl (x == y)) := fun H1 _ Q q => ⟨rfl, by
  have e : decide (V.bl x = V.bl y) = (x == y) := by cases x <;> cases y <;> decide
  rw [e]
  exact q H1 (Ex.refl H1)⟩
/-- what is told of a list of lists: where each stands, what it holds -/
abbrev Dr (Dn : List (Addr × List Int)) : List V := Dn.map fun d => V.ref d.1
def RetP (ps : List (List Int)) (H : Hp) (Q : VK) : Prop := ∀ (p : Addr) (Dn : List (Addr × List Int)) (H2 : Hp), Dn.map (·.2) = ps → H p = none → Ex H H2 → H2 p = some (.lst (Dr Dn)) → (∀ d, d ∈ Dn → H2 d.1 = some (.lst (il d.2))) → Q (.ref p) H2
abbrev Dm (Dn : List (Addr × List Int)) : List (Addr × List V) := Dn.map fun d => (d.1, il d.2)
theorem Dr_snoc (Dn : List (Addr × List Int)) (d : Addr × List Int) : Dr (Dn ++ [d]) = Dr Dn ++ [V.ref d.1] := List.map_append
theorem Dm_snoc (Dn : List (Addr × List Int)) (d : Addr × List Int) : Dm (Dn ++ [d]) = Dm Dn ++ [(d.1, il d.2)] := List.map_append
end
end Sh
namespace Sh
open PySem PySem.Spec PyProof.Rows L2 Evl
theorem Own.sub {H0 H : Hp} {M M' : List (Addr × List V)} (O : Own H0 M H) (h : M'.Sublist M) : Own H0 M' H := ⟨O.ex, fun m hm => O.own m (h.subset hm), O.nd.sublist (h.map _)⟩
theorem Own.skip1 {H0 H : Hp} {M : List (Addr × List V)} {m n : Addr × List V} (O : Own H0 (m :: n :: M) H) : Own H0 (m :: M) H := O.sub (.cons₂ _ (.cons _ (List.Sublist.refl _)))
theorem Own.skip2 {H0 H : Hp} {M : List (Addr × List V)} {m n o : Addr × List V} (O : Own H0 (m :: n :: o :: M) H) : Own H0 (m :: n :: M) H := O.sub (.cons₂ _ (.cons₂ _ (.cons _ (List.Sublist.refl _))))
end Sh
namespace Sh
open PySem PySem.Spec PyProof.Rows L2 Evl
section
variable {K : PySem.W.Frag} {H0 H : Hp} {M : List (Addr × List V)} {D : Ends} {σ : L2.St} {tz tu : TS} {sp : Sp} {vs : List V} {tr : TA} {E : XK} {g : TG}
/-- for v in f(..) -/
theorem FC (O : Own H0 M H) (ha : EvA tr σ H vs) (hs : ∀ H1, Own H0 M H1 → sp (vs ++ []) H1 (fun x H2 => tFor (iList K (tC x)) g tu D σ H2) E) : tFor (iList K (tCall sp [] E tr)) g tu D σ H :=
  ha H (Ex.refl H) _ fun H1 e => hs H1 (O.mono e)
theorem qFC (O : Own H0 M H) (ha : EvA tr σ H vs) (hs : ∀ H1, Own H0 M H1 → sp (vs ++ []) H1 (fun x H2 => tFor (iList K (tC x)) g tu { D with nx := tz D } σ H2) E) : tSeq (tFor (iList K (tCall sp [] E tr)) g tu) tz D σ H :=
  FC (D := { D with nx := tz D }) O ha hs
/-- the same, its first word a new list -/
theorem FCN {v : V} {ta tb : TE} {xs : List V} (O : Own H0 M H) (h1 : EvL ta σ H xs) (h2 : ∀ H1, Ex H H1 → Ev tb σ H1 v) (hs : ∀ p H1, Own H0 ((p, xs) :: M) H1 → sp ([.ref p, v] ++ []) H1 (fun x H2 => tFor (iList K (tC x)) g tu D σ H2) E) :
    tFor (iList K (tCall sp [] E (tCons ta (tCons tb tNil)))) g tu D σ H :=
  h1 H (Ex.refl H) _ fun p H1 hp e h => (ea_cons (h2 H1 e) ea_nil : EvA (tCons tb tNil) σ H1 [v]) H1 (Ex.refl H1) _ fun H2 e2 => hs p H2 ((O.new hp e h).mono e2)
theorem qFCN {v : V} {ta tb : TE} {xs : List V} (O : Own H0 M H) (h1 : EvL ta σ H xs) (h2 : ∀ H1, Ex H H1 → Ev tb σ H1 v) (hs : ∀ p H1, Own H0 ((p, xs) :: M) H1 → sp ([.ref p, v] ++ []) H1 (fun x H2 => tFor (iList K (tC x)) g tu { D with nx := tz D } σ H2) E) :
    tSeq (tFor (iList K (tCall sp [] E (tCons ta (tCons tb tNil)))) g tu) tz D σ H := FCN (D := { D with nx := tz D }) O h1 h2 hs
end
end Sh
namespace Sh
open PySem PySem.Spec PyProof.Rows L2 Evl
/-! ### texts -/
def rJoin (K : PySem.W.Frag) : V → List V → Hp → VK → Prop := fun x xs H Q => ∃ a p, ∃ ys : List Str, x = .str a ∧ xs = [.ref p] ∧ (SqL K H p (ys.map V.str) ∨ SqT K H p (ys.map V.str)) ∧ (ys.map (·.length)).sum + ys.length * a.length ≤ 16777216 ∧ Q (.str (Txt.join a ys)) H
def rSplit : V → List V → Hp → VK → Prop := fun x xs H Q => ∃ a b, x = .str a ∧ xs = [.str b] ∧ (b.length == 0) = false ∧ a.length + 2 ≤ sizeLine ∧ rNewStrs (Txt.split a b) H Q
def rStrI : List V → Hp → VK → Prop := fun xs H Q => ∃ i : Int, xs = [.int i] ∧ i.natAbs.log2 < 1920 ∧ Q (.str (toString i)) H
def rIntT : List V → Hp → VK → Prop := fun xs H Q => ∃ a n, xs = [.str a] ∧ PySem.intText? a = some n ∧ a.length ≤ 640 ∧ Q (.int n) H
def rAddS : R2 := fun x y H Q => ∃ i j : Str, x = .str i ∧ y = .str j ∧ i.length + j.length ≤ sizeLine ∧ Q (.str (i ++ j)) H
def rLenT : List V → Hp → VK → Prop := fun xs H Q => ∃ z : Str, xs = [.str z] ∧ z.length ≤ sizeLine ∧ Q (.int z.length) H
def rNotInS : R2 := fun x y H Q => ∃ (c : Nat) (z : Str), x = .str ⟨#[c]⟩ ∧ y = .str z ∧ Q (.bl (!decide (c ∈ z.cps.toList))) H
section
variable {K : PySem.W.Frag} {H : Hp} {σ : L2.St} {ta tb te to : TE} {a : Addr}
theorem ev_join {s : Str} {ys : List Str} (h : Ev to σ H (.str s)) (hy : EvL te σ H (ys.map V.str)) (hz : (ys.map (·.length)).sum + ys.length * s.length ≤ 16777216) : Ev (tM1 (rJoin K) to te) σ H (.str (Txt.join s ys)) := fun H1 e _ q =>
  h H1 e _ fun H2 e2 => ⟨⟨s, rfl⟩, hy H2 (e.trans e2) _ fun p H3 _ e3 hp => ⟨s, p, ys, rfl, rfl, .inl (sq_of hp), hz, q H3 (e2.trans e3)⟩⟩
theorem ev_joinR {s : Str} {ys : List Str} (h : Ev to σ H (.str s)) (hy : Ev te σ H (.ref a)) (ha : SqL K H a (ys.map V.str)) (hz : (ys.map (·.length)).sum + ys.length * s.length ≤ 16777216) : Ev (tM1 (rJoin K) to te) σ H (.str (Txt.join s ys)) := fun H1 e _ q =>
  h H1 e _ fun H2 e2 => ⟨⟨s, rfl⟩, hy H2 (e.trans e2) _ fun H3 e3 => ⟨s, a, ys, rfl, rfl, .inl (ex_l ((e.trans e2).trans e3) ha), hz, q H3 (e2.trans e3)⟩⟩
theorem el_split {s b : Str} (h : Ev to σ H (.str s)) (hb : Ev te σ H (.str b)) (h0 : (b.length == 0) = false) (hl : s.length + 2 ≤ 100000) : EvL (tM1 rSplit to te) σ H ((Txt.split s b).map V.str) := fun H1 e Q q =>
  h H1 e _ fun H2 e2 => ⟨⟨s, rfl⟩, hb H2 (e.trans e2) _ fun H3 e3 => ⟨s, b, rfl, rfl, h0, sz_of hl, fun p hp => q p _ (fresh_back (e2.trans e3) hp) ((e2.trans e3).trans (Ex.new hp)) upd_same⟩⟩
theorem ev_strI {i : Int} (h : Ev te σ H (.int i)) (hi : i.natAbs.log2 < 1920) : Ev (tCB rStrI (tCons te tNil)) σ H (.str (toString i)) := fun H1 e _ q => h H1 e _ fun H2 e2 => ⟨i, rfl, hi, q H2 e2⟩
theorem ev_intT {s : Str} {n : Int} (h : Ev te σ H (.str s)) (hn : PySem.intText? s = some n) (hl : s.length ≤ 640) : Ev (tCB rIntT (tCons te tNil)) σ H (.int n) := fun H1 e _ q => h H1 e _ fun H2 e2 => ⟨s, n, rfl, hn, hl, q H2 e2⟩
theorem rv_addS {x y : Str} (h : x.length + y.length ≤ 100000) : RV rAddS (.str x) (.str y) H (.str (x ++ y)) := fun H1 _ _ q => ⟨x, y, rfl, rfl, sz_of h, q H1 (Ex.refl H1)⟩
theorem ev_lenT {s : Str} (h : Ev te σ H (.str s)) (hl : s.length ≤ 100000) : Ev (tCB rLenT (tCons te tNil)) σ H (.int s.length) := fun H1 e _ q => h H1 e _ fun H2 e2 => ⟨s, rfl, sz_of hl, q H2 e2⟩
theorem rv_notInS {c : Nat} {z : Str} : RV rNotInS (.str ⟨#[c]⟩) (.str z) H (.bl (!decide (c ∈ z.cps.toList))) := fun H1 _ _ q => ⟨c, z, rfl, rfl, q H1 (Ex.refl H1)⟩
end
/-! the text of a row -/
def strsL (ns : List Int) : List Str := ns.map fun v => Str.ofString (toString v)
def shownL (ns : List Int) : Str := Txt.join " " (strsL ns)
theorem str_len {v : Int} (h : 0 ≤ v ∧ v ≤ 99) : (Str.ofString (toString v)).length ≤ 2 := by
  obtain ⟨n, rfl⟩ : ∃ n : Nat, v = n := ⟨v.toNat, (Int.toNat_of_nonneg h.1).symm⟩
  rw [SX.num_S, SX.S_len]
  exact TL.numL_len (by decide) (by omega)
theorem strs_sum : ∀ ns : List Int, (∀ v, v ∈ ns → 0 ≤ v ∧ v ≤ 99) → ((strsL ns).map (·.length)).sum ≤ 2 * ns.length
  | [], _ => Nat.le_refl _
  | v :: ns, h => by
    have h1 := str_len (h v List.mem_cons_self)
    have h2 := strs_sum ns fun x hx => h x (List.mem_cons_of_mem _ hx)
    show (Str.ofString (toString v)).length + ((strsL ns).map (·.length)).sum ≤ 2 * (ns.length + 1)
    omega
theorem log_row {v : Int} (h : 0 ≤ v ∧ v ≤ 99) : v.natAbs.log2 < 1920 := Nat.lt_of_le_of_lt (Nat.log2_le_self _) (by omega)
/-! the same by signs -/
def wd (v : Int) : List Nat := TL.numL v.toNat
def txt (ns : List Int) : List Nat := TL.joinL [32] (ns.map wd)
theorem str_wd {v : Int} (h : 0 ≤ v) : Str.ofString (toString v) = SX.S (wd v) := by
  have e : v = ((v.toNat : Nat) : Int) := (Int.toNat_of_nonneg h).symm
  unfold wd
  conv => lhs; rw [e]
  exact SX.num_S _
theorem strs_wd : ∀ {ns : List Int}, (∀ v, v ∈ ns → 0 ≤ v ∧ v ≤ 99) → strsL ns = (ns.map wd).map SX.S
  | [], _ => rfl
  | v :: ns, h => by
    show Str.ofString (toString v) :: strsL ns = SX.S (wd v) :: (ns.map wd).map SX.S
    rw [str_wd (h v List.mem_cons_self).1, strs_wd fun x hx => h x (List.mem_cons_of_mem _ hx)]
theorem sp_S : (" " : Str) = SX.S [32] := by decide +kernel
theorem shown_txt {ns : List Int} (h : ∀ v, v ∈ ns → 0 ≤ v ∧ v ≤ 99) : shownL ns = SX.S (txt ns) := by
  unfold shownL txt
  rw [strs_wd h, sp_S, SX.join_S]
theorem joinL_snoc (s : List Nat) : ∀ (l : List (List Nat)) (x : List Nat), l ≠ [] → TL.joinL s (l ++ [x]) = TL.joinL s l ++ s ++ x
  | [], _, h => absurd rfl h
  | [p], x, _ => by
    show p ++ (s ++ x) = p ++ s ++ x
    rw [List.append_assoc]
  | p :: q :: r, x, _ => by
    show p ++ (s ++ TL.joinL s (q :: r ++ [x])) = p ++ (s ++ TL.joinL s (q :: r)) ++ s ++ x
    rw [joinL_snoc s (q :: r) x (by simp)]
    simp only [List.append_assoc]
theorem wd_len {v : Int} (h : 0 ≤ v ∧ v ≤ 99) : (wd v).length ≤ 2 := TL.numL_len (by decide) (by omega)
theorem joinL_len : ∀ (l : List (List Nat)), (∀ p, p ∈ l → p.length ≤ 2) → (TL.joinL [32] l).length ≤ 3 * l.length
  | [], _ => Nat.le_refl _
  | [p], h => by
    have := h p List.mem_cons_self
    show p.length ≤ 3 * 1
    omega
  | p :: q :: r, h => by
    have h1 := h p List.mem_cons_self
    have h2 := joinL_len (q :: r) fun x hx => h x (List.mem_cons_of_mem _ hx)
    show (p ++ ([32] ++ TL.joinL [32] (q :: r))).length ≤ 3 * ((q :: r).length + 1)
    rw [List.length_append, List.length_append, List.length_singleton]
    omega
theorem txt_len {ns : List Int} (h : ∀ v, v ∈ ns → 0 ≤ v ∧ v ≤ 99) : (txt ns).length ≤ 3 * ns.length := by
  have := joinL_len (ns.map wd) fun p hp => by
    obtain ⟨v, hv, rfl⟩ := List.mem_map.mp hp
    exact wd_len (h v hv)
  rw [List.length_map] at this
  exact this
/-- a word that writes a volume -/
def GoodW (l : List Nat) : Prop := (1 ≤ l.length ∧ l.length ≤ 2) ∧ ¬ (l.length = 2 ∧ l[0]? = some 48) ∧ ∀ c, c ∈ l → 48 ≤ c ∧ c ≤ 57
theorem good_wd : ∀ n : Nat, n < 100 → GoodW (TL.numL n) ∧ NumText.digitsVal (TL.numL n) = n := fun n h => by
  refine ⟨⟨⟨?_, TL.numL_len (by decide) (by omega)⟩, ?_, fun c hc => ?_⟩, TL.numL_val n⟩
  · cases e : TL.numL n with
    | nil => exact absurd e (TL.numL_ne n)
    | cons x l => simp
  · rintro ⟨h2, h3⟩
    by_cases h10 : n < 10
    · rw [TL.numL_lt h10] at h2
      simp at h2
    · rw [TL.numL_step (by omega), TL.numL_lt (by omega)] at h3
      have : 48 + n / 10 = 48 := Option.some.inj h3
      omega
  · by_cases h1 : 48 ≤ c ∧ c ≤ 57
    · exact h1
    · exact absurd hc (TL.numL_free (by omega))
section
variable {K : PySem.W.Frag} {H0 H : Hp} {M : List (Addr × List V)} {D : Ends} {σ : L2.St} {te tb : TE} {tu tz : TS}
/-- for c in a text -/
theorem FS {l : List Nat} {j : Nat} (O : Own H0 M H) (h : Ev te σ H (.str (SX.S l))) (Pv : Nat → L2.St → Hp → Prop) (h0 : ∀ H1, Own H0 M H1 → Pv 0 σ H1)
    (hs : ∀ i c σ' H', l[i]? = some c → Pv i σ' H' → tu { D with nx := Pv (i + 1), ct := Pv (i + 1), bk := D.nx } (σ'.set j (some (.str ⟨#[c]⟩))) H') (hd : ∀ σ' H', Pv l.length σ' H' → D.nx σ' H') : tFor (iStr te) (gName j) tu D σ H :=
  h H (Ex.refl H) _ fun H1 e => by
    refine ⟨SX.S l, rfl, fun i m σ H => m = l.length - i ∧ i ≤ l.length ∧ Pv i σ H, ⟨l.length, by simp, Nat.zero_le _, h0 H1 (O.mono e)⟩, ?_⟩
    rintro i m σ2 H2 ⟨rfl, hi, p⟩
    have hsz : (SX.S l).cps.size = l.length := by simp [SX.S]
    by_cases hlt : i < l.length
    · refine .inr ⟨(by show i < (SX.S l).cps.size; omega), Pv (i + 1), fun σ' H' p' => ⟨l.length - (i + 1), by omega, rfl, hlt, p'⟩, fun x H' y => ?_⟩
      obtain ⟨e1, c, hc, rfl⟩ := y
      subst e1
      exact hs i c σ2 _ (by simpa [SX.S] using hc) p
    · have e1 : i = l.length := by omega
      subst e1
      exact .inl ⟨(by show (SX.S l).cps.size ≤ l.length; omega), hd σ2 H2 p⟩
theorem qFS {l : List Nat} {j : Nat} (O : Own H0 M H) (h : Ev te σ H (.str (SX.S l))) (Pv : Nat → L2.St → Hp → Prop) (h0 : ∀ H1, Own H0 M H1 → Pv 0 σ H1)
    (hs : ∀ i c σ' H', l[i]? = some c → Pv i σ' H' → tu { D with nx := Pv (i + 1), ct := Pv (i + 1), bk := tz D } (σ'.set j (some (.str ⟨#[c]⟩))) H') (hd : ∀ σ' H', Pv l.length σ' H' → tz D σ' H') : tSeq (tFor (iStr te) (gName j) tu) tz D σ H := FS (D := { D with nx := tz D }) O h Pv h0 hs hd
theorem ev_ixS {l : List Nat} {c : Nat} (k : Nat) (h : Ev te σ H (.str (SX.S l))) (hi : Ev tb σ H (.int (k : Int))) (hl : l.length ≤ 100000) (hc : l[k]? = some c) : Ev (tOp rIxS te tb) σ H (.str (SX.S [c])) := ev_op h hi fun H1 _ Q q =>
  ⟨SX.S l, (k : Int), c, rfl, rfl, sz_of (by rw [SX.S_len]; exact hl), atI_nat (by simpa [SX.S] using hc), q H1 (Ex.refl H1)⟩
theorem ev_isiStr {s : Str} {T : String} {b : Bool} (h : Ev te σ H (.str s)) (hk : PySem.W.kitOne K (.type "str") (.type T) = some b) : Ev (tCB (rIsi K) (tCons te (tCons (tC (.ty T)) tNil))) σ H (.bl b) := fun H1 e _ q =>
  h H1 e _ fun H2 e2 => ⟨.str s, .ty T, _, _, b, rfl, .ty T, .base (.str s), hk, q H2 e2⟩
theorem rv_eqT {a b : List Nat} : RV rEq (.str (SX.S a)) (.str (SX.S b)) H (.bl (decide (a = b))) := fun H1 _ Q q => ⟨rfl, by
  have e : decide (V.str (SX.S a) = V.str (SX.S b)) = decide (a = b) := by
    rw [decide_eq_decide]
    exact ⟨fun h => SX.S_inj (V.str.inj h), fun h => by rw [h]⟩
  rw [e]
  exact q H1 (Ex.refl H1)⟩
theorem rv_neT {a b : List Nat} : RV rNe (.str (SX.S a)) (.str (SX.S b)) H (.bl (!decide (a = b))) := fun H1 _ Q q => ⟨rfl, by
  have e : decide (V.str (SX.S a) = V.str (SX.S b)) = decide (a = b) := by
    rw [decide_eq_decide]
    exact ⟨fun h => SX.S_inj (V.str.inj h), fun h => by rw [h]⟩
  rw [e]
  exact q H1 (Ex.refl H1)⟩
theorem rv_notInF {c : Nat} {z : Str} {l : List Nat} (hz : z = SX.S l) : RV rNotInS (.str ⟨#[c]⟩) (.str z) H (.bl (!decide (c ∈ l))) := fun H1 _ _ q => ⟨c, z, rfl, rfl, by
  have : z.cps.toList = l := by rw [hz]
  rw [this]
  exact q H1 (Ex.refl H1)⟩
end
end Sh
namespace Sh
open PySem PySem.Spec PyProof.Rows L2 Evl L2H
section
variable {M : Model} {A : Around} {E : Value → Shared → Prop} {s : Shared} {Z : Obj → Prop} {B : Heap} {env : Env} {outer : List Env} {L e : Addr}
/-- an exception, whatever its flight says -/
def Aloft (B : Heap) (l : List Env) (e : Addr) (Z : Obj → Prop) (h : Heap) : Prop := B.StaysIn h ∧ B.get? e = none ∧ h.FunFrames B l ∧ ∃ fl, HandSPX.TracedZ h B e Z fl
theorem note_any {Q : Unit → Shared → Prop} (hZ : PXN.Steady1 Z) (hfr : A.frames = some (env :: outer)) (hf : env.frame = some L) (x : Aloft B (env :: outer) e Z s.heap)
    (hQ : ∀ h', HandSPX.HeldZ B (env :: outer) e Z L h' → s.heap.UpToSlots h' → Q () { s with heap := h' }) : wpAny M A (noteFrame (.ref e) env) Q E s := by
  obtain ⟨stays, new, frames, fl, tr⟩ := x
  by_cases same : (fl == rawInt L) = true
  · have e1 : fl = rawInt L := beq_iff_eq.mp same
    subst e1
    exact HandSPX.againZ hf tr (hQ s.heap ⟨stays, new, frames, tr⟩ (Heap.UpToSlots.refl _))
  · obtain ⟨oe, vs, T, oT, ts, he, hz, hd, one, freshT, apart, hT, hdT, three⟩ := tr
    have away : ∀ b, b ≠ T → (s.heap.update T (Obj.mapFields (·.setIfInBounds 3 Value.none))).get? b = s.heap.get? b := by
      intro b hb
      rw [Heap.get?_update_other]
      exact hb.symm
    have notT : ∀ {b o}, s.heap.get? b = some o → (∀ vs, o.data ≠ .fields vs) → b ≠ T := by
      rintro b o hb hno rfl
      rw [hT] at hb
      cases hb
      exact hno _ hdT
    unfold noteFrame
    simp only [hf]
    refine wpAny_bind (wpAny_field he hd one ?_)
    rw [if_pos (by simp)]
    refine wpAny_bind (wpAny_field hT hdT three ?_)
    rw [if_neg same]
    refine wpAny_bind (wpAny_setField hT hdT (Array.getElem?_eq_some_iff.mp three).1 ?_)
    have f2 := frames.of_keeps (h' := s.heap.update T (Obj.mapFields (·.setIfInBounds 3 Value.none))) fun b o hb hno => ⟨o, (away b (notT hb hno)).trans hb, rfl⟩
    have k2 : B.StaysIn (s.heap.update T (Obj.mapFields (·.setIfInBounds 3 Value.none))) := by
      intro b o hb
      refine (away b ?_).trans (stays b o hb)
      rintro rfl
      rw [freshT] at hb
      cases hb
    refine PXN.wpAny_entryZ hZ hfr f2 hf ((away e apart.symm).trans he) k2 new hd (Array.getElem?_eq_some_iff.mp one).1 hz ?_
    rintro h' ⟨n1, n2, n3, n4⟩
    exact hQ h' ⟨n1, new, n2, n3⟩ fun b o hb hno => n4 b o ((away b (notT hb hno)).trans hb) hno
theorem leaving_any {Q : Unit → Shared → Prop} (hZ : PXN.Steady1 Z) (hfr : A.frames = some (env :: outer)) (hf : env.frame = some L) (x : Aloft B (env :: outer) e Z s.heap)
    (hQ : ∀ h', HandSPX.FlyingZ B outer e Z h' → s.heap.UpToSlots h' → Q () { s with heap := h' }) : wpAny M A (leaving env (.ref e)) Q E s := by
  unfold leaving
  refine wpAny_bind (note_any hZ hfr hf x fun h1 held up => HandSPX.landsZ held fun h2 fl up2 => ?_)
  obtain ⟨f1, f2, ⟨_, _, f3⟩, f4⟩ := fl
  exact hQ h2 ⟨f1, f2, f3, f4⟩ (up.trans up2)
/-- an object that is no frame changes -/
theorem frames_but {B h h' : Heap} {C : Addr} : ∀ {l : List Env}, (∀ b ∈ frs l, b ≠ C) → (∀ b, b ≠ C → h'.get? b = h.get? b) → h.FunFrames B l → h'.FunFrames B l
  | [], _, _, _ => trivial
  | env :: l, hn, sb, ⟨hk, ⟨L, o, hf, hb, ho, hd⟩, hr⟩ => by
    refine ⟨hk, ⟨L, o, hf, hb, (sb L (hn L (List.mem_filterMap.mpr ⟨env, List.mem_cons_self, hf⟩))).trans ho, hd⟩, frames_but (fun b hb => ?_) sb hr⟩
    obtain ⟨e, he, q⟩ := List.mem_filterMap.mp hb
    exact hn b (List.mem_filterMap.mpr ⟨e, List.mem_cons_of_mem _ he, q⟩)
/-- noting a frame looks at the environment's frame alone -/
theorem note_eq {env' : Env} {v : Value} (h : env'.frame = env.frame) : noteFrame v env' = noteFrame v env := by
  unfold noteFrame PySem.frameOf
  rw [h]
/-- passed on, under any environment -/
theorem pass_any {α : Type} {what : String} {env' : Env} {l : List Env} {Q : α → Shared → Prop} (x : Aloft B l e Z s.heap) (hE : ∀ h', Aloft B l e Z h' → s.heap.UpToSlots h' → E (.ref e) { s with heap := h' }) :
    wpAny M A (PySem.passOn what (.ref e) env' : Sem α) Q E s := by
  obtain ⟨stays, new, frames, fl, tr⟩ := x
  have tr' := tr
  obtain ⟨oe, vs, T, oT, ts, he, hz, hd, one, freshT, apart, hT, hdT, three⟩ := tr'
  unfold PySem.passOn
  refine wpAny_bind (wpAny_field he hd one ?_)
  rw [if_neg (by simp)]
  have fin : wpAny M A (setFlight (.ref e) env'.frame) (fun _ s4 => wpAny M A (throw (.ref e) : Sem α) Q E s4) E s :=
    HandSPX.setFlight_anyZ stays frames tr fun h' k1 k2 k3 k4 => wpAny_throw (hE h' ⟨k1, new, k2, _, k3⟩ k4)
  first
    | exact wpAny_bind (wpAny_pure (wpAny_bind fin))
    | exact wpAny_bind fin
end
/-- an exception over the frames of X, whatever its flight says -/
def XA (X : Cx) (E : XK) (u : Value) (s' : Shared) : Prop :=
  ∃ (a : Addr) (B : Heap) (sI : Shared) (pins : List (Addr × Obj)) (σ : L2.St) (H : Hp) (cls : Value) (d : Option Addr), u = .ref a ∧ Inv X pins σ H sI ∧ (∀ b o, sI.heap.get? b = some o → b ∉ frs X.stack → B.get? b = some o) ∧
    sI.heap.UpToSlots s'.heap ∧ Aloft B X.stack a (L2N.Zn cls d) s'.heap ∧ H a = none ∧ s'.os = sI.os ∧ AllBare s'.gens ∧ E cls d H
theorem XA.taken {X : Cx} {E : XK} {u : Value} {s' : Shared} (hs : X.stack = X.env :: X.outer) (hf : X.env.frame = some X.env.locals) (hex : X.ex = []) {E₁ : Value → Shared → Prop}
    (hx : X.xe = fun e s' => wpAny (model X.prog X.w) X.A (leaving X.env e) (fun _ s'' => L2N.CX X.prog X.w X.outer X.H_0 X.s_0 E e s'') E₁ s') (x : XA X E u s') : X.xe u s' := by
  obtain ⟨a, B, sI, pins, σ, H, cls, d, rfl, I, nb, up, al, na, os, ag, hE⟩ := x
  have noex : ∀ b, b ∉ X.ex := by rw [hex]; simp
  have mine : ∀ b o, X.s_0.heap.get? b = some o → b ∉ X.fs → b ∉ frs X.stack := by
    intro b o e hb hm
    rcases List.mem_cons.mp (I.stkSub b hm) with rfl | z
    · exact absurd (Heap.lt_size e) (Nat.not_lt.mpr I.ok.above)
    · exact hb z
  have U : ∀ h', s'.heap.UpToSlots h' → UB (frs X.outer) X.H_0 H X.s_0.heap B h' := fun h' up' => by
    constructor
    case keep => exact fun b o e n hb => nb b o (I.base.keep b o e n hb (noex b)) (mine b o e hb)
    case slot =>
      intro b o e hb
      obtain ⟨_, o2, e2, hno⟩ := I.ok.funs.mem hb
      rw [e] at e2
      cases e2
      obtain ⟨sl, e3⟩ := I.base.slot b o e (I.ok.frf b hb) hb (noex b)
      obtain ⟨sl2, e4⟩ := (up.trans up') b _ e3 hno
      exact ⟨sl2, e4⟩
    case free => exact fun b o e n => I.base.free b o e n (noex b)
    case there =>
      intro b o e hb
      obtain ⟨o2, e2⟩ := I.base.there b o e (noex b)
      exact ⟨o2, nb b o2 e2 (mine b o e hb)⟩
    case tups => exact I.base.tups
    case frzs => exact I.base.frzs
    case tbls => exact I.base.tbls
  rw [hx]
  rw [hs] at al
  exact leaving_any L2N.Zn.steady (by rw [I.ok.frames, hs]) hf al fun h' fl up' => ⟨a, B, H, cls, d, rfl, fl, I.inGround nb, U h' up', na, os.trans I.os, ag, hE⟩
/-- an exception that an element lets out: noted, passed on, taken by the def -/
theorem blk_out {X : Cx} {E : XK} {pins : List (Addr × Obj)} {σ : L2.St} {H3 : Hp} {s3 : Shared} {scope : Scope} {cl : List (Str × Addr)} {fp : List Addr} {use : Option (Value → Sem Unit)} {Qf : Value → Shared → Prop} {D : Addr}
    (hs : X.stack = X.env :: X.outer) (hf : X.env.frame = some X.env.locals) (hex : X.ex = []) {E₁ : Value → Shared → Prop}
    (hx : X.xe = fun e s' => wpAny (model X.prog X.w) X.A (leaving X.env e) (fun _ s'' => L2N.CX X.prog X.w X.outer X.H_0 X.s_0 E e s'') E₁ s')
    (I3 : Inv X pins σ H3 s3) (f3 : ∀ b ∈ fp, FpOk X pins H3 b ∧ b < s3.heap.objs.size) {xe : Value → Shared → Prop} {pb : List (Addr × Obj)} {σb : L2.St} {Hb : Hp} {sb : Shared} {u : Value} {s2 : Shared}
    (Ib : Inv ((X.blk s3 H3 scope (compEnvC scope cl s3.heap.objs.size X.env) fp).wish xe) pb σb Hb sb) (c : L2N.CX X.prog X.w X.stack Hb sb E u s2) :
    notedBy (model X.prog X.w) X.A (compEnvC scope cl s3.heap.objs.size X.env) (fun e s' => compPost (model X.prog X.w) X.A X.xe use Qf (.ref D) s3.heap.objs.size (.error e) s') u s2 := by
  obtain ⟨C, hC⟩ : ∃ C, s3.heap.objs.size = C := ⟨_, rfl⟩
  have frC : C ∉ frs X.stack := fun hm => by
    obtain ⟨_, o, ho, _⟩ := I3.stack.mem hm
    have z := Heap.lt_size ho
    rw [hC] at z
    exact Nat.lt_irrefl _ z
  obtain ⟨a, B, sI, pins', σ', H', cls, d, rfl, I', nb, up, sky, na, os, ag, hE⟩ := L2N.XE.of_call (W := fun cls d _ H => E cls d H) Ib (fun _ _ _ h => h) c
  have al : Aloft B X.stack a (L2N.Zn cls d) s2.heap := by
    rcases sky with ⟨_, _, _, oe, vs, he, _, hd, h1⟩ | ⟨f1, f2, f3, f4⟩ | ⟨f1, f2, f3, f4⟩
    · obtain ⟨a0, _, _, _, _, ea, ⟨_, _, _, oe0, vs0, T0, _, _, he0, _, hd0, h10, _⟩, _⟩ := c
      cases ea
      rw [he] at he0
      cases he0
      rw [hd] at hd0
      cases hd0
      rw [h1] at h10
      cases h10
    · exact ⟨f1, f2, f3, _, f4⟩
    · exact ⟨f1, f2, f3, _, f4⟩
  have freeC : H' C = none := hC ▸ I'.free
  unfold notedBy
  rw [note_eq (env' := compEnvC scope cl s3.heap.objs.size X.env) (env := X.env) rfl]
  have al0 := al
  rw [hs] at al0
  refine note_any L2N.Zn.steady (by rw [I3.ok.frames, hs]) hf al0 fun h1 held up1 => ?_
  obtain ⟨m, hn, _⟩ := I'.loc
  refine ⟨m, (up.trans up1).ns hn, fun h2 sb cenv' _ => ?_⟩
  have hn1 : h1.Ns C m := hC ▸ (up.trans up1).ns hn
  have sb : ∀ b, b ≠ C → h2.get? b = h1.get? b := fun b hb => sb.2 b (by rw [hC]; exact hb)
  have notC : ∀ {b o}, h1.get? b = some o → (∃ vs, o.data = .fields vs) → b ≠ C := by
    rintro b o e ⟨vs, hv⟩ rfl
    obtain ⟨o2, es, ep, e2, hd2, _⟩ := hn1
    rw [e] at e2
    cases e2
    rw [hv] at hd2
    cases hd2
  obtain ⟨G, g1, g2⟩ := restrict sI.heap fun b => decide (b ≠ C)
  obtain ⟨B1, b1, b2⟩ := restrict B fun b => decide (b ≠ C)
  have gk : ∀ b, b ≠ C → G.get? b = sI.heap.get? b := fun b hb => g1 b (by simpa using hb)
  have gC : G.get? C = none := g2 C (by simp)
  have bk : ∀ b, b ≠ C → B1.get? b = B.get? b := fun b hb => b1 b (by simpa using hb)
  have bC : B1.get? C = none := b2 C (by simp)
  have bsub : ∀ b o, B1.get? b = some o → b ≠ C ∧ B.get? b = some o := fun b o e => by
    have hb : b ≠ C := fun z => by rw [z, bC] at e; cases e
    exact ⟨hb, (bk b hb).symm.trans e⟩
  have gsub : ∀ b o, G.get? b = some o → b ≠ C ∧ sI.heap.get? b = some o := fun b o e => by
    have hb : b ≠ C := fun z => by rw [z, gC] at e; cases e
    exact ⟨hb, (gk b hb).symm.trans e⟩
  have old : ∀ b o, s3.heap.get? b = some o → b ≠ C := fun b o e => by
    have z := Heap.lt_size e
    rw [hC] at z
    exact Nat.ne_of_lt z
  have base' : Un (frs X.stack) fp H3 H' s3.heap sI.heap := I'.base
  have IJ : Inv X pins σ H' { sI with heap := G } := by
    refine I3.call' (ch := fp) I'.os ⟨fun b o e n h h' => (gk b (old b o e)).trans (base'.keep b o e n h h'), fun b o e n h h' => ?_, base'.free, fun b o e h => ?_, base'.tups, base'.frzs, base'.tbls⟩ (fun b o hb => ?_) I'.bare
      fun b hb => ⟨(f3 b hb).1.2.2.2.1, (f3 b hb).1.2.1, (f3 b hb).1.2.2.2.2.1, (f3 b hb).1.2.2.2.2.2⟩
    · obtain ⟨sl, q⟩ := base'.slot b o e n h h'
      exact ⟨sl, (gk b (old b o e)).trans q⟩
    · obtain ⟨o2, q⟩ := base'.there b o e h
      exact ⟨o2, (gk b (old b o e)).trans q⟩
    · refine (I'.hok b o hb).stay (fun c u hc q => (gk c ?_).trans q) (fun _ q => q) fun _ _ q => q
      rintro rfl
      rcases hc with rfl | hc
      · rw [freeC] at hb
        cases hb
      · rw [freeC] at hc
        cases hc
  obtain ⟨k1, k2, k3, oe, vs, T, oT, ts, he, hz, hd, one, freshT, apart, hT, hdT, three⟩ := held
  have al2 : Aloft B1 X.stack a (L2N.Zn cls d) h2 := by
    refine ⟨fun b o e => ?_, ?_, ?_, _, oe, vs, T, oT, ts, (sb a (notC he ⟨_, hd⟩)).trans he, hz, hd, one, ?_, apart, (sb T (notC hT ⟨_, hdT⟩)).trans hT, hdT, three⟩
    · obtain ⟨hb, e2⟩ := bsub b o e
      exact (sb b hb).trans (k1 b o e2)
    · rw [bk a (notC he ⟨_, hd⟩)]
      exact k2
    · rw [hs]
      refine funFrames_none (base := B) (frames_but (fun b hb z => frC (by rw [hs]; exact z ▸ hb)) sb k3) fun b hb => ?_
      · have hb' : b ∈ frs X.stack := by rw [hs]; exact hb
        rw [bk b (fun z => frC (z ▸ hb'))]
        exact (k3.mem hb).1
    · rw [bk T (notC hT ⟨_, hdT⟩)]
      exact freshT
  refine pass_any al2 fun h3 al3 up3 => XA.taken hs hf hex hx ⟨a, B1, { sI with heap := G }, pins, σ, H', cls, d, rfl, IJ, fun b o e hb => ?_, ?_, al3, na, os, ag, hE⟩
  · obtain ⟨hbC, e2⟩ := gsub b o e
    exact (bk b hbC).trans (nb b o e2 hb)
  · intro b o e hno
    obtain ⟨hbC, e2⟩ := gsub b o e
    obtain ⟨sl, e3⟩ := (up.trans up1) b o e2 hno
    obtain ⟨sl2, e4⟩ := up3 b _ ((sb b hbC).trans e3) hno
    exact ⟨sl2, e4⟩
/-- [elt for target in iter], elt a thing that lets an exception out, in a def whose exceptions' context is None -/
theorem pe_lcN {X : Cx} {W : XK} {elt tg it0 : Expr} {scope : Scope} {own : List (Str × Nat)} {pos : Pos} {wi : TI} {g : TG} {te : TE} {xe₁ : Value → Shared → Prop}
    (hs : X.stack = X.env :: X.outer) (hf : X.env.frame = some X.env.locals) (hex : X.ex = [])
    (hx : X.xe = fun e s' => wpAny (model X.prog X.w) X.A (leaving X.env e) (fun _ s'' => L2N.CX X.prog X.w X.outer X.H_0 X.s_0 W e s'') xe₁ s')
    (calm : X.calm = true) (nd : X.N.Nodup) (hi : PI X tg it0 wi) (bk : BlkOk X.N X.env.scope scope own)
    (hg : ∀ s H C cl fp, PG (X.blk s H scope (compEnvC scope cl C X.env) fp) tg g)
    (he : ∀ s H C cl fp xe, Passes (L2N.CX X.prog X.w) ((X.blk s H scope (compEnvC scope cl C X.env) fp).wish xe) W → PE ((X.blk s H scope (compEnvC scope cl C X.env) fp).wish xe) elt te)
    (hfs : ∀ x, foldedSetIterable it0 X.env x = pure x := by intro _; rfl) : PE X (.ListComp elt [⟨tg, it0, [], 0⟩] scope pos) (tLc wi g tYes te (own.map (·.2))) := by
  refine ⟨fun pins s σ H Q I want => ?_⟩
  rw [eval_ListComp]
  have clo : ∀ y ∈ scope.names, y.2 = .free → ∃ c, X.env.cells.lookup y.1 = some c := fun y m e => (bk.free y m e).elim (fun k => I.ok.has _ (.inl k)) fun k => I.ok.has _ (.inr k)
  refine wpAny_comprehension_free (use := none) rfl hfs (closure_ok clo) bk.kind (fun y m e => (bk.uniq y m).trans (congrArg some e))
    (thn (hi.run pins s σ H _ I want) fun v0 sA hA => thn hA fun v1 sB hB => ?_)
  rcases hB with ⟨it, fp, tn, J, HB, rfl, IB, T, stB, fB, turns⟩
  refine wpAny_newObj_type (newEnv_comp ?_) (Nat.zero_le _)
  generalize eD : sB.heap.objs.size = D
  obtain ⟨V, ⟨m0, v0⟩, turn⟩ := turns D (IB.hok.fresh (Nat.le_of_eq eD))
  obtain ⟨sC, eC⟩ : ∃ sC : Shared, sC = { sB with heap := sB.heap.push { cls := .type "list", data := .seq ([] : List Value).toArray } } := ⟨_, rfl⟩
  rw [← eC]
  have hC : sC.heap = sB.heap.push { cls := .type "list", data := .seq ([] : List Value).toArray } := by rw [eC]
  have keepC : ∀ b o, sB.heap.get? b = some o → sC.heap.get? b = some o := fun b o e => by
    rw [hC]
    exact Heap.get?_push_of_some _ e
  have IC : Inv X pins σ (upd HB D (.lst [])) sC := by
    subst eC
    refine IB.laid (t' := sB.toks) keepC (Nat.le_of_eq eD) ⟨Nat.zero_le _, [], 0, .nil, ?_⟩
    rw [← eD]
    exact Heap.get?_push_size _ rfl
  have fC : ∀ b ∈ fp, FpOk X pins (upd HB D (.lst [])) b ∧ b < sC.heap.objs.size := fun b hb => by
    obtain ⟨o, e, _⟩ := T.obj _ _ stB b hb
    have lt := Heap.lt_size e
    refine ⟨⟨?_, (fB b hb).2⟩, Heap.lt_size (keepC _ _ e)⟩
    rw [upd_ne (fun z => Nat.ne_of_lt lt (z.trans eD.symm))]
    exact (fB b hb).1
  have stC : tn 0 sC.heap := T.keep _ _ _ stB fun b _ o e => keepC b o e
  have ID := block_start IC bk nd fC
  obtain ⟨cl, ecl⟩ : ∃ cl, cl = cellsFrom (sC.heap.objs.size + 1) scope.names (cloFrom X.env.cells scope.names []) := ⟨_, rfl⟩
  obtain ⟨sD, eSD⟩ : ∃ sD : Shared, sD = { sC with heap := pushCells (sC.heap.push { cls := .type "dict", data := .dict #[] }) scope.names } := ⟨_, rfl⟩
  rw [← ecl, ← eSD] at ID
  have stD : tn 0 sD.heap := T.keep _ _ _ stC fun b _ o e => by
    rw [eSD]
    exact pushCells_keeps _ _ _ _ (Heap.get?_push_of_some _ e)
  have pg := hg sC (upd HB D (.lst [])) sC.heap.objs.size cl fp
  obtain ⟨R, eR⟩ : ∃ R : Result → Shared → Prop, R = compPost (model X.prog X.w) X.A X.xe none (EP X pins σ Q) (.ref D) sC.heap.objs.size := ⟨_, rfl⟩
  have pe := he sC (upd HB D (.lst [])) sC.heap.objs.size cl fp (notedBy (model X.prog X.w) X.A (compEnvC scope cl sC.heap.objs.size X.env) fun e s' => R (.error e) s') fun pb σb Hb sb u s2 Ib c => by
    rw [eR] at Ib ⊢
    exact blk_out hs hf hex hx IC fC Ib c
  have goal : codeAny (model X.prog X.w) X.A (.compStart (.ListComp elt [⟨tg, it0, [], 0⟩] scope pos) 0 (.ref it) (.ref D) (compEnvC scope cl sC.heap.objs.size X.env)) R sD := by
    have calmB : (X.blk sC (upd HB D (.lst [])) scope (compEnvC scope cl sC.heap.objs.size X.env) fp).calm = true := calm
    have foot : ∀ {σ' H' s'}, Inv (X.blk sC (upd HB D (.lst [])) scope (compEnvC scope cl sC.heap.objs.size X.env) fp) [] σ' H' s' → (∀ b ∈ fp, H' b = none) →
        ∀ b ∈ fp, FpOk (X.blk sC (upd HB D (.lst [])) scope (compEnvC scope cl sC.heap.objs.size X.env) fp) [] H' b := fun {σ' H' s'} J' no b hb =>
      ⟨no b hb, (J'.ok.exf b hb).1, J'.ok.exfs b hb, .inl hb, fun x c e => (J'.ok.exf b hb).2 x c e, fun p hp => absurd (show p ∈ ([] : List (Addr × Obj)) ++ [] from hp) (by simp)⟩
    have loop : codeAny (model X.prog X.w) X.A (.compLoop (.ListComp elt [⟨tg, it0, [], 0⟩] scope pos) 0 (.ref it) (.ref D) (compEnvC scope cl sC.heap.objs.size X.env)) R sD := by
      refine compLoop_any (fun n s' => ∃ i H', V i n H' ∧ tn i s'.heap ∧ Inv (X.blk sC (upd HB D (.lst [])) scope (compEnvC scope cl sC.heap.objs.size X.env) fp) [] (wipe σ (own.map (·.2))) H' s' ∧ ∀ b ∈ fp, H' b = none) ?_ m0 ⟨0, _, v0, stD, ID, fun b hb => (fC b hb).1.1⟩
      rintro n sE ⟨i, HE, vE, stE, IE, noE⟩
      rcases turn i n HE vE with ⟨stop, fin⟩ | ⟨go, Nx, again, step⟩
      · refine thnF (T.done (X.blk sC (upd HB D (.lst [])) scope (compEnvC scope cl sC.heap.objs.size X.env) fp) rfl rfl rfl calmB i [] sE _ HE (fun _ _ => False) IE (foot IE noE) stE stop) fun r sF ⟨er, IF⟩ => ?_
        cases er
        have IG : Inv X pins σ HE sF := IC.call' (ch := fp) IF.os IF.base IF.hok IF.bare fun b hb => ⟨(fC b hb).1.2.2.2.1, (fC b hb).1.2.1, (fC b hb).1.2.2.2.2.1, (fC b hb).1.2.2.2.2.2⟩
        obtain ⟨m, ns, _⟩ := IF.loc
        obtain ⟨f0, f1, f2, f3, f4, f5⟩ := IC.fpOk (Nat.le_refl _) (show HE sC.heap.objs.size = none from IF.free)
        show R (.ok .next) sF
        rw [eR]
        exact ⟨m, ns, fun h'' sb => ⟨.ref D, HE, IG.turned (t' := sF.toks) (fun b o hb e => (sb.2 b hb).trans e) f0 f1 f3 f4 f5, rfl, fin⟩⟩
      · refine thnF (T.item (X.blk sC (upd HB D (.lst [])) scope (compEnvC scope cl sC.heap.objs.size X.env) fp) rfl rfl rfl calmB i [] sE _ HE (fun _ _ => False) IE (foot IE noE) stE go) fun r sF ⟨u, er, hF⟩ => ?_
        cases er
        refine thnF hF fun _ sG ⟨x, HG, IG, rx, yG, stG, noG⟩ => ?_
        have IP := IG.pinned (foot IG noG) (T.obj _ _ stG)
        refine thnF (pg.run _ sG _ HG x u _ IP rx (step x HG yG)) fun _ sH ⟨σH, HH, IH, wH, qH⟩ => ?_
        refine wpAny_tests_nil ?_
        rw [if_pos rfl]
        have qH : te σH HH _ := qH
        refine wpAny_mono (pe.run _ sH σH HH _ (IH.wish _) qH) (fun z sI ⟨yv, HI, II, rI, acc, aD, short, nx⟩ => ?_) fun _ _ h => h
        refine app_ok (X := X.blk sC (upd HB D (.lst [])) scope (compEnvC scope cl sC.heap.objs.size X.env) fp) II.unwish aD short rI fun sJ IJ => ?_
        obtain ⟨m', less, v'⟩ := again _ nx
        have pinned : ∀ b ∈ fp, ∀ o, sG.heap.get? b = some o → sJ.heap.get? b = some o ∧ (upd HI D (.lst (acc ++ [yv]))) b = none := fun b hb o e => by
          have z := IJ.pin (b, o) (List.mem_append_right _ (List.mem_append_right _ (mem_pinsAt hb e)))
          exact ⟨z.1, z.2.1⟩
        have len : (wipe σ (own.map (·.2))).length = σH.length := by rw [← wH, wipe_length]
        refine ⟨m', less, i + 1, _, v', T.keep _ _ _ stG fun b hb o e => (pinned b hb o e).1, (IJ.unpinned (pins := [])).weak len fun j v e => ?_, fun b hb => ?_⟩
        · rw [← wH] at e
          exact (wipe_some e).1
        · obtain ⟨o, e, _⟩ := T.obj _ _ stG b hb
          exact (pinned b hb o e).2
    exact codeAny_compStart_list loop (T.self X.A 0 _ _ _ stD loop)
  rw [eR, eSD, ecl] at goal
  exact goal
section
variable {K : PySem.W.Frag} {H0 H : Hp} {M : List (Addr × List V)} {a : Addr} {σ : L2.St} {te tl : TE}
/-- a comprehension over a list of any things, whose element changes things or lets an exception out -/
theorem LCV {xs : List V} {j : Nat} {vs : List Nat} {Q : VK} (O : Own H0 M H) (h : Ev tl σ H (.ref a)) (hx : SqL K H a xs) (Pv : Addr → Nat → Hp → Prop) (h0 : ∀ Dl H1, Own H0 ((Dl, []) :: M) H1 → Pv Dl 0 H1)
    (hl : ∀ Dl i H', Pv Dl i H' → SqL K H' a xs) (hw : ∀ x, wipe ((wipe σ vs).set j (some x)) vs = wipe σ vs)
    (hs : ∀ Dl i x H', xs[i]? = some x → Pv Dl i H' → te ((wipe σ vs).set j (some x)) H' fun y H4 => ∃ acc, H4 Dl = some (.lst acc) ∧ acc.length < sizeLine ∧ Pv Dl (i + 1) (upd H4 Dl (.lst (acc ++ [y])))) (hd : ∀ Dl H', Pv Dl xs.length H' → Q (.ref Dl) H') :
    tLc (iList K tl) (gName j) tYes te vs σ H Q := h H (Ex.refl H) _ fun H1 e1 => ⟨a, rfl, ⟨xs, ex_l e1 hx⟩, fun Dl hD =>
  lc_list (Pv Dl) (h0 Dl _ ((O.mono e1).new hD (Ex.new hD) upd_same)) (fun i H' _ p => hl Dl i H' p) (fun i x H' hi p => ⟨hw _, hs Dl i x H' hi p⟩) fun H' p => hd Dl H' p⟩
/-! lists of words -/
abbrev wl (ws : List (List Nat)) : List V := ws.map fun w => V.str (SX.S w)
theorem wl_S (ws : List (List Nat)) : (ws.map SX.S).map V.str = wl ws := by
  rw [List.map_map]
  rfl
theorem ev_cS {s : Str} {l : List Nat} (h : s = SX.S l) : Ev (tC (.str s)) σ H (.str (SX.S l)) := ev_is ev_c (congrArg V.str h)
variable {ta tb to : TE} {xs ys ws : List (List Nat)}
theorem ev_addW {x y : List Nat} (ha : Ev ta σ H (.str (SX.S x))) (hb : Ev tb σ H (.str (SX.S y))) (hl : x.length + y.length ≤ 100000) : Ev (tOp rAddS ta tb) σ H (.str (SX.S (x ++ y))) :=
  ev_is (ev_op ha hb (rv_addS (by rw [SX.S_len, SX.S_len]; exact hl))) (congrArg V.str (SX.S_cat x y))
theorem sum_lens (k : Nat) : ∀ ws : List (List Nat), (∀ p, p ∈ ws → p.length ≤ k) → ((ws.map SX.S).map (·.length)).sum ≤ k * ws.length
  | [], _ => Nat.le_refl _
  | w :: ws, h => by
    have h1 := h w List.mem_cons_self
    have h2 := sum_lens k ws fun p hp => h p (List.mem_cons_of_mem _ hp)
    show (SX.S w).length + ((ws.map SX.S).map (·.length)).sum ≤ k * (ws.length + 1)
    rw [SX.S_len, Nat.mul_succ]
    omega
theorem join_size {s : List Nat} (hk : ∀ p, p ∈ ws → p.length ≤ 3) (hl : ws.length ≤ 100) (hs : s.length ≤ 3) : ((ws.map SX.S).map (·.length)).sum + (ws.map SX.S).length * (SX.S s).length ≤ 16777216 := by
  have h1 := sum_lens 3 ws hk
  rw [SX.S_len, List.length_map]
  have h2 := Nat.mul_le_mul hl hs
  omega
theorem ev_joinW {s : List Nat} (h : Ev to σ H (.str (SX.S s))) (hy : EvL te σ H (wl ws)) (hk : ∀ p, p ∈ ws → p.length ≤ 3) (hl : ws.length ≤ 100) (hs : s.length ≤ 3) : Ev (tM1 (rJoin K) to te) σ H (.str (SX.S (TL.joinL s ws))) :=
  ev_is (ev_join (ys := ws.map SX.S) h (by rw [wl_S]; exact hy) (join_size hk hl hs)) (congrArg V.str (SX.join_S s ws))
theorem ev_joinV {s : List Nat} (h : Ev to σ H (.str (SX.S s))) (hy : Ev te σ H (.ref a)) (ha : SqL K H a (wl ws)) (hk : ∀ p, p ∈ ws → p.length ≤ 3) (hl : ws.length ≤ 100) (hs : s.length ≤ 3) : Ev (tM1 (rJoin K) to te) σ H (.str (SX.S (TL.joinL s ws))) :=
  ev_is (ev_joinR (ys := ws.map SX.S) h hy (by rw [wl_S]; exact ha) (join_size hk hl hs)) (congrArg V.str (SX.join_S s ws))
theorem cutV_from (xs : List V) (k : Nat) : cutV xs (some (k : Int)) none = xs.drop k := by
  unfold cutV
  rw [HT.sIx_nat, HT.sIx_none]
  rw [List.take_of_length_le (by rw [List.length_drop]; exact Nat.le_refl _)]
  by_cases h : k ≤ xs.length
  · rw [Nat.min_eq_left h]
  · rw [Nat.min_eq_right (by omega), List.drop_length, List.drop_of_length_le (by omega)]
theorem cutV_to (xs : List V) (k : Nat) : cutV xs none (some (k : Int)) = xs.take k := by
  unfold cutV
  rw [HT.sIx_nat, HT.sIx_none, List.drop_zero, Nat.sub_zero]
  by_cases h : k ≤ xs.length
  · rw [Nat.min_eq_left h]
  · rw [Nat.min_eq_right (by omega), List.take_length, List.take_of_length_le (by omega)]
theorem slW_from {k : Nat} {tl2 : TO} (h : Ev te σ H (.ref a)) (hs : SqL K H a (wl ws)) (h1 : EvO tl2 σ H (some (k : Int))) : EvL (tSl (rSlL K) te tl2 tNoPart) σ H (wl (ws.drop k)) := by
  have z := el_sl h h1 eo_none hs
  rw [cutV_from, ← List.map_drop] at z
  exact z
theorem slW_to {k : Nat} {tl2 : TO} (h : Ev te σ H (.ref a)) (hs : SqL K H a (wl ws)) (h1 : EvO tl2 σ H (some (k : Int))) : EvL (tSl (rSlL K) te tNoPart tl2) σ H (wl (ws.take k)) := by
  have z := el_sl h eo_none h1 hs
  rw [cutV_to, ← List.map_take] at z
  exact z
theorem el_catW (ha : EvL ta σ H (wl xs)) (hb : EvL tb σ H (wl ys)) (hl : xs.length + ys.length ≤ 100000) : EvL (tOp rCat ta tb) σ H (wl (xs ++ ys)) := by
  have z := el_catNN ha hb (by rw [List.length_map, List.length_map]; exact hl)
  rw [← List.map_append] at z
  exact z
theorem el_catRW (ha : Ev ta σ H (.ref a)) (hA : H a = some (.lst (wl xs))) (hb : EvL tb σ H (wl ys)) (hl : xs.length + ys.length ≤ 100000) : EvL (tOp rCat ta tb) σ H (wl (xs ++ ys)) := by
  have z := el_catRN' ha hA hb (by rw [List.length_map, List.length_map]; exact hl)
  rw [← List.map_append] at z
  exact z
theorem wl_at {i : Nat} {w : List Nat} (h : ws[i]? = some w) : (wl ws)[i]? = some (.str (SX.S w)) := by
  rw [List.getElem?_map, h]
  rfl
theorem ev_ixW {i : Nat} {w : List Nat} (h : Ev tl σ H (.ref a)) (hs : SqL K H a (wl ws)) (hi : Ev tb σ H (.int (i : Int))) (hw : ws[i]? = some w) : Ev (tOp (rIxL K) tl tb) σ H (.str (SX.S w)) := ev_op h hi (rv_ixL hs (atI_nat (wl_at hw)))
theorem ev_ixNW {i : Nat} {w : List Nat} (h : EvL tl σ H (wl ws)) (hi : ∀ H1, Ex H H1 → Ev tb σ H1 (.int (i : Int))) (hw : ws[i]? = some w) : Ev (tOp (rIxL K) tl tb) σ H (.str (SX.S w)) :=
  ev_opL1 h hi fun x H6 hx _ => rv_ixL (sq_of hx) (atI_nat (wl_at hw))
theorem wl_const (n : Nat) (w : List Nat) : ((List.range n).filter fun _ => true).map (fun _ => V.str (SX.S w)) = wl (List.replicate n w) := by
  rw [filter_yes, show wl (List.replicate n w) = List.replicate n (V.str (SX.S w)) from List.map_replicate]
  induction n with
  | zero => rfl
  | succ n ih =>
    rw [List.range_succ, List.map_append, ih, List.replicate_succ']
    rfl
theorem at_lt {i : Nat} (h : i < ws.length) : ∃ w, ws[i]? = some w ∧ w ∈ ws := ⟨ws[i], List.getElem?_eq_getElem h, List.getElem_mem h⟩
end
end Sh
namespace Sh
/-! ### counting pairs -/
def cLt (l : List Int) (x : Int) : Nat := (l.filter fun y => decide (y < x)).length
def cGt (l : List Int) (x : Int) : Nat := (l.filter fun y => decide (x < y)).length
def inv : List Int → Nat
  | [] => 0
  | x :: l => cLt l x + inv l
def lessB : List Int → List Int
  | [] => []
  | x :: l => (cLt l x : Int) :: lessB l
theorem lessB_sum (l : List Int) : (lessB l).sum = (inv l : Int) := by
  induction l with
  | nil => rfl
  | cons x l ih => simp only [lessB, inv, List.sum_cons, ih]; omega
theorem lessB_len (l : List Int) : (lessB l).length = l.length := by
  induction l with
  | nil => rfl
  | cons x l ih => simp only [lessB, List.length_cons, ih]
theorem lessB_at (l : List Int) (k : Nat) (h : k < l.length) : (lessB l)[k]? = some ((cLt (l.drop (k + 1)) (gt l k) : Nat) : Int) := by
  induction l generalizing k with
  | nil => cases h
  | cons x l ih =>
    cases k with
    | zero => rfl
    | succ k =>
      have q := ih k (by simp only [List.length_cons] at h; omega)
      simp only [lessB, List.getElem?_cons_succ, q, List.drop_succ_cons]
      rfl
theorem cLt_append (l m : List Int) (x : Int) : cLt (l ++ m) x = cLt l x + cLt m x := by unfold cLt; rw [List.filter_append, List.length_append]
theorem cGt_append (l m : List Int) (x : Int) : cGt (l ++ m) x = cGt l x + cGt m x := by unfold cGt; rw [List.filter_append, List.length_append]
theorem inv_snoc (l : List Int) (x : Int) : inv (l ++ [x]) = inv l + cGt l x := by
  induction l with
  | nil => rfl
  | cons y l ih =>
    have e : cGt (y :: l) x = cGt [y] x + cGt l x := cGt_append [y] l x
    have e2 : cLt [x] y = cGt [y] x := by
      unfold cLt cGt
      by_cases h : x < y <;> simp [h]
    simp only [List.cons_append, inv, ih, cLt_append, e, e2]
    omega
/-- the pairs, the later place first -/
def pairsTo (ns : List Int) : Nat → Nat
  | 0 => 0
  | n + 1 => pairsTo ns n + cGt (ns.take n) (gt ns n)
theorem pairsTo_inv (ns : List Int) (n : Nat) (h : n ≤ ns.length) : pairsTo ns n = inv (ns.take n) := by
  induction n with
  | zero => rfl
  | succ n ih =>
    have e : ns[n]? = some (gt ns n) := some_gt (by omega)
    rw [pairsTo, ih (by omega), List.take_add_one, e]
    exact (inv_snoc _ _).symm
theorem pairs_inv (ns : List Int) : pairsTo ns ns.length = inv ns := by rw [pairsTo_inv ns _ (Nat.le_refl _), List.take_length]
theorem cGt_take (ns : List Int) (j : Nat) (x : Int) (h : j < ns.length) : cGt (ns.take (j + 1)) x = cGt (ns.take j) x + if x < gt ns j then 1 else 0 := by
  have e : ns[j]? = some (gt ns j) := some_gt h
  rw [List.take_add_one, e, cGt_append]
  congr 1
  unfold cGt
  by_cases q : x < gt ns j <;> simp [q]
def IsRow (ns : List Int) : Prop := ns.length ≤ 12 ∧ ∀ v, v ∈ ns → 0 ≤ v ∧ v ≤ 99
theorem IsRow.srt {ns : List Int} (h : IsRow ns) : IsRow (srt ns) := ⟨by rw [(srt_perm ns).length_eq]; exact h.1, fun v hv => h.2 v ((srt_perm ns).mem_iff.mp hv)⟩
theorem IsRow.rev {ns : List Int} (h : IsRow ns) : IsRow ns.reverse := ⟨by rw [List.length_reverse]; exact h.1, fun v hv => h.2 v (List.mem_reverse.mp hv)⟩
end Sh
namespace Sh
def nxt (n : Int) : Int := let s := (n + 7919) % 2147483647; (s * s + 48271 * s + 12345) % 2147483629
theorem kinds_ok (z : Int) : 0 < gt [100, 5, 2, 12] (z % 4).toNat ∧ gt [100, 5, 2, 12] (z % 4).toNat ≤ 100 := by
  have h0 : 0 ≤ z % 4 := Int.emod_nonneg _ (by decide)
  have h1 : z % 4 < 4 := Int.emod_lt_of_pos _ (by decide)
  generalize (z % 4) = y at *
  obtain ⟨n, rfl⟩ : ∃ n : Nat, y = n := ⟨y.toNat, (Int.toNat_of_nonneg h0).symm⟩
  rw [Int.toNat_natCast]
  have : n = 0 ∨ n = 1 ∨ n = 2 ∨ n = 3 := by omega
  rcases this with rfl | rfl | rfl | rfl <;> decide
end Sh
namespace Sh
/-! ### falls -/
def fallsTo (ns : List Int) (n : Nat) : List Int := ((List.range n).filter fun i => decide (gt ns (1 + i) < gt ns i)).map fun i : Nat => 1 + (i : Int)
def fallsL (ns : List Int) : List Int := fallsTo ns (ns.length - 1)
theorem fallsTo_succ (ns : List Int) (n : Nat) : fallsTo ns (n + 1) = fallsTo ns n ++ if gt ns (1 + n) < gt ns n then [1 + (n : Int)] else [] := by
  unfold fallsTo
  rw [List.range_succ, List.filter_append, List.map_append]
  congr 1
  by_cases h : gt ns (1 + n) < gt ns n <;> simp [h]
theorem fallsTo_len (ns : List Int) (n : Nat) : (fallsTo ns n).length ≤ n := by
  unfold fallsTo
  rw [List.length_map]
  exact Nat.le_trans (List.length_filter_le _ _) (by rw [List.length_range]; exact Nat.le_refl _)
end Sh
namespace Sh
theorem gt_set (l : List Int) (i j : Nat) (v : Int) (h : i < l.length) : gt (l.set i v) j = if i = j then v else gt l j := by
  unfold gt
  rw [List.getD_eq_getElem?_getD, List.getD_eq_getElem?_getD]
  by_cases e : i = j
  · subst e
    rw [List.getElem?_set_self h, if_pos rfl] <;> rfl
  · rw [List.getElem?_set_ne e, if_neg e]
theorem gtl (l : List Int) (i : Nat) (v : Int) : (il l).set i (.int v) = il (l.set i v) := by unfold il; rw [List.map_set]
end Sh
namespace Sh
theorem gt_snoc (l : List Int) (x : Int) (k : Nat) : gt (l ++ [x]) k = if k = l.length then x else gt l k := by
  unfold gt
  rw [List.getD_eq_getElem?_getD, List.getD_eq_getElem?_getD]
  by_cases e : k = l.length
  · subst e
    rw [if_pos rfl, List.getElem?_append_right (Nat.le_refl _), Nat.sub_self] <;> rfl
  · rw [if_neg e]
    by_cases h : k < l.length
    · rw [List.getElem?_append_left h]
    · rw [List.getElem?_eq_none (by rw [List.length_append, List.length_singleton]; omega), List.getElem?_eq_none (by omega)]
end Sh
namespace Sh
/-! ### rows with each number once -/
def rngI (n : Nat) : List Int := (List.range n).map fun i : Nat => (i : Int)
theorem rngI_len (n : Nat) : (rngI n).length = n := by unfold rngI; rw [List.length_map, List.length_range]
theorem rngI_succ (n : Nat) : rngI (n + 1) = rngI n ++ [(n : Int)] := by unfold rngI; rw [List.range_succ, List.map_append]; rfl
theorem mem_rngI {n : Nat} {x : Int} : x ∈ rngI n ↔ 0 ≤ x ∧ x < n := by
  unfold rngI
  rw [List.mem_map]
  constructor
  · rintro ⟨i, hi, rfl⟩
    have := List.mem_range.mp hi
    omega
  · intro h
    exact ⟨x.toNat, List.mem_range.mpr (by omega), by omega⟩
theorem rngI_sorted (n : Nat) : (rngI n).Pairwise (· ≤ ·) := by
  induction n with
  | zero => exact List.Pairwise.nil
  | succ n ih =>
    rw [rngI_succ, List.pairwise_append]
    refine ⟨ih, List.pairwise_singleton _ _, fun x hx y hy => ?_⟩
    rw [List.mem_singleton.mp hy]
    have := mem_rngI.mp hx
    omega
theorem rngI_nodup (n : Nat) : (rngI n).Nodup := by
  induction n with
  | zero => exact List.nodup_nil
  | succ n ih =>
    rw [rngI_succ, List.nodup_append]
    refine ⟨ih, List.nodup_cons.mpr ⟨by simp, List.nodup_nil⟩, fun x hx y hy => ?_⟩
    rw [List.mem_singleton.mp hy]
    have := mem_rngI.mp hx
    omega
theorem nodup_len : ∀ (n : Nat) (l : List Int), l.Nodup → (∀ x, x ∈ l → 0 ≤ x ∧ x < n) → l.length ≤ n := by
  intro n
  induction n with
  | zero =>
    intro l _ h
    cases l with
    | nil => exact Nat.le_refl _
    | cons x l => have := h x List.mem_cons_self; omega
  | succ n ih =>
    intro l nd h
    by_cases hm : (n : Int) ∈ l
    · have q := ih (l.erase (n : Int)) (nd.erase _) fun x hx => by
        have hx2 := (List.Nodup.mem_erase_iff nd).mp hx
        have := h x hx2.2
        have := hx2.1
        omega
      rw [List.length_erase_of_mem hm] at q
      omega
    · have q := ih l nd fun x hx => by
        have := h x hx
        have : x ≠ n := fun e => hm (e ▸ hx)
        omega
      omega
theorem perm_rng : ∀ (n : Nat) (l : List Int), l.Nodup → (∀ x, x ∈ l → 0 ≤ x ∧ x < n) → l.length = n → l.Perm (rngI n) := by
  intro n
  induction n with
  | zero =>
    intro l _ _ h
    rw [List.length_eq_zero_iff.mp h]
    exact List.Perm.nil
  | succ n ih =>
    intro l nd h hl
    have hm : (n : Int) ∈ l := Decidable.byContradiction fun hm => by
      have q := nodup_len n l nd fun x hx => by
        have := h x hx
        have : x ≠ n := fun e => hm (e ▸ hx)
        omega
      omega
    have q := ih (l.erase (n : Int)) (nd.erase _) (fun x hx => by
        have hx2 := (List.Nodup.mem_erase_iff nd).mp hx
        have := h x hx2.2
        have := hx2.1
        omega) (by rw [List.length_erase_of_mem hm]; omega)
    rw [rngI_succ]
    exact (List.perm_cons_erase hm).trans ((q.cons _).trans (List.perm_append_comm (l₁ := [(n : Int)])))
def IsFull (row : List Int) : Prop := row.length ≤ 12 ∧ row.Perm (rngI row.length)
theorem IsFull.nodup {row : List Int} (h : IsFull row) : row.Nodup := h.2.nodup_iff.mpr (rngI_nodup _)
theorem IsFull.mem {row : List Int} (h : IsFull row) {x : Int} : x ∈ row ↔ 0 ≤ x ∧ x < row.length := by rw [h.2.mem_iff, mem_rngI]
theorem IsFull.row {row : List Int} (h : IsFull row) : IsRow row := ⟨h.1, fun v hv => by have := h.mem.mp hv; have := h.1; omega⟩
theorem IsFull.srt {row : List Int} (h : IsFull row) : srt row = rngI row.length := (srt_eq (h.2.symm) (rngI_sorted _)).symm
theorem full_of_srt {row : List Int} (hl : row.length ≤ 12) (h : Sh.srt row = rngI row.length) : IsFull row := ⟨hl, h ▸ (srt_perm row).symm⟩
theorem full_of {row : List Int} (hl : row.length ≤ 12) (nd : row.Nodup) (h : ∀ x, x ∈ row → 0 ≤ x ∧ x < row.length) : IsFull row := ⟨hl, perm_rng _ _ nd h rfl⟩
theorem IsFull.perm {row other : List Int} (h : IsFull row) (p : other.Perm row) : IsFull other := ⟨by rw [p.length_eq]; exact h.1, by rw [p.length_eq]; exact p.trans h.2⟩
/-! ### counting by places -/
theorem map_gt (ns : List Int) : (List.range ns.length).map (gt ns) = ns := by
  refine List.ext_getElem? fun i => ?_
  rw [List.getElem?_map]
  by_cases h : i < ns.length
  · rw [List.getElem?_range h, some_gt h] <;> rfl
  · rw [List.getElem?_eq_none (by rw [List.length_range]; omega), List.getElem?_eq_none (by omega)] <;> rfl
theorem map_gt_take (ns : List Int) (n : Nat) (h : n ≤ ns.length) : (List.range n).map (gt ns) = ns.take n := by
  refine List.ext_getElem? fun i => ?_
  rw [List.getElem?_map, List.getElem?_take]
  by_cases hi : i < n
  · rw [List.getElem?_range hi, if_pos hi, some_gt (by omega)] <;> rfl
  · rw [List.getElem?_eq_none (by rw [List.length_range]; omega), if_neg hi] <;> rfl
theorem filter_gt (ns : List Int) (n : Nat) (h : n ≤ ns.length) (f : Int → Bool) : ((ns.take n).filter f).length = ((List.range n).filter fun i => f (gt ns i)).length := by
  rw [← map_gt_take ns n h, List.filter_map, List.length_map]
  rfl
theorem inv_by {a b : List Int} (hl : a.length = b.length) (h : ∀ i j, i < j → j < a.length → (gt b j < gt b i ↔ gt a j < gt a i)) : inv a = inv b := by
  rw [← pairs_inv, ← pairs_inv, ← hl]
  have : ∀ n, n ≤ a.length → pairsTo a n = pairsTo b n := by
    intro n
    induction n with
    | zero => intro _; rfl
    | succ n ih =>
      intro hn
      rw [pairsTo, pairsTo, ih (by omega)]
      congr 1
      unfold cGt
      rw [filter_gt a n (by omega), filter_gt b n (by omega)]
      congr 1
      refine List.filter_congr fun i hi => ?_
      have hi := List.mem_range.mp hi
      rw [decide_eq_decide]
      exact (h i n hi (by omega)).symm
  exact this _ (Nat.le_refl _)
theorem falls_by {a b : List Int} (hl : a.length = b.length) (h : ∀ i j, i < j → j < a.length → (gt b j < gt b i ↔ gt a j < gt a i)) : fallsL a = fallsL b := by
  unfold fallsL fallsTo
  rw [← hl]
  congr 1
  refine List.filter_congr fun i hi => ?_
  have hi := List.mem_range.mp hi
  rw [decide_eq_decide]
  exact (h i (1 + i) (by omega) (by omega)).symm
end Sh
namespace Sh
theorem perm_pop : ∀ {l : List Int} {k : Nat}, k < l.length → (gt l k :: l.eraseIdx k).Perm l
  | x :: l, 0, _ => List.Perm.refl _
  | x :: l, k + 1, h => (List.Perm.swap x (gt l k) _).trans ((perm_pop (l := l) (k := k) (by simp only [List.length_cons] at h; omega)).cons x)
theorem il_erase (l : List Int) (k : Nat) : il (l.eraseIdx k) = (il l).eraseIdx k := by
  unfold il
  rw [List.eraseIdx_eq_take_drop_succ, List.eraseIdx_eq_take_drop_succ, List.map_append, List.map_take, List.map_drop]
/-! ### the inverse -/
def invL (row : List Int) : List Int := (List.range row.length).map fun i : Nat => (row.idxOf (i : Int) : Int)
theorem invL_len (row : List Int) : (invL row).length = row.length := by unfold invL; rw [List.length_map, List.length_range]
theorem invL_gt (row : List Int) {v : Nat} (h : v < row.length) : gt (invL row) v = row.idxOf (v : Int) := by
  refine gt_some ?_
  unfold invL
  rw [List.getElem?_map, List.getElem?_range h] <;> rfl
theorem gt_idx {row : List Int} {x : Int} (h : x ∈ row) : gt row (row.idxOf x) = x := by
  have hlt := List.idxOf_lt_length_iff.mpr h
  refine gt_some ?_
  rw [List.getElem?_eq_getElem hlt, List.getElem_idxOf]
theorem gt_mem {row : List Int} {k : Nat} (h : k < row.length) : gt row k ∈ row := List.mem_of_getElem? (some_gt h)
theorem gt_inj {row : List Int} (nd : row.Nodup) {i j : Nat} (hi : i < row.length) (hj : j < row.length) (h : gt row i = gt row j) : i = j := by
  refine (List.getElem?_inj hi nd).mp ?_
  rw [some_gt hi, some_gt hj, h]
theorem idx_gt {row : List Int} (nd : row.Nodup) {k : Nat} (h : k < row.length) : row.idxOf (gt row k) = k :=
  gt_inj nd (List.idxOf_lt_length_iff.mpr (gt_mem h)) h (gt_idx (gt_mem h))
theorem ext_gt {a b : List Int} (hl : a.length = b.length) (h : ∀ i, i < a.length → gt a i = gt b i) : a = b := by
  refine List.ext_getElem? fun i => ?_
  by_cases hi : i < a.length
  · rw [some_gt hi, some_gt (by omega), h i hi]
  · rw [List.getElem?_eq_none (by omega), List.getElem?_eq_none (by omega)]
theorem nodup_gt {l : List Int} (h : ∀ i j, i < j → j < l.length → gt l i ≠ gt l j) : l.Nodup := by
  refine List.pairwise_iff_getElem.mpr fun i j hi hj hij => ?_
  have e1 := some_gt hi
  have e2 := some_gt hj
  rw [List.getElem?_eq_getElem hi] at e1
  rw [List.getElem?_eq_getElem hj] at e2
  rw [Option.some.inj e1, Option.some.inj e2]
  exact h i j hij hj
theorem IsFull.at {row : List Int} (h : IsFull row) {k : Nat} (hk : k < row.length) : 0 ≤ gt row k ∧ gt row k < row.length := h.mem.mp (gt_mem hk)
theorem IsFull.has {row : List Int} (h : IsFull row) {v : Nat} (hv : v < row.length) : (v : Int) ∈ row := h.mem.mpr ⟨by omega, by omega⟩
theorem IsFull.idx {row : List Int} (h : IsFull row) {v : Nat} (hv : v < row.length) : row.idxOf (v : Int) < row.length := List.idxOf_lt_length_iff.mpr (h.has hv)
theorem due_inv {row due : List Int} (h : IsFull row) (hl : due.length = row.length) (hd : ∀ k, k < row.length → gt due (gt row k).toNat = k) : due = invL row := by
  refine ext_gt (by rw [invL_len, hl]) fun v hv => ?_
  rw [hl] at hv
  rw [invL_gt row hv]
  have q := hd _ (h.idx hv)
  rw [gt_idx (h.has hv), Int.toNat_natCast] at q
  exact q
theorem invL_full {row : List Int} (h : IsFull row) : IsFull (invL row) := by
  have hl := invL_len row
  refine full_of (by rw [hl]; exact h.1) (nodup_gt fun i j hij hj => ?_) fun x hx => ?_
  · rw [hl] at hj
    rw [invL_gt row hj, invL_gt row (by omega : i < row.length)]
    intro e
    have := gt_idx (h.has hj)
    rw [← Int.ofNat_inj.mp e, gt_idx (h.has (by omega : i < row.length))] at this
    omega
  · unfold invL at hx
    obtain ⟨i, hi, rfl⟩ := List.mem_map.mp hx
    have := h.idx (List.mem_range.mp hi)
    rw [hl]
    omega
end Sh
namespace Sh
theorem drop_gt {l : List Int} {k : Nat} (h : k < l.length) : l.drop k = gt l k :: l.drop (k + 1) := by
  have := some_gt h
  rw [List.getElem?_eq_getElem h] at this
  rw [List.drop_eq_getElem_cons h, Option.some.inj this]
end Sh
namespace Sh
open PySem PySem.Spec PyProof.Rows L2 Evl
/-! ### a text and its words -/
/-- cut at each blank -/
def cutB : List Nat → List (List Nat)
  | [] => [[]]
  | c :: t => if c = 32 then [] :: cutB t else ((c :: (cutB t).headD []) :: (cutB t).tail)
theorem cutB_ne : ∀ t, cutB t ≠ []
  | [] => by simp [cutB]
  | c :: t => by
    unfold cutB
    split <;> simp
theorem cutB_eq (c : Nat) (t : List Nat) : cutB (c :: t) = if c = 32 then [] :: cutB t else ((c :: (cutB t).headD []) :: (cutB t).tail) := by
  conv => lhs; unfold cutB
theorem cutB_cons (t : List Nat) : ∃ p ps, cutB t = p :: ps := by
  cases e : cutB t with
  | nil => exact absurd e (cutB_ne t)
  | cons p ps => exact ⟨p, ps, rfl⟩
theorem joinL_cons (s p : List Nat) {ps : List (List Nat)} (h : ps ≠ []) : TL.joinL s (p :: ps) = p ++ (s ++ TL.joinL s ps) := by
  cases ps with
  | nil => exact absurd rfl h
  | cons q r => rfl
theorem join_cutB : ∀ t, TL.joinL [32] (cutB t) = t
  | [] => rfl
  | c :: t => by
    have ih := join_cutB t
    unfold cutB
    split
    · next h =>
      rw [joinL_cons _ _ (cutB_ne t), ih, h]
      rfl
    · obtain ⟨p, ps, e⟩ := cutB_cons t
      rw [e] at ih ⊢
      show TL.joinL [32] ((c :: p) :: ps) = _
      rw [← ih]
      cases ps with
      | nil => rfl
      | cons q r => rfl
theorem cutB_free : ∀ t, ∀ p, p ∈ cutB t → 32 ∉ p
  | [], p, h => by
    rw [List.mem_singleton.mp h]
    exact List.not_mem_nil
  | c :: t, p, h => by
    have ih := cutB_free t
    unfold cutB at h
    split at h
    · rcases List.mem_cons.mp h with rfl | h
      · exact List.not_mem_nil
      · exact ih p h
    · next hc =>
      obtain ⟨q, qs, e⟩ := cutB_cons t
      rw [e] at h ih
      rcases List.mem_cons.mp h with rfl | h
      · intro hm
        rcases List.mem_cons.mp hm with z | z
        · exact hc z.symm
        · exact ih q List.mem_cons_self z
      · exact ih p (List.mem_cons_of_mem _ h)
theorem cutB_mid (b : List Nat) : ∀ a : List Nat, cutB (a ++ 32 :: b) = cutB a ++ cutB b
  | [] => rfl
  | c :: a => by
    have ih := cutB_mid b a
    show cutB (c :: (a ++ 32 :: b)) = _
    rw [cutB_eq, cutB_eq]
    obtain ⟨p, ps, e⟩ := cutB_cons a
    rw [ih, e]
    split
    · rfl
    · rfl
theorem cutB_one : ∀ a : List Nat, 32 ∉ a → cutB a = [a]
  | [], _ => rfl
  | c :: a, h => by
    have ih := cutB_one a fun z => h (List.mem_cons_of_mem _ z)
    unfold cutB
    have hc : c ≠ 32 := fun z => h (by rw [z]; exact List.mem_cons_self)
    rw [ih, if_neg hc]
    rfl
theorem cutB_join : ∀ ws : List (List Nat), ws ≠ [] → cutB (TL.joinL [32] ws) = (ws.map cutB).flatten
  | [], h => absurd rfl h
  | [p], _ => by simp [TL.joinL]
  | p :: q :: r, _ => by
    have ih := cutB_join (q :: r) (by simp)
    show cutB (p ++ (32 :: TL.joinL [32] (q :: r))) = _
    rw [cutB_mid, ih]
    rfl
theorem split_S {t : List Nat} : Txt.split (SX.S t) " " = (cutB t).map SX.S := by
  have z := TL.split_join (y := " ") (s := 32) (S := []) (by decide +kernel) (by decide +kernel) (parts := (cutB t).map SX.S) (fun z => cutB_ne t (List.map_eq_nil_iff.mp z)) fun p hp => by
    obtain ⟨q, hq, rfl⟩ := List.mem_map.mp hp
    exact cutB_free t q hq
  rw [sp_S, SX.join_S, join_cutB] at z
  rw [sp_S]
  exact z
/-- a text that writes no row -/
def Bad (t : List Nat) : Prop := 12 < (cutB t).length ∨ ∃ p, p ∈ cutB t ∧ ¬ GoodW p
theorem mem_joinL {c : Nat} : ∀ ws : List (List Nat), c ∈ TL.joinL [32] ws → c = 32 ∨ ∃ p, p ∈ ws ∧ c ∈ p
  | [], h => absurd h List.not_mem_nil
  | [p], h => .inr ⟨p, List.mem_cons_self, h⟩
  | p :: q :: r, h => by
    rcases List.mem_append.mp (show c ∈ p ++ (32 :: TL.joinL [32] (q :: r)) from h) with h | h
    · exact .inr ⟨p, List.mem_cons_self, h⟩
    · rcases List.mem_cons.mp h with h | h
      · exact .inl h
      · rcases mem_joinL (q :: r) h with h | ⟨w, h1, h2⟩
        · exact .inl h
        · exact .inr ⟨w, List.mem_cons_of_mem _ h1, h2⟩
theorem bad_sign {t : List Nat} {c : Nat} (h : c ∈ t) (h1 : c ≠ 32) (h2 : ¬ (48 ≤ c ∧ c ≤ 57)) : ∃ p, p ∈ cutB t ∧ ¬ GoodW p := by
  rw [← join_cutB t] at h
  rcases mem_joinL _ h with h | ⟨p, hp, hc⟩
  · exact absurd h h1
  · exact ⟨p, hp, fun g => h2 (g.2.2 c hc)⟩
theorem mem_joinS {c : Nat} (s : List Nat) : ∀ {ws : List (List Nat)} {w : List Nat}, w ∈ ws → c ∈ w → c ∈ TL.joinL s ws
  | [p], w, h, hc => by
    rw [List.mem_singleton.mp h] at hc
    exact hc
  | p :: q :: r, w, h, hc => by
    refine List.mem_append.mpr ?_
    rcases List.mem_cons.mp h with rfl | h
    · exact .inl hc
    · exact .inr (List.mem_append.mpr (.inr (mem_joinS s h hc)))
theorem bad_join {ws : List (List Nat)} {w : List Nat} (h : w ∈ ws) (hb : ∃ p, p ∈ cutB w ∧ ¬ GoodW p) : Bad (TL.joinL [32] ws) := by
  obtain ⟨p, hp, hg⟩ := hb
  refine .inr ⟨p, ?_, hg⟩
  rw [cutB_join ws (fun z => by rw [z] at h; cases h)]
  exact List.mem_flatten.mpr ⟨_, List.mem_map.mpr ⟨w, h, rfl⟩, hp⟩
theorem flat_len : ∀ l : List (List (List Nat)), (∀ x, x ∈ l → x ≠ []) → l.length ≤ l.flatten.length
  | [], _ => Nat.le_refl _
  | x :: l, h => by
    have ih := flat_len l fun y hy => h y (List.mem_cons_of_mem _ hy)
    have h1 := List.length_pos_iff.mpr (h x List.mem_cons_self)
    show l.length + 1 ≤ (x ++ l.flatten).length
    rw [List.length_append]
    omega
theorem bad_long {ws : List (List Nat)} (h : 12 < ws.length) : Bad (TL.joinL [32] ws) := by
  refine .inl ?_
  rw [cutB_join ws (fun z => by rw [z] at h; exact absurd h (by decide))]
  have := flat_len (ws.map cutB) fun x hx => by
    obtain ⟨w, _, rfl⟩ := List.mem_map.mp hx
    exact cutB_ne w
  rw [List.length_map] at this
  omega
theorem no_nil : ¬ GoodW [] := fun g => absurd g.1.1 (by decide)
theorem bad_mid {a b : List Nat} : Bad (a ++ 32 :: 32 :: b) := .inr ⟨[], by
  rw [cutB_mid]
  exact List.mem_append.mpr (.inr List.mem_cons_self), no_nil⟩
theorem bad_end {a : List Nat} : ∃ p, p ∈ cutB (a ++ [32]) ∧ ¬ GoodW p := ⟨[], by
  rw [cutB_mid]
  exact List.mem_append.mpr (.inr List.mem_cons_self), no_nil⟩
theorem bad_start {a : List Nat} : ∃ p, p ∈ cutB (32 :: a) ∧ ¬ GoodW p := ⟨[], List.mem_cons_self, no_nil⟩
theorem bad_one {w : List Nat} (h : 32 ∉ w) (hb : ¬ GoodW w) : ∃ p, p ∈ cutB w ∧ ¬ GoodW p := ⟨w, by
  rw [cutB_one w h]
  exact List.mem_cons_self, hb⟩
/-! the words of a row -/
theorem wd_free {v : Int} : 32 ∉ wd v := TL.numL_free (by decide)
theorem wd_ne (v : Int) : wd v ≠ [] := TL.numL_ne _
theorem zero_wd {v : Int} : ∃ p, p ∈ cutB (48 :: wd v) ∧ ¬ GoodW p := by
  refine bad_one (fun h => ?_) fun g => ?_
  · rcases List.mem_cons.mp h with h | h
    · exact absurd h (by decide)
    · exact wd_free h
  · have h1 := List.length_pos_iff.mpr (wd_ne v)
    have h2 := g.1.2
    rw [List.length_cons] at h2
    exact g.2.1 ⟨by rw [List.length_cons]; omega, rfl⟩
/-- the words that stand for none -/
def someL (w : List Nat) : List (List Nat) := [[49, 48, 48], [48, 48, 55], [48, 48], 48 :: w, 43 :: w, 45 :: w, [49, 95, 48], [120], [49, 46], [], w ++ [9], 10 :: w, w ++ [44], [48, 120, 49], [49, 101, 49], [40, 49, 41], 32 :: w, w ++ [32]]
theorem someL_bad {v : Int} {i : Nat} {x : List Nat} (h : (someL (wd v))[i]? = some x) : ∃ p, p ∈ cutB x ∧ ¬ GoodW p := by
  have hm : x ∈ someL (wd v) := List.mem_of_getElem? h
  unfold someL at hm
  simp only [List.mem_cons, List.not_mem_nil, or_false] at hm
  rcases hm with rfl | rfl | rfl | rfl | rfl | rfl | rfl | rfl | rfl | rfl | rfl | rfl | rfl | rfl | rfl | rfl | rfl | rfl
  · exact bad_one (by decide) fun g => absurd g.1.2 (by decide)
  · exact bad_one (by decide) fun g => absurd g.1.2 (by decide)
  · exact bad_one (by decide) fun g => g.2.1 ⟨rfl, rfl⟩
  · exact zero_wd
  · exact bad_sign (c := 43) List.mem_cons_self (by decide) (by decide)
  · exact bad_sign (c := 45) List.mem_cons_self (by decide) (by decide)
  · exact bad_sign (c := 95) (by decide) (by decide) (by decide)
  · exact bad_sign (c := 120) (by decide) (by decide) (by decide)
  · exact bad_sign (c := 46) (by decide) (by decide) (by decide)
  · exact bad_one (by decide) no_nil
  · exact bad_sign (c := 9) (by simp) (by decide) (by decide)
  · exact bad_sign (c := 10) List.mem_cons_self (by decide) (by decide)
  · exact bad_sign (c := 44) (by simp) (by decide) (by decide)
  · exact bad_sign (c := 120) (by decide) (by decide) (by decide)
  · exact bad_sign (c := 101) (by decide) (by decide) (by decide)
  · exact bad_sign (c := 40) (by decide) (by decide) (by decide)
  · exact bad_start
  · exact bad_end
theorem someL_len {v : Int} (hv : 0 ≤ v ∧ v ≤ 99) {x : List Nat} (h : x ∈ someL (wd v)) : x.length ≤ 3 := by
  have hl := wd_len hv
  unfold someL at h
  simp only [List.mem_cons, List.not_mem_nil, or_false] at h
  rcases h with rfl | rfl | rfl | rfl | rfl | rfl | rfl | rfl | rfl | rfl | rfl | rfl | rfl | rfl | rfl | rfl | rfl | rfl
  all_goals simp
  all_goals omega
/-- other signs at the end, ahead, between -/
theorem tail_bad {t s : List Nat} (h : s ∈ ([[32], [10], [9], [44], [46]] : List (List Nat))) : Bad (t ++ s) := by
  simp only [List.mem_cons, List.not_mem_nil, or_false] at h
  rcases h with rfl | rfl | rfl | rfl | rfl
  · exact .inr bad_end
  · exact .inr (bad_sign (c := 10) (by simp) (by decide) (by decide))
  · exact .inr (bad_sign (c := 9) (by simp) (by decide) (by decide))
  · exact .inr (bad_sign (c := 44) (by simp) (by decide) (by decide))
  · exact .inr (bad_sign (c := 46) (by simp) (by decide) (by decide))
theorem head_bad {t s : List Nat} (h : s ∈ ([[32], [10], [9]] : List (List Nat))) : Bad (s ++ t) := by
  simp only [List.mem_cons, List.not_mem_nil, or_false] at h
  rcases h with rfl | rfl | rfl
  · exact .inr bad_start
  · exact .inr (bad_sign (c := 10) (by simp) (by decide) (by decide))
  · exact .inr (bad_sign (c := 9) (by simp) (by decide) (by decide))
theorem sep_bad {ws : List (List Nat)} {s : List Nat} (h : s ∈ ([[44], [32, 32], [9], [10], [44, 32]] : List (List Nat))) (hl : 1 < ws.length) : Bad (TL.joinL s ws) := by
  match ws, hl with
  | p :: q :: r, _ =>
    show Bad (p ++ (s ++ TL.joinL s (q :: r)))
    simp only [List.mem_cons, List.not_mem_nil, or_false] at h
    rcases h with rfl | rfl | rfl | rfl | rfl
    · exact .inr (bad_sign (c := 44) (by simp) (by decide) (by decide))
    · exact bad_mid
    · exact .inr (bad_sign (c := 9) (by simp) (by decide) (by decide))
    · exact .inr (bad_sign (c := 10) (by simp) (by decide) (by decide))
    · exact .inr (bad_sign (c := 44) (by simp) (by decide) (by decide))
theorem joinL_lenS (s : List Nat) (k : Nat) : ∀ ws : List (List Nat), (∀ p, p ∈ ws → p.length ≤ k) → (TL.joinL s ws).length ≤ (k + s.length) * ws.length
  | [], _ => Nat.zero_le _
  | [p], h => by
    have := h p List.mem_cons_self
    show p.length ≤ (k + s.length) * 1
    omega
  | p :: q :: r, h => by
    have h1 := h p List.mem_cons_self
    have h2 := joinL_lenS s k (q :: r) fun x hx => h x (List.mem_cons_of_mem _ hx)
    show (p ++ (s ++ TL.joinL s (q :: r))).length ≤ (k + s.length) * ((q :: r).length + 1)
    rw [List.length_append, List.length_append, Nat.mul_succ]
    omega
theorem joinL_ge : ∀ {ws : List (List Nat)} {w : List Nat}, w ∈ ws → w.length ≤ (TL.joinL [32] ws).length
  | [p], w, h => by
    rw [List.mem_singleton.mp h]
    exact Nat.le_refl _
  | p :: q :: r, w, h => by
    show _ ≤ (p ++ ([32] ++ TL.joinL [32] (q :: r))).length
    rw [List.length_append, List.length_append]
    rcases List.mem_cons.mp h with rfl | h
    · omega
    · have := joinL_ge h
      omega
theorem cutB_le {t w : List Nat} (h : w ∈ cutB t) : w.length ≤ t.length := by
  have := joinL_ge h
  rw [join_cutB] at this
  exact this
end Sh
namespace Sh
open PySem PySem.Spec PyProof.Rows L2 Evl
/-! ### short ways: "sq" a list that stands, "e" what an expression is worth, "t" a test -/
local macro_rules | `(tactic| walk_at "sq") => `(tactic| first
  | assumption
  | exact Own.arg (by assumption) (by assumption)
  | exact Own.seq (by assumption) 0 rfl
  | exact Own.seq (by assumption) 1 rfl
  | exact Own.seq (by assumption) 2 rfl
  | exact Own.seq (by assumption) 3 rfl
  | exact ex_l (by assumption) (by assumption)
  | exact ex_l (by assumption) (Own.arg (by assumption) (by assumption))
  | exact ex_l (by assumption) (Own.seq (by assumption) 0 rfl)
  | exact ex_l (by assumption) (Own.seq (by assumption) 1 rfl)
  | exact ex_l (by assumption) (Own.seq (by assumption) 2 rfl)
  | exact ex_l (by assumption) (Own.seq (by assumption) 3 rfl))
local macro_rules | `(tactic| walk_at "s") => `(tactic| first | assumption | omega | (constructor <;> omega) | decide | exact ⟨by decide, by decide⟩ | exact .inl ⟨by omega, by omega⟩ | exact .inr ⟨by omega, by omega⟩)
local macro_rules | `(tactic| walk_at "e") => `(tactic| first
  | with_reducible exact ev_c
  | ((with_reducible refine' ev_var ?h); (case h => rfl))
  | ((with_reducible refine' ev_op ?h ?h2 rv_I0); (case h => walk_at "e"); (case h2 => walk_at "e"))
  | ((with_reducible refine' ev_op ?h ?h2 (rv_I ?h3)); (case h => walk_at "e"); (case h2 => walk_at "e"); (case h3 => walk_at "s"))
  | ((with_reducible refine' ev_op ?h ?h2 rv_eqI); (case h => walk_at "e"); (case h2 => walk_at "e"))
  | ((with_reducible refine' ev_op ?h ?h2 rv_neI); (case h => walk_at "e"); (case h2 => walk_at "e"))
  | ((with_reducible refine' ev_op ?h ?h2 (rv_eqL ?h3 ?h4)); (case h => walk_at "e"); (case h2 => walk_at "e"); (case h3 => walk_at "sq"); (case h4 => walk_at "sq"))
  | ((with_reducible refine' ev_op ?h ?h2 (rv_neL ?h3 ?h4)); (case h => walk_at "e"); (case h2 => walk_at "e"); (case h3 => walk_at "sq"); (case h4 => walk_at "sq"))
  | ((with_reducible refine' ev_un ?h ru_neg); (case h => walk_at "e"))
  | ((with_reducible refine' ev_ix ?h ?h2 ?h3 ?h4); (case h => walk_at "e"); (case h2 => walk_at "sq"); (case h3 => walk_at "e"); (case h4 => walk_at "s"))
  | ((with_reducible refine' ev_ixz ?h ?h2 ?h3 ?h4); (case h => walk_at "e"); (case h2 => walk_at "sq"); (case h3 => walk_at "e"); (case h4 => walk_at "s"))
  | ((with_reducible refine' ev_lenI ?h ?h2); (case h => walk_at "e"); (case h2 => walk_at "sq"))
  | ((with_reducible refine' ev_sum ?h ?h2); (case h => walk_at "e"); (case h2 => walk_at "sq"))
  | ((with_reducible refine' ev_chain ?h ?h2 rv_I0 ?h3 rv_I0); (case h => walk_at "e"); (case h2 => walk_at "e"); (case h3 => walk_at "e"))
  | ((with_reducible refine' ev_andV ?h ?h2); (case h => walk_at "e"); (case h2 => intro _; (walk_at "e")))
  | ((with_reducible refine' ev_orV ?h ?h2); (case h => walk_at "e"); (case h2 => intro _; (walk_at "e")))
  | ((with_reducible refine' ev_notV ?h); (case h => walk_at "e"))
  | walk_at "c")
local macro_rules | `(tactic| walk_at "t") => `(tactic| first
  | ((with_reducible refine' et_test ?h); (case h => walk_at "e"))
  | ((with_reducible refine' et_B ?h); (case h => walk_at "e"))
  | ((with_reducible refine' et_not ?h); (case h => walk_at "t"))
  | ((with_reducible refine' et_and ?h ?h2); (case h => walk_at "t"); (case h2 => intro _; (walk_at "t")))
  | ((with_reducible refine' et_or ?h ?h2); (case h => walk_at "t"); (case h2 => intro _; (walk_at "t")))
  | with_reducible exact et_yes)
local macro_rules | `(tactic| walk_at "a") => `(tactic| first
  | with_reducible exact ea_nil
  | ((with_reducible refine' ea_cons ?h ?h2); (case h => walk_at "e"); (case h2 => walk_at "a")))
local macro_rules | `(tactic| walk_at "if") => `(tactic| first
  | ((with_reducible refine' qWH (by assumption) ?h ?_ ?_); (case h => walk_at "t"))
  | ((with_reducible refine' WH (by assumption) ?h ?_ ?_); (case h => walk_at "t"))
  | ((with_reducible refine' qIF (by assumption) ?h ?_ ?_); (case h => walk_at "t"))
  | ((with_reducible refine' IF (by assumption) ?h ?_ ?_); (case h => walk_at "t")))
local macro_rules | `(tactic| walk_at "set") => `(tactic| first
  | ((with_reducible refine' qAS (by assumption) ?h ?_); (case h => walk_at "e"))
  | ((with_reducible refine' AS (by assumption) ?h ?_); (case h => walk_at "e")))
local macro_rules | `(tactic| walk_at "ret") => `(tactic| ((with_reducible refine' RT (by assumption) ?h ?_); (case h => walk_at "e")))
/-! ### the text -/
def topS (i : Nat) : Stmt := PySem.Challenge.pw_shelfway_k22_unread.main.body.getD i (.Pass ⟨0, 0, 0, 0⟩)
abbrev s_law_cell_at : Stmt := topS 15
theorem sc_law_cell_at : FnScope ["script", "k"] ["script", "k"] (defScope s_law_cell_at) := ⟨rfl, rfl, rfl, by decide +kernel, rfl, by decide +kernel, by decide +kernel⟩
abbrev s_law_next : Stmt := topS 16
theorem sc_law_next : FnScope ["seed"] ["seed"] (defScope s_law_next) := ⟨rfl, rfl, rfl, by decide +kernel, rfl, by decide +kernel, by decide +kernel⟩
abbrev s_law_row : Stmt := topS 17
theorem sc_law_row : FnScope ["script", "most", "many", "kinds", "row", "k"] ["script", "most"] (defScope s_law_row) := ⟨rfl, rfl, rfl, by decide +kernel, rfl, by decide +kernel, by decide +kernel⟩
abbrev s_law_spoiled : Stmt := topS 21
theorem sc_law_spoiled : FnScope ["words", "way", "cell", "at", "word", "some", "k"] ["words", "way", "cell"] (defScope s_law_spoiled) := ⟨rfl, rfl, rfl, by decide +kernel, rfl, by decide +kernel, by decide +kernel⟩
abbrev s_volume_of : Stmt := topS 12
theorem sc_volume_of : FnScope ["word", "sign"] ["word"] (defScope s_volume_of) := ⟨rfl, rfl, rfl, by decide +kernel, rfl, by decide +kernel, by decide +kernel⟩
abbrev s_read : Stmt := topS 13
theorem sc_read : FnScope ["text", "words", "word"] ["text"] (defScope s_read) := ⟨rfl, rfl, rfl, by decide +kernel, rfl, by decide +kernel, by decide +kernel⟩
abbrev s_law_kind : Stmt := topS 18
theorem sc_law_kind : FnScope ["e", "kinds"] ["e"] (defScope s_law_kind) := ⟨rfl, rfl, rfl, by decide +kernel, rfl, by decide +kernel, by decide +kernel⟩
abbrev s_law_tried : Stmt := topS 20
theorem sc_law_tried : FnScope ["text", "e"] ["text"] (defScope s_law_tried) := ⟨rfl, rfl, rfl, by decide +kernel, rfl, by decide +kernel, by decide +kernel⟩
abbrev s_law_text : Stmt := topS 19
theorem sc_law_text : FnScope ["row", "text", "k"] ["row"] (defScope s_law_text) := ⟨rfl, rfl, rfl, by decide +kernel, rfl, by decide +kernel, by decide +kernel⟩
abbrev s_law : Stmt := topS 22
theorem sc_law : FnScope ["script", "row", "words", "bad", "volume"] ["script"] (defScope s_law) := ⟨rfl, rfl, rfl, by decide +kernel, rfl, by decide +kernel, by decide +kernel⟩
structure Bi (K : PySem.W.Frag) (mg : Str → Option Value) (C : Nat → Addr) : Prop where
  b_ValueError : mg "ValueError" = none
  b_int : mg "int" = none
  b_isinstance : mg "isinstance" = none
  b_len : mg "len" = none
  b_list : mg "list" = none
  b_range : mg "range" = none
  b_reversed : mg "reversed" = none
  b_sorted : mg "sorted" = none
  b_str : mg "str" = none
  c_FIGURES : ∃ t, mg "FIGURES" = some (.str "0123456789" t)
  c_MOST : ∃ t, mg "MOST" = some (.int 12 t)
  g_ShelfError : mg "ShelfError" = some (.ref (C 0))
  g_NoRow : mg "NoRow" = some (.ref (C 1))
  g_NoPlace : mg "NoPlace" = some (.ref (C 2))
  g_NotFull : mg "NotFull" = some (.ref (C 3))
  g_NoCode : mg "NoCode" = some (.ref (C 4))
  g_NoRank : mg "NoRank" = some (.ref (C 5))
  g_NoAmount : mg "NoAmount" = some (.ref (C 6))
  g_NoNote : mg "NoNote" = some (.ref (C 7))
  c_NoNote : ClsE K mg "NoNote" (C 7) (C 0)
  k_NoNote_NoRow : PySem.W.kitOne K (.ref (C 7)) (.ref (C 1)) = some false
  k_NoNote_NoPlace : PySem.W.kitOne K (.ref (C 7)) (.ref (C 2)) = some false
  k_NoNote_NotFull : PySem.W.kitOne K (.ref (C 7)) (.ref (C 3)) = some false
  k_NoNote_NoCode : PySem.W.kitOne K (.ref (C 7)) (.ref (C 4)) = some false
  k_NoNote_NoRank : PySem.W.kitOne K (.ref (C 7)) (.ref (C 5)) = some false
  k_NoNote_NoAmount : PySem.W.kitOne K (.ref (C 7)) (.ref (C 6)) = some false
  k_NoNote_NoNote : PySem.W.kitOne K (.ref (C 7)) (.ref (C 7)) = some true
theorem kf_NoNote {K : PySem.W.Frag} {mg : Str → Option Value} {C : Nat → Addr} (T : Bi K mg C) : KF K C 7 := ⟨by decide, by decide, T.c_NoNote.c, T.c_NoNote.v, fun j h1 h2 => by
  obtain rfl | rfl | rfl | rfl | rfl | rfl | rfl : j = 1 ∨ j = 2 ∨ j = 3 ∨ j = 4 ∨ j = 5 ∨ j = 6 ∨ j = 7 := by omega
  · exact T.k_NoNote_NoRow
  · exact T.k_NoNote_NoPlace
  · exact T.k_NoNote_NotFull
  · exact T.k_NoNote_NoCode
  · exact T.k_NoNote_NoRank
  · exact T.k_NoNote_NoAmount
  · exact T.k_NoNote_NoNote⟩
section
variable {P : Program} {w : World} {K : PySem.W.Frag} {mg : Str → Option Value} {base : Heap} {C : Nat → Addr}
/-! #### _law_cell_at -/
def sp_law_cell_at (K : PySem.W.Frag) : Sp := fun vs H Q _ => ∃ (a : Addr) (ns : List Int) (z : Int), vs = [.ref a, .int z] ∧ SqL K H a (il ns) ∧ 0 ≤ z ∧ RetV (.int (gt ns z.toNat)) H Q
theorem ec_law_cell_at {σ : L2.St} {H : Hp} {ta tb : TE} {a : Addr} {ns : List Int} {z : Int} {E : XK} (h1 : Ev ta σ H (.ref a)) (hx : SqL K H a (il ns)) (h2 : Ev tb σ H (.int z)) (hz : 0 ≤ z) :
    Ev (tCall (sp_law_cell_at K) [] E (tCons ta (tCons tb tNil))) σ H (.int (gt ns z.toNat)) :=
  ev_call (ea_cons h1 (ea_cons h2 ea_nil)) fun H1 e Q q _ => ⟨a, ns, z, rfl, ex_l e hx, hz, q⟩
theorem ok_law_cell_at (T : Bi K mg C) (df : Def K mg "_law_cell_at" s_law_cell_at) : Has P w K mg base CX0 "_law_cell_at" 1 ["script", "k"] (sp_law_cell_at K) := by
  obtain ⟨f, fd, F, g⟩ := df
  refine ⟨f, fd, F.ok sc_law_cell_at (fun vs H Q E h => ?_) (fun cdv A outer s H vs Q E hr h => ?_), g, F.kp, F.binds fun _ _ _ _ _ _ us hl => match us, hl with | [_, _], _ => rfl⟩
  · obtain ⟨a, ns, z, rfl, hS, hz, k⟩ := h; rfl
  · obtain ⟨a, ns, z, rfl, hS, hz, k⟩ := h
    refine ⟨_, (pss_cons (ps_if (pt_cmpR op_lt (pv 1) (pe_callB (r := rLenS K) call_lenS (by rfl) T.b_len PySem.boot_len (pa_cons (pv 0) pa_nil)) (nomark _)) (pss_one (ps_ret (pe_ix (r := rIxL K) ix_list (pv 0) (pv 1) (fun _ _ => rfl)))) pss_nil)
        (pss_one (ps_ret pe_int))), ?_⟩
    have O : Own H [] H := .start
    walk_at "if"
    · intro hb H1 O
      refine RT O (ev_ixz (ev_var rfl) (O.arg hS) (ev_var rfl) ⟨hz, of_decide_eq_true hb⟩) fun H2 O => O.ret k
    · intro hb H1 O
      refine RT O ev_c fun H2 O => ?_
      have e : gt ns z.toNat = 0 := by
        have := of_decide_eq_false hb
        unfold gt
        rw [List.getD_eq_getElem?_getD, List.getElem?_eq_none (by omega)] <;> rfl
      rw [e] at k
      exact O.ret k
/-! #### _law_next -/
def sp_law_next (_ : PySem.W.Frag) : Sp := fun vs H Q _ => ∃ n : Int, vs = [.int n] ∧ RetV (.int (nxt n)) H Q
theorem ec_law_next {σ : L2.St} {H : Hp} {ta : TE} {n : Int} {E : XK} (h1 : Ev ta σ H (.int n)) : Ev (tCall (sp_law_next K) [] E (tCons ta tNil)) σ H (.int (nxt n)) :=
  ev_call (ea_cons h1 ea_nil) fun H1 e Q q _ => ⟨n, rfl, q⟩
theorem ok_law_next (T : Bi K mg C) (df : Def K mg "_law_next" s_law_next) : Has P w K mg base CX0 "_law_next" 1 ["seed"] (sp_law_next K) := by
  obtain ⟨f, fd, F, g⟩ := df
  refine ⟨f, fd, F.ok sc_law_next (fun vs H Q E h => ?_) (fun cdv A outer s H vs Q E hr h => ?_), g, F.kp, F.binds fun _ _ _ _ _ _ us hl => match us, hl with | [_], _ => rfl⟩
  · obtain ⟨n, rfl, k⟩ := h; rfl
  · obtain ⟨n, rfl, k⟩ := h
    refine ⟨_, (pss_cons (ps_set (i := 0) sc_law_next.nd rfl (Or.inl rfl) (pe_op op_mod (pe_op op_add (pv 0) pe_int) pe_int))
        (pss_one (ps_ret (pe_op op_mod (pe_op op_add (pe_op op_add (pe_op op_mul (pv 0) (pv 0)) (pe_op op_mul pe_int (pv 0))) pe_int) pe_int)))), ?_⟩
    have O : Own H [] H := .start
    have b1 : 0 ≤ (n + 7919) % 2147483647 := Int.emod_nonneg _ (by decide)
    have b2 : (n + 7919) % 2147483647 < 2147483647 := Int.emod_lt_of_pos _ (by decide)
    walk_at "set"
    intro H1 O
    refine RT O (ev_op (ev_op (ev_op (ev_op (ev_var rfl) (ev_var rfl) (rv_I (.inl ⟨by omega, by omega⟩))) (ev_op ev_c (ev_var rfl) (rv_I (.inl ⟨by omega, by omega⟩))) rv_I0) ev_c rv_I0) ev_c (rv_I (by decide))) fun H2 O => O.ret k
/-! #### _law_row -/
def sp_law_row (K : PySem.W.Frag) : Sp := fun vs H Q _ => ∃ (a : Addr) (ns : List Int), vs = [.ref a, .int 12] ∧ SqL K H a (il ns) ∧ ∀ row, IsRow row → (row.length : Int) = gt ns 0 % 13 → RetL (il row) H Q
theorem ok_law_row (T : Bi K mg C) (h_law_cell_at : Has P w K mg base CX0 "_law_cell_at" 1 ["script", "k"] (sp_law_cell_at K)) (h_law_next : Has P w K mg base CX0 "_law_next" 1 ["seed"] (sp_law_next K)) (df : Def K mg "_law_row" s_law_row) : Has P w K mg base CX0 "_law_row" 2 ["script", "most"] (sp_law_row K) := by
  obtain ⟨f, fd, F, g⟩ := df
  obtain ⟨f_law_cell_at, fd_law_cell_at, G_law_cell_at, g_law_cell_at, kp_law_cell_at, bd_law_cell_at⟩ := h_law_cell_at
  obtain ⟨f_law_next, fd_law_next, G_law_next, g_law_next, kp_law_next, bd_law_next⟩ := h_law_next
  refine ⟨f, fd, F.ok sc_law_row (fun vs H Q E h => ?_) (fun cdv A outer s H vs Q E hr h => ?_), g, F.kp, F.binds fun _ _ _ _ _ _ us hl => match us, hl with | [_, _], _ => rfl⟩
  · obtain ⟨a, ns, rfl, hS, k⟩ := h; rfl
  · obtain ⟨a, ns, rfl, hS, k⟩ := h
    have hr_law_cell_at : Room 1 _ := hr.mono (by decide)
    have hr_law_next : Room 1 _ := hr.mono (by decide)
    refine ⟨_, (pss_cons (ps_set (i := 2) sc_law_row.nd rfl (Or.inl rfl) (pe_op op_mod (pe_call G_law_cell_at hr_law_cell_at (by rfl) g_law_cell_at kp_law_cell_at bd_law_cell_at .nil pass0 (pa_cons (pv 0) (pa_cons pe_int pa_nil))) (pe_op op_add (pv 1) pe_int)))
        (pss_cons (ps_set (i := 3) sc_law_row.nd rfl (Or.inl rfl) (pe_ix (r := rIxL K) ix_list (pe_lst (pa_cons pe_int (pa_cons pe_int (pa_cons pe_int (pa_cons pe_int pa_nil))))) (pe_op op_mod (pe_call G_law_cell_at hr_law_cell_at (by rfl) g_law_cell_at kp_law_cell_at bd_law_cell_at .nil pass0 (pa_cons (pv 0) (pa_cons pe_int pa_nil))) pe_int) (fun _ _ => rfl)))
        (pss_cons (ps_set (i := 4) sc_law_row.nd rfl (Or.inl rfl) (pe_lst pa_nil))
        (pss_cons (ps_for PassesOwn.never rfl (pi_range1 rfl T.b_range (pa_cons (pv 2) pa_nil)) (pg_name (i := 5) sc_law_row.nd rfl (Or.inl rfl))
         (pss_one (ps_expr (show PE _ _ (tBM K "list" rAppend _ (tCons _ tNil)) from pe_bm PySem.F.plainAttrs_list PySem.F.slot_list_append PySem.F.type_list_append mt_append (pv 4) (pa_cons (pe_op op_mod (pe_op op_fdiv (pe_call G_law_next hr_law_next (by rfl) g_law_next kp_law_next bd_law_next .nil pass0 (pa_cons (pe_op op_add (pe_call G_law_cell_at hr_law_cell_at (by rfl) g_law_cell_at kp_law_cell_at bd_law_cell_at .nil pass0 (pa_cons (pv 0) (pa_cons (pe_op op_add pe_int (pe_op op_mod (pv 5) pe_int)) pa_nil))) (pe_op op_mul pe_int (pv 5))) pa_nil)) pe_int) (pv 3)) pa_nil)))))
        (pss_cut (ps_if (pt_cmpR op_eq (pe_op op_mod (pe_call G_law_cell_at hr_law_cell_at (by rfl) g_law_cell_at kp_law_cell_at bd_law_cell_at .nil pass0 (pa_cons (pv 0) (pa_cons pe_int pa_nil))) pe_int) pe_int (nomark _)) (pss_one (ps_set (i := 4) sc_law_row.nd rfl (Or.inl rfl) (pe_callB (r := rSorted K) cr_sorted (by rfl) T.b_sorted (by decide +kernel) (pa_cons (pv 4) pa_nil)))) pss_nil)
        (pss_cut (ps_if (pt_cmpR op_eq (pe_op op_mod (pe_call G_law_cell_at hr_law_cell_at (by rfl) g_law_cell_at kp_law_cell_at bd_law_cell_at .nil pass0 (pa_cons (pv 0) (pa_cons pe_int pa_nil))) pe_int) pe_int (nomark _)) (pss_one (ps_set (i := 4) sc_law_row.nd rfl (Or.inl rfl) (pe_listRev (by rfl) (by rfl) T.b_list (by rfl) T.b_reversed (pe_callB (r := rSorted K) cr_sorted (by rfl) T.b_sorted (by decide +kernel) (pa_cons (pv 4) pa_nil))))) pss_nil)
        (pss_one (ps_ret (pv 4))))))))), ?_⟩
    have O : Own H [] H := .start
    refine sq (AS O (ev_op (ec_law_cell_at (ev_var rfl) hS ev_c (by decide)) (ev_op (ev_var rfl) ev_c rv_I0) (rv_I (by decide))) fun H1 O => ?_)
    refine sq (AS O (v := .int (gt [100, 5, 2, 12] _)) (ev_ixNL (ns := [100, 5, 2, 12]) (el_lst (ea_cons ev_c (ea_cons ev_c (ea_cons ev_c (ea_cons ev_c ea_nil)))) (by decide)) (fun H2 e => ev_op (ec_law_cell_at (ev_var rfl) (ex_l e (O.arg hS)) ev_c (by decide)) ev_c (rv_I (by decide))) ⟨Int.emod_nonneg _ (by decide), Int.emod_lt_of_pos _ (by decide)⟩) fun H2 O => ?_)
    refine sq (AL O (el_lst ea_nil (Nat.zero_le _)) fun p H3 O => ?_)
    have hk := kinds_ok (gt ns 1)
    have hm0 : 0 ≤ gt ns 0 % (12 + 1) := Int.emod_nonneg _ (by decide)
    have hm1 : gt ns 0 % (12 + 1) < 13 := Int.emod_lt_of_pos _ (by decide)
    refine sq (FR O (ea_cons (ev_var rfl) ea_nil) ⟨hm0, Int.le_trans (Int.le_of_lt hm1) (by decide)⟩
      (fun i σ' H' => ∃ (row : List Int) (x : Option V), σ' = [some (.ref a), some (.int 12), some (.int (gt ns 0 % (12 + 1))), some (.int (gt [100, 5, 2, 12] (gt ns 1 % 4).toNat)), some (.ref p), x] ∧ row.length = i ∧ (∀ v ∈ row, 0 ≤ v ∧ v ≤ 99) ∧ Own H [(p, il row)] H')
      (fun H4 O => ⟨[], none, rfl, rfl, (fun _ h => by cases h), O⟩) (fun i σ' H' hi hP => ?_) (fun σ' H' hP => ?_))
    · obtain ⟨row, x, rfl, hl, hr, O⟩ := hP
      have hb0 : 0 ≤ nxt (gt ns (3 + (i : Int) % 12).toNat + 5003 * (i : Int)) / 7 % gt [100, 5, 2, 12] (gt ns 1 % 4).toNat := Int.emod_nonneg _ (by omega)
      have hb1 := Int.emod_lt_of_pos (nxt (gt ns (3 + (i : Int) % 12).toNat + 5003 * (i : Int)) / 7) hk.1
      refine APP 0 O rfl (ev_var rfl) (ev_op (ev_op (ec_law_next (ev_op (ec_law_cell_at (ev_var rfl) (O.arg hS) (ev_op ev_c (ev_op (ev_var rfl) ev_c (rv_I (by decide))) rv_I0) (by omega)) (ev_op ev_c (ev_var rfl) (rv_I (.inl (by decide)))) rv_I0)) ev_c (rv_I ⟨by decide, by decide⟩)) (ev_var rfl) (rv_I hk.1)) (by rw [List.length_map]; omega) fun H5 O => ?_
      refine ⟨row ++ [_], _, rfl, by rw [List.length_append, hl]; rfl, fun v hv => ?_, by rw [il_append]; exact O⟩
      rcases List.mem_append.mp hv with hv | hv
      · exact hr v hv
      · rw [List.mem_singleton.mp hv]
        omega
    · obtain ⟨row, x, rfl, hl, hr, O⟩ := hP
      have hR : IsRow row ∧ (row.length : Int) = gt ns 0 % 13 := ⟨⟨by omega, hr⟩, by rw [hl, Int.toNat_of_nonneg hm0]; rfl⟩
      refine q_cut (M := fun σ' H' => ∃ (row : List Int) (q : Addr) (x : Option V), σ' = [some (.ref a), some (.int 12), some (.int (gt ns 0 % (12 + 1))), some (.int (gt [100, 5, 2, 12] (gt ns 1 % 4).toNat)), some (.ref q), x] ∧ (IsRow row ∧ (row.length : Int) = gt ns 0 % 13) ∧ ∃ M, Own H ((q, il row) :: M) H') ?_ (fun σ' H' hM => ?_)
      · refine IF O (et_test (ev_op (ev_op (ec_law_cell_at (ev_var rfl) (O.arg hS) ev_c (by decide)) ev_c (rv_I (by decide))) ev_c rv_eqI)) (fun _ H1 O => ?_) (fun _ H1 O => ⟨row, p, x, rfl, hR, _, O⟩)
        exact AL O (el_sorted (ev_var rfl) (O.seq 0 rfl) (by have := hR.1.1; omega)) fun q H2 O => ⟨srt row, q, x, rfl, ⟨hR.1.srt, by rw [(srt_perm row).length_eq]; exact hR.2⟩, _, O⟩
      · obtain ⟨row, q, x, rfl, hR, M, O⟩ := hM
        refine q_cut (M := fun σ' H' => ∃ (row : List Int) (q : Addr) (x : Option V), σ' = [some (.ref a), some (.int 12), some (.int (gt ns 0 % (12 + 1))), some (.int (gt [100, 5, 2, 12] (gt ns 1 % 4).toNat)), some (.ref q), x] ∧ (IsRow row ∧ (row.length : Int) = gt ns 0 % 13) ∧ ∃ M, Own H ((q, il row) :: M) H') ?_ (fun σ' H' hM => ?_)
        · refine IF O (et_test (ev_op (ev_op (ec_law_cell_at (ev_var rfl) (O.arg hS) ev_c (by decide)) ev_c (rv_I (by decide))) ev_c rv_eqI)) (fun _ H1 O => ?_) (fun _ H1 O => ⟨row, q, x, rfl, hR, _, O⟩)
          refine AL O (el_revN (el_sorted (ev_var rfl) (O.seq 0 rfl) (by have := hR.1.1; omega))) fun q H2 O => ⟨(srt row).reverse, q, x, rfl, ⟨hR.1.srt.rev, by rw [List.length_reverse, (srt_perm row).length_eq]; exact hR.2⟩, _, by rw [il_rev]; exact O⟩
        · obtain ⟨row, q, x, rfl, hR, M, O⟩ := hM
          exact RT O (ev_var rfl) fun H1 O => O.retL 0 rfl (k row hR.1 hR.2)
/-! #### _law_spoiled -/
def sp_law_spoiled (K : PySem.W.Frag) : Sp := fun vs H Q _ => ∃ (a : Addr) (ns : List Int) (way cell : Int), vs = [.ref a, .int way, .int cell] ∧ H a = some (.lst (wl (ns.map wd))) ∧ IsRow ns ∧ 0 < ns.length ∧ ∀ t, Bad t → t.length ≤ 900 → RetV (.str (SX.S t)) H Q
theorem emod_nat {x m : Int} (h : 0 < m) : ∃ i : Nat, x % m = (i : Int) ∧ (i : Int) < m := ⟨(x % m).toNat, (Int.toNat_of_nonneg (Int.emod_nonneg _ (by omega))).symm, by
  rw [Int.toNat_of_nonneg (Int.emod_nonneg _ (by omega))]
  exact Int.emod_lt_of_pos _ h⟩
theorem ok_law_spoiled (T : Bi K mg C) (df : Def K mg "_law_spoiled" s_law_spoiled) : Has P w K mg base CX0 "_law_spoiled" 1 ["words", "way", "cell"] (sp_law_spoiled K) := by
  obtain ⟨f, fd, F, g⟩ := df
  refine ⟨f, fd, F.ok sc_law_spoiled (fun vs H Q E h => ?_) (fun cdv A outer s H vs Q E hr h => ?_), g, F.kp, F.binds fun _ _ _ _ _ _ us hl => match us, hl with | [_, _, _], _ => rfl⟩
  · obtain ⟨a, ns, way, cell, rfl, hA, hR, hpos, k⟩ := h; rfl
  · obtain ⟨a, ns, way, cell, rfl, hA, hR, hpos, k⟩ := h
    refine ⟨_, (pss_cons (ps_set (i := 3) sc_law_spoiled.nd rfl (Or.inl rfl) (pe_op op_mod (pv 2) (pe_callB (r := rLenS K) call_lenS (by rfl) T.b_len PySem.boot_len (pa_cons (pv 0) pa_nil))))
        (pss_cons (ps_set (i := 4) sc_law_spoiled.nd rfl (Or.inl rfl) (pe_ix (r := rIxL K) ix_list (pv 0) (pv 3) (fun _ _ => rfl)))
        (pss_cons (ps_set (i := 5) sc_law_spoiled.nd rfl (Or.inl rfl) (pe_lst (pa_cons pe_str (pa_cons pe_str (pa_cons pe_str (pa_cons (pe_op (r := rAddS) op_add_str pe_str (pv 4)) (pa_cons (pe_op (r := rAddS) op_add_str pe_str (pv 4)) (pa_cons (pe_op (r := rAddS) op_add_str pe_str (pv 4)) (pa_cons pe_str (pa_cons pe_str (pa_cons pe_str (pa_cons pe_str (pa_cons (pe_op (r := rAddS) op_add_str (pv 4) pe_str) (pa_cons (pe_op (r := rAddS) op_add_str pe_str (pv 4)) pa_nil))))))))))))))
        (pss_cons (ps_set (i := 5) sc_law_spoiled.nd rfl (Or.inl rfl) (pe_op op_cat (pv 5) (pe_lst (pa_cons (pe_op (r := rAddS) op_add_str (pv 4) pe_str) (pa_cons pe_str (pa_cons pe_str (pa_cons pe_str (pa_cons (pe_op (r := rAddS) op_add_str pe_str (pv 4)) (pa_cons (pe_op (r := rAddS) op_add_str (pv 4) pe_str) pa_nil)))))))))
        (pss_cons (ps_if (pt_cmpR op_eq (pv 1) pe_int (nomark _)) (pss_one (ps_ret (show PE _ _ (tM1 (rJoin K) _ _) from pe_join pe_str (pe_op op_cat (pe_op op_cat (pe_slice (r := rSlL K) sl_list (pv 0) po_none (po_some (pv 3))) (pe_lst (pa_cons (pe_ix (r := rIxL K) ix_list (pv 5) (pe_op op_mod (pe_op op_fdiv (pv 2) pe_int) pe_int) (fun _ _ => rfl)) pa_nil))) (pe_slice (r := rSlL K) sl_list (pv 0) (po_some (pe_op op_add (pv 3) pe_int)) po_none))))) pss_nil)
        (pss_cons (ps_if (pt_cmpR op_eq (pv 1) pe_int (nomark _)) (pss_one (ps_ret (show PE _ _ (tM1 (rJoin K) _ _) from pe_join pe_str (pe_op op_cat (pe_op op_cat (pe_slice (r := rSlL K) sl_list (pv 0) po_none (po_some (pv 3))) (pe_lst (pa_cons pe_str pa_nil))) (pe_slice (r := rSlL K) sl_list (pv 0) (po_some (pv 3)) po_none))))) pss_nil)
        (pss_cons (ps_if (pt_cmpR op_eq (pv 1) pe_int (nomark _)) (pss_one (ps_ret (pe_op (r := rAddS) op_add_str (show PE _ _ (tM1 (rJoin K) _ _) from pe_join pe_str (pv 0)) (pe_ix (r := rIxL K) ix_list (pe_lst (pa_cons pe_str (pa_cons pe_str (pa_cons pe_str (pa_cons pe_str (pa_cons pe_str pa_nil)))))) (pe_op op_mod (pe_op op_fdiv (pv 2) pe_int) pe_int) (fun _ _ => rfl))))) pss_nil)
        (pss_cons (ps_if (pt_cmpR op_eq (pv 1) pe_int (nomark _)) (pss_one (ps_ret (pe_op (r := rAddS) op_add_str (pe_ix (r := rIxL K) ix_list (pe_lst (pa_cons pe_str (pa_cons pe_str (pa_cons pe_str pa_nil)))) (pe_op op_mod (pe_op op_fdiv (pv 2) pe_int) pe_int) (fun _ _ => rfl)) (show PE _ _ (tM1 (rJoin K) _ _) from pe_join pe_str (pv 0))))) pss_nil)
        (pss_cons (ps_if (PW.pt (pw_and (pt_cmpR op_eq (pv 1) pe_int (nomark _)) (pw_and1 (pt_cmpR op_gt (pe_callB (r := rLenS K) call_lenS (by rfl) T.b_len PySem.boot_len (pa_cons (pv 0) pa_nil)) pe_int (nomark _))))) (pss_one (ps_ret (show PE _ _ (tM1 (rJoin K) _ _) from pe_join (pe_ix (r := rIxL K) ix_list (pe_lst (pa_cons pe_str (pa_cons pe_str (pa_cons pe_str (pa_cons pe_str (pa_cons pe_str pa_nil)))))) (pe_op op_mod (pe_op op_fdiv (pv 2) pe_int) pe_int) (fun _ _ => rfl)) (pv 0)))) pss_nil)
        (pss_one (ps_ret (show PE _ _ (tM1 (rJoin K) _ _) from pe_join pe_str (pe_op op_cat (pv 0) (pe_lc (own := [("k", 6)]) (g := gName 6) (by rfl) sc_law_spoiled.nd (pi_range1 rfl T.b_range (pa_cons (pe_op op_add (pe_op op_sub pe_int (pe_callB (r := rLenS K) call_lenS (by rfl) T.b_len PySem.boot_len (pa_cons (pv 0) pa_nil))) (pe_op op_mod (pe_op op_fdiv (pv 2) pe_int) pe_int)) pa_nil)) (blkOk_by (own := [("k", 6)]) (N := ["words", "way", "cell", "at", "word", "some", "k"]) (sc := defScope s_law_spoiled) (by decide +kernel)) (fun _ _ _ _ _ => pg_name (i := 6) sc_law_spoiled.nd rfl (Or.inl rfl)) (fun _ _ _ _ _ => pts_nil) (fun _ _ _ _ _ => pe_str))))))))))))))), ?_⟩
    have O : Own H [] H := .start
    have hl := hR.1
    have hW : (ns.map wd).length = ns.length := List.length_map _
    have hS : SqL K H a (wl (ns.map wd)) := sq_of hA
    have hwd : ∀ p, p ∈ ns.map wd → p.length ≤ 2 := fun p hp => by
      obtain ⟨v, hv, rfl⟩ := List.mem_map.mp hp
      exact wd_len (hR.2 v hv)
    have hwd3 : ∀ p, p ∈ ns.map wd → p.length ≤ 3 := fun p hp => Nat.le_succ_of_le (hwd p hp)
    have hlenW : ∀ {H1 : Hp} {σ : L2.St}, SqL K H1 a (wl (ns.map wd)) → σ[0]? = some (some (.ref a)) → Ev (tCB (rLenS K) (tCons (tVar 0) tNil)) σ H1 (.int (ns.length : Int)) := fun h h0 => ev_is (ev_len (ev_var h0) h) (by rw [List.length_map, List.length_map])
    obtain ⟨j, hj, hjl⟩ := emod_nat (x := cell) (m := (ns.length : Int)) (by omega)
    have hjn : j < ns.length := by omega
    obtain ⟨v, hv⟩ : ∃ v, gt ns j = v := ⟨_, rfl⟩
    have hvr := hR.2 v (hv ▸ List.mem_of_getElem? (some_gt hjn))
    have hvl := wd_len hvr
    have hat : (ns.map wd)[j]? = some (wd v) := by rw [List.getElem?_map, some_gt hjn, hv] <;> rfl
    have fin : ∀ {s : List Nat} {ws : List (List Nat)}, (∀ p, p ∈ ws → p.length ≤ 3) → ws.length ≤ 100 → s.length ≤ 3 → (TL.joinL s ws).length ≤ 600 := fun {s ws} h1 h2 h3 => by
      have := joinL_lenS s 3 ws h1
      have h4 := Nat.mul_le_mul (show 3 + s.length ≤ 6 by omega) h2
      omega
    refine qAS O (ev_is (ev_op (ev_var rfl) (hlenW (O.arg hS) rfl) (rv_I (by omega))) (w := .int (j : Int)) (congrArg V.int hj)) fun H1 O => ?_
    refine qAS O (ev_ixW (ev_var rfl) (O.arg hS) (ev_var rfl) hat) fun H2 O => ?_
    refine qAL O (xs := wl [[49, 48, 48], [48, 48, 55], [48, 48], [48] ++ wd v, [43] ++ wd v, [45] ++ wd v, [49, 95, 48], [120], [49, 46], [], wd v ++ [9], [10] ++ wd v]) (el_lst (ea_cons (ev_cS (by decide +kernel)) (ea_cons (ev_cS (by decide +kernel)) (ea_cons (ev_cS (by decide +kernel)) (ea_cons (ev_addW (ev_cS (by decide +kernel)) (ev_var rfl) (by show 1 + _ ≤ _; omega))
      (ea_cons (ev_addW (ev_cS (by decide +kernel)) (ev_var rfl) (by show 1 + _ ≤ _; omega)) (ea_cons (ev_addW (ev_cS (by decide +kernel)) (ev_var rfl) (by show 1 + _ ≤ _; omega)) (ea_cons (ev_cS (by decide +kernel)) (ea_cons (ev_cS (by decide +kernel)) (ea_cons (ev_cS (by decide +kernel)) (ea_cons (ev_cS (by decide +kernel))
      (ea_cons (ev_addW (ev_var rfl) (ev_cS (by decide +kernel)) (by show _ + 1 ≤ _; omega)) (ea_cons (ev_addW (ev_cS (by decide +kernel)) (ev_var rfl) (by show 1 + _ ≤ _; omega)) ea_nil)))))))))))) (by show 12 ≤ 100000; decide)) fun q1 H3 O => ?_
    refine qAL O (xs := wl (someL (wd v))) (el_catRW (xs := [[49, 48, 48], [48, 48, 55], [48, 48], [48] ++ wd v, [43] ++ wd v, [45] ++ wd v, [49, 95, 48], [120], [49, 46], [], wd v ++ [9], [10] ++ wd v]) (ys := [wd v ++ [44], [48, 120, 49], [49, 101, 49], [40, 49, 41], [32] ++ wd v, wd v ++ [32]]) (ev_var rfl) (O.get 0 rfl)
      (el_lst (ea_cons (ev_addW (ev_var rfl) (ev_cS (by decide +kernel)) (by show _ + 1 ≤ _; omega)) (ea_cons (ev_cS (by decide +kernel)) (ea_cons (ev_cS (by decide +kernel)) (ea_cons (ev_cS (by decide +kernel)) (ea_cons (ev_addW (ev_cS (by decide +kernel)) (ev_var rfl) (by show 1 + _ ≤ _; omega)) (ea_cons (ev_addW (ev_var rfl) (ev_cS (by decide +kernel)) (by show _ + 1 ≤ _; omega)) ea_nil)))))) (by show 6 ≤ 100000; decide)) (by show 12 + 6 ≤ 100000; decide)) fun q2 H4 O => ?_
    refine qWH O (et_test (ev_op (ev_var rfl) ev_c rv_eqI)) (fun _ H5 O => ?_) (fun _ H5 O => ?_)
    · obtain ⟨i, hi, hil⟩ := emod_nat (x := cell / 12) (m := 18) (by decide)
      obtain ⟨x, hx, hxm⟩ := at_lt (ws := someL (wd v)) (i := i) (by show i < 18; omega)
      have hb : Bad (TL.joinL [32] ((ns.map wd).take j ++ [x] ++ (ns.map wd).drop (j + 1))) := bad_join (w := x) (by simp) (someL_bad hx)
      have hp3 : ∀ p, p ∈ (ns.map wd).take j ++ [x] ++ (ns.map wd).drop (j + 1) → p.length ≤ 3 := fun p hp => by
        rcases List.mem_append.mp hp with hp | hp
        · rcases List.mem_append.mp hp with hp | hp
          · exact hwd3 p (List.mem_of_mem_take hp)
          · rw [List.mem_singleton.mp hp]
            exact someL_len hvr hxm
        · exact hwd3 p (List.mem_of_mem_drop hp)
      have hpl : ((ns.map wd).take j ++ [x] ++ (ns.map wd).drop (j + 1)).length ≤ 100 := by
        have := List.length_take_le j (ns.map wd)
        rw [List.length_append, List.length_append, List.length_drop, List.length_singleton]
        omega
      refine RT O (ev_joinW (s := [32]) (ev_cS (by decide +kernel)) (el_catW (el_catW (slW_to (k := j) (ev_var rfl) (O.arg hS) (eo_some (ev_var rfl))) (el_lst (ea_cons (ev_ixW (ev_var rfl) (O.seq 0 rfl) (ev_is (ev_op (ev_op (ev_var rfl) ev_c (rv_I ⟨by decide, by decide⟩)) ev_c (rv_I (by decide))) (congrArg V.int hi)) hx) ea_nil) (by show 1 ≤ 100000; decide)) ?_)
        (slW_from (k := j + 1) (ev_var rfl) (O.arg hS) (eo_some (ev_op (ev_var rfl) ev_c rv_I0))) ?_) hp3 hpl (by decide)) fun H6 O => O.ret (k _ hb (Nat.le_trans (fin hp3 hpl (by decide)) (by decide)))
      · rw [List.length_take, List.length_singleton]; omega
      · rw [List.length_append, List.length_take, List.length_singleton, List.length_drop]; omega
    refine qWH O (et_test (ev_op (ev_var rfl) ev_c rv_eqI)) (fun _ H6 O => ?_) (fun _ H6 O => ?_)
    · have hb : Bad (TL.joinL [32] ((ns.map wd).take j ++ [[]] ++ (ns.map wd).drop j)) := bad_join (w := []) (by simp) ⟨[], List.mem_cons_self, no_nil⟩
      have hp3 : ∀ p, p ∈ (ns.map wd).take j ++ [[]] ++ (ns.map wd).drop j → p.length ≤ 3 := fun p hp => by
        rcases List.mem_append.mp hp with hp | hp
        · rcases List.mem_append.mp hp with hp | hp
          · exact hwd3 p (List.mem_of_mem_take hp)
          · rw [List.mem_singleton.mp hp]
            exact Nat.zero_le _
        · exact hwd3 p (List.mem_of_mem_drop hp)
      have hpl : ((ns.map wd).take j ++ [[]] ++ (ns.map wd).drop j).length ≤ 100 := by
        have := List.length_take_le j (ns.map wd)
        rw [List.length_append, List.length_append, List.length_drop, List.length_singleton]
        omega
      refine RT O (ev_joinW (s := [32]) (ev_cS (by decide +kernel)) (el_catW (el_catW (slW_to (k := j) (ev_var rfl) (O.arg hS) (eo_some (ev_var rfl))) (el_lst (ea_cons (ev_cS (l := []) (by decide +kernel)) ea_nil) (by show 1 ≤ 100000; decide)) ?_)
        (slW_from (k := j) (ev_var rfl) (O.arg hS) (eo_some (ev_var rfl))) ?_) hp3 hpl (by decide)) fun H7 O => O.ret (k _ hb (Nat.le_trans (fin hp3 hpl (by decide)) (by decide)))
      · rw [List.length_take, List.length_singleton]; omega
      · rw [List.length_append, List.length_take, List.length_singleton, List.length_drop]; omega
    have hj32 : ∀ {H' : Hp} {σ : L2.St} (s : List Nat) {to : TE}, Own H [(q2, wl (someL (wd v))), (q1, wl [[49, 48, 48], [48, 48, 55], [48, 48], [48] ++ wd v, [43] ++ wd v, [45] ++ wd v, [49, 95, 48], [120], [49, 46], [], wd v ++ [9], [10] ++ wd v])] H' → Ev to σ H' (.str (SX.S s)) → s.length ≤ 3 → σ[0]? = some (some (.ref a)) →
        Ev (tM1 (rJoin K) to (tVar 0)) σ H' (.str (SX.S (TL.joinL s (ns.map wd)))) := fun s to O h hs h0 => ev_joinV h (ev_var h0) (O.arg hS) hwd3 (by omega) hs
    have hjl : ∀ {s : List Nat}, s.length ≤ 3 → (TL.joinL s (ns.map wd)).length ≤ 600 := fun hs => fin hwd3 (by omega) hs
    refine qWH O (et_test (ev_op (ev_var rfl) ev_c rv_eqI)) (fun _ H7 O => ?_) (fun _ H7 O => ?_)
    · obtain ⟨i, hi, hil⟩ := emod_nat (x := cell / 12) (m := 5) (by decide)
      obtain ⟨x, hx, hxm⟩ := at_lt (ws := [[32], [10], [9], [44], [46]]) (i := i) (by show i < 5; omega)
      have hx1 : x.length ≤ 1 := by
        simp only [List.mem_cons, List.not_mem_nil, or_false] at hxm
        rcases hxm with rfl | rfl | rfl | rfl | rfl <;> decide
      have h6 := hjl (s := [32]) (by decide)
      refine RT O (ev_addW (hj32 [32] O (ev_cS (by decide +kernel)) (by decide) rfl) (ev_ixNW (ws := [[32], [10], [9], [44], [46]]) (el_lst (ea_cons (ev_cS (by decide +kernel)) (ea_cons (ev_cS (by decide +kernel)) (ea_cons (ev_cS (by decide +kernel)) (ea_cons (ev_cS (by decide +kernel)) (ea_cons (ev_cS (by decide +kernel)) ea_nil))))) (by show 5 ≤ 100000; decide))
        (fun H8 e8 => ev_is (ev_op (ev_op (ev_var rfl) ev_c (rv_I ⟨by decide, by decide⟩)) ev_c (rv_I (by decide))) (congrArg V.int hi)) hx) (by omega)) fun H8 O => O.ret (k _ (tail_bad hxm) (by rw [List.length_append]; omega))
    refine qWH O (et_test (ev_op (ev_var rfl) ev_c rv_eqI)) (fun _ H8 O => ?_) (fun _ H8 O => ?_)
    · obtain ⟨i, hi, hil⟩ := emod_nat (x := cell / 12) (m := 3) (by decide)
      obtain ⟨x, hx, hxm⟩ := at_lt (ws := [[32], [10], [9]]) (i := i) (by show i < 3; omega)
      have hx1 : x.length ≤ 1 := by
        simp only [List.mem_cons, List.not_mem_nil, or_false] at hxm
        rcases hxm with rfl | rfl | rfl <;> decide
      have h6 := hjl (s := [32]) (by decide)
      refine RT O (ev_addW (ev_ixNW (ws := [[32], [10], [9]]) (el_lst (ea_cons (ev_cS (by decide +kernel)) (ea_cons (ev_cS (by decide +kernel)) (ea_cons (ev_cS (by decide +kernel)) ea_nil))) (by show 3 ≤ 100000; decide))
        (fun H8 e8 => ev_is (ev_op (ev_op (ev_var rfl) ev_c (rv_I ⟨by decide, by decide⟩)) ev_c (rv_I (by decide))) (congrArg V.int hi)) hx) (ev_joinV (s := [32]) (ev_cS (by decide +kernel)) (ev_var rfl) (O.arg hS) hwd3 (by omega) (by decide)) (by omega)) fun H9 O => O.ret (k _ (head_bad hxm) (by rw [List.length_append]; omega))
    refine qWH O (et_and (et_test (ev_op (ev_var rfl) ev_c rv_eqI)) fun _ => et_test (ev_op (hlenW (O.arg hS) rfl) ev_c rv_I0)) (fun hb H9 O => ?_) (fun _ H9 O => ?_)
    · rw [Bool.and_eq_true, decide_eq_true_eq, decide_eq_true_eq] at hb
      obtain ⟨i, hi, hil⟩ := emod_nat (x := cell / 12) (m := 5) (by decide)
      obtain ⟨x, hx, hxm⟩ := at_lt (ws := [[44], [32, 32], [9], [10], [44, 32]]) (i := i) (by show i < 5; omega)
      have hx1 : x.length ≤ 3 := by
        simp only [List.mem_cons, List.not_mem_nil, or_false] at hxm
        rcases hxm with rfl | rfl | rfl | rfl | rfl <;> decide
      have h6 := hjl hx1
      refine RT O (hj32 x O (ev_ixNW (ws := [[44], [32, 32], [9], [10], [44, 32]]) (el_lst (ea_cons (ev_cS (by decide +kernel)) (ea_cons (ev_cS (by decide +kernel)) (ea_cons (ev_cS (by decide +kernel)) (ea_cons (ev_cS (by decide +kernel)) (ea_cons (ev_cS (by decide +kernel)) ea_nil))))) (by show 5 ≤ 100000; decide))
        (fun H8 e8 => ev_is (ev_op (ev_op (ev_var rfl) ev_c (rv_I ⟨by decide, by decide⟩)) ev_c (rv_I (by decide))) (congrArg V.int hi)) hx) hx1 rfl) fun H10 O => O.ret (k _ (sep_bad hxm (by rw [hW]; omega)) (by omega))
    obtain ⟨i, hi, hil⟩ := emod_nat (x := cell / 12) (m := 4) (by decide)
    obtain ⟨n, hn⟩ : ∃ n : Nat, 13 - (ns.length : Int) + (i : Int) = (n : Int) := ⟨(13 - (ns.length : Int) + (i : Int)).toNat, by omega⟩
    have hb : Bad (TL.joinL [32] (ns.map wd ++ List.replicate n [53])) := bad_long (by rw [List.length_append, List.length_replicate, hW]; omega)
    have hp3 : ∀ p, p ∈ ns.map wd ++ List.replicate n [53] → p.length ≤ 3 := fun p hp => by
      rcases List.mem_append.mp hp with hp | hp
      · exact hwd3 p hp
      · rw [(List.mem_replicate.mp hp).2]
        decide
    have hpl : (ns.map wd ++ List.replicate n [53]).length ≤ 100 := by
      rw [List.length_append, List.length_replicate, hW]
      omega
    refine RT O (ev_joinW (s := [32]) (ev_cS (by decide +kernel)) (el_catRW (ev_var rfl) (O.ex _ _ hA) ((wl_const n [53]) ▸ lcR (n := n) (fun _ => true) (fun _ => V.str (SX.S [53])) (ea_cons (ev_is (ev_op (ev_op ev_c (hlenW (O.arg hS) rfl) rv_I0) (ev_is (ev_op (ev_op (ev_var rfl) ev_c (rv_I ⟨by decide, by decide⟩)) ev_c (rv_I (by decide))) (congrArg V.int hi)) rv_I0) (congrArg V.int hn)) ea_nil) (by omega) (fun x => rfl) (fun i H2 e hi => et_yes) (fun i H2 e hi _ => ev_cS (by decide +kernel))) (by rw [List.length_replicate, hW]; omega)) hp3 hpl (by decide)) fun H10 O => O.ret (k _ hb (Nat.le_trans (fin hp3 hpl (by decide)) (by decide)))
/-! #### volume_of -/
def sp_volume_of0 (K : PySem.W.Frag) : Sp := fun vs H Q _ => ∃ (l : List Nat), vs = [.str (SX.S l)] ∧ GoodW l ∧ RetV (.int (NumText.digitsVal l : Nat)) H Q
def sp_volume_of (K : PySem.W.Frag) (C : Nat → Addr) : Sp := fun vs H Q E => sp_volume_of0 K vs H Q E ∨ (∃ (l : List Nat), vs = [.str (SX.S l)] ∧ l.length ≤ 1000 ∧ ¬ GoodW l ∧ ∀ H', Ex H H' → E (.ref (C 7)) none H')
theorem ec_volume_of {σ : L2.St} {H : Hp} {ta : TE} {l : List Nat} {E : XK} (h1 : Ev ta σ H (.str (SX.S l))) (hr : GoodW l) : Ev (tCall (sp_volume_of K C) [] E (tCons ta tNil)) σ H (.int (NumText.digitsVal l : Nat)) :=
  ev_call (ea_cons h1 ea_nil) fun H1 e Q q _ => Or.inl ⟨l, rfl, hr, q⟩
theorem z48 : ("0" : Str) = SX.S [48] := by decide +kernel
theorem figs : ("0123456789" : Str) = SX.S [48, 49, 50, 51, 52, 53, 54, 55, 56, 57] := by decide +kernel
theorem fig_mem {c : Nat} : c ∈ [48, 49, 50, 51, 52, 53, 54, 55, 56, 57] ↔ 48 ≤ c ∧ c ≤ 57 := by
  simp only [List.mem_cons, List.not_mem_nil, or_false]
  omega
theorem ok_volume_of (T : Bi K mg C) (df : Def K mg "volume_of" s_volume_of) : Has P w K mg base (L2N.CX P w) "volume_of" 1 ["word"] (sp_volume_of K C) := by
  obtain ⟨f, fd, F, g⟩ := df
  obtain ⟨t_FIGURES, g_FIGURES⟩ := T.c_FIGURES
  refine ⟨f, fd, okN F sc_volume_of (fun vs H Q E h => ?_) (fun cdv A outer s H vs Q E hr h => ?_), g, F.kp, F.binds fun _ _ _ _ _ _ us hl => match us, hl with | [_], _ => rfl⟩
  · rcases h with ⟨l, rfl, hG, k⟩ | ⟨l, rfl, hlen, hbad, kE⟩ <;> rfl
  ·
    refine ⟨_, (pss_cons (ps_if (PW.pt (pw_or (pt_not (pt_chain op_le op_le pe_int (pe_callB (r := rLenT) call_len_str (by rfl) T.b_len PySem.boot_len (pa_cons (pv 0) pa_nil)) pe_int)) (pw_or1 (PW.pt (pw_and (pt_cmpR op_eq (pe_callB (r := rLenT) call_len_str (by rfl) T.b_len PySem.boot_len (pa_cons (pv 0) pa_nil)) pe_int (nomark _)) (pw_and1 (pt_cmpR op_eq (pe_ix ix_str (pv 0) pe_int (fun _ _ => rfl)) pe_str (nomark _)))))))) (pss_one (L2N.ps_raise rfl (L2N.takes_of rfl rfl rfl rfl) (L2N.pmk_own PySem.F.excBase_ValueError T.c_NoNote.x T.c_NoNote.g T.c_NoNote.k (raises_own T.c_NoNote.b T.c_NoNote.t) rfl))) pss_nil)
        (pss_cons (ps_for (passes_of rfl) rfl (pi_str (pv 0)) (pg_name (i := 1) sc_volume_of.nd rfl (Or.inl rfl))
         (pss_one (ps_if (pt_cmpR (r := rNotInS) op_notIn_sign (pv 1) (pe_glob (v := .str "0123456789") rfl g_FIGURES ⟨_, rfl⟩) rfl) (pss_one (L2N.ps_raise rfl (L2N.takes_of rfl rfl rfl rfl) (L2N.pmk_own PySem.F.excBase_ValueError T.c_NoNote.x T.c_NoNote.g T.c_NoNote.k (raises_own T.c_NoNote.b T.c_NoNote.t) rfl))) pss_nil)))
        (pss_one (ps_ret (pe_callTy (r := rIntT) call_int_str (by rfl) T.b_int (by decide +kernel) (pa_cons (pv 0) pa_nil)))))), ?_⟩
    rcases h with ⟨l, rfl, hG, k⟩ | ⟨l, rfl, hlen, hbad, kE⟩
    ·
      have O : Own H [] H := .start
      have hlen := hG.1.2
      have hS : ((SX.S l).length : Int) = (l.length : Int) := by rw [SX.S_len]
      have hL : ∀ {H1 : Hp} {σ : L2.St}, σ[0]? = some (some (.str (SX.S l))) → Ev (tCB rLenT (tCons (tVar 0) tNil)) σ H1 (.int (l.length : Int)) := fun h => ev_is (ev_lenT (ev_var h) (by rw [SX.S_len]; omega)) (congrArg V.int hS)
      refine qWH O (et_or (et_not (et_test (ev_chain ev_c (hL rfl) rv_I0 ev_c rv_I0))) fun _ => et_and (et_test (ev_op (hL rfl) ev_c rv_eqI)) fun h2 => et_test (ev_op (ev_ixS 0 (c := l.getD 0 0) (ev_var rfl) ev_c (by omega) (by
        have h2 : (l.length : Int) = 2 := of_decide_eq_true h2
        rw [List.getD_eq_getElem?_getD, List.getElem?_eq_getElem (by omega)] <;> rfl)) (ev_is ev_c (congrArg V.str z48)) rv_eqT)) (fun hb H1 O => ?_) (fun hb H1 O => ?_)
      · rw [Bool.or_eq_true, Bool.not_eq_true', Bool.and_eq_true, decide_eq_true_eq, decide_eq_true_eq, Bool.and_eq_false_iff, decide_eq_false_iff_not, decide_eq_false_iff_not] at hb
        rcases hb with hb | ⟨h2, h3⟩
        · have := hG.1
          omega
        · refine absurd ⟨by omega, ?_⟩ hG.2.1
          rw [List.getElem?_eq_getElem (by omega)]
          have h3 : l.getD 0 0 = 48 := by injection h3
          rw [List.getD_eq_getElem?_getD, List.getElem?_eq_getElem (by omega)] at h3
          exact congrArg some h3
      refine qFS O (ev_var rfl) (fun i σ' H' => ∃ x : Option V, σ' = [some (.str (SX.S l)), x] ∧ Own H [] H') (fun H2 O => ⟨none, rfl, O⟩) (fun i c σ' H' hc hP => ?_) (fun σ' H' hP => ?_)
      · obtain ⟨x, rfl, O⟩ := hP
        refine WH O (et_test (ev_op (ev_var rfl) ev_c (rv_notInF figs))) (fun hb H2 O => ?_) (fun hb H2 O => ⟨_, rfl, O⟩)
        rw [decide_eq_true (fig_mem.mpr (hG.2.2 c (List.mem_of_getElem? hc)))] at hb
        cases hb
      · obtain ⟨x, rfl, O⟩ := hP
        refine RT O (ev_intT (ev_var rfl) (SX.int_S (List.all_eq_true.mpr fun c hc => ?_) (fun z => ?_) (by omega)) (by rw [SX.S_len]; omega)) fun H3 O => O.ret k
        · have := hG.2.2 c hc
          rw [decide_eq_true this.1, decide_eq_true this.2] <;> rfl
        · have := hG.1.1
          rw [z] at this
          exact absurd this (by decide)
    ·
      have O : Own H [] H := .start
      have hS : ((SX.S l).length : Int) = (l.length : Int) := by rw [SX.S_len]
      have hL : ∀ {H1 : Hp} {σ : L2.St}, σ[0]? = some (some (.str (SX.S l))) → Ev (tCB rLenT (tCons (tVar 0) tNil)) σ H1 (.int (l.length : Int)) := fun h => ev_is (ev_lenT (ev_var h) (by rw [SX.S_len]; omega)) (congrArg V.int hS)
      refine qWH O (et_or (et_not (et_test (ev_chain ev_c (hL rfl) rv_I0 ev_c rv_I0))) fun _ => et_and (et_test (ev_op (hL rfl) ev_c rv_eqI)) fun h2 => et_test (ev_op (ev_ixS 0 (c := l.getD 0 0) (ev_var rfl) ev_c (by omega) (by
        have h2 : (l.length : Int) = 2 := of_decide_eq_true h2
        rw [List.getD_eq_getElem?_getD, List.getElem?_eq_getElem (by omega)] <;> rfl)) (ev_is ev_c (congrArg V.str z48)) rv_eqT)) (fun hb H1 O => kE H1 O.ex) (fun hb H1 O => ?_)
      rw [Bool.or_eq_false_iff, Bool.not_eq_false', Bool.and_eq_true, decide_eq_true_eq, decide_eq_true_eq, Bool.and_eq_false_iff, decide_eq_false_iff_not, decide_eq_false_iff_not] at hb
      obtain ⟨⟨h1, h2⟩, h3⟩ := hb
      refine qFS O (ev_var rfl) (fun i σ' H' => ∃ x : Option V, σ' = [some (.str (SX.S l)), x] ∧ (∀ j c, j < i → l[j]? = some c → 48 ≤ c ∧ c ≤ 57) ∧ Own H [] H') (fun H2 O => ⟨none, rfl, (fun j c hj => absurd hj (Nat.not_lt_zero j)), O⟩) (fun i c σ' H' hc hP => ?_) (fun σ' H' hP => ?_)
      · obtain ⟨x, rfl, hok, O⟩ := hP
        refine WH O (et_test (ev_op (ev_var rfl) ev_c (rv_notInF figs))) (fun hb H2 O => kE H2 O.ex) (fun hb H2 O => ⟨_, rfl, (fun j d hj hd => ?_), O⟩)
        rw [Bool.not_eq_false', decide_eq_true_eq] at hb
        by_cases ej : j = i
        · rw [ej, hc] at hd
          rw [← Option.some.inj hd]
          exact fig_mem.mp hb
        · exact hok j d (by omega) hd
      · obtain ⟨x, rfl, hok, O⟩ := hP
        refine absurd ⟨by omega, ?_, fun c hc => ?_⟩ hbad
        · rintro ⟨e1, e2⟩
          rcases h3 with h3 | h3
          · omega
          · refine h3 ?_
            rw [List.getD_eq_getElem?_getD, e2]
            rfl
        · obtain ⟨j, hj⟩ := List.getElem?_of_mem hc
          exact hok j c (List.getElem?_eq_some_iff.mp hj).1 hj
/-! #### read -/
def sp_read0 (K : PySem.W.Frag) : Sp := fun vs H Q _ => ∃ (ns : List Int), vs = [.str (SX.S (txt ns))] ∧ IsRow ns ∧ RetL (il ns) H Q
def sp_read (K : PySem.W.Frag) (C : Nat → Addr) : Sp := fun vs H Q E => sp_read0 K vs H Q E ∨ (∃ (t : List Nat), vs = [.str (SX.S t)] ∧ t ≠ [] ∧ t.length ≤ 1000 ∧ Bad t ∧ ∀ H', Ex H H' → E (.ref (C 7)) none H')
theorem el_read {σ : L2.St} {H : Hp} {ta : TE} {ns : List Int} {E : XK} (h1 : Ev ta σ H (.str (SX.S (txt ns)))) (hr : IsRow ns) : EvL (tCall (sp_read K C) [] E (tCons ta tNil)) σ H (il ns) :=
  el_call (ea_cons h1 ea_nil) fun H1 e Q q _ => Or.inl ⟨ns, rfl, hr, q⟩
theorem txt_nil {ns : List Int} (h : txt ns = []) : ns = [] := by
  match ns, h with
  | [], _ => rfl
  | [v], h => exact absurd h (TL.numL_ne _)
  | v :: w :: r, h =>
    have h : wd v ++ ([32] ++ TL.joinL [32] ((w :: r).map wd)) = [] := h
    simp at h
theorem ok_read (T : Bi K mg C) (h_volume_of : Has P w K mg base (L2N.CX P w) "volume_of" 1 ["word"] (sp_volume_of K C)) (df : Def K mg "read" s_read) : Has P w K mg base (L2N.CX P w) "read" 2 ["text"] (sp_read K C) := by
  obtain ⟨f, fd, F, g⟩ := df
  obtain ⟨f_volume_of, fd_volume_of, G_volume_of, g_volume_of, kp_volume_of, bd_volume_of⟩ := h_volume_of
  obtain ⟨t_MOST, g_MOST⟩ := T.c_MOST
  refine ⟨f, fd, okN F sc_read (fun vs H Q E h => ?_) (fun cdv A outer s H vs Q E hr h => ?_), g, F.kp, F.binds fun _ _ _ _ _ _ us hl => match us, hl with | [_], _ => rfl⟩
  · rcases h with ⟨ns, rfl, hR, k⟩ | ⟨t, rfl, hne, hlen, hbad, kE⟩ <;> rfl
  ·
    have hr_volume_of : Room 1 _ := hr.mono (by decide)
    refine ⟨_, (pss_cons (ps_if (pt_cmpR op_eq (pv 0) pe_str (nomark _)) (pss_one (ps_ret (pe_lst pa_nil))) pss_nil)
        (pss_cons (ps_set (i := 1) sc_read.nd rfl (Or.inl rfl) (show PE _ _ (tM1 rSplit _ _) from pe_split (pv 0) pe_str))
        (pss_cons (ps_if (pt_cmpR op_gt (pe_callB (r := rLenS K) call_lenS (by rfl) T.b_len PySem.boot_len (pa_cons (pv 1) pa_nil)) (pe_glob (v := .int 12) rfl g_MOST ⟨_, rfl⟩) (nomark _)) (pss_one (L2N.ps_raise rfl (L2N.takes_of rfl rfl rfl rfl) (L2N.pmk_own PySem.F.excBase_ValueError T.c_NoNote.x T.c_NoNote.g T.c_NoNote.k (raises_own T.c_NoNote.b T.c_NoNote.t) rfl))) pss_nil)
        (pss_one (ps_ret (pe_lcN (W := E) rfl rfl rfl rfl (own := [("word", 2)]) (g := gName 2) (by rfl) sc_read.nd (pi_list (pv 1)) (blkOk_by (own := [("word", 2)]) (N := ["text", "words", "word"]) (sc := defScope s_read) (by decide +kernel)) (fun _ _ _ _ _ => pg_name (i := 2) sc_read.nd rfl (Or.inl rfl)) (fun _ _ _ _ _ _ px => (pe_call G_volume_of hr_volume_of (by rfl) g_volume_of kp_volume_of bd_volume_of .nil px (pa_cons (pv 2) pa_nil))))))))), ?_⟩
    rcases h with ⟨ns, rfl, hR, k⟩ | ⟨t, rfl, hne, hlen, hbad, kE⟩
    ·
      have O : Own H [] H := .start
      have hl := hR.1
      have htl := txt_len hR.2
      refine qWH O (et_test (ev_op (ev_var rfl) (ev_is ev_c (congrArg V.str (show ("" : Str) = SX.S [] from by decide +kernel))) rv_eqT)) (fun hb H1 O => ?_) (fun hb H1 O => ?_)
      · have := txt_nil (of_decide_eq_true hb)
        subst this
        exact RTL O (el_lst ea_nil (Nat.zero_le _)) fun p H2 O => O.retL 0 rfl k
      have hne : ns ≠ [] := fun z => by
        subst z
        exact absurd rfl (of_decide_eq_false hb)
      have hsplit : Txt.split (SX.S (txt ns)) " " = strsL ns := by
        rw [← shown_txt hR.2]
        refine TL.split_join (s := 32) (S := []) (by decide +kernel) (by decide +kernel) (fun z => hne (List.map_eq_nil_iff.mp z)) fun p hp => ?_
        rw [strs_wd hR.2] at hp
        obtain ⟨w, hw, rfl⟩ := List.mem_map.mp hp
        obtain ⟨v, hv, rfl⟩ := List.mem_map.mp hw
        exact TL.numL_free (by decide)
      refine qAL O (el_split (b := " ") (ev_var rfl) ev_c (by decide +kernel) (by rw [SX.S_len]; omega)) fun p H2 O => ?_
      rw [hsplit] at O
      have hsl : ((strsL ns).map V.str).length = ns.length := by unfold strsL; rw [List.length_map, List.length_map]
      refine qWH O (et_test (ev_op (ev_is (ev_len (ev_var rfl) (O.seq 0 rfl)) (congrArg V.int (by rw [hsl]))) ev_c rv_I0)) (fun hb H3 O => ?_) (fun hb H3 O => ?_)
      · have hb : (12 : Int) < (ns.length : Int) := of_decide_eq_true hb
        omega
      have eg : given ((strsL ns).map V.str).length (fun _ => true) (fun i => V.int (gt ns i)) = il ns := by
        rw [hsl]
        have z := given_list ns (fun _ => true) V.int
        rw [filter_yes] at z
        exact z
      refine RTL O (eg ▸ el_lcL (fun _ => true) (fun i => V.int (gt ns i)) (ev_var rfl) (O.seq 0 rfl) (by omega) (fun x => rfl) (fun i x H4 e hi => et_yes) (fun i x H4 e hi _ => ?_)) fun q H4 O => O.retL 0 rfl k
      have hi' : i < ns.length := by
        have := (List.getElem?_eq_some_iff.mp hi).1
        omega
      have hv := hR.2 _ (List.mem_of_getElem? (some_gt hi'))
      have hx : x = V.str (SX.S (wd (gt ns i))) := by
        rw [List.getElem?_map] at hi
        unfold strsL at hi
        rw [List.getElem?_map, some_gt hi'] at hi
        have hi : some (V.str (Str.ofString (toString (gt ns i)))) = some x := hi
        rw [← Option.some.inj hi, str_wd hv.1]
      subst hx
      obtain ⟨g1, g2⟩ := good_wd (gt ns i).toNat (by omega)
      exact ev_is (ec_volume_of (l := wd (gt ns i)) (ev_var rfl) g1) (congrArg V.int (by unfold wd; rw [g2]; exact Int.toNat_of_nonneg hv.1))
    ·
      have O : Own H [] H := .start
      refine qWH O (et_test (ev_op (ev_var rfl) (ev_is ev_c (congrArg V.str (show ("" : Str) = SX.S [] from by decide +kernel))) rv_eqT)) (fun hb H1 O => absurd (of_decide_eq_true hb) hne) (fun hb H1 O => ?_)
      refine qAL O (el_split (b := " ") (ev_var rfl) ev_c (by decide +kernel) (by rw [SX.S_len]; omega)) fun p H2 O => ?_
      rw [split_S] at O
      have hsl : (((cutB t).map SX.S).map V.str).length = (cutB t).length := by rw [List.length_map, List.length_map]
      refine qWH O (et_test (ev_op (ev_is (ev_len (ev_var rfl) (O.seq 0 rfl)) (congrArg V.int (by rw [hsl]))) ev_c rv_I0)) (fun hb H3 O => kE H3 O.ex) (fun hb H3 O => ?_)
      have hb : ¬ (12 : Int) < ((cutB t).length : Int) := of_decide_eq_false hb
      have hat : ∀ i x, (((cutB t).map SX.S).map V.str)[i]? = some x → ∃ q, (cutB t)[i]? = some q ∧ x = V.str (SX.S q) := fun i x hi => by
        rw [List.getElem?_map, List.getElem?_map] at hi
        cases e : (cutB t)[i]? with
        | none => rw [e] at hi; cases hi
        | some q =>
          rw [e] at hi
          exact ⟨q, e, (Option.some.inj hi).symm⟩
      refine LCV O (ev_var rfl) (O.seq 0 rfl) (fun Dl i H' => ∃ acc : List V, acc.length = i ∧ (∀ j q, j < i → (cutB t)[j]? = some q → GoodW q) ∧ Own H [(Dl, acc), (p, ((cutB t).map SX.S).map V.str)] H')
        (fun Dl H1 O => ⟨[], rfl, (fun j q hj => absurd hj (Nat.not_lt_zero j)), O⟩) (fun Dl i H' hP => hP.elim fun _ h => h.2.2.seq 1 rfl) (fun x => rfl) (fun Dl i x H' hi hP => ?_) (fun Dl H' hP => ?_)
      · obtain ⟨acc, hacc, hok, O⟩ := hP
        obtain ⟨q, hq, rfl⟩ := hat i x hi
        refine (ea_cons (ev_var rfl) ea_nil : EvA (tCons (tVar 2) tNil) _ H' [.str (SX.S q)]) H' (Ex.refl H') _ fun H5 e5 => ?_
        have hil := (List.getElem?_eq_some_iff.mp hq).1
        by_cases hg : GoodW q
        · refine Or.inl ⟨q, rfl, hg, fun H6 e6 => ?_⟩
          have O6 := O.mono (e5.trans e6)
          refine ⟨acc, O6.get 0 rfl, sz_lt (by omega), _, by rw [List.length_append, hacc]; rfl, fun j r hj hr => ?_, O6.upd 0 rfl⟩
          by_cases ej : j = i
          · rw [ej, hq] at hr
            rw [← Option.some.inj hr]
            exact hg
          · exact hok j r (by omega) hr
        · refine Or.inr ⟨q, rfl, ?_, hg, fun H6 e6 => kE H6 (O.ex.trans (e5.trans e6))⟩
          exact Nat.le_trans (cutB_le (List.mem_of_getElem? hq)) hlen
      · obtain ⟨acc, hacc, hok, O⟩ := hP
        rw [hsl] at hok
        rcases hbad with hbad | ⟨q, hq, hg⟩
        · omega
        · obtain ⟨j, hj⟩ := List.getElem?_of_mem hq
          exact absurd (hok j q (List.getElem?_eq_some_iff.mp hj).1 hj) hg
/-! #### _law_kind -/
def sp_law_kind (K : PySem.W.Frag) (C : Nat → Addr) : Addr × Obj → Sp := fun p vs H Q _ => ∃ i : Nat, vs = [.ref p.1] ∧ Zc (.ref (C i)) none p.2 ∧ (∃ us, p.2.data = .fields us) ∧ KF K C i ∧ RetV (.str (kindName i)) H Q
theorem rt_kind {i : Nat} (f : KF K C i) {D : Ends} {σ : L2.St} {H : Hp} {b : Addr} {te : TE} (h : Ev te σ H (.ref b)) (k : ∀ H', Ex H H' → D.rt (.str (kindName i)) H') : tRet (tCallP (sp_law_kind K C) b (.ref (C i)) none te) D σ H := by
  show tCallP (sp_law_kind K C) b (.ref (C i)) none te σ H D.rt
  refine (ea_cons h ea_nil : EvA (tCons te tNil) σ H [.ref b]) H (Ex.refl H) _ fun H3 e3 => ⟨rfl, fun oe hz hf => ⟨i, rfl, hz, hf, f, fun H4 e4 => k H4 (e3.trans e4)⟩⟩
theorem ok_law_kind (T : Bi K mg C) (df : Def K mg "_law_kind" s_law_kind) : HasP P w K mg base "_law_kind" 1 ["e"] (sp_law_kind K C) := by
  obtain ⟨f, fd, F, g⟩ := df
  refine ⟨f, fd, okP F sc_law_kind (fun p vs H Q E h => ?_) (fun p cdv A outer s H vs Q E hr h => ?_), g, F.kp, F.binds fun _ _ _ _ _ _ us hl => match us, hl with | [_], _ => rfl⟩
  · obtain ⟨i, rfl, hz, hf, hK, k⟩ := h; rfl
  · obtain ⟨i, rfl, hz, hf, hK, k⟩ := h
    refine ⟨_, (pss_cons (ps_set (i := 1) sc_law_kind.nd rfl (Or.inl rfl) (pe_lst (pa_cons (pe_callB (r := rIsP K p.1 _) (call_isP (show (p.1, p.2) ∈ [p] from List.mem_cons_self) hK.c hz hf) (by rfl) T.b_isinstance (by decide +kernel) (pa_cons (pv 0) (pa_cons (pe_glob (v := .ref _) rfl T.g_NoRow rfl) pa_nil))) (pa_cons (pe_callB (r := rIsP K p.1 _) (call_isP (show (p.1, p.2) ∈ [p] from List.mem_cons_self) hK.c hz hf) (by rfl) T.b_isinstance (by decide +kernel) (pa_cons (pv 0) (pa_cons (pe_glob (v := .ref _) rfl T.g_NoPlace rfl) pa_nil))) (pa_cons (pe_callB (r := rIsP K p.1 _) (call_isP (show (p.1, p.2) ∈ [p] from List.mem_cons_self) hK.c hz hf) (by rfl) T.b_isinstance (by decide +kernel) (pa_cons (pv 0) (pa_cons (pe_glob (v := .ref _) rfl T.g_NotFull rfl) pa_nil))) (pa_cons (pe_callB (r := rIsP K p.1 _) (call_isP (show (p.1, p.2) ∈ [p] from List.mem_cons_self) hK.c hz hf) (by rfl) T.b_isinstance (by decide +kernel) (pa_cons (pv 0) (pa_cons (pe_glob (v := .ref _) rfl T.g_NoCode rfl) pa_nil))) pa_nil))))))
        (pss_cons (ps_set (i := 1) sc_law_kind.nd rfl (Or.inl rfl) (pe_op op_cat (pv 1) (pe_lst (pa_cons (pe_callB (r := rIsP K p.1 _) (call_isP (show (p.1, p.2) ∈ [p] from List.mem_cons_self) hK.c hz hf) (by rfl) T.b_isinstance (by decide +kernel) (pa_cons (pv 0) (pa_cons (pe_glob (v := .ref _) rfl T.g_NoRank rfl) pa_nil))) (pa_cons (pe_callB (r := rIsP K p.1 _) (call_isP (show (p.1, p.2) ∈ [p] from List.mem_cons_self) hK.c hz hf) (by rfl) T.b_isinstance (by decide +kernel) (pa_cons (pv 0) (pa_cons (pe_glob (v := .ref _) rfl T.g_NoAmount rfl) pa_nil))) (pa_cons (pe_callB (r := rIsP K p.1 _) (call_isP (show (p.1, p.2) ∈ [p] from List.mem_cons_self) hK.c hz hf) (by rfl) T.b_isinstance (by decide +kernel) (pa_cons (pv 0) (pa_cons (pe_glob (v := .ref _) rfl T.g_NoNote rfl) pa_nil))) pa_nil))))))
        (pss_cons (ps_if (PW.pt (pw_or (pt_not (pt_val (pe_callB (r := rIsP K p.1 _) (call_isP (show (p.1, p.2) ∈ [p] from List.mem_cons_self) hK.c hz hf) (by rfl) T.b_isinstance (by decide +kernel) (pa_cons (pv 0) (pa_cons (pe_bltn (v := .ty "ValueError") (by rfl) T.b_ValueError (by decide +kernel) rfl) pa_nil))))) (pw_or1 (pt_cmpR op_ne (show PE _ _ (tBM K "list" (rCntV K) _ (tCons _ tNil)) from pe_bm PySem.F.plainAttrs_list PySem.F.slot_list_count PySem.F.type_list_count mt_cntV (pv 1) (pa_cons pe_bl pa_nil)) pe_int (nomark _))))) (pss_one (ps_ret pe_str)) pss_nil)
        (pss_one (ps_ret (pe_ix (r := rIxL K) ix_list (pe_lst (pa_cons pe_str (pa_cons pe_str (pa_cons pe_str (pa_cons pe_str (pa_cons pe_str (pa_cons pe_str (pa_cons pe_str pa_nil)))))))) (show PE _ _ (tBM K "list" (rIndex K) _ (tCons _ tNil)) from pe_bm PySem.F.plainAttrs_list PySem.F.slot_list_index PySem.F.type_list_index mt_index (pv 1) (pa_cons pe_bl pa_nil)) (fun _ _ => rfl))))))), ?_⟩
    have O : Own H [] H := .start
    have kt : ∀ j, 1 ≤ j → j ≤ 7 → ∀ {σ H te}, Ev te σ H (.ref p.1) → Ev (tCB (rIsP K p.1 (C i)) (tCons te (tCons (tC (.ref (C j))) tNil))) σ H (.bl (decide (i = j))) := fun j h1 h2 σ H te h => ev_isP h (fun u r => r) (hK.kit j h1 h2)
    have hi : i = 1 ∨ i = 2 ∨ i = 3 ∨ i = 4 ∨ i = 5 ∨ i = 6 ∨ i = 7 := by
      have := hK.lo
      have := hK.hi
      omega
    refine qAL O (el_lst (ea_cons (kt 1 (by decide) (by decide) (ev_var rfl)) (ea_cons (kt 2 (by decide) (by decide) (ev_var rfl)) (ea_cons (kt 3 (by decide) (by decide) (ev_var rfl)) (ea_cons (kt 4 (by decide) (by decide) (ev_var rfl)) ea_nil)))) (by show 4 ≤ 100000; decide)) fun q H1 O => ?_
    refine qAL O (el_catRN' (ev_var rfl) (O.get 0 rfl) (el_lst (ea_cons (kt 5 (by decide) (by decide) (ev_var rfl)) (ea_cons (kt 6 (by decide) (by decide) (ev_var rfl)) (ea_cons (kt 7 (by decide) (by decide) (ev_var rfl)) ea_nil))) (by show 3 ≤ 100000; decide)) (by show 4 + 3 ≤ 100000; decide)) fun q2 H2 O => ?_
    obtain ⟨m, hm7, hnm, h1, h2, h3⟩ : ∃ m : Nat, m < 7 ∧ kindName i = (["row", "place", "full", "code", "rank", "amount", "note"] : List Str).getD m "" ∧
        ([V.bl (decide (i = 1)), V.bl (decide (i = 2)), V.bl (decide (i = 3)), V.bl (decide (i = 4))] ++ [V.bl (decide (i = 5)), V.bl (decide (i = 6)), V.bl (decide (i = 7))]).countP (fun z => eqV z (.bl true)) = 1 ∧
        ([V.bl (decide (i = 1)), V.bl (decide (i = 2)), V.bl (decide (i = 3)), V.bl (decide (i = 4))] ++ [V.bl (decide (i = 5)), V.bl (decide (i = 6)), V.bl (decide (i = 7))])[m]? = some (.bl true) ∧
        (([V.bl (decide (i = 1)), V.bl (decide (i = 2)), V.bl (decide (i = 3)), V.bl (decide (i = 4))] ++ [V.bl (decide (i = 5)), V.bl (decide (i = 6)), V.bl (decide (i = 7))]).take m).all (fun z => !eqV z (.bl true)) = true := by
      rcases hi with rfl | rfl | rfl | rfl | rfl | rfl | rfl
      · exact ⟨0, by decide, rfl, rfl, rfl, rfl⟩
      · exact ⟨1, by decide, rfl, rfl, rfl, rfl⟩
      · exact ⟨2, by decide, rfl, rfl, rfl, rfl⟩
      · exact ⟨3, by decide, rfl, rfl, rfl, rfl⟩
      · exact ⟨4, by decide, rfl, rfl, rfl, rfl⟩
      · exact ⟨5, by decide, rfl, rfl, rfl, rfl⟩
      · exact ⟨6, by decide, rfl, rfl, rfl, rfl⟩
    refine qWH O (et_or (et_not (et_B (ev_isP (ev_var rfl) (fun u r => r) hK.v))) fun _ => et_test (ev_op (ev_cntV (ev_var rfl) (O.seq 0 rfl) ev_c rfl rfl) ev_c rv_neI)) (fun hb H4 O => ?_) (fun hb H4 O => ?_)
    · rw [h1] at hb
      cases hb
    · refine RT O (v := .str (kindName i)) (ev_opL1 (el_lst (ea_cons ev_c (ea_cons ev_c (ea_cons ev_c (ea_cons ev_c (ea_cons ev_c (ea_cons ev_c (ea_cons ev_c ea_nil))))))) (by show 7 ≤ 100000; decide)) (fun H5 e5 => ev_idxV m (ev_var rfl) (ex_l e5 (O.seq 0 rfl)) ev_c rfl rfl h2 rfl h3) fun x H6 hx _ => rv_ixL (sq_of hx) (atI_nat ?_)) fun H5 O => O.ret k
      rw [hnm]
      obtain rfl | rfl | rfl | rfl | rfl | rfl | rfl : m = 0 ∨ m = 1 ∨ m = 2 ∨ m = 3 ∨ m = 4 ∨ m = 5 ∨ m = 6 := by omega
      all_goals rfl
/-! #### _law_tried -/
def sp_law_tried (K : PySem.W.Frag) : Sp := fun vs H Q _ => ∃ (t : List Nat) (s : Str), vs = [.str (SX.S t)] ∧ ((∃ ns, IsRow ns ∧ t = txt ns ∧ s = "read") ∨ (t ≠ [] ∧ t.length ≤ 1000 ∧ Bad t ∧ s = "note")) ∧ RetV (.str s) H Q
theorem ec_law_tried {σ : L2.St} {H : Hp} {ta : TE} {t : List Nat} {E : XK} (s : Str) (h1 : Ev ta σ H (.str (SX.S t))) (hs : (∃ ns, IsRow ns ∧ t = txt ns ∧ s = "read") ∨ (t ≠ [] ∧ t.length ≤ 1000 ∧ Bad t ∧ s = "note")) : Ev (tCall (sp_law_tried K) [] E (tCons ta tNil)) σ H (.str s) :=
  ev_call (ea_cons h1 ea_nil) fun H1 e Q q _ => ⟨t, s, rfl, hs, q⟩
theorem ok_law_tried (T : Bi K mg C) (h_read : Has P w K mg base (L2N.CX P w) "read" 2 ["text"] (sp_read K C)) (h_law_kind : HasP P w K mg base "_law_kind" 1 ["e"] (sp_law_kind K C)) (df : Def K mg "_law_tried" s_law_tried) : Has P w K mg base CX0 "_law_tried" 3 ["text"] (sp_law_tried K) := by
  obtain ⟨f, fd, F, g⟩ := df
  obtain ⟨f_read, fd_read, G_read, g_read, kp_read, bd_read⟩ := h_read
  obtain ⟨f_law_kind, fd_law_kind, G_law_kind, g_law_kind, kp_law_kind, bd_law_kind⟩ := h_law_kind
  refine ⟨f, fd, F.ok sc_law_tried (fun vs H Q E h => ?_) (fun cdv A outer s H vs Q E hr h => ?_), g, F.kp, F.binds fun _ _ _ _ _ _ us hl => match us, hl with | [_], _ => rfl⟩
  · obtain ⟨t, s, rfl, hs, k⟩ := h; rfl
  · obtain ⟨t, s, rfl, hs, k⟩ := h
    have hr_read : Room 2 _ := hr.mono (by decide)
    have hr_law_kind : Room 1 _ := hr.mono (by decide)
    refine ⟨_, (pss_cons (L2N.ps_try_as (i := 1) rfl rfl sc_law_tried.nd rfl rfl ⟨rfl, by decide, .inl T.g_ShelfError⟩ takes0N (fun W pn xe tk _ => (pss_one (ps_expr (pe_callS G_read hr_read (by rfl) g_read kp_read bd_read (fun σ => L2N.passAt tk σ) (pa_cons (pv 0) pa_nil))))) (fun a oe cls d pn hz hf => (pss_one (ps_ret (pe_callP List.mem_cons_self hz hf G_law_kind ⟨hr_law_kind.dp, hr_law_kind.un⟩ (by rfl) g_law_kind kp_law_kind bd_law_kind (pv 1))))))
        (pss_one (ps_ret pe_str))), ?_⟩
    refine qTRYD (ea_cons (ev_var rfl) ea_nil) fun H1 e => ?_
    rcases hs with ⟨ns, hR, rfl, rfl⟩ | ⟨h0, h1, hb, rfl⟩
    · refine Or.inl ⟨ns, rfl, hR, fun p H2 hp e2 h => ?_⟩
      exact RT (.of_ex (e.trans e2)) ev_c fun H3 O => O.ret k
    · refine Or.inr ⟨t, rfl, h0, h1, hb, fun H2 e2 => ⟨true, T.c_NoNote.e, fun _ b hb => ?_, fun q => nomatch q⟩⟩
      exact rt_kind (te := tVar 1) (kf_NoNote T) (ev_var rfl) fun H3 e3 => k H3 ((e.trans e2).trans e3)
/-! #### _law_text -/
def sp_law_text (K : PySem.W.Frag) : Sp := fun vs H Q _ => ∃ (a : Addr) (ns : List Int), vs = [.ref a] ∧ SqL K H a (il ns) ∧ IsRow ns ∧ RetV (.str (SX.S (txt ns))) H Q
theorem ec_law_text {σ : L2.St} {H : Hp} {ta : TE} {a : Addr} {ns : List Int} {E : XK} (h1 : Ev ta σ H (.ref a)) (hx : SqL K H a (il ns)) (hr : IsRow ns) : Ev (tCall (sp_law_text K) [] E (tCons ta tNil)) σ H (.str (SX.S (txt ns))) :=
  ev_call (ea_cons h1 ea_nil) fun H1 e Q q _ => ⟨a, ns, rfl, ex_l e hx, hr, q⟩
theorem ok_law_text (T : Bi K mg C) (df : Def K mg "_law_text" s_law_text) : Has P w K mg base CX0 "_law_text" 1 ["row"] (sp_law_text K) := by
  obtain ⟨f, fd, F, g⟩ := df
  refine ⟨f, fd, F.ok sc_law_text (fun vs H Q E h => ?_) (fun cdv A outer s H vs Q E hr h => ?_), g, F.kp, F.binds fun _ _ _ _ _ _ us hl => match us, hl with | [_], _ => rfl⟩
  · obtain ⟨a, ns, rfl, hS, hR, k⟩ := h; rfl
  · obtain ⟨a, ns, rfl, hS, hR, k⟩ := h
    refine ⟨_, (pss_cons (ps_set (i := 1) sc_law_text.nd rfl (Or.inl rfl) pe_str)
        (pss_cons (ps_for PassesOwn.never rfl (pi_range1 rfl T.b_range (pa_cons (pe_callB (r := rLenS K) call_lenS (by rfl) T.b_len PySem.boot_len (pa_cons (pv 0) pa_nil)) pa_nil)) (pg_name (i := 2) sc_law_text.nd rfl (Or.inl rfl))
         (pss_cut (ps_if (pt_cmpR op_gt (pv 2) pe_int (nomark _)) (pss_one (ps_set (i := 1) sc_law_text.nd rfl (Or.inl rfl) (pe_op (r := rAddS) op_add_str (pv 1) pe_str))) pss_nil)
         (pss_one (ps_set (i := 1) sc_law_text.nd rfl (Or.inl rfl) (pe_op (r := rAddS) op_add_str (pv 1) (pe_callTy (r := rStrI) call_str_int (by rfl) T.b_str (by decide +kernel) (pa_cons (pe_ix (r := rIxL K) ix_list (pv 0) (pv 2) (fun _ _ => rfl)) pa_nil)))))))
        (pss_one (ps_ret (pv 1))))), ?_⟩
    have O : Own H [] H := .start
    have hl := hR.1
    refine qAS O (ev_is ev_c (w := .str (SX.S [])) (congrArg V.str (show ("" : Str) = SX.S [] from by decide +kernel))) fun H1 O => ?_
    refine qFR O (ea_cons (ev_lenI (ev_var rfl) (O.arg hS)) ea_nil) ⟨by omega, by omega⟩ (fun i σ' H' => ∃ x : Option V, σ' = [some (.ref a), some (.str (SX.S (txt (ns.take i)))), x] ∧ Own H [] H') (fun H2 O => ⟨none, rfl, O⟩) (fun i σ' H' hi hP => ?_) (fun σ' H' hP => ?_)
    · obtain ⟨x, rfl, O⟩ := hP
      have hi : i < ns.length := by omega
      have hv := hR.2 _ (List.mem_of_getElem? (some_gt hi))
      have htl : (txt (ns.take i)).length ≤ 36 := by
        have h1 := txt_len (ns := ns.take i) fun v hv => hR.2 v (List.mem_of_mem_take hv)
        have h2 := List.length_take_le i ns
        omega
      have hwl := wd_len hv
      have hnext : txt (ns.take (i + 1)) = (if 0 < i then txt (ns.take i) ++ [32] else txt (ns.take i)) ++ wd (gt ns i) := by
        unfold txt
        rw [List.take_add_one, some_gt hi]
        show TL.joinL [32] ((ns.take i ++ [gt ns i]).map wd) = _
        rw [List.map_append]
        by_cases h0 : 0 < i
        · rw [if_pos h0]
          refine joinL_snoc _ _ _ fun z => ?_
          have := congrArg List.length z
          rw [List.length_map, List.length_take] at this
          have h9 : min i ns.length = 0 := this
          rw [Nat.min_eq_left (by omega)] at h9
          omega
        · rw [if_neg h0, show i = 0 by omega]
          rfl
      refine q_cut (M := fun σ' H' => σ' = [some (.ref a), some (.str (SX.S (if 0 < i then txt (ns.take i) ++ [32] else txt (ns.take i)))), some (.int (i : Int))] ∧ Own H [] H') ?_ (fun σ' H' hM => ?_)
      · refine WH O (et_test (ev_op (ev_var rfl) ev_c rv_I0)) (fun hb H3 O => ?_) (fun hb H3 O => ?_)
        · have hb : 0 < i := by have := of_decide_eq_true hb; omega
          refine AS O (ev_is (ev_op (ev_var rfl) (ev_is ev_c (congrArg V.str sp_S)) (rv_addS (by rw [SX.S_len, SX.S_len, List.length_singleton]; omega))) (congrArg V.str (SX.S_cat _ _))) fun H4 O => ⟨?_, O⟩
          rw [if_pos hb]
          rfl
        · have hb : ¬ 0 < i := by have := of_decide_eq_false hb; omega
          refine ⟨?_, O⟩
          rw [if_neg hb]
          rfl
      · obtain ⟨rfl, O⟩ := hM
        have hl2 : (if 0 < i then txt (ns.take i) ++ [32] else txt (ns.take i)).length ≤ 40 := by
          split
          · rw [List.length_append, List.length_singleton]; omega
          · omega
        rw [hnext]
        generalize (if 0 < i then txt (ns.take i) ++ [32] else txt (ns.take i)) = t at *
        refine AS O (ev_is (ev_op (ev_var rfl) (ev_is (ev_strI (ev_ix (ev_var rfl) (O.arg hS) (ev_var rfl) hi) (log_row hv)) (congrArg V.str (str_wd hv.1))) (rv_addS (by rw [SX.S_len, SX.S_len]; omega))) (congrArg V.str (SX.S_cat _ _))) fun H4 O => ⟨_, rfl, O⟩
    · obtain ⟨x, rfl, O⟩ := hP
      rw [Int.toNat_natCast, List.take_length]
      exact RT O (ev_var rfl) fun H4 O => O.ret k
/-! #### law -/
def sp_law (K : PySem.W.Frag) : Sp := fun vs H Q _ => ∃ (a : Addr) (ns : List Int), vs = [.ref a] ∧ SqL K H a (ns.map V.int) ∧ ns.length ≤ 63 ∧ ∀ H', Q (.bl true) H'
theorem ok_law (T : Bi K mg C) (h_law_row : Has P w K mg base CX0 "_law_row" 2 ["script", "most"] (sp_law_row K)) (h_law_cell_at : Has P w K mg base CX0 "_law_cell_at" 1 ["script", "k"] (sp_law_cell_at K)) (h_law_spoiled : Has P w K mg base CX0 "_law_spoiled" 1 ["words", "way", "cell"] (sp_law_spoiled K)) (h_law_tried : Has P w K mg base CX0 "_law_tried" 3 ["text"] (sp_law_tried K)) (h_law_text : Has P w K mg base CX0 "_law_text" 1 ["row"] (sp_law_text K)) {f : Addr} {fd : FuncData} (F : Fun K "law" "law" s_law f fd) : FnOk P w K mg base CX0 4 f fd ["script"] (sp_law K) := by
  obtain ⟨f_law_row, fd_law_row, G_law_row, g_law_row, kp_law_row, bd_law_row⟩ := h_law_row
  obtain ⟨f_law_cell_at, fd_law_cell_at, G_law_cell_at, g_law_cell_at, kp_law_cell_at, bd_law_cell_at⟩ := h_law_cell_at
  obtain ⟨f_law_spoiled, fd_law_spoiled, G_law_spoiled, g_law_spoiled, kp_law_spoiled, bd_law_spoiled⟩ := h_law_spoiled
  obtain ⟨f_law_tried, fd_law_tried, G_law_tried, g_law_tried, kp_law_tried, bd_law_tried⟩ := h_law_tried
  obtain ⟨f_law_text, fd_law_text, G_law_text, g_law_text, kp_law_text, bd_law_text⟩ := h_law_text
  refine F.ok sc_law (fun vs H Q E h => ?_) (fun cdv A outer s H vs Q E hr h => ?_)
  · obtain ⟨a, ns, rfl, hS, hlen, k⟩ := h; rfl
  · obtain ⟨a, ns, rfl, hS, hlen, k⟩ := h
    have hr_law_row : Room 2 _ := hr.mono (by decide)
    have hr_law_cell_at : Room 1 _ := hr.mono (by decide)
    have hr_law_spoiled : Room 1 _ := hr.mono (by decide)
    have hr_law_tried : Room 3 _ := hr.mono (by decide)
    have hr_law_text : Room 1 _ := hr.mono (by decide)
    refine ⟨_, (pss_cons (ps_set (i := 1) sc_law.nd rfl (Or.inl rfl) (pe_call G_law_row hr_law_row (by rfl) g_law_row kp_law_row bd_law_row .nil pass0 (pa_cons (pe_op op_cat (pe_lst (pa_cons (pe_op op_add pe_int (pe_op op_mod (pe_call G_law_cell_at hr_law_cell_at (by rfl) g_law_cell_at kp_law_cell_at bd_law_cell_at .nil pass0 (pa_cons (pv 0) (pa_cons pe_int pa_nil))) pe_int)) pa_nil)) (pe_slice (r := rSlL K) sl_list (pv 0) (po_some pe_int) po_none)) (pa_cons pe_int pa_nil))))
        (pss_cons (ps_setLc (i := 2) (own := [("volume", 4)]) (g := gName 4) (by rfl) sc_law.nd rfl rfl (sw_true rfl rfl rfl (by decide +kernel)) (pi_list (pv 1)) (blkOk_by (own := [("volume", 4)]) (N := ["script", "row", "words", "bad", "volume"]) (sc := defScope s_law) (by decide +kernel)) (fun _ _ _ _ _ => pg_name (i := 4) sc_law.nd rfl (Or.inl rfl)) (fun _ _ _ _ _ => pts_nil) (fun _ _ _ _ _ => (pe_callTy (r := rStrI) call_str_int (by rfl) T.b_str (by decide +kernel) (pa_cons (pv 4) pa_nil))))
        (pss_cons (ps_set (i := 3) sc_law.nd rfl (Or.inl rfl) (pe_call G_law_spoiled hr_law_spoiled (by rfl) g_law_spoiled kp_law_spoiled bd_law_spoiled .nil pass0 (pa_cons (pv 2) (pa_cons (pe_op op_mod (pe_call G_law_cell_at hr_law_cell_at (by rfl) g_law_cell_at kp_law_cell_at bd_law_cell_at .nil pass0 (pa_cons (pv 0) (pa_cons pe_int pa_nil))) pe_int) (pa_cons (pe_op op_mod (pe_call G_law_cell_at hr_law_cell_at (by rfl) g_law_cell_at kp_law_cell_at bd_law_cell_at .nil pass0 (pa_cons (pv 0) (pa_cons pe_int pa_nil))) pe_int) pa_nil)))))
        (pss_cut (ps_if (pt_cmpR op_eq (pv 3) pe_str (nomark _)) (pss_one (ps_set (i := 3) sc_law.nd rfl (Or.inl rfl) pe_str)) pss_nil)
        (pss_cons (ps_if (PW.pt (pw_or (pt_cmpR op_ne (pe_call G_law_tried hr_law_tried (by rfl) g_law_tried kp_law_tried bd_law_tried .nil pass0 (pa_cons (pv 3) pa_nil)) pe_str (nomark _)) (pw_or1 (pt_cmpR op_ne (pe_call G_law_tried hr_law_tried (by rfl) g_law_tried kp_law_tried bd_law_tried .nil pass0 (pa_cons (pv 3) pa_nil)) pe_str (nomark _))))) (pss_one (ps_ret pe_bl)) pss_nil)
        (pss_one (ps_ret (pe_cmpR op_eq (pe_call G_law_tried hr_law_tried (by rfl) g_law_tried kp_law_tried bd_law_tried .nil pass0 (pa_cons (pe_call G_law_text hr_law_text (by rfl) g_law_text kp_law_text bd_law_text .nil pass0 (pa_cons (pv 1) pa_nil)) pa_nil)) pe_str (nomark _))))))))), ?_⟩
    have O : Own H [] H := .start
    have hc0 : 0 ≤ gt ns 0 % 12 := Int.emod_nonneg _ (by decide)
    have hc1 : gt ns 0 % 12 < 12 := Int.emod_lt_of_pos _ (by decide)
    have es : [V.int (1 + gt ns 0 % 12)] ++ il (ns.drop 1) = il ((1 + gt ns 0 % 12) :: ns.drop 1) := rfl
    refine qACN O (es ▸ el_catNN (el_lst (ea_cons (ev_op ev_c (ev_op (ec_law_cell_at (ev_var rfl) hS ev_c (by decide)) ev_c (rv_I (by decide))) rv_I0) ea_nil) (by show 1 ≤ 100000; decide)) (sl_from (k := 1) (ev_var rfl) hS (eo_some ev_c)) (by rw [List.length_map, List.length_drop]; show 1 + _ ≤ _; omega)) (fun _ _ => ev_c) fun s0 H1 O => ⟨s0, _, rfl, O.seq 0 rfl, fun row hR hrl p H2 hp e h => ?_⟩
    have O := O.new hp e h
    have hl := hR.1
    have hpos : 0 < row.length := by
      have hrl : (row.length : Int) = (1 + gt ns 0 % 12) % 13 := hrl
      omega
    have e0 : (row.filter fun _ => true).map (fun v => V.str (toString v)) = wl (row.map wd) := by
      rw [filter_yes]
      have z := strs_wd hR.2
      have z2 := congrArg (fun l => l.map V.str) z
      rw [wl_S] at z2
      rw [← z2]
      unfold strsL
      rw [List.map_map]
      rfl
    refine qAL O (e0 ▸ lcL (ns := row) (fun _ => true) (fun v => V.str (toString v)) (ev_var rfl) (O.seq 0 rfl) (by omega) (fun x => rfl) (fun x _ H3 e => et_yes) (fun x hx H3 e _ => ev_strI (ev_var rfl) (log_row (hR.2 x hx)))) fun q H3 O => ?_
    refine qAC O (ea_cons (ev_var rfl) (ea_cons (ev_op (ec_law_cell_at (ev_var rfl) (O.arg hS) ev_c (by decide)) ev_c (rv_I (by decide))) (ea_cons (ev_op (ec_law_cell_at (ev_var rfl) (O.arg hS) ev_c (by decide)) ev_c (rv_I (by decide))) ea_nil))) fun H4 O => ⟨q, row, _, _, rfl, O.get 0 rfl, hR, hpos, fun t hbad htl H5 e5 => ?_⟩
    have O := O.mono e5
    refine q_cut (M := fun σ' H' => ∃ t : List Nat, σ' = [some (.ref a), some (.ref p), some (.ref q), some (.str (SX.S t)), none] ∧ (t ≠ [] ∧ t.length ≤ 1000 ∧ Bad t) ∧ Own H [(q, wl (row.map wd)), (p, il row), (s0, il ((1 + gt ns 0 % 12) :: ns.drop 1))] H') ?_ (fun σ' H' hM => ?_)
    · refine WH O (et_test (ev_op (ev_var rfl) (ev_cS (l := []) (by decide +kernel)) rv_eqT)) (fun _ H6 O => ?_) (fun hb H6 O => ?_)
      · exact AS O (ev_cS (l := [32]) (by decide +kernel)) fun H7 O => ⟨[32], rfl, ⟨by decide, by decide, .inr bad_start⟩, O⟩
      · exact ⟨t, rfl, ⟨of_decide_eq_false hb, by omega, hbad⟩, O⟩
    · obtain ⟨t, rfl, ht, O⟩ := hM
      refine qWH O (et_or (et_test (ev_op (ec_law_tried "note" (ev_var rfl) (.inr ⟨ht.1, ht.2.1, ht.2.2, rfl⟩)) ev_c rv_neS)) fun _ => et_test (ev_op (ec_law_tried "note" (ev_var rfl) (.inr ⟨ht.1, ht.2.1, ht.2.2, rfl⟩)) ev_c rv_neS)) (fun hb H7 O => ?_) (fun hb H7 O => ?_)
      · simp at hb
      exact RT O (ev_op (ec_law_tried "read" (ec_law_text (ev_var rfl) (O.seq 1 rfl) hR) (.inl ⟨row, hR, rfl, rfl⟩)) ev_c rv_eqS) fun H8 _ => k H8
end
theorem all_mk {l : PySem.W.OpenLaw} {w : World} {K : PySem.W.Frag} {h : Heap} {mg : Str → Option Value} {fa : Addr} (X : K.In h) (G : h.Ns mainGlobals mg) (hfa : mg "law" = some (.ref fa))
    {f0 : Addr} {od0 an0 : Option Addr} {sl0 : Array (Option Value)} {oc0 kV0 dc0 pm0 cd0 ct0 : Value}
    (a0 : PySem.W.nsIn K mainGlobals "_law_cell_at" = some (some (.ref f0))) (l0 : K.lookup f0 = some ⟨oc0, od0, .func (PySem.W.fnOf "_law_cell_at" "_law_cell_at" (defArgs s_law_cell_at) (defBody s_law_cell_at) (defScope s_law_cell_at) .none kV0 dc0 pm0 an0 cd0 ct0), sl0⟩) (c0 : PySem.W.codeIn K cd0 "_law_cell_at" = true) (k0 : PySem.W.keepIn K (.ref f0) = true)
    {f1 : Addr} {od1 an1 : Option Addr} {sl1 : Array (Option Value)} {oc1 kV1 dc1 pm1 cd1 ct1 : Value}
    (a1 : PySem.W.nsIn K mainGlobals "_law_next" = some (some (.ref f1))) (l1 : K.lookup f1 = some ⟨oc1, od1, .func (PySem.W.fnOf "_law_next" "_law_next" (defArgs s_law_next) (defBody s_law_next) (defScope s_law_next) .none kV1 dc1 pm1 an1 cd1 ct1), sl1⟩) (c1 : PySem.W.codeIn K cd1 "_law_next" = true) (k1 : PySem.W.keepIn K (.ref f1) = true)
    {f2 : Addr} {od2 an2 : Option Addr} {sl2 : Array (Option Value)} {oc2 kV2 dc2 pm2 cd2 ct2 : Value}
    (a2 : PySem.W.nsIn K mainGlobals "_law_row" = some (some (.ref f2))) (l2 : K.lookup f2 = some ⟨oc2, od2, .func (PySem.W.fnOf "_law_row" "_law_row" (defArgs s_law_row) (defBody s_law_row) (defScope s_law_row) .none kV2 dc2 pm2 an2 cd2 ct2), sl2⟩) (c2 : PySem.W.codeIn K cd2 "_law_row" = true) (k2 : PySem.W.keepIn K (.ref f2) = true)
    {f3 : Addr} {od3 an3 : Option Addr} {sl3 : Array (Option Value)} {oc3 kV3 dc3 pm3 cd3 ct3 : Value}
    (a3 : PySem.W.nsIn K mainGlobals "_law_spoiled" = some (some (.ref f3))) (l3 : K.lookup f3 = some ⟨oc3, od3, .func (PySem.W.fnOf "_law_spoiled" "_law_spoiled" (defArgs s_law_spoiled) (defBody s_law_spoiled) (defScope s_law_spoiled) .none kV3 dc3 pm3 an3 cd3 ct3), sl3⟩) (c3 : PySem.W.codeIn K cd3 "_law_spoiled" = true) (k3 : PySem.W.keepIn K (.ref f3) = true)
    {f4 : Addr} {od4 an4 : Option Addr} {sl4 : Array (Option Value)} {oc4 kV4 dc4 pm4 cd4 ct4 : Value}
    (a4 : PySem.W.nsIn K mainGlobals "volume_of" = some (some (.ref f4))) (l4 : K.lookup f4 = some ⟨oc4, od4, .func (PySem.W.fnOf "volume_of" "volume_of" (defArgs s_volume_of) (defBody s_volume_of) (defScope s_volume_of) .none kV4 dc4 pm4 an4 cd4 ct4), sl4⟩) (c4 : PySem.W.codeIn K cd4 "volume_of" = true) (k4 : PySem.W.keepIn K (.ref f4) = true)
    {f5 : Addr} {od5 an5 : Option Addr} {sl5 : Array (Option Value)} {oc5 kV5 dc5 pm5 cd5 ct5 : Value}
    (a5 : PySem.W.nsIn K mainGlobals "read" = some (some (.ref f5))) (l5 : K.lookup f5 = some ⟨oc5, od5, .func (PySem.W.fnOf "read" "read" (defArgs s_read) (defBody s_read) (defScope s_read) .none kV5 dc5 pm5 an5 cd5 ct5), sl5⟩) (c5 : PySem.W.codeIn K cd5 "read" = true) (k5 : PySem.W.keepIn K (.ref f5) = true)
    {f6 : Addr} {od6 an6 : Option Addr} {sl6 : Array (Option Value)} {oc6 kV6 dc6 pm6 cd6 ct6 : Value}
    (a6 : PySem.W.nsIn K mainGlobals "_law_kind" = some (some (.ref f6))) (l6 : K.lookup f6 = some ⟨oc6, od6, .func (PySem.W.fnOf "_law_kind" "_law_kind" (defArgs s_law_kind) (defBody s_law_kind) (defScope s_law_kind) .none kV6 dc6 pm6 an6 cd6 ct6), sl6⟩) (c6 : PySem.W.codeIn K cd6 "_law_kind" = true) (k6 : PySem.W.keepIn K (.ref f6) = true)
    {f7 : Addr} {od7 an7 : Option Addr} {sl7 : Array (Option Value)} {oc7 kV7 dc7 pm7 cd7 ct7 : Value}
    (a7 : PySem.W.nsIn K mainGlobals "_law_tried" = some (some (.ref f7))) (l7 : K.lookup f7 = some ⟨oc7, od7, .func (PySem.W.fnOf "_law_tried" "_law_tried" (defArgs s_law_tried) (defBody s_law_tried) (defScope s_law_tried) .none kV7 dc7 pm7 an7 cd7 ct7), sl7⟩) (c7 : PySem.W.codeIn K cd7 "_law_tried" = true) (k7 : PySem.W.keepIn K (.ref f7) = true)
    {f8 : Addr} {od8 an8 : Option Addr} {sl8 : Array (Option Value)} {oc8 kV8 dc8 pm8 cd8 ct8 : Value}
    (a8 : PySem.W.nsIn K mainGlobals "_law_text" = some (some (.ref f8))) (l8 : K.lookup f8 = some ⟨oc8, od8, .func (PySem.W.fnOf "_law_text" "_law_text" (defArgs s_law_text) (defBody s_law_text) (defScope s_law_text) .none kV8 dc8 pm8 an8 cd8 ct8), sl8⟩) (c8 : PySem.W.codeIn K cd8 "_law_text" = true) (k8 : PySem.W.keepIn K (.ref f8) = true)
    {f9 : Addr} {od9 an9 : Option Addr} {sl9 : Array (Option Value)} {oc9 kV9 dc9 pm9 cd9 ct9 : Value}
    (a9 : PySem.W.nsIn K mainGlobals "law" = some (some (.ref f9))) (l9 : K.lookup f9 = some ⟨oc9, od9, .func (PySem.W.fnOf "law" "law" (defArgs s_law) (defBody s_law) (defScope s_law) .none kV9 dc9 pm9 an9 cd9 ct9), sl9⟩) (c9 : PySem.W.codeIn K cd9 "law" = true) (k9 : PySem.W.keepIn K (.ref f9) = true)
    (z_ValueError : PySem.W.nsIn K mainGlobals "ValueError" = some none)
    (z_int : PySem.W.nsIn K mainGlobals "int" = some none)
    (z_isinstance : PySem.W.nsIn K mainGlobals "isinstance" = some none)
    (z_len : PySem.W.nsIn K mainGlobals "len" = some none)
    (z_list : PySem.W.nsIn K mainGlobals "list" = some none)
    (z_range : PySem.W.nsIn K mainGlobals "range" = some none)
    (z_reversed : PySem.W.nsIn K mainGlobals "reversed" = some none)
    (z_sorted : PySem.W.nsIn K mainGlobals "sorted" = some none)
    (z_str : PySem.W.nsIn K mainGlobals "str" = some none)
    {t_FIGURES : Tok} (y_FIGURES : PySem.W.nsIn K mainGlobals "FIGURES" = some (some (.str "0123456789" t_FIGURES)))
    {t_MOST : Tok} (y_MOST : PySem.W.nsIn K mainGlobals "MOST" = some (some (.int 12 t_MOST)))
    {cl_ShelfError cl_NoRow cl_NoPlace cl_NotFull cl_NoCode cl_NoRank cl_NoAmount cl_NoNote : Addr}
    (g_ShelfError : PySem.W.nsIn K mainGlobals "ShelfError" = some (some (.ref cl_ShelfError)))
    (t_ShelfError : PySem.W.typeIn K (.ref cl_ShelfError) = some (.type "type")) (c3_ShelfError : PySem.W.hasDictIn K cl_ShelfError = true)
    (g_NoRow : PySem.W.nsIn K mainGlobals "NoRow" = some (some (.ref cl_NoRow)))
    (t_NoRow : PySem.W.typeIn K (.ref cl_NoRow) = some (.type "type")) (c3_NoRow : PySem.W.hasDictIn K cl_NoRow = true)
    (g_NoPlace : PySem.W.nsIn K mainGlobals "NoPlace" = some (some (.ref cl_NoPlace)))
    (t_NoPlace : PySem.W.typeIn K (.ref cl_NoPlace) = some (.type "type")) (c3_NoPlace : PySem.W.hasDictIn K cl_NoPlace = true)
    (g_NotFull : PySem.W.nsIn K mainGlobals "NotFull" = some (some (.ref cl_NotFull)))
    (t_NotFull : PySem.W.typeIn K (.ref cl_NotFull) = some (.type "type")) (c3_NotFull : PySem.W.hasDictIn K cl_NotFull = true)
    (g_NoCode : PySem.W.nsIn K mainGlobals "NoCode" = some (some (.ref cl_NoCode)))
    (t_NoCode : PySem.W.typeIn K (.ref cl_NoCode) = some (.type "type")) (c3_NoCode : PySem.W.hasDictIn K cl_NoCode = true)
    (g_NoRank : PySem.W.nsIn K mainGlobals "NoRank" = some (some (.ref cl_NoRank)))
    (t_NoRank : PySem.W.typeIn K (.ref cl_NoRank) = some (.type "type")) (c3_NoRank : PySem.W.hasDictIn K cl_NoRank = true)
    (g_NoAmount : PySem.W.nsIn K mainGlobals "NoAmount" = some (some (.ref cl_NoAmount)))
    (t_NoAmount : PySem.W.typeIn K (.ref cl_NoAmount) = some (.type "type")) (c3_NoAmount : PySem.W.hasDictIn K cl_NoAmount = true)
    (g_NoNote : PySem.W.nsIn K mainGlobals "NoNote" = some (some (.ref cl_NoNote)))
    (t_NoNote : PySem.W.typeIn K (.ref cl_NoNote) = some (.type "type")) (c3_NoNote : PySem.W.hasDictIn K cl_NoNote = true)
    (b_ShelfError : PySem.W.subIn K (.ref cl_ShelfError) (.type "BaseException") = some true)
    (x_NoNote : PySem.W.excIn K cl_NoNote [.type "ValueError", .type "Exception", .type "BaseException", .type "object"] "ValueError.__new__" = true)
    (k_NoNote : PySem.W.keepIn K (.ref cl_NoNote) = true)
    (b_NoNote : PySem.W.subIn K (.ref cl_NoNote) (.type "BaseException") = some true)
    (e_NoNote : PySem.W.subIn K (.ref cl_NoNote) (.ref cl_ShelfError) = some true)
    (v_NoNote : PySem.W.subIn K (.ref cl_NoNote) (.type "ValueError") = some true)
    (c1_NoNote : PySem.W.findIn K (.ref cl_NoNote) "__getattribute__" = some (some (.builtin "BaseException.__getattribute__")))
    (c2_NoNote : PySem.W.findIn K (.ref cl_NoNote) "__getattr__" = some none)
    (c4_NoNote : PySem.W.findIn K (.ref cl_NoNote) "__class__" = some (some (.builtin "object.__class__")))
    (c5_NoNote : PySem.W.mroIn K cl_NoNote (.type "object") = some true)
    (q_NoNote_NoRow : PySem.W.subIn K (.ref cl_NoNote) (.ref cl_NoRow) = some false)
    (q_NoNote_NoPlace : PySem.W.subIn K (.ref cl_NoNote) (.ref cl_NoPlace) = some false)
    (q_NoNote_NotFull : PySem.W.subIn K (.ref cl_NoNote) (.ref cl_NotFull) = some false)
    (q_NoNote_NoCode : PySem.W.subIn K (.ref cl_NoNote) (.ref cl_NoCode) = some false)
    (q_NoNote_NoRank : PySem.W.subIn K (.ref cl_NoNote) (.ref cl_NoRank) = some false)
    (q_NoNote_NoAmount : PySem.W.subIn K (.ref cl_NoNote) (.ref cl_NoAmount) = some false)
    (q_NoNote_NoNote : PySem.W.subIn K (.ref cl_NoNote) (.ref cl_NoNote) = some true)
    (w1 : PySem.W.specialIn K (.builtin "object.__class__") "__get__" = some (some (.builtin "getset_descriptor.__get__"))) (w2 : PySem.W.takesIn K (.builtin "object.__class__") = some true)
    : ∃ fd : FuncData, (∀ (s : Shared) (v : Value), BindsTo s fd ⟨[v], []⟩ [("script", v)]) ∧ ∀ base : Heap, K.In base → base.Ns mainGlobals mg → FnOk l.prog w K mg base CX0 4 fa fd ["script"] (sp_law K) := by
  have e := hfa.symm.trans (PySem.W.mg_of X G a9)
  cases e
  obtain ⟨C, hC⟩ : ∃ C : Nat → Addr, C = fun i => ([cl_ShelfError, cl_NoRow, cl_NoPlace, cl_NotFull, cl_NoCode, cl_NoRank, cl_NoAmount, cl_NoNote] : List Addr).getD i 0 := ⟨_, rfl⟩
  have C_ShelfError : C 0 = cl_ShelfError := by rw [hC]; rfl
  have C_NoRow : C 1 = cl_NoRow := by rw [hC]; rfl
  have C_NoPlace : C 2 = cl_NoPlace := by rw [hC]; rfl
  have C_NotFull : C 3 = cl_NotFull := by rw [hC]; rfl
  have C_NoCode : C 4 = cl_NoCode := by rw [hC]; rfl
  have C_NoRank : C 5 = cl_NoRank := by rw [hC]; rfl
  have C_NoAmount : C 6 = cl_NoAmount := by rw [hC]; rfl
  have C_NoNote : C 7 = cl_NoNote := by rw [hC]; rfl
  have T : Bi K mg C := ⟨PySem.W.mg_none_of X G z_ValueError, PySem.W.mg_none_of X G z_int, PySem.W.mg_none_of X G z_isinstance, PySem.W.mg_none_of X G z_len, PySem.W.mg_none_of X G z_list, PySem.W.mg_none_of X G z_range, PySem.W.mg_none_of X G z_reversed, PySem.W.mg_none_of X G z_sorted, PySem.W.mg_none_of X G z_str, ⟨_, PySem.W.mg_of X G y_FIGURES⟩, ⟨_, PySem.W.mg_of X G y_MOST⟩, by rw [C_ShelfError]; exact PySem.W.mg_of X G g_ShelfError, by rw [C_NoRow]; exact PySem.W.mg_of X G g_NoRow, by rw [C_NoPlace]; exact PySem.W.mg_of X G g_NoPlace, by rw [C_NotFull]; exact PySem.W.mg_of X G g_NotFull, by rw [C_NoCode]; exact PySem.W.mg_of X G g_NoCode, by rw [C_NoRank]; exact PySem.W.mg_of X G g_NoRank, by rw [C_NoAmount]; exact PySem.W.mg_of X G g_NoAmount, by rw [C_NoNote]; exact PySem.W.mg_of X G g_NoNote, by rw [C_NoNote, C_ShelfError]; exact ⟨PySem.W.mg_of X G g_NoNote, x_NoNote, k_NoNote, b_NoNote, t_NoNote, PySem.W.exm_ref b_ShelfError c3_ShelfError t_ShelfError e_NoNote, ⟨c1_NoNote, c2_NoNote, b_NoNote, c3_NoNote, c4_NoNote, w1, w2, c5_NoNote⟩, kit_ve v_NoNote⟩, by rw [C_NoNote, C_NoRow]; exact kit_ref c3_NoRow t_NoRow q_NoNote_NoNote q_NoNote_NoRow, by rw [C_NoNote, C_NoPlace]; exact kit_ref c3_NoPlace t_NoPlace q_NoNote_NoNote q_NoNote_NoPlace, by rw [C_NoNote, C_NotFull]; exact kit_ref c3_NotFull t_NotFull q_NoNote_NoNote q_NoNote_NotFull, by rw [C_NoNote, C_NoCode]; exact kit_ref c3_NoCode t_NoCode q_NoNote_NoNote q_NoNote_NoCode, by rw [C_NoNote, C_NoRank]; exact kit_ref c3_NoRank t_NoRank q_NoNote_NoNote q_NoNote_NoRank, by rw [C_NoNote, C_NoAmount]; exact kit_ref c3_NoAmount t_NoAmount q_NoNote_NoNote q_NoNote_NoAmount, by rw [C_NoNote]; exact kit_ref c3_NoNote t_NoNote q_NoNote_NoNote q_NoNote_NoNote⟩
  refine ⟨PySem.W.fnOf "law" "law" (defArgs s_law) (defBody s_law) (defScope s_law) .none kV9 dc9 pm9 an9 cd9 ct9, fun s v => .of_eq rfl, fun base _ _ => ?_⟩
  have h_law_cell_at := ok_law_cell_at (P := l.prog) (w := w) (base := base) T ⟨_, _, fun_mk (st := s_law_cell_at) l0 c0 k0, PySem.W.mg_of X G a0⟩
  have h_law_next := ok_law_next (P := l.prog) (w := w) (base := base) T ⟨_, _, fun_mk (st := s_law_next) l1 c1 k1, PySem.W.mg_of X G a1⟩
  have h_law_row := ok_law_row (P := l.prog) (w := w) (base := base) T h_law_cell_at h_law_next ⟨_, _, fun_mk (st := s_law_row) l2 c2 k2, PySem.W.mg_of X G a2⟩
  have h_law_spoiled := ok_law_spoiled (P := l.prog) (w := w) (base := base) T ⟨_, _, fun_mk (st := s_law_spoiled) l3 c3 k3, PySem.W.mg_of X G a3⟩
  have h_volume_of := ok_volume_of (P := l.prog) (w := w) (base := base) T ⟨_, _, fun_mk (st := s_volume_of) l4 c4 k4, PySem.W.mg_of X G a4⟩
  have h_read := ok_read (P := l.prog) (w := w) (base := base) T h_volume_of ⟨_, _, fun_mk (st := s_read) l5 c5 k5, PySem.W.mg_of X G a5⟩
  have h_law_kind := ok_law_kind (P := l.prog) (w := w) (base := base) T ⟨_, _, fun_mk (st := s_law_kind) l6 c6 k6, PySem.W.mg_of X G a6⟩
  have h_law_tried := ok_law_tried (P := l.prog) (w := w) (base := base) T h_read h_law_kind ⟨_, _, fun_mk (st := s_law_tried) l7 c7 k7, PySem.W.mg_of X G a7⟩
  have h_law_text := ok_law_text (P := l.prog) (w := w) (base := base) T ⟨_, _, fun_mk (st := s_law_text) l8 c8 k8, PySem.W.mg_of X G a8⟩
  exact ok_law T h_law_row h_law_cell_at h_law_spoiled h_law_tried h_law_text (fun_mk (st := s_law) l9 c9 k9)
end Sh
open PySem PySem.W PyProof.Rows
set_option maxHeartbeats 0 in
theorem PySem.Challenge.cw_shelfway_k22_unread_holds : PySem.Challenge.rw_shelfway_k22_unread.Holds := by
  w_on; o_law; k_head; (case hw => w_witness2)
  k_fill
  refine L2.walk_of (l := PySem.Challenge.rw_shelfway_k22_unread) (n := 63) (k := 4) (x := "script") (CX := fun _ => L2.CX0) (sp := fun w => Sh.sp_law _) rfl (by decide) rfl ⟨rfl, by decide, by decide⟩ (fun w h Y => PySem.W.kIn_of Y) ?F (fun _ _ a ns hl _ hS => ⟨a, ns, rfl, hS, hl, fun _ => rfl⟩) (fun _ _ _ _ _ h => h)
  case F =>
    intro w mg fa h KX G hmg
    refine' Sh.all_mk KX G hmg ?a0 ?l0 ?c0 ?k0 ?a1 ?l1 ?c1 ?k1 ?a2 ?l2 ?c2 ?k2 ?a3 ?l3 ?c3 ?k3 ?a4 ?l4 ?c4 ?k4 ?a5 ?l5 ?c5 ?k5 ?a6 ?l6 ?c6 ?k6 ?a7 ?l7 ?c7 ?k7 ?a8 ?l8 ?c8 ?k8 ?a9 ?l9 ?c9 ?k9 ?z_ValueError ?z_int ?z_isinstance ?z_len ?z_list ?z_range ?z_reversed ?z_sorted ?z_str ?y_FIGURES ?y_MOST ?g_ShelfError ?t_ShelfError ?c3_ShelfError ?g_NoRow ?t_NoRow ?c3_NoRow ?g_NoPlace ?t_NoPlace ?c3_NoPlace ?g_NotFull ?t_NotFull ?c3_NotFull ?g_NoCode ?t_NoCode ?c3_NoCode ?g_NoRank ?t_NoRank ?c3_NoRank ?g_NoAmount ?t_NoAmount ?c3_NoAmount ?g_NoNote ?t_NoNote ?c3_NoNote ?b_ShelfError ?x_NoNote ?k_NoNote ?b_NoNote ?e_NoNote ?v_NoNote ?c1_NoNote ?c2_NoNote ?c4_NoNote ?c5_NoNote ?q_NoNote_NoRow ?q_NoNote_NoPlace ?q_NoNote_NotFull ?q_NoNote_NoCode ?q_NoNote_NoRank ?q_NoNote_NoAmount ?q_NoNote_NoNote ?w1 ?w2
    (case a0 => k_is); (case l0 => k_is); (case c0 => k_is); (case k0 => k_is); (case a1 => k_is); (case l1 => k_is)
    (case c1 => k_is); (case k1 => k_is); (case a2 => k_is); (case l2 => k_is); (case c2 => k_is); (case k2 => k_is)
    (case a3 => k_is); (case l3 => k_is); (case c3 => k_is); (case k3 => k_is); (case a4 => k_is); (case l4 => k_is)
    (case c4 => k_is); (case k4 => k_is); (case a5 => k_is); (case l5 => k_is); (case c5 => k_is); (case k5 => k_is)
    (case a6 => k_is); (case l6 => k_is); (case c6 => k_is); (case k6 => k_is); (case a7 => k_is); (case l7 => k_is)
    (case c7 => k_is); (case k7 => k_is); (case a8 => k_is); (case l8 => k_is); (case c8 => k_is); (case k8 => k_is)
    (case a9 => k_is); (case l9 => k_is); (case c9 => k_is); (case k9 => k_is); (case z_ValueError => k_is); (case z_int => k_is)
    (case z_isinstance => k_is); (case z_len => k_is); (case z_list => k_is); (case z_range => k_is); (case z_reversed => k_is); (case z_sorted => k_is)
    (case z_str => k_is); (case y_FIGURES => k_is); (case y_MOST => k_is); (case g_ShelfError => k_is); (case t_ShelfError => k_is); (case c3_ShelfError => k_is)
    (case g_NoRow => k_is); (case t_NoRow => k_is); (case c3_NoRow => k_is); (case g_NoPlace => k_is); (case t_NoPlace => k_is); (case c3_NoPlace => k_is)
    (case g_NotFull => k_is); (case t_NotFull => k_is); (case c3_NotFull => k_is); (case g_NoCode => k_is); (case t_NoCode => k_is); (case c3_NoCode => k_is)
    (case g_NoRank => k_is); (case t_NoRank => k_is); (case c3_NoRank => k_is); (case g_NoAmount => k_is); (case t_NoAmount => k_is); (case c3_NoAmount => k_is)
    (case g_NoNote => k_is); (case t_NoNote => k_is); (case c3_NoNote => k_is); (case b_ShelfError => k_is); (case x_NoNote => k_exc); (case k_NoNote => k_is)
    (case b_NoNote => k_is); (case e_NoNote => k_is); (case v_NoNote => k_is); (case c1_NoNote => k_is); (case c2_NoNote => k_is); (case c4_NoNote => k_is)
    (case c5_NoNote => k_is); (case q_NoNote_NoRow => first | rfl | k_is); (case q_NoNote_NoPlace => first | rfl | k_is); (case q_NoNote_NotFull => first | rfl | k_is); (case q_NoNote_NoCode => first | rfl | k_is); (case q_NoNote_NoRank => first | rfl | k_is)
    (case q_NoNote_NoAmount => first | rfl | k_is); (case q_NoNote_NoNote => first | rfl | k_is); (case w1 => k_is); (case w2 => k_is)
