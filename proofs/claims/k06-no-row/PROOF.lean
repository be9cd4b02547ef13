import PyProof.Rows.All
import Wide.All
import OpenK.AllK
import Wide.FinOn
import HandS.ForMost
import HandS.Evl
import HandS.IsInst
import HandS.Rev
import HandS.Conv
import HandS.More
import HandS.SetFor
import HandS.Exc
import HandS.ExcOwn
import HandS.TryOnly
import HandS.WordsExc
import HandS.ExcIs
import HandS.ExcCtx
import HandS.HotCalls
import HandS.Text
import HandS.Codes
import PySem.Challenge.RW_shelfway_k06_no_row
set_option Elab.async false
set_option linter.all false
set_option maxRecDepth 100000
set_option maxHeartbeats 2000000
namespace Sh
open PySem PySem.Spec PyProof.Rows L2 Evl
/-! ### what the call has made (M), beside what stood when it began (H0) -/
abbrev il (ns : List Int) : List V := ns.map V.int
theorem il_append (a b : List Int) : il (a ++ b) = il a ++ il b := List.map_append
theorem il_rev (a : List Int) : il a.reverse = (il a).reverse := List.map_reverse
structure Own (H0 : Hp) (M : List (Addr × List V)) (H : Hp) : Prop where
  ex : Ex H0 H
  own : ∀ m, m ∈ M → H0 m.1 = none ∧ H m.1 = some (.lst m.2)
  nd : (M.map (·.1)).Nodup
section
variable {K : PySem.W.Frag} {H0 H H1 : Hp} {M : List (Addr × List V)} {a p : Addr} {xs ys : List V} {v : V} {Q : VK}
theorem Own.start : Own H [] H := ⟨Ex.refl H, (fun _ h => by cases h), List.nodup_nil⟩
theorem Own.mono (O : Own H0 M H) (e : Ex H H1) : Own H0 M H1 := ⟨O.ex.trans e, fun m h => ⟨(O.own m h).1, e _ _ (O.own m h).2⟩, O.nd⟩
theorem Own.new (O : Own H0 M H) (hp : H p = none) (e : Ex H H1) (h : H1 p = some (.lst xs)) : Own H0 ((p, xs) :: M) H1 := by
  refine ⟨O.ex.trans e, fun m hm => ?_, ?_⟩
  · rcases List.mem_cons.mp hm with rfl | hm
    · exact ⟨fresh_back O.ex hp, h⟩
    · exact (O.mono e).own m hm
  · rw [List.map_cons, List.nodup_cons]
    refine ⟨fun hm => ?_, O.nd⟩
    obtain ⟨m, hm, e2⟩ := List.mem_map.mp hm
    have z := (O.own m hm).2
    rw [e2] at z
    have z2 : H p = some (.lst m.2) := z
    rw [hp] at z2
    cases z2
theorem Own.get (O : Own H0 M H) (i : Nat) (h : M[i]? = some (p, xs)) : H p = some (.lst xs) := (O.own (p, xs) (List.mem_of_getElem? h)).2
theorem Own.seq (O : Own H0 M H) (i : Nat) (h : M[i]? = some (p, xs)) : SqL K H p xs := sq_of (O.get i h)
theorem Own.arg (O : Own H0 M H) (h : SqL K H0 a xs) : SqL K H a xs := ex_l O.ex h
theorem Own.cons (O : Own H0 ((p, xs) :: M) H) : Own H0 M H := ⟨O.ex, fun m h => O.own m (List.mem_cons_of_mem _ h), (List.nodup_cons.mp O.nd).2⟩
theorem nodup_key {l : List (Addr × List V)} : ∀ {i j : Nat} {x y : Addr × List V}, (l.map (·.1)).Nodup → l[i]? = some x → l[j]? = some y → x.1 = y.1 → i = j := by
  intro i j x y nd hi hj e
  have h1 : (l.map (·.1))[i]? = some x.1 := by rw [List.getElem?_map, hi] <;> rfl
  have h2 : (l.map (·.1))[j]? = some y.1 := by rw [List.getElem?_map, hj] <;> rfl
  have li : i < (l.map (·.1)).length := (List.getElem?_eq_some_iff.mp h1).1
  exact (List.getElem?_inj li nd).mp (by rw [h1, h2, e])
theorem Own.upd (O : Own H0 M H) (i : Nat) (h : M[i]? = some (p, xs)) : Own H0 (M.set i (p, ys)) (L2.upd H p (.lst ys)) := by
  have hp0 : H0 p = none := (O.own (p, xs) (List.mem_of_getElem? h)).1
  have hi : i < M.length := (List.getElem?_eq_some_iff.mp h).1
  refine ⟨O.ex.mut hp0, fun m hm => ?_, ?_⟩
  · obtain ⟨j, hj⟩ := List.getElem?_of_mem hm
    by_cases e : i = j
    · subst e
      rw [List.getElem?_set_self hi] at hj
      cases hj
      exact ⟨hp0, upd_same⟩
    · rw [List.getElem?_set_ne e] at hj
      have q := O.own m (List.mem_of_getElem? hj)
      refine ⟨q.1, ?_⟩
      have hne : m.1 ≠ p := fun z => e (nodup_key O.nd h hj z.symm)
      rw [upd_ne hne]
      exact q.2
  · have : (M.set i (p, ys)).map (·.1) = M.map (·.1) := by
      rw [List.map_set]
      refine List.ext_getElem? fun j => ?_
      by_cases e : i = j
      · subst e
        rw [List.getElem?_set_self (by rw [List.length_map]; exact hi), List.getElem?_map, h] <;> rfl
      · rw [List.getElem?_set_ne e]
    rw [this]
    exact O.nd
theorem Own.ne {q : Addr} (O : Own H0 M H) (i j : Nat) (h : M[i]? = some (p, xs)) (h2 : M[j]? = some (q, ys)) (hij : i ≠ j) : p ≠ q := fun z => hij (nodup_key O.nd h h2 z)
theorem Own.retL (O : Own H0 M H) (i : Nat) (h : M[i]? = some (p, xs)) (k : RetL xs H0 Q) : Q (.ref p) H := k p H (O.own (p, xs) (List.mem_of_getElem? h)).1 O.ex (O.get i h)
theorem Own.ret (O : Own H0 M H) (k : RetV v H0 Q) : Q v H := k H O.ex
/-! ### statements, in terms of Own -/
variable {D : Ends} {σ : L2.St} {te ta tb tl : TE} {t : TT} {tu tw tz : TS} {b : Bool}
theorem sq (h : tu { D with nx := tz D } σ H) : tSeq tu tz D σ H := h
theorem AS {i : Nat} (O : Own H0 M H) (h : Ev te σ H v) (k : ∀ H1, Own H0 M H1 → D.nx (σ.set i (some v)) H1) : tAsg te (gName i) D σ H := s_asg h fun H1 e => k H1 (O.mono e)
theorem AL {i : Nat} (O : Own H0 M H) (h : EvL te σ H xs) (k : ∀ p H1, Own H0 ((p, xs) :: M) H1 → D.nx (σ.set i (some (.ref p))) H1) : tAsg te (gName i) D σ H := s_asgL h fun p H1 hp e h1 => k p H1 (O.new hp e h1)
theorem RT (O : Own H0 M H) (h : Ev te σ H v) (k : ∀ H1, Own H0 M H1 → D.rt v H1) : tRet te D σ H := s_ret h fun H1 e => k H1 (O.mono e)
theorem RTL (O : Own H0 M H) (h : EvL te σ H xs) (k : ∀ p H1, Own H0 ((p, xs) :: M) H1 → D.rt (.ref p) H1) : tRet te D σ H := s_retL h fun p H1 hp e h1 => k p H1 (O.new hp e h1)
theorem DR (O : Own H0 M H) (h : Ev te σ H v) (k : ∀ H1, Own H0 M H1 → D.nx σ H1) : tDrop te D σ H := s_drop h fun H1 e => k H1 (O.mono e)
theorem IF (O : Own H0 M H) (h : EvT t σ H b) (h1 : b = true → ∀ H1, Own H0 M H1 → tu D σ H1) (h2 : b = false → ∀ H1, Own H0 M H1 → tw D σ H1) : tIfS t tu tw D σ H :=
  s_if h (fun hb H1 e => h1 hb H1 (O.mono e)) fun hb H1 e => h2 hb H1 (O.mono e)
theorem WH (O : Own H0 M H) (h : EvT t σ H b) (h1 : b = true → ∀ H1, Own H0 M H1 → tu D σ H1) (h2 : b = false → ∀ H1, Own H0 M H1 → D.nx σ H1) : tIfS t tu tNext D σ H := IF O h h1 h2
theorem APP (i : Nat) (O : Own H0 M H) (hi : M[i]? = some (p, xs)) (ha : Ev ta σ H (.ref p)) (h : Ev te σ H v) (hz : xs.length < 100000) (k : ∀ H1, Own H0 (M.set i (p, xs ++ [v])) H1 → D.nx σ H1) :
    tDrop (tBM K "list" rAppend ta (tCons te tNil)) D σ H := s_app (O.get i hi) ha h hz fun H1 e => k _ ((O.mono e).upd i hi)
theorem APPL (i : Nat) (O : Own H0 M H) (hi : M[i]? = some (p, xs)) (ha : Ev ta σ H (.ref p)) (h : EvL te σ H ys) (hz : xs.length < 100000) (k : ∀ q H1, Own H0 ((q, ys) :: M.set i (p, xs ++ [.ref q])) H1 → D.nx σ H1) :
    tDrop (tBM K "list" rAppend ta (tCons te tNil)) D σ H := s_appL (O.get i hi) ha h hz fun q H1 hq e h1 => k q _ ((O.new hq e h1).upd (i + 1) (by rw [List.getElem?_cons_succ]; exact hi))
theorem SET (i j : Nat) (O : Own H0 M H) (hi : M[i]? = some (p, xs)) (h : Ev te σ H v) (ho : Ev ta σ H (.ref p)) (hx : Ev tb σ H (.int (j : Int))) (hj : j < xs.length) (k : ∀ H1, Own H0 (M.set i (p, xs.set j v)) H1 → D.nx σ H1) :
    tAsg te (gSub ta tb rSetL) D σ H := s_setL (O.get i hi) h ho hx hj fun H1 e => k _ ((O.mono e).upd i hi)
/-- for k in range(n) -/
theorem FR {ta : TA} {j : Nat} {n : Int} (O : Own H0 M H) (h : EvA ta σ H [.int n]) (hn : 0 ≤ n ∧ n ≤ 100000) (Pv : Nat → L2.St → Hp → Prop) (h0 : ∀ H1, Own H0 M H1 → Pv 0 σ H1)
    (hs : ∀ (i : Nat) σ' H', (i : Int) < n → Pv i σ' H' → tu { D with nx := Pv (i + 1), ct := Pv (i + 1), bk := D.nx } (σ'.set j (some (.int (i : Int)))) H') (hd : ∀ σ' H', Pv n.toNat σ' H' → D.nx σ' H') : tFor (iRng1 ta) (gName j) tu D σ H :=
  s_forR1 h hn Pv (fun H1 e => h0 H1 (O.mono e)) hs hd
theorem FR2 {ta : TA} {j : Nat} {lo n : Int} (O : Own H0 M H) (h : EvA ta σ H [.int lo, .int n]) (hn : 0 ≤ lo ∧ lo ≤ 100000 ∧ -100000 ≤ n ∧ n ≤ 100000) (Pv : Nat → L2.St → Hp → Prop) (h0 : ∀ H1, Own H0 M H1 → Pv 0 σ H1)
    (hs : ∀ (i : Nat) σ' H', lo + (i : Int) < n → Pv i σ' H' → tu { D with nx := Pv (i + 1), ct := Pv (i + 1), bk := D.nx } (σ'.set j (some (.int (lo + (i : Int))))) H') (hd : ∀ σ' H', Pv (n - lo).toNat σ' H' → D.nx σ' H') : tFor (iRng2 ta) (gName j) tu D σ H :=
  s_forR2 h hn Pv (fun H1 e => h0 H1 (O.mono e)) hs hd
/-- for v in a list that stands still: of ints -/
theorem FL {a : Addr} {ns : List Int} {j : Nat} (O : Own H0 M H) (h : Ev tl σ H (.ref a)) (hx : SqL K H a (il ns)) (Pv : Nat → L2.St → Hp → Prop) (h0 : ∀ H1, Own H0 M H1 → Pv 0 σ H1) (hl : ∀ i σ' H', Pv i σ' H' → SqL K H' a (il ns))
    (hs : ∀ i x σ' H', ns[i]? = some x → Pv i σ' H' → tu { D with nx := Pv (i + 1), ct := Pv (i + 1), bk := D.nx } (σ'.set j (some (.int x))) H') (hd : ∀ σ' H', Pv ns.length σ' H' → D.nx σ' H') : tFor (iList K tl) (gName j) tu D σ H :=
  s_forLn h hx Pv (fun H1 e => h0 H1 (O.mono e)) (fun i σ' H' _ q => hl i σ' H' q) (fun i x σ' H' hi q => by
    rw [List.getElem?_map] at hi
    cases e : ns[i]? with
    | none => rw [e] at hi; cases hi
    | some y =>
      rw [e] at hi
      cases hi
      exact hs i y σ' H' e q) (fun σ' H' q => hd σ' H' (by rw [List.length_map] at q; exact q))
/-! the same, something behind -/
theorem qAS {i : Nat} (O : Own H0 M H) (h : Ev te σ H v) (k : ∀ H1, Own H0 M H1 → tz D (σ.set i (some v)) H1) : tSeq (tAsg te (gName i)) tz D σ H := AS (D := { D with nx := tz D }) O h k
theorem qAL {i : Nat} (O : Own H0 M H) (h : EvL te σ H xs) (k : ∀ p H1, Own H0 ((p, xs) :: M) H1 → tz D (σ.set i (some (.ref p))) H1) : tSeq (tAsg te (gName i)) tz D σ H := AL (D := { D with nx := tz D }) O h k
theorem qDR (O : Own H0 M H) (h : Ev te σ H v) (k : ∀ H1, Own H0 M H1 → tz D σ H1) : tSeq (tDrop te) tz D σ H := DR (D := { D with nx := tz D }) O h k
theorem qIF (O : Own H0 M H) (h : EvT t σ H b) (h1 : b = true → ∀ H1, Own H0 M H1 → tu { D with nx := tz D } σ H1) (h2 : b = false → ∀ H1, Own H0 M H1 → tw { D with nx := tz D } σ H1) : tSeq (tIfS t tu tw) tz D σ H := IF (D := { D with nx := tz D }) O h h1 h2
theorem qWH (O : Own H0 M H) (h : EvT t σ H b) (h1 : b = true → ∀ H1, Own H0 M H1 → tu { D with nx := tz D } σ H1) (h2 : b = false → ∀ H1, Own H0 M H1 → tz D σ H1) : tSeq (tIfS t tu tNext) tz D σ H := WH (D := { D with nx := tz D }) O h h1 h2
theorem qAPP (i : Nat) (O : Own H0 M H) (hi : M[i]? = some (p, xs)) (ha : Ev ta σ H (.ref p)) (h : Ev te σ H v) (hz : xs.length < 100000) (k : ∀ H1, Own H0 (M.set i (p, xs ++ [v])) H1 → tz D σ H1) :
    tSeq (tDrop (tBM K "list" rAppend ta (tCons te tNil))) tz D σ H := APP (D := { D with nx := tz D }) i O hi ha h hz k
theorem qAPPL (i : Nat) (O : Own H0 M H) (hi : M[i]? = some (p, xs)) (ha : Ev ta σ H (.ref p)) (h : EvL te σ H ys) (hz : xs.length < 100000) (k : ∀ q H1, Own H0 ((q, ys) :: M.set i (p, xs ++ [.ref q])) H1 → tz D σ H1) :
    tSeq (tDrop (tBM K "list" rAppend ta (tCons te tNil))) tz D σ H := APPL (D := { D with nx := tz D }) i O hi ha h hz k
theorem qSET (i j : Nat) (O : Own H0 M H) (hi : M[i]? = some (p, xs)) (h : Ev te σ H v) (ho : Ev ta σ H (.ref p)) (hx : Ev tb σ H (.int (j : Int))) (hj : j < xs.length) (k : ∀ H1, Own H0 (M.set i (p, xs.set j v)) H1 → tz D σ H1) :
    tSeq (tAsg te (gSub ta tb rSetL)) tz D σ H := SET (D := { D with nx := tz D }) i j O hi h ho hx hj k
theorem qFR {ta : TA} {j : Nat} {n : Int} (O : Own H0 M H) (h : EvA ta σ H [.int n]) (hn : 0 ≤ n ∧ n ≤ 100000) (Pv : Nat → L2.St → Hp → Prop) (h0 : ∀ H1, Own H0 M H1 → Pv 0 σ H1)
    (hs : ∀ (i : Nat) σ' H', (i : Int) < n → Pv i σ' H' → tu { D with nx := Pv (i + 1), ct := Pv (i + 1), bk := tz D } (σ'.set j (some (.int (i : Int)))) H') (hd : ∀ σ' H', Pv n.toNat σ' H' → tz D σ' H') : tSeq (tFor (iRng1 ta) (gName j) tu) tz D σ H := FR (D := { D with nx := tz D }) O h hn Pv h0 hs hd
theorem qFR2 {ta : TA} {j : Nat} {lo n : Int} (O : Own H0 M H) (h : EvA ta σ H [.int lo, .int n]) (hn : 0 ≤ lo ∧ lo ≤ 100000 ∧ -100000 ≤ n ∧ n ≤ 100000) (Pv : Nat → L2.St → Hp → Prop) (h0 : ∀ H1, Own H0 M H1 → Pv 0 σ H1)
    (hs : ∀ (i : Nat) σ' H', lo + (i : Int) < n → Pv i σ' H' → tu { D with nx := Pv (i + 1), ct := Pv (i + 1), bk := tz D } (σ'.set j (some (.int (lo + (i : Int))))) H') (hd : ∀ σ' H', Pv (n - lo).toNat σ' H' → tz D σ' H') : tSeq (tFor (iRng2 ta) (gName j) tu) tz D σ H := FR2 (D := { D with nx := tz D }) O h hn Pv h0 hs hd
theorem qFL {a : Addr} {ns : List Int} {j : Nat} (O : Own H0 M H) (h : Ev tl σ H (.ref a)) (hx : SqL K H a (il ns)) (Pv : Nat → L2.St → Hp → Prop) (h0 : ∀ H1, Own H0 M H1 → Pv 0 σ H1) (hl : ∀ i σ' H', Pv i σ' H' → SqL K H' a (il ns))
    (hs : ∀ i x σ' H', ns[i]? = some x → Pv i σ' H' → tu { D with nx := Pv (i + 1), ct := Pv (i + 1), bk := tz D } (σ'.set j (some (.int x))) H') (hd : ∀ σ' H', Pv ns.length σ' H' → tz D σ' H') : tSeq (tFor (iList K tl) (gName j) tu) tz D σ H := FL (D := { D with nx := tz D }) O h hx Pv h0 hl hs hd
/-! ### expressions -/
theorem call_lenS {X : Cx} : CallR X (.builtin "len") (rLenS X.K) := call_len_seq
theorem call_listS {X : Cx} : CallR X (.type "list") (rListS X.K) := call_list_of
def gt (ns : List Int) (k : Nat) : Int := ns.getD k 0
theorem gt_some {ns : List Int} {k : Nat} {x : Int} (h : ns[k]? = some x) : gt ns k = x := by
  unfold gt
  rw [List.getD_eq_getElem?_getD, h] <;> rfl
theorem some_gt {ns : List Int} {k : Nat} (h : k < ns.length) : ns[k]? = some (gt ns k) := by
  unfold gt
  rw [List.getD_eq_getElem?_getD, List.getElem?_eq_getElem h] <;> rfl
theorem atI_gt {ns : List Int} {k : Nat} (h : k < ns.length) : atI (il ns) (k : Int) = some (.int (gt ns k)) := atI_nat (by rw [List.getElem?_map, some_gt h] <;> rfl)
theorem ev_ix {i : Nat} (h : Ev tl σ H (.ref a)) {ns : List Int} (hx : SqL K H a (il ns)) (hi : Ev tb σ H (.int (i : Int))) (hb : i < ns.length) : Ev (tOp (rIxL K) tl tb) σ H (.int (gt ns i)) := ev_op h hi (rv_ixL hx (atI_gt hb))
theorem ev_ixz {z : Int} (h : Ev tl σ H (.ref a)) {ns : List Int} (hx : SqL K H a (il ns)) (hi : Ev tb σ H (.int z)) (hb : 0 ≤ z ∧ z < ns.length) : Ev (tOp (rIxL K) tl tb) σ H (.int (gt ns z.toNat)) :=
  ev_ix h hx (ev_is hi (congrArg V.int (Int.toNat_of_nonneg hb.1).symm)) (by omega)
theorem ev_sum {ns : List Int} (h : Ev te σ H (.ref a)) (hx : SqL K H a (il ns)) : Ev (tCB (rSum K) (tCons te tNil)) σ H (.int ns.sum) := fun H1 e _ q =>
  h H1 e _ fun H2 e2 => ⟨a, ns, rfl, ex_l (e.trans e2) hx, q H2 e2⟩
theorem ev_sumN {ns : List Int} (h : EvL te σ H (il ns)) : Ev (tCB (rSum K) (tCons te tNil)) σ H (.int ns.sum) := fun H1 e _ q =>
  h H1 e _ fun p H2 _ e2 h2 => ⟨p, ns, rfl, sq_of h2, q H2 e2⟩
theorem ev_lenI {ns : List Int} (h : Ev te σ H (.ref a)) (hx : SqL K H a (il ns)) : Ev (tCB (rLenS K) (tCons te tNil)) σ H (.int (ns.length : Int)) := ev_is (ev_len h hx) (by rw [List.length_map])
theorem ev_lenNI {ns : List Int} (h : EvL te σ H (il ns)) : Ev (tCB (rLenS K) (tCons te tNil)) σ H (.int (ns.length : Int)) := ev_is (ev_lenN h) (by rw [List.length_map])
theorem ev_chain {r r' : R2} {tc : TE} {x y z : V} {c d : Bool} (ha : Ev ta σ H x) (hb : Ev tb σ H y) (hr : RV r x y H (.bl c)) (hc : Ev tc σ H z) (hr' : RV r' y z H (.bl d)) : Ev (tChain r r' ta tb tc) σ H (.bl (c && d)) := fun H1 e Q q =>
  ha H1 e _ fun H2 e2 => hb H2 (e.trans e2) _ fun H3 e3 => hr H3 ((e.trans e2).trans e3) _ fun H4 e4 => ⟨c, rfl, by
    cases c with
    | true =>
      rw [if_pos rfl]
      refine hc H4 (((e.trans e2).trans e3).trans e4) _ fun H5 e5 => hr' H5 ((((e.trans e2).trans e3).trans e4).trans e5) Q fun H6 e6 => ?_
      rw [Bool.true_and] at q
      exact q H6 ((((e2.trans e3).trans e4).trans e5).trans e6)
    | false =>
      rw [if_neg Bool.false_ne_true]
      exact q H4 ((e2.trans e3).trans e4)⟩
/-! == of two lists of ints -/
theorem dpAll (ns : List Int) : DpAll K H (il ns) (ns.map PyData.int) := by
  induction ns with
  | nil => exact .nil
  | cons n ns ih => exact .cons (.int n) ih
theorem depI (ns : List Int) : PyData.depthAll (ns.map PyData.int) ≤ 1 := by
  induction ns with
  | nil => exact Nat.zero_le _
  | cons n ns ih =>
    simp only [List.map_cons, PyData.depthAll, PyData.depth]
    omega
theorem canI (ns : List Int) : PyData.canLayAll0 (ns.map PyData.int) = true := by
  induction ns with
  | nil => rfl
  | cons n ns ih => simp [PyData.canLayAll0, PyData.canLay0, ih]
theorem shapedI (ns : List Int) : SeqAt.shaped (.list (ns.map PyData.int)) = true := by
  have h := depI ns
  have c : (PyData.list (ns.map PyData.int)).canLay0 = true := by
    simp only [PyData.canLay0]
    exact canI ns
  have d : (PyData.list (ns.map PyData.int)).depth ≤ 64 := by
    simp only [PyData.depth]
    omega
  show (_ && decide _) = true
  rw [c, decide_eq_true d] <;> rfl
theorem eqvI : ∀ xs ys : List Int, PyData.eqv (.list (xs.map PyData.int)) (.list (ys.map PyData.int)) = decide (xs = ys) := by
  intro xs
  induction xs with
  | nil => intro ys; cases ys <;> simp [PyData.eqv, PyData.eqvAll]
  | cons x xs ih =>
    intro ys
    cases ys with
    | nil => simp [PyData.eqv, PyData.eqvAll]
    | cons y ys =>
      have q := ih ys
      simp only [PyData.eqv] at q
      simp only [PyData.eqv, List.map_cons, PyData.eqvAll, q]
      rw [Bool.eq_iff_iff]
      simp
theorem rv_eqL {c : Addr} {ns ms : List Int} (ha : SqL K H a (il ns)) (hc : SqL K H c (il ms)) : RV (rEqD K) (.ref a) (.ref c) H (.bl (decide (ns = ms))) := fun H1 e Q q => by
  refine ⟨_, _, .lst (ex_l e ha) (dpAll ns), .lst (ex_l e hc) (dpAll ms), shapedI ns, shapedI ms, ?_⟩
  rw [eqvI]
  exact q H1 (Ex.refl H1)
theorem rv_neL {c : Addr} {ns ms : List Int} (ha : SqL K H a (il ns)) (hc : SqL K H c (il ms)) : RV (rNeD K) (.ref a) (.ref c) H (.bl (!decide (ns = ms))) := fun H1 e Q q => by
  refine ⟨_, _, .lst (ex_l e ha) (dpAll ns), .lst (ex_l e hc) (dpAll ms), shapedI ns, shapedI ms, ?_⟩
  rw [eqvI]
  exact q H1 (Ex.refl H1)
/-! ### comprehensions over ints -/
theorem given_list (ns : List Int) (f : Int → Bool) (g : Int → V) : given ns.length (fun i => f (gt ns i)) (fun i => g (gt ns i)) = (ns.filter f).map g := by
  have h : ∀ n, n ≤ ns.length → given n (fun i => f (gt ns i)) (fun i => g (gt ns i)) = ((ns.take n).filter f).map g := by
    intro n
    induction n with
    | zero => intro _; rfl
    | succ n ih =>
      intro hn
      have e := some_gt (ns := ns) (k := n) (by omega)
      rw [List.take_add_one, e]
      cases hf : f (gt ns n) with
      | true =>
        rw [given_yes (f := fun i => f (gt ns i)) hf, ih (by omega)]
        simp [hf]
      | false =>
        rw [given_no (f := fun i => f (gt ns i)) hf, ih (by omega)]
        simp [hf]
  have q := h ns.length (Nat.le_refl _)
  rw [List.take_length] at q
  exact q
theorem getI {ns : List Int} {i : Nat} {x : V} (h : (il ns)[i]? = some x) : x = .int (gt ns i) ∧ gt ns i ∈ ns := by
  rw [List.getElem?_map] at h
  cases e : ns[i]? with
  | none => rw [e] at h; cases h
  | some y =>
    rw [e] at h
    cases h
    rw [gt_some e]
    exact ⟨rfl, List.mem_of_getElem? e⟩
theorem lcL {ns : List Int} {j : Nat} {vs : List Nat} (f : Int → Bool) (g : Int → V) (h : Ev tl σ H (.ref a)) (hx : SqL K H a (il ns)) (hz : ns.length ≤ 40000) (hw : ∀ x, wipe ((wipe σ vs).set j (some x)) vs = wipe σ vs)
    (ht : ∀ x, x ∈ ns → ∀ H1, Ex H H1 → EvT t ((wipe σ vs).set j (some (.int x))) H1 (f x)) (he : ∀ x, x ∈ ns → ∀ H1, Ex H H1 → f x = true → Ev te ((wipe σ vs).set j (some (.int x))) H1 (g x)) :
    EvL (tLc (iList K tl) (gName j) t te vs) σ H ((ns.filter f).map g) := by
  have z := el_lcL (K := K) (t := t) (te := te) (tl := tl) (j := j) (vs := vs) (σ := σ) (H := H) (fun i => f (gt ns i)) (fun i => g (gt ns i)) h hx (by rw [List.length_map]; exact hz) hw
    (fun i x H1 e hi => by obtain ⟨rfl, m⟩ := getI hi; exact ht _ m H1 e) (fun i x H1 e hi hf => by obtain ⟨rfl, m⟩ := getI hi; exact he _ m H1 e hf)
  rw [List.length_map, given_list] at z
  exact z
theorem lcNL {ns : List Int} {j : Nat} {vs : List Nat} (f : Int → Bool) (g : Int → V) (h : EvL tl σ H (il ns)) (hz : ns.length ≤ 40000) (hw : ∀ x, wipe ((wipe σ vs).set j (some x)) vs = wipe σ vs)
    (ht : ∀ x, x ∈ ns → ∀ H1, Ex H H1 → EvT t ((wipe σ vs).set j (some (.int x))) H1 (f x)) (he : ∀ x, x ∈ ns → ∀ H1, Ex H H1 → f x = true → Ev te ((wipe σ vs).set j (some (.int x))) H1 (g x)) :
    EvL (tLc (iList K tl) (gName j) t te vs) σ H ((ns.filter f).map g) := by
  have z := el_lcNL (K := K) (t := t) (te := te) (tl := tl) (j := j) (vs := vs) (σ := σ) (H := H) (fun i => f (gt ns i)) (fun i => g (gt ns i)) h (by rw [List.length_map]; exact hz) hw
    (fun i x H1 e hi => by obtain ⟨rfl, m⟩ := getI hi; exact ht _ m H1 e) (fun i x H1 e hi hf => by obtain ⟨rfl, m⟩ := getI hi; exact he _ m H1 e hf)
  rw [List.length_map, given_list] at z
  exact z
theorem lcR {ta : TA} {j : Nat} {vs : List Nat} {n : Nat} (f : Nat → Bool) (g : Nat → V) (h : EvA ta σ H [.int (n : Int)]) (hn : n ≤ 40000) (hw : ∀ x, wipe ((wipe σ vs).set j (some x)) vs = wipe σ vs)
    (ht : ∀ (i : Nat) H1, Ex H H1 → i < n → EvT t ((wipe σ vs).set j (some (.int (i : Int)))) H1 (f i)) (he : ∀ (i : Nat) H1, Ex H H1 → i < n → f i = true → Ev te ((wipe σ vs).set j (some (.int (i : Int)))) H1 (g i)) :
    EvL (tLc (iRng1 ta) (gName j) t te vs) σ H (((List.range n).filter f).map g) :=
  el_lcR1 f g h (by omega) hw (fun i H1 e hi => ht i H1 e (by omega)) fun i H1 e hi hf => he i H1 e (by omega) hf
theorem et_yes : EvT tYes σ H true := fun H1 _ _ q => q H1 (Ex.refl H1)
theorem filter_yes {α : Type} (l : List α) : l.filter (fun _ => true) = l := List.filter_eq_self.mpr fun _ _ => rfl
/-! ### slices -/
theorem sIx_hi (n k : Nat) (h : k ≤ n) (d : Nat) : HT.sIx n d (some (k : Int)) = k := by
  rw [HT.sIx_nat]
  omega
theorem cut_from (ns : List Int) (k : Nat) : cutV (il ns) (some (k : Int)) none = il (ns.drop k) := by
  unfold cutV
  rw [HT.sIx_nat, HT.sIx_none]
  simp only [List.length_map]
  rw [List.take_of_length_le (by rw [List.length_drop, List.length_map]; exact Nat.le_refl _), ← List.map_drop]
  congr 1
  by_cases h : k ≤ ns.length
  · rw [Nat.min_eq_left h]
  · rw [Nat.min_eq_right (by omega), List.drop_length, List.drop_of_length_le (by omega)]
theorem cut_to (ns : List Int) (k : Nat) : cutV (il ns) none (some (k : Int)) = il (ns.take k) := by
  unfold cutV
  rw [HT.sIx_nat, HT.sIx_none]
  simp only [List.length_map]
  rw [List.drop_zero, Nat.sub_zero, ← List.map_take]
  congr 1
  by_cases h : k ≤ ns.length
  · rw [Nat.min_eq_left h]
  · rw [Nat.min_eq_right (by omega), List.take_length, List.take_of_length_le (by omega)]
theorem sl_from {k : Nat} {tl2 : TO} {ns : List Int} (h : Ev te σ H (.ref a)) (hs : SqL K H a (il ns)) (h1 : EvO tl2 σ H (some (k : Int))) : EvL (tSl (rSlL K) te tl2 tNoPart) σ H (il (ns.drop k)) := by
  rw [← cut_from]
  exact el_sl h h1 eo_none hs
theorem sl_to {k : Nat} {tl2 : TO} {ns : List Int} (h : Ev te σ H (.ref a)) (hs : SqL K H a (il ns)) (h1 : EvO tl2 σ H (some (k : Int))) : EvL (tSl (rSlL K) te tNoPart tl2) σ H (il (ns.take k)) := by
  rw [← cut_to]
  exact el_sl h eo_none h1 hs
/-! ### isinstance of an int, a list -/
theorem call_isiS {X : Cx} : CallR X (.builtin "isinstance") (rIsi X.K) := call_isi
theorem ev_isiInt {n : Int} {T : String} {b : Bool} (h : Ev te σ H (.int n)) (hk : PySem.W.kitOne K (.type "int") (.type T) = some b) : Ev (tCB (rIsi K) (tCons te (tCons (tC (.ty T)) tNil))) σ H (.bl b) := fun H1 e _ q =>
  h H1 e _ fun H2 e2 => ⟨.int n, .ty T, _, _, b, rfl, .ty T, .base (.int n), hk, q H2 e2⟩
theorem ev_isiLst {T : String} {b : Bool} (h : Ev te σ H (.ref a)) (ha : H a = some (.lst xs)) (hk : PySem.W.kitOne K (.type "list") (.type T) = some b) : Ev (tCB (rIsi K) (tCons te (tCons (tC (.ty T)) tNil))) σ H (.bl b) := fun H1 e _ q =>
  h H1 e _ fun H2 e2 => ⟨.ref a, .ty T, _, _, b, rfl, .ty T, .base (.lst (e2 _ _ (e _ _ ha))), hk, q H2 e2⟩
end
/-! ### defs of the text -/
def Def (K : PySem.W.Frag) (mg : Str → Option Value) (x : Str) (st : Stmt) : Prop := ∃ f fd, Fun K x x st f fd ∧ mg x = some (.ref f)
def Has (P : Program) (w : World) (K : PySem.W.Frag) (mg : Str → Option Value) (base : Heap) (CX : CXT) (x : Str) (k : Nat) (ps : List Str) (sp : Sp) : Prop :=
  ∃ f fd, FnOk P w K mg base CX k f fd ps sp ∧ mg x = some (.ref f) ∧ PySem.W.keepIn K (.ref f) = true ∧ Binds K fd ps []
def len2 {K : PySem.W.Frag} := K
end Sh
namespace Sh
/-! ### list(reversed(xs)), xs a list: a new list, the items from the end -/
section
open PySem PySem.Spec PySem.Calls PyProof.Rows L2 RT
variable {prog : Program} {w : World} {A : Around} {E : Value → Shared → Prop} {s : Shared}
theorem ext_rev {R : Result → Shared → Prop} {it l S : Addr} {res : Value} {c0 : Nat} {items : Array Value} (hh : A.handled = none) (hit : s.heap.IsRevIter it l ((items.size : Int) - 1)) (hl : s.heap.IsList l items) (hne : l ≠ it) (hn : items.size ≤ sizeLine)
    (hSi : S ≠ it) (hSl : S ≠ l) (hS : s.heap.get? S = some { cls := .type "list", data := .seq #[] c0 })
    (hR : ∀ (h' : Heap) (tk : Nat) (acc : Array Value) (c' : Nat), (∀ b o, b ≠ S → b ≠ it → s.heap.get? b = some o → h'.get? b = some o) → h'.get? S = some { cls := .type "list", dict := none, data := .seq acc c', slots := #[] } →
      ItemsOf (fun i v => items[items.size - 1 - i]? = some v) acc items.size → R (.ok (.ret res)) { s with heap := h', toks := tk }) :
    wpAny (model prog w) A.in1 (Builtin.List.listExtendWith (.ref S) (.ref it) res)
      (fun fin s2 => match fin with | .done f => R (.ok f) s2 | .again c2 => c2.quiet = true ∧ codeAny (model prog w) A c2 R s2) (fun e s2 => R (.error e) s2) s := by
  have W := (Walks.listRev (prog := prog) (w := w) (A := A.in1) hh it l hne items).toS
  have hSf : S ∉ [it, l] := fun hm => (List.mem_cons.mp hm).elim hSi fun hm => hSl (List.mem_singleton.mp hm)
  have hT : s.TypeIs (.ref it) "list_reverseiterator" := hit.typeIs
  have h1 : Builtin.List.listSameRef (.ref S) (.ref it) = false := by simp [Builtin.List.listSameRef, hSi]
  unfold Builtin.List.listExtendWith
  refine wpAny_bind (wpAny_typeOf hT ?_); rw [if_neg (by rw [h1]; decide)]
  refine wpAny_bind (wpAny_pyIter_revIter hit ?_); refine wpAny_bind (wpAny_holding ?_)
  unfold Builtin.List.listLengthHint
  refine wpAny_bind (wpAny_specialOf hT nolen_lri ?_)
  show wpAny _ A.in1 (specialOf (Value.ref it) (Str.ofString "__length_hint__") >>= _) _ _ _
  refine wpAny_bind (wpAny_specialOf hT hint_lri ?_)
  generalize hid : ("list_reverseiterator.__length_hint__" : String) = id0
  wp_delta
  rw [show splitId id0 = some ("list_reverseiterator", "__length_hint__") from by subst hid; decide +kernel]; subst hid
  refine wpAny_bind (wpAny_isInstance (b := true) hT (by rw [isSubtype_type]; kernel_rfl) ?_); refine wpAny_pure ?_
  rw [if_neg (by decide)]
  have e0 : ((items.size : Nat) : Int) - 1 - ((0 : Nat) : Int) = (items.size : Int) - 1 := by omega
  refine wpAny_pure ⟨plainId_quiet F.plain_extend_loop _, codeAny_extend_loopS W hn _ hSf _ items.size 0 _ _ _ rfl (Nat.zero_le _) ⟨Nat.zero_le _, by rw [e0]; exact hit, hl⟩ hS (ItemsOf.nil _) fun s2 acc c2 hm hS2 hacc => ?_⟩
  rw [Moved.eq_with hm]
  refine hR s2.heap s2.toks acc c2 (fun b o hb hb2 e => hm.heap b o (fun hmem => ?_) e) hS2 hacc
  exact (List.mem_cons.mp hmem).elim hb fun hmem => hb2 (List.mem_singleton.mp hmem)
theorem init_rev {R : Result → Shared → Prop} {it l S : Addr} {items : Array Value} (hh : A.handled = none) (hit : s.heap.IsRevIter it l ((items.size : Int) - 1)) (hl : s.heap.IsList l items) (hne : l ≠ it) (hn : items.size ≤ sizeLine)
    (hSi : S ≠ it) (hSl : S ≠ l) (hS : s.heap.get? S = some { cls := .type "list", data := .seq #[] })
    (hR : ∀ (h' : Heap) (tk : Nat) (acc : Array Value) (c' : Nat), (∀ b o, b ≠ S → b ≠ it → s.heap.get? b = some o → h'.get? b = some o) → h'.get? S = some { cls := .type "list", dict := none, data := .seq acc c', slots := #[] } →
      ItemsOf (fun i v => items[items.size - 1 - i]? = some v) acc items.size → R (.ok (.ret .none)) { s with heap := h', toks := tk }) :
    wpAny (model prog w) A.in1 (Builtin.«list.__init__» ⟨[.ref S, .ref it], []⟩)
      (fun fin s2 => match fin with | .done f => R (.ok f) s2 | .again c2 => c2.quiet = true ∧ codeAny (model prog w) A c2 R s2) (fun e s2 => R (.error e) s2) s := by
  show wpAny _ A.in1 (do let old ← Builtin.List.listItems (.ref S); Builtin.List.listUpdate (.ref S) (fun _ => #[]); letGo old.toList.reverse; Builtin.List.listExtendWith (.ref S) (.ref it) .none) _ _ s
  refine wpAny_bind ?_; unfold Builtin.List.listItems; refine wpAny_bind (wpAny_seqItems hS rfl (wpAny_pure ?_))
  show wpAny _ A.in1 (updateSeq S (fun _ => #[]) >>= fun _ => letGo (#[] : Array Value).toList.reverse >>= fun _ => Builtin.List.listExtendWith (.ref S) (.ref it) .none) _ _ s
  refine wpAny_bind (wpAny_updateSeq hS rfl ?_)
  have hS2 := Heap.get?_update_self (Obj.mapSeq (fun _ => (#[] : Array Value))) hS rfl
  have oth : ∀ b o, b ≠ S → s.heap.get? b = some o → (s.heap.update S (Obj.mapSeq (fun _ => (#[] : Array Value)))).get? b = some o := fun b o hb e => (Heap.get?_update_other _ _ (Ne.symm hb)).trans e
  refine wpAny_bind (wpAny_letGo ?_)
  refine ext_rev (l := l) (items := items) hh (hit.at fun o e => oth it o (Ne.symm hSi) e) (hl.at fun o e => oth l o (Ne.symm hSl) e) hne hn hSi hSl hS2 fun h' tk acc c' hk hS3 hacc => ?_
  exact hR h' tk acc c' (fun b o hb hb2 e => hk b o hb hb2 (oth b o hb e)) hS3 hacc
theorem call_list_rev {it l : Addr} {items : Array Value} {Q : Value → Shared → Prop} (hh : A.handled = none) (hit : s.heap.IsRevIter it l ((items.size : Int) - 1)) (hl : s.heap.IsList l items) (hne : l ≠ it) (hn : items.size ≤ sizeLine)
    (hQ : ∀ (h' : Heap) (tk : Nat) (acc : Array Value) (c' : Nat), (∀ b o, b ≠ it → s.heap.get? b = some o → h'.get? b = some o) → h'.get? s.heap.objs.size = some { cls := .type "list", dict := none, data := .seq acc c', slots := #[] } →
      ItemsOf (fun i v => items[items.size - 1 - i]? = some v) acc items.size → Q (.ref s.heap.objs.size) { s with heap := h', toks := tk }) : wpAny (model prog w) A (call (.type "list") [.ref it]) Q E s := by
  obtain ⟨oi, hoi, _⟩ := id hit
  obtain ⟨ol, hol, _⟩ := id hl
  refine callType_codes (Q₁ := fun obj s₁ => obj = .ref s.heap.objs.size ∧ s₁ = { s with heap := s.heap.push { cls := .type "list", data := .seq #[] } }) F.called_list (F.typeCall_list_1 _) F.entry_list_init (code_list_new _ ⟨rfl, rfl⟩) fun obj s₁ h₁ => ?_
  obtain ⟨rfl, rfl⟩ := h₁
  have hS : (s.heap.push { cls := .type "list", data := .seq #[] }).get? s.heap.objs.size = some { cls := .type "list", data := .seq #[] } := Heap.get?_push_size _ rfl
  refine ⟨⟨_, hS, rfl⟩, F.args_list_init_2 _ _, init_rev (A := A.in1) (l := l) (items := items) hh (hit.at fun o e => Heap.get?_push_of_some _ e) (hl.push _) hne hn (Nat.ne_of_gt (Heap.lt_size hoi)) (Nat.ne_of_gt (Heap.lt_size hol)) hS fun h' tk acc c' hk hS2 hacc => ?_⟩
  exact ⟨rfl, hQ h' tk acc c' (fun b o hb e => hk b o (Nat.ne_of_lt (Heap.lt_size e)) hb (Heap.get?_push_of_some _ e)) hS2 hacc⟩
end
open PySem PySem.Spec PyProof.Rows L2 Evl
def tListRev (K : PySem.W.Frag) (te : TE) : TE := fun σ H Q => te σ H fun v H1 => ∃ (a : Addr) (xs : List V), v = .ref a ∧ SqL K H1 a xs ∧ ∀ q, H1 q = none → Q (.ref q) (upd H1 q (.lst xs.reverse))
theorem pe_listRev {X : Cx} {e : Expr} {te : TE} {p p2 pos pos2 : Pos} (hc : X.calm = true) (hg : Gl X "list") (hm : X.mg "list" = none) (hg2 : Gl X "reversed") (hm2 : X.mg "reversed" = none) (he : PE X e te)
    (hs : starEach [e] X.env = (false, eval e X.env) :: starEach [] X.env := by rfl)
    (hs2 : starEach [.Call (.Name "reversed" p2) [e] [] pos2] X.env = (false, eval (.Call (.Name "reversed" p2) [e] [] pos2) X.env) :: starEach [] X.env := by rfl) :
    PE X (.Call (.Name "list" p) [.Call (.Name "reversed" p2) [e] [] pos2] [] pos) (tListRev X.K te) := by
  refine ⟨fun pins s σ H Q I h => ?_⟩
  refine Call_ (ld_blt I hg hm boot_list (PyProof.Rows.callWith_type1 (args_cons (Call_ (ld_blt I hg2 hm2 PyProof.Rows.boot_reversed (PyProof.Rows.callWith_type1 (args_cons (thn (he.run pins s σ H _ I h) fun u s1 ⟨v, H1, I1, r1, q1⟩ => args_nil ?_) hs) hs rfl))) hs2) hs2 rfl))
  obtain ⟨a, xs, rfl, hq, q⟩ := q1
  obtain rfl : u = Value.ref a := r1
  obtain ⟨its, rv, p', hz⟩ := I1.list hq
  refine call_reversed_list p'.isList (args_nil ?_)
  have I2 : Inv X pins σ H1 { s1 with heap := s1.heap.push (revObj a ((its.toArray.size : Int) - 1)) } := I1.kept (t' := s1.toks) fun b o e => Heap.get?_push_of_some _ e
  obtain ⟨f0, f1, f2, f3, f4, f5⟩ := I1.fpOk (H' := H1) (b := s1.heap.objs.size) (Nat.le_refl _) (I1.hok.fresh (Nat.le_refl _))
  have hl := p'.isList
  obtain ⟨ol, hol, _⟩ := id hl
  have hn : its.toArray.size ≤ sizeLine := by rw [List.size_toArray, ← rv.length]; exact hz
  refine call_list_rev (s := { s1 with heap := s1.heap.push (revObj a ((its.toArray.size : Int) - 1)) }) (I1.ok.hd hc) ⟨_, Heap.get?_push_size _ rfl, rfl, rfl⟩ (hl.push _) (Nat.ne_of_lt (Heap.lt_size hol)) hn fun h' tk acc c' hk hS hi => ?_
  have k2 : ∀ b o, s1.heap.get? b = some o → h'.get? b = some o := fun b o e => hk b o (Nat.ne_of_lt (Heap.lt_size e)) (Heap.get?_push_of_some _ e)
  have hle : s1.heap.objs.size ≤ (s1.heap.push (revObj a ((its.toArray.size : Int) - 1))).objs.size := by rw [Heap.size_push]; exact Nat.le_succ _
  refine ⟨.ref _, upd H1 _ (.lst xs.reverse), I1.laid (t' := tk) k2 hle (show ObjOk X.prog X.w _ _ _ (.lst xs.reverse) from ⟨by rw [List.length_reverse]; exact hz, acc.toList, c', RT.vals_rev rv hi, ?_⟩), rfl, q _ (I1.hok.fresh hle)⟩
  rw [Array.toArray_toList]
  exact hS
section
variable {K : PySem.W.Frag} {σ : L2.St} {H : Hp} {te : TE} {a : Addr} {xs : List V}
theorem el_rev (h : Ev te σ H (.ref a)) (hx : SqL K H a xs) : EvL (tListRev K te) σ H xs.reverse := fun H1 e Q q =>
  h H1 e _ fun H2 e2 => ⟨a, xs, rfl, ex_l (e.trans e2) hx, fun l hl => q l _ (fresh_back e2 hl) (e2.trans (Ex.new hl)) upd_same⟩
theorem el_revN (h : EvL te σ H xs) : EvL (tListRev K te) σ H xs.reverse := fun H1 e Q q =>
  h H1 e _ fun p H2 _ e2 hp => ⟨p, xs, rfl, sq_of hp, fun l hl => q l _ (fresh_back e2 hl) (e2.trans (Ex.new hl)) upd_same⟩
end
end Sh
namespace Sh
open PySem PySem.Spec PyProof.Rows L2 Evl
section
variable {K : PySem.W.Frag} {H0 H H1 : Hp} {M : List (Addr × List V)} {a p : Addr} {xs ys : List V} {v : V} {Q : VK}
variable {D : Ends} {σ : L2.St} {te ta tb tl : TE} {t : TT} {tu tw tz : TS} {b : Bool}
/-- name = f(..), the answer told by the promise alone -/
theorem AC {i : Nat} {sp : Sp} {dvs vs : List V} {E : XK} {tr : TA} (O : Own H0 M H) (ha : EvA tr σ H vs) (hs : ∀ H1, Own H0 M H1 → sp (vs ++ dvs) H1 (fun x H2 => D.nx (σ.set i (some x)) H2) E) : tAsg (tCall sp dvs E tr) (gName i) D σ H :=
  ha H (Ex.refl H) _ fun H1 e => hs H1 (O.mono e)
/-- f(..) as a statement -/
theorem DC {sp : Sp} {dvs vs : List V} {E : XK} {tr : TA} (O : Own H0 M H) (ha : EvA tr σ H vs) (hs : ∀ H1, Own H0 M H1 → sp (vs ++ dvs) H1 (fun _ H2 => D.nx σ H2) E) : tDrop (tCall sp dvs E tr) D σ H :=
  ha H (Ex.refl H) _ fun H1 e => hs H1 (O.mono e)
theorem qAC {i : Nat} {sp : Sp} {dvs vs : List V} {E : XK} {tr : TA} (O : Own H0 M H) (ha : EvA tr σ H vs) (hs : ∀ H1, Own H0 M H1 → sp (vs ++ dvs) H1 (fun x H2 => tz D (σ.set i (some x)) H2) E) : tSeq (tAsg (tCall sp dvs E tr) (gName i)) tz D σ H := AC (D := { D with nx := tz D }) O ha hs
theorem qDC {sp : Sp} {dvs vs : List V} {E : XK} {tr : TA} (O : Own H0 M H) (ha : EvA tr σ H vs) (hs : ∀ H1, Own H0 M H1 → sp (vs ++ dvs) H1 (fun _ H2 => tz D σ H2) E) : tSeq (tDrop (tCall sp dvs E tr)) tz D σ H := DC (D := { D with nx := tz D }) O ha hs
theorem rv_eqI {i j : Int} : RV rEq (.int i) (.int j) H (.bl (decide (i = j))) := fun H1 _ Q q => ⟨rfl, by
  have e : decide (V.int i = V.int j) = decide (i = j) := by
    rw [Bool.eq_iff_iff, decide_eq_true_eq, decide_eq_true_eq]
    exact ⟨V.int.inj, congrArg V.int⟩
  rw [e]
  exact q H1 (Ex.refl H1)⟩
theorem rv_neI {i j : Int} : RV rNe (.int i) (.int j) H (.bl (!decide (i = j))) := fun H1 _ Q q => ⟨rfl, by
  have e : decide (V.int i = V.int j) = decide (i = j) := by
    rw [Bool.eq_iff_iff, decide_eq_true_eq, decide_eq_true_eq]
    exact ⟨V.int.inj, congrArg V.int⟩
  rw [e]
  exact q H1 (Ex.refl H1)⟩
theorem ev_ixNL {ns : List Int} {z : Int} (h : EvL tl σ H (il ns)) (hi : ∀ H1, Ex H H1 → Ev tb σ H1 (.int z)) (hb : 0 ≤ z ∧ z < ns.length) : Ev (tOp (rIxL K) tl tb) σ H (.int (gt ns z.toNat)) :=
  ev_opL1 h hi fun q H1 hq _ => rv_ixL (sq_of hq) (by
    have e : z = ((z.toNat : Nat) : Int) := (Int.toNat_of_nonneg hb.1).symm
    rw [e]
    exact atI_gt (by omega))
/-! sorted -/
def srt (ns : List Int) : List Int := ns.mergeSort fun x y => decide (x ≤ y)
theorem srt_perm (ns : List Int) : (srt ns).Perm ns := List.mergeSort_perm ns _
theorem srt_le (ns : List Int) : (srt ns).Pairwise (· ≤ ·) := by
  have h := List.pairwise_mergeSort (le := fun x y : Int => decide (x ≤ y)) (fun x y z h1 h2 => by simp only [decide_eq_true_eq] at *; omega) (fun x y => by simp only [Bool.or_eq_true, decide_eq_true_eq]; omega) ns
  exact h.imp fun h => by simpa using h
theorem srt_eq {ns ms : List Int} (h : ms.Perm ns) (hp : ms.Pairwise (· ≤ ·)) : ms = srt ns :=
  (h.trans (srt_perm ns).symm).eq_of_pairwise (fun x y _ _ h1 h2 => by omega) hp (srt_le ns)
theorem srt_of_perm {ns ms : List Int} (h : ns.Perm ms) : srt ns = srt ms := srt_eq ((srt_perm ns).trans h) (srt_le ns)
theorem el_sorted {ns : List Int} (h : Ev te σ H (.ref a)) (hx : SqL K H a (il ns)) (hl : ns.length < 64) : EvL (tCB (rSorted K) (tCons te tNil)) σ H (il (srt ns)) := fun H1 e Q q =>
  h H1 e _ fun H2 e2 => ⟨a, ns, rfl, ex_l (e.trans e2) hx, hl, fun ms l hp hs hn => by
    rw [srt_eq hp hs]
    exact q l _ (fresh_back e2 hn) (e2.trans (Ex.new hn)) upd_same⟩
/-- list(range(n)) -/
theorem el_listRg {n : Nat} (h : Ev te σ H (.int (n : Int))) (hn : n ≤ 100000) : EvL (tLstRg (tRg1 te)) σ H (il ((List.range n).map fun i : Nat => (i : Int))) := fun H1 e Q q =>
  h H1 e _ fun H2 e2 => by
    refine ⟨(n : Int), rfl, ⟨by omega, by omega, by omega, by omega, by omega⟩, fun l hl => ?_⟩
    refine q l _ (fresh_back e2 hl) (e2.trans (Ex.new hl)) ?_
    rw [upd_same]
    unfold rgV il
    rw [List.map_map]
    simp only [Int.sub_zero, Int.toNat_natCast]
    congr 3
    funext i
    simp
end
end Sh
namespace Sh
open PySem PySem.Spec PyProof.Rows L2 Evl
section
variable {K : PySem.W.Frag} {H0 H H1 : Hp} {a p : Addr} {σ : L2.St} {te ta tb tl : TE} {t : TT}
theorem ev_ixn {ns : List Int} {z : Int} (i : Nat) (h : Ev tl σ H (.ref a)) (hx : SqL K H a (il ns)) (hi : Ev tb σ H (.int z)) (hz : z = (i : Int)) (hb : i < ns.length) : Ev (tOp (rIxL K) tl tb) σ H (.int (gt ns i)) :=
  ev_ix h hx (ev_is hi (congrArg V.int hz)) hb
/-- a comprehension over range(lo, n) -/
theorem lcR2 {ta : TA} {j : Nat} {vs : List Nat} {lo n : Int} (f : Nat → Bool) (g : Nat → V) (h : EvA ta σ H [.int lo, .int n]) (hn : 0 ≤ lo ∧ lo ≤ 40000 ∧ -40000 ≤ n ∧ n ≤ 40000) (hw : ∀ x, wipe ((wipe σ vs).set j (some x)) vs = wipe σ vs)
    (ht : ∀ (i : Nat) H1, Ex H H1 → lo + (i : Int) < n → EvT t ((wipe σ vs).set j (some (.int (lo + (i : Int))))) H1 (f i)) (he : ∀ (i : Nat) H1, Ex H H1 → lo + (i : Int) < n → f i = true → Ev te ((wipe σ vs).set j (some (.int (lo + (i : Int))))) H1 (g i)) :
    EvL (tLc (iRng2 ta) (gName j) t te vs) σ H (((List.range (n - lo).toNat).filter f).map g) := fun H0 e Q q => h H0 e _ fun H1 e1 => ⟨lo, n, rfl, ⟨by omega, by omega, by omega, by omega⟩, fun Dl hD =>
  lc_range (lo := lo) (n := (n - lo).toNat) (Cw H1 f g Dl) ⟨hD, Ex.new hD, upd_same⟩ (fun i H' hi p => ⟨hw _, cw_turn p (by omega) (ht i H1 (e.trans e1) (by omega)) fun hf => he i H1 (e.trans e1) (by omega) hf⟩)
    fun H' p => q Dl H' (fresh_back e1 p.1) (e1.trans p.2.1) p.2.2⟩
end
end Sh
namespace Sh
open PySem PySem.Spec PyProof.Rows L2 Evl
section
variable {K : PySem.W.Frag} {H0 H : Hp} {M : List (Addr × List V)} {a p : Addr} {xs : List V} {v w : V} {D : Ends} {σ : L2.St} {te te2 ta ta2 tb tb2 : TE} {tz : TS}
/-- xs[j], xs[j2] = v, w -/
theorem SWAP (i j j2 : Nat) (O : Own H0 M H) (hi : M[i]? = some (p, xs)) (h : Ev te σ H v) (h2 : Ev te2 σ H w) (ha : ∀ H', Ev ta σ H' (.ref p)) (hb : ∀ H', Ev tb σ H' (.int (j : Int))) (ha2 : ∀ H', Ev ta2 σ H' (.ref p)) (hb2 : ∀ H', Ev tb2 σ H' (.int (j2 : Int)))
    (hj : j < xs.length) (hj2 : j2 < xs.length) (k : ∀ H1, Own H0 (M.set i (p, (xs.set j v).set j2 w)) H1 → D.nx σ H1) :
    tAsg (tTup (tCons te (tCons te2 tNil))) (gTup K 2 (gCons (gSub ta tb rSetL) (gCons (gSub ta2 tb2 rSetL) gNil))) D σ H :=
  eu_tup (ea_cons h (ea_cons h2 ea_nil)) (by show 2 ≤ 100000; decide) H (Ex.refl H) _ fun t H1 _ e ht => by
    refine ⟨t, [v, w], rfl, st_of ht, rfl, v, [w], rfl, ?_⟩
    have O1 := O.mono e
    refine ha H1 H1 (Ex.refl H1) _ fun H2 e2 => hb H2 H2 (Ex.refl H2) _ fun H3 e3 => ?_
    have O3 := (O1.mono e2).mono e3
    refine ⟨p, xs, (j : Int), j, rfl, rfl, O3.get i hi, ixN_nat hj, ?_⟩
    have O4 := O3.upd (ys := xs.set j v) i hi
    have il' : i < M.length := (List.getElem?_eq_some_iff.mp hi).1
    have hi4 : (M.set i (p, xs.set j v))[i]? = some (p, xs.set j v) := List.getElem?_set_self il'
    refine ⟨w, [], rfl, ?_⟩
    refine ha2 _ _ (Ex.refl _) _ fun H5 e5 => hb2 H5 H5 (Ex.refl H5) _ fun H6 e6 => ?_
    have O6 := (O4.mono e5).mono e6
    refine ⟨p, _, (j2 : Int), j2, rfl, rfl, O6.get i hi4, ixN_nat (by rw [List.length_set]; exact hj2), rfl, ?_⟩
    have O7 := O6.upd (ys := (xs.set j v).set j2 w) i hi4
    rw [List.set_set] at O7
    exact k _ O7
theorem qSWAP (i j j2 : Nat) (O : Own H0 M H) (hi : M[i]? = some (p, xs)) (h : Ev te σ H v) (h2 : Ev te2 σ H w) (ha : ∀ H', Ev ta σ H' (.ref p)) (hb : ∀ H', Ev tb σ H' (.int (j : Int))) (ha2 : ∀ H', Ev ta2 σ H' (.ref p)) (hb2 : ∀ H', Ev tb2 σ H' (.int (j2 : Int)))
    (hj : j < xs.length) (hj2 : j2 < xs.length) (k : ∀ H1, Own H0 (M.set i (p, (xs.set j v).set j2 w)) H1 → tz D σ H1) :
    tSeq (tAsg (tTup (tCons te (tCons te2 tNil))) (gTup K 2 (gCons (gSub ta tb rSetL) (gCons (gSub ta2 tb2 rSetL) gNil)))) tz D σ H := SWAP (D := { D with nx := tz D }) i j j2 O hi h h2 ha hb ha2 hb2 hj hj2 k
end
end Sh
namespace Sh
open PySem PySem.Spec PyProof.Rows L2 Evl
section
variable {K : PySem.W.Frag} {H0 H : Hp} {σ : L2.St} {ta tb : TE} {xs : List V} {z : V} {E : XK} {sp : Sp}
/-- f(xs), xs a new list -/
theorem ec_call1N (h1 : EvL ta σ H xs) (hs : ∀ p H1, H1 p = some (.lst xs) → Ex H H1 → SpV sp [.ref p] H1 z) : Ev (tCall sp [] E (tCons ta tNil)) σ H z := fun H1 e Q q =>
  h1 H1 e _ fun p H2 _ e2 hp => hs p H2 hp (e.trans e2) H2 (Ex.refl H2) Q (fun H3 e3 => q H3 (e2.trans e3)) E
theorem el_call1N {ys : List V} (h1 : EvL ta σ H xs) (hs : ∀ p H1, H1 p = some (.lst xs) → Ex H H1 → SpL sp [.ref p] H1 ys) : EvL (tCall sp [] E (tCons ta tNil)) σ H ys := fun H1 e Q q =>
  h1 H1 e _ fun p H2 _ e2 hp => hs p H2 hp (e.trans e2) H2 (Ex.refl H2) Q (fun q2 H3 hq e3 h3 => q q2 H3 (fresh_back e2 hq) (e2.trans e3) h3) E
theorem rv_neB {x y : Bool} : RV rNe (.bl x) (.bl y) H (.bl (x != y)) := fun H1 _ Q q => ⟨rfl, by
  have e : (!decide (V.bl x = V.bl y)) = (x != y) := by cases x <;> cases y <;> decide
  rw [e]
  exact q H1 (Ex.refl H1)⟩
/-- tuples of two ints, by < -/
theorem ev_ltP {i j k l : Int} (ha : EvU ta σ H [.int i, .int j]) (hb : EvU tb σ H [.int k, .int l]) : Ev (tOp (rLtT K) ta tb) σ H (.bl (decide (i < k ∨ (i = k ∧ j < l)))) :=
  ev_opUU ha hb fun p q H1 hp hq _ H2 e2 Q qq => by
    refine ⟨p, q, [i, j], [k, l], rfl, rfl, st_of (e2 _ _ hp), st_of (e2 _ _ hq), ?_⟩
    have e : HT.lexLt [i, j] [k, l] = decide (i < k ∨ (i = k ∧ j < l)) := by
      show (if i = k then (if j = l then false else decide (j < l)) else decide (i < k)) = _
      by_cases h1 : i = k
      · rw [if_pos h1]
        by_cases h2 : j = l
        · rw [if_pos h2, Eq.comm, decide_eq_false_iff_not]
          omega
        · rw [if_neg h2, decide_eq_decide]
          omega
      · rw [if_neg h1, decide_eq_decide]
        omega
    rw [e]
    exact qq H2 (Ex.refl H2)
end
end Sh
namespace Sh
open PySem PySem.Spec PyProof.Rows L2 Evl L2H
/-! ### defs that raise where nothing is handled; a def that a suite hands its exception to -/
def E0 : XK := fun _ _ _ => False
theorem okN {P : Program} {w : World} {K : PySem.W.Frag} {mg : Str → Option Value} {base : Heap} {x qual : Str} {st : Stmt} {f : Addr} {fd : FuncData} {N ps : List Str} {k : Nat} {sp : Sp} (F : Fun K x qual st f fd) (S : FnScope N ps (defScope st))
    (len : ∀ vs H Q E, sp vs H Q E → vs.length = ps.length)
    (hbody : ∀ (cdv : Value) (A : Around) (outer : List Env) (s : Shared) (H : Hp) (vs : List V) (Q : VK) (E : XK), Room k (A.deeper (envOfC qual (defScope st) s.heap.objs.size f cdv)) → sp vs H Q E →
      ∃ t, PSs (cxOf (L2N.CX P w) P w K mg base N qual (defScope st) f cdv A outer s H E) (defBody st) t ∧ t { nx := fun _ H' => Q .non H', rt := Q } (L2.start N vs) H) : FnOk P w K mg base (L2N.CX P w) (k + 1) f fd ps sp := by
  obtain ⟨_, _, _, _, _, _, cdv, _, _, rfl, lk, hcd⟩ := F.ex
  exact fn_of lk hcd S len fun A outer s H vs Q E => hbody cdv A outer s H vs Q E
/-- what such a def promises: p is the exception that is handled -/
structure FnP (P : Program) (w : World) (K : PySem.W.Frag) (mg : Str → Option Value) (base : Heap) (k : Nat) (f : Addr) (fd : FuncData) (ps : List Str) (sp : Addr × Obj → Sp) : Prop where
  len : ∀ p vs H Q E, sp p vs H Q E → vs.length = ps.length
  run : ∀ (p : Addr × Obj) (A : Around) (outer : List Env) (s : Shared) (H : Hp) (args : Args) (us : List Value) (vs : List V) (Q : VK) (E : XK), RoomH k A → PinOk outer H s p → Env0 P w K mg base A outer s H → BindsTo s fd args (ps.zip us) → Vals vs us → sp p vs H Q E →
    codeAny (model P w) A (.call (.ref f) args) (CR CX0 outer P w H s Q E) s
theorem okP {P : Program} {w : World} {K : PySem.W.Frag} {mg : Str → Option Value} {base : Heap} {x qual : Str} {st : Stmt} {f : Addr} {fd : FuncData} {N ps : List Str} {k : Nat} {sp : Addr × Obj → Sp} (F : Fun K x qual st f fd) (S : FnScope N ps (defScope st))
    (len : ∀ p vs H Q E, sp p vs H Q E → vs.length = ps.length)
    (hbody : ∀ (p : Addr × Obj) (cdv : Value) (A : Around) (outer : List Env) (s : Shared) (H : Hp) (vs : List V) (Q : VK) (E : XK), RoomH k (A.deeper (envOfC qual (defScope st) s.heap.objs.size f cdv)) → sp p vs H Q E →
      ∃ t, PSs (cxH CX0 P w K mg base N qual (defScope st) f cdv A outer s H E p) (defBody st) t ∧ t { nx := fun _ H' => Q .non H', rt := Q } (L2.start N vs) H) : FnP P w K mg base (k + 1) f fd ps sp := by
  obtain ⟨_, _, _, _, _, _, cdv, _, _, rfl, lk, hcd⟩ := F.ex
  refine ⟨len, fun p A outer s H args us vs Q E room hpin env hbind hv hsp => ?_⟩
  have inK : K.In s.heap := env.mod.kin.keeps fun b o e => (env.bs b o e).1
  have par : ∀ y ∈ ps.zip us, (defScope st).names.lookup y.1 = some .local ∨ ((defScope st).names.lookup y.1 = some .cell ∧ ((cellsFrom (s.heap.objs.size + 1) (defScope st).names []).lookup y.1).isSome = true) := by
    rintro ⟨n, v⟩ hy
    exact (S.par n (List.of_mem_zip hy).1).imp id fun q => ⟨q, PySem.W.cellsFrom_some _ _ _ (.inl q)⟩
  refine codeAny_call_function room.depth (inK _ _ lk) rfl S.co S.gen rfl (PySem.W.codeRec_of inK hcd) (hbind _ _ _ _ (wpAny_newFunctionEnv_cells S.kind par ?_))
  rintro _ rfl s1 x
  refine ⟨(env.mod.nolimit.keeps fun b o e => (env.bs b o e).1).keeps x.toInCall.keep, codeAny_func ?_⟩
  obtain ⟨t, ht, hq⟩ := hbody p cdv A outer s H vs Q E (room.deeper _) hsp
  have J := inv_startH (CX := CX0) (E := E) S hpin env (len _ _ _ _ _ hsp) hv x
  refine wpAny_mono (ht.run [] s1 _ H _ J hq) (fun fl s' hs => ?_) fun _ _ hs => hs
  match fl, hs with
  | .ret u, ⟨v, _, H', J, rv, q⟩ => exact ⟨v, H', J.os, J.bare, J.base, J.hok, rv, q⟩
  | .next, ⟨_, H', J, q⟩ => exact ⟨.non, H', J.os, J.bare, J.base, J.hok, rfl, q⟩
  | .brk, ⟨_, _, _, q⟩ => exact q.elim
  | .cont, ⟨_, _, _, q⟩ => exact q.elim
section
variable {X : Cx} {k : Nat} {f a : Addr} {oe : Obj} {fd : FuncData} {ps : List Str} {sp : Addr × Obj → Sp} {x : Str} {p pos : Pos} {e : Expr} {te : TE}
/-- f(e), e the exception that the suite holds -/
def tCallP (sp : Addr × Obj → Sp) (a : Addr) (cls : Value) (d : Option Addr) (te : TE) : TE := fun σ H Q => tCons te tNil σ H fun vs H1 => vs = [.ref a] ∧ ∀ oe : Obj, Zc cls d oe → (∃ vs, oe.data = .fields vs) → sp (a, oe) [.ref a] H1 Q E0
theorem pe_callP {cls : Value} {d : Option Addr} (hin : (a, oe) ∈ X.pn) (hz : L2N.Zn cls d oe) (hf : ∃ vs, oe.data = .fields vs) (F : FnP X.prog X.w X.K X.mg X.base k f fd ps sp) (hr : RoomH k X.A) (hg : Gl X x) (hm : X.mg x = some (.ref f)) (hk : PySem.W.keepIn X.K (.ref f) = true) (hb : Binds X.K fd ps [])
    (ha : PE X e te) (hdb : (x == ("__debug__" : Str)) = false := by decide) (he : starEach [e] X.env = (false, eval e X.env) :: starEach [] X.env := by rfl) (hpl : (backTo pos (starEach [] X.env)).any (·.1) = false := by rfl) :
    PE X (.Call (.Name x p) [e] [] pos) (tCallP sp a cls d te) := by
  refine ⟨fun pins s σ H Q I h => ?_⟩
  refine wpAny_Call_Name_kw (ld_glob I hg hm (PySem.W.callWith_K (h₀ := X.base) I.ok.mod.kin hk (thn ((pa_cons ha pa_nil (hs := he)).run pos pins s σ H _ I h) fun us s1 hh => ?_) he hpl) hdb)
  obtain ⟨vs, H1, I1, r, rfl, hoe⟩ := hh
  refine ⟨I1.kIn, ?_⟩
  have hq := hoe oe hz.zc hf
  obtain ⟨hget, hno, hnl, hnf, hnc⟩ := I1.pin (a, oe) (List.mem_append.mpr (.inl hin))
  have b := hb s1 us I1.kIn (by rw [List.append_nil, ← r.length]; exact F.len _ _ _ _ _ hq)
  rw [List.append_nil] at b
  refine wpAny_call (codeAny_mono (F.run (a, oe) X.A X.stack s1 H1 ⟨us, []⟩ us [.ref a] _ E0 hr ⟨hget, hno, fun hm => (List.mem_cons.mp (I1.stkSub a hm)).elim hnl hnf, hnc⟩ I1.env0 b r hq) fun r s' hq => ?_)
  match r, hq with
  | .error _, hq => exact hq.elim
  | .ok (.ret u), hq => exact I1.after hq
  | .ok .next, hq => exact hq.elim
  | .ok .brk, hq => exact hq.elim
  | .ok .cont, hq => exact hq.elim
/-- isinstance(e, c), e the parameter that the handled exception was handed to -/
def rIsP (K : PySem.W.Frag) (a : Addr) (D : Addr) : List V → Hp → VK → Prop := fun xs H Q => ∃ (c : V) (cv : Value) (b : Bool), xs = [.ref a, c] ∧ (∀ u, RelV c u → u = cv) ∧ PySem.W.kitOne K (.ref D) cv = some b ∧ Q (.bl b) H
theorem call_isP {D : Addr} (hin : (a, oe) ∈ X.pn) (C : ExcC X.K D) (hz : Zc (.ref D) none oe) (hf : ∃ vs, oe.data = .fields vs) : CallR X (.builtin "isinstance") (rIsP X.K a D) := by
  rintro pins s σ H _ us Q I r ⟨c, cv, b, rfl, hcv, e, q⟩
  cases r with
  | cons rx rr =>
    cases rr with
    | cons rt rr =>
      cases rr
      cases rx
      have ec := hcv _ rt
      subst ec
      have hget := (I.pin (a, oe) (List.mem_append.mpr (.inl hin))).1
      obtain ⟨vs, hv⟩ := hf
      have J : PySem.W.InstAt s.heap a oe D none := by
        rcases oe with ⟨oc, od, oda, osl⟩
        rcases hz with ⟨z1, z2⟩
        dsimp only at z1 z2 hv
        subst z1 z2 hv
        exact ⟨hget, rfl, rfl, trivial⟩
      refine PySem.W.kia_one (PySem.W.handS_kitx_exc C.hg C.hk C.hs C.hd C.ha C.hn C.ht C.hm) I.kIn J e (fun z => nomatch z) ?_
      exact fun tk => ⟨.bl b, H, I.kept (t' := tk) fun _ _ z => z, rfl, q⟩
/-- xs.count(y), of any flat values -/
def rCntV (K : PySem.W.Frag) : V → List V → Hp → VK → Prop := fun x xs H Q => ∃ (a : Addr) (ys : List V) (y : V), x = V.ref a ∧ xs = [y] ∧ SqL K H a ys ∧ flatV y = true ∧ ys.all flatV = true ∧ Q (.int (ys.countP (fun z => eqV z y) : Nat)) H
theorem mt_cntV : MtR X "list.count" (rCntV X.K) := by
  rintro pins s σ H x xs v us Q I rx rxs ⟨a, ys, y, rfl, rfl, hs, fy, fys, q⟩
  cases rx
  obtain ⟨uy, rfl, ry⟩ := rxs.one
  obtain ⟨its, rv, ⟨⟨cls, dd, data, sl⟩, n, ho, hc, hdn, hd⟩, hlen⟩ := I.list hs
  simp only at hc hd
  subst hc hd
  have ec : ∀ (ys : List V) (its : List Value), Vals ys its → ys.all flatV = true → its.countP (eqU y) = ys.countP (fun z => eqV z y) := by
    intro ys its rv
    induction rv with
    | nil => intro _; rfl
    | cons r t ih =>
      intro hf
      rw [List.all_cons, Bool.and_eq_true] at hf
      rw [List.countP_cons, List.countP_cons, ih hf.2, eqU_of r hf.1]
  refine call_meets PySem.F.slot_list_count ⟨_, ho, rfl⟩ PySem.F.entry_list_count (PySem.F.args_list_count_2 _ _) (SeqAt.list_countAt a its.toArray n dd sl uy (eqU y)) ⟨ho, fun u' hu' => mem_eqAt ry fy rv fys u' (by simpa using hu'), ?_⟩
  refine ⟨.int (ys.countP (fun z => eqV z y) : Nat), H, I.tok _, ⟨s.toks, ?_⟩, q⟩
  show Value.int ((its.toArray.toList.countP (eqU y) : Nat) : Int) s.toks = Value.int ((ys.countP (fun z => eqV z y) : Nat) : Int) s.toks
  rw [ec ys its rv fys]
end
theorem takes0N {X : Cx} : L2N.Takes X (fun _ _ _ _ => False) := by
  rintro u s' ⟨_, _, _, _, _, _, _, _, _, _, _, _, _, _, _, _, z⟩
  exact z.elim
theorem passE0 {X : Cx} : Passes (L2N.CX X.prog X.w) X E0 := by
  rintro pins σ H s e s' I ⟨_, _, _, _, _, _, _, _, _, _, _, _, h⟩
  exact h.elim
def HasP (P : Program) (w : World) (K : PySem.W.Frag) (mg : Str → Option Value) (base : Heap) (x : Str) (k : Nat) (ps : List Str) (sp : Addr × Obj → Sp) : Prop :=
  ∃ f fd, FnP P w K mg base k f fd ps sp ∧ mg x = some (.ref f) ∧ PySem.W.keepIn K (.ref f) = true ∧ Binds K fd ps []
/-- try: f(..) as a statement -/
theorem qTRYD {K : PySem.W.Frag} {c : Value} {i : Nat} {ts : Addr → Value → Option Addr → TS} {D : Ends} {σ : L2.St} {H : Hp} {tz : TS} {sp : Sp} {vs : List V} {ta : TA} (ha : EvA ta σ H vs)
    (h : ∀ H1, Ex H H1 → sp vs H1 (fun _ H2 => tz D σ H2) (WE (wAs K c i ts (fun _ _ _ _ => False) { D with nx := tz D }) σ)) : tSeq (fun D σ H => tDrop (tCallS sp (WE (wAs K c i ts (fun _ _ _ _ => False) D)) ta) D σ H) tz D σ H :=
  ha H (Ex.refl H) (fun vs H1 => sp vs H1 (fun _ H2 => tz D σ H2) (WE (wAs K c i ts (fun _ _ _ _ => False) { D with nx := tz D }) σ)) h
/-- try: return (v, f(..)) -/
theorem rt_try {K : PySem.W.Frag} {c : Value} {i : Nat} {ts : Addr → Value → Option Addr → TS} {D : Ends} {σ : L2.St} {H : Hp} {sp : Sp} {v : V} {vs : List V} {ta : TA} (ha : EvA ta σ H vs)
    (h : ∀ H1, Ex H H1 → sp vs H1 (fun x H2 => [v, x].length ≤ sizeLine ∧ ∀ p, H2 p = none → D.rt (.ref p) (upd H2 p (.tup [v, x]))) (WE (wAs K c i ts (fun _ _ _ _ => False) D) σ)) :
    (fun D σ H => tRet (tTup (tCons (tC v) (tCons (tCallS sp (WE (wAs K c i ts (fun _ _ _ _ => False) D)) ta) tNil))) D σ H : TS) D σ H :=
  ha H (Ex.refl H) (fun vs H1 => sp vs H1 (fun x H2 => [v, x].length ≤ sizeLine ∧ ∀ p, H2 p = none → D.rt (.ref p) (upd H2 p (.tup [v, x]))) (WE (wAs K c i ts (fun _ _ _ _ => False) D) σ)) h
/-- name = f(e, v), e a new list -/
theorem qACN {H0 H : Hp} {M : List (Addr × List V)} {D : Ends} {σ : L2.St} {sp : Sp} {v : V} {xs : List V} {ta tb : TE} {tz : TS} {E : XK} {i : Nat} (O : Own H0 M H) (h1 : EvL ta σ H xs) (h2 : ∀ H1, Ex H H1 → Ev tb σ H1 v)
    (hs : ∀ p H1, Own H0 ((p, xs) :: M) H1 → sp ([.ref p, v] ++ []) H1 (fun x H2 => tz D (σ.set i (some x)) H2) E) : tSeq (tAsg (tCall sp [] E (tCons ta (tCons tb tNil))) (gName i)) tz D σ H :=
  h1 H (Ex.refl H) (fun x H1 => tCons tb tNil σ H1 fun xs H2 => sp ((x :: xs) ++ []) H2 (fun x H3 => tz D (σ.set i (some x)) H3) E) fun p H1 hp e h =>
    (ea_cons (h2 H1 e) ea_nil : EvA (tCons tb tNil) σ H1 [v]) H1 (Ex.refl H1) (fun xs H2 => sp ((V.ref p :: xs) ++ []) H2 (fun x H3 => tz D (σ.set i (some x)) H3) E) fun H2 e2 => hs p H2 ((O.new hp e h).mono e2)
/-- return f(..) -/
theorem RTC {H0 H : Hp} {M : List (Addr × List V)} {D : Ends} {σ : L2.St} {sp : Sp} {vs : List V} {ta : TA} {E : XK} (O : Own H0 M H) (ha : EvA ta σ H vs) (hs : ∀ H1, Own H0 M H1 → sp (vs ++ []) H1 D.rt E) : tRet (tCall sp [] E ta) D σ H :=
  ha H (Ex.refl H) (fun vs H1 => sp (vs ++ []) H1 D.rt E) fun H1 e => hs H1 (O.mono e)
theorem RTCN {H0 H : Hp} {M : List (Addr × List V)} {D : Ends} {σ : L2.St} {sp : Sp} {v : V} {xs : List V} {ta tb : TE} {E : XK} (O : Own H0 M H) (h1 : Ev ta σ H v) (h2 : EvL tb σ H xs) (hs : ∀ p H1, Own H0 ((p, xs) :: M) H1 → sp ([v, .ref p] ++ []) H1 D.rt E) : tRet (tCall sp [] E (tCons ta (tCons tb tNil))) D σ H :=
  h1 H (Ex.refl H) (fun x H1 => tCons tb tNil σ H1 fun xs H2 => sp ((x :: xs) ++ []) H2 D.rt E) fun H1 e => h2 H1 e (fun x H2 => sp ([v, x] ++ []) H2 D.rt E) fun p H2 hp e2 h => hs p H2 ((O.mono e).new hp e2 h)
/-- f(..) as a statement, within a try -/
theorem DCS {H0 H : Hp} {M : List (Addr × List V)} {D : Ends} {σ : L2.St} {sp : Sp} {vs : List V} {ta : TA} {W : WX} (O : Own H0 M H) (ha : EvA ta σ H vs) (hs : ∀ H1, Own H0 M H1 → sp vs H1 (fun _ H2 => D.nx σ H2) (WE W σ)) : tDrop (tCallS sp (WE W) ta) D σ H :=
  ha H (Ex.refl H) (fun vs H1 => sp vs H1 (fun _ H2 => D.nx σ H2) (WE W σ)) fun H1 e => hs H1 (O.mono e)
/-! ### what is asked of an own class that is raised -/
structure ClsE (K : PySem.W.Frag) (mg : Str → Option Value) (x : Str) (C S : Addr) : Prop where
  g : mg x = some (.ref C)
  x : PySem.W.excIn K C [.type "ValueError", .type "Exception", .type "BaseException", .type "object"] "ValueError.__new__" = true
  k : PySem.W.keepIn K (.ref C) = true
  b : PySem.W.subIn K (.ref C) (.type "BaseException") = some true
  t : PySem.W.typeIn K (.ref C) = some (.type "type")
  e : PySem.W.exmOne K (.ref C) (.ref S) = some true
  c : ExcC K C
  v : PySem.W.kitOne K (.ref C) (.type "ValueError") = some true
theorem kit_ref {K : PySem.W.Frag} {C D : Addr} {b : Bool} (hd : PySem.W.hasDictIn K D = true) (ht : PySem.W.typeIn K (.ref D) = some (.type "type")) (hs : PySem.W.subIn K (.ref C) (.ref C) = some true) (h : PySem.W.subIn K (.ref C) (.ref D) = some b) :
    PySem.W.kitOne K (.ref C) (.ref D) = some b := by
  obtain ⟨cd, hc, _⟩ := PySem.W.any_some hd
  have e2 : ((PySem.W.clsIn K D).isSome && PySem.W.typeIn K (.ref D) == some (.type "type")) = true := by rw [hc, ht] <;> rfl
  unfold PySem.W.kitOne
  by_cases e : (Value.ref C == Value.ref D) = true
  · rw [if_pos e]
    have e' : C = D := Value.ref.inj (beq_iff_eq.mp e)
    subst e'
    exact hs.symm.trans h
  · rw [if_neg e]
    show (if ((PySem.W.clsIn K D).isSome && PySem.W.typeIn K (.ref D) == some (.type "type")) = true then PySem.W.subIn K (.ref C) (.ref D) else none) = some b
    rw [if_pos e2]
    exact h
theorem kit_ve {K : PySem.W.Frag} {C : Addr} (h : PySem.W.subIn K (.ref C) (.type "ValueError") = some true) : PySem.W.kitOne K (.ref C) (.type "ValueError") = some true := by
  unfold PySem.W.kitOne
  rw [if_neg (by simp)]
  show (if PySem.W.kitMeta "ValueError" = true then PySem.W.subIn K (.ref C) (.type "ValueError") else none) = some true
  rw [if_pos (by decide +kernel)]
  exact h
/-- the class that is raised, among the seven -/
structure KF (K : PySem.W.Frag) (C : Nat → Addr) (i : Nat) : Prop where
  lo : 1 ≤ i
  hi : i ≤ 7
  c : ExcC K (C i)
  v : PySem.W.kitOne K (.ref (C i)) (.type "ValueError") = some true
  kit : ∀ j, 1 ≤ j → j ≤ 7 → PySem.W.kitOne K (.ref (C i)) (.ref (C j)) = some (decide (i = j))
def kindName : Nat → Str
  | 1 => "row"
  | 2 => "place"
  | 3 => "full"
  | 4 => "code"
  | 5 => "rank"
  | 6 => "amount"
  | 7 => "note"
  | _ => "other"
section
variable {K : PySem.W.Frag} {H : Hp} {σ : L2.St} {ta tb te : TE} {a D : Addr} {xs : List V}
theorem ev_isP {c : V} {cv : Value} {b : Bool} (h : Ev te σ H (.ref a)) (hcv : ∀ u, RelV c u → u = cv) (hk : PySem.W.kitOne K (.ref D) cv = some b) : Ev (tCB (rIsP K a D) (tCons te (tCons (tC c) tNil))) σ H (.bl b) := fun H1 e _ q =>
  h H1 e _ fun H2 e2 => ⟨c, cv, b, rfl, hcv, hk, q H2 e2⟩
theorem ev_cntV {y : V} (h : Ev ta σ H (.ref a)) (hs : SqL K H a xs) (hy : Ev tb σ H y) (f1 : flatV y = true) (f2 : xs.all flatV = true) : Ev (tBM K "list" (rCntV K) ta (tCons tb tNil)) σ H (.int (xs.countP (fun z => eqV z y) : Nat)) := fun H1 e _ k =>
  h H1 e _ fun H2 e2 => ⟨.inl ⟨rfl, xs, ex_l (e.trans e2) hs⟩, hy H2 (e.trans e2) _ fun H3 e3 => ⟨a, xs, y, rfl, rfl, ex_l ((e.trans e2).trans e3) hs, f1, f2, k H3 (e2.trans e3)⟩⟩
theorem ev_idxV {y z : V} (j : Nat) (h : Ev ta σ H (.ref a)) (hs : SqL K H a xs) (hy : Ev tb σ H y) (f1 : flatV y = true) (f2 : xs.all flatV = true) (hz : xs[j]? = some z) (hzy : eqV z y = true) (hno : (xs.take j).all (fun z => !eqV z y) = true) :
    Ev (tBM K "list" (rIndex K) ta (tCons tb tNil)) σ H (.int (j : Nat)) := fun H1 e _ k =>
  h H1 e _ fun H2 e2 => ⟨.inl ⟨rfl, xs, ex_l (e.trans e2) hs⟩, hy H2 (e.trans e2) _ fun H3 e3 => ⟨a, xs, y, j, z, rfl, rfl, ex_l ((e.trans e2).trans e3) hs, f1, f2, hz, hzy, fun m z' hm hz' => by
    have := (List.all_eq_true.mp hno) z' (List.mem_of_getElem? (i := m) (by rw [List.getElem?_take_of_lt hm]; exact hz'))
    simpa using this, k H3 (e2.trans e3)⟩⟩
theorem el_catRN' {ys : List V} (ha : Ev ta σ H (.ref a)) (hA : H a = some (.lst xs)) (hb : EvL tb σ H ys) (hl : xs.length + ys.length ≤ 100000) : EvL (tOp rCat ta tb) σ H (xs ++ ys) := fun H1 e Q q =>
  ha H1 e _ fun H2 e2 => hb H2 (e.trans e2) _ fun r H3 hr e3 h3 => ⟨a, r, xs, ys, rfl, rfl, e3 _ _ (e2 _ _ (e _ _ hA)), h3, sz_of hl, fun l hl => q l _ (fresh_back (e2.trans e3) hl) ((e2.trans e3).trans (Ex.new hl)) upd_same⟩
def rMin2 : List V → Hp → VK → Prop := fun xs H Q => ∃ i j, xs = [.int i, .int j] ∧ Q (.int (if j < i then j else i)) H
theorem ev_min2 {i j : Int} (ha : Ev ta σ H (.int i)) (hb : Ev tb σ H (.int j)) : Ev (tCB rMin2 (tCons ta (tCons tb tNil))) σ H (.int (if j < i then j else i)) := fun H1 e Q q =>
  ha H1 e _ fun H2 e2 => hb H2 (e.trans e2) _ fun H3 e3 => ⟨i, j, rfl, q H3 (e2.trans e3)⟩
theorem ev_ifE {t : TT} {b : Bool} {v : V} (ht : EvT t σ H b) (h1 : b = true → Ev ta σ H v) (h2 : b = false → Ev tb σ H v) : Ev (tIf t ta tb) σ H v := fun H1 e Q q =>
  ht H1 e _ fun H2 e2 => by
    cases b with
    | true => exact h1 rfl H2 (e.trans e2) Q fun H3 e3 => q H3 (e2.trans e3)
    | false => exact h2 rfl H2 (e.trans e2) Q fun H3 e3 => q H3 (e2.trans e3)
theorem ev_ixT {t : Addr} {v : V} (k : Nat) (h : Ev te σ H (.ref t)) (ht : H t = some (.tup xs)) (hi : Ev tb σ H (.int (k : Int))) (hv : xs[k]? = some v) : Ev (tOp (rIxT K) te tb) σ H v := ev_op h hi (rv_ixT (st_of ht) (atI_nat hv))
theorem rv_eqS {x y : Str} : RV rEq (.str x) (.str y) H (.bl (decide (x = y))) := fun H1 _ Q q => ⟨rfl, by
  have e : decide (V.str x = V.str y) = decide (x = y) := by
    rw [decide_eq_decide]
    exact ⟨V.str.inj, congrArg V.str⟩
  rw [e]
  exact q H1 (Ex.refl H1)⟩
theorem rv_neS {x y : Str} : RV rNe (.str x) (.str y) H (.bl (!decide (x = y))) := fun H1 _ Q q => ⟨rfl, by
  have e : decide (V.str x = V.str y) = decide (x = y) := by
    rw [decide_eq_decide]
    exact ⟨V.str.inj, congrArg V.str⟩
  rw [e]
  exact q H1 (Ex.refl H1)⟩
end
end Sh
namespace Sh
open PySem PySem.Spec PyProof.Rows L2 Evl
section
variable {K : PySem.W.Frag} {H0 H : Hp} {M : List (Addr × List V)} {a p q : Addr} {xs ys : List V} {v w y : V} {D : Ends} {σ : L2.St} {te ta tb tc tl : TE} {tz : TS}
/-- xs.append(ys.pop(z)) -/
theorem APPPOP (i j : Nat) {z : Int} (O : Own H0 M H) (hi : M[i]? = some (p, xs)) (hj : M[j]? = some (q, ys)) (hij : i ≠ j) (ha : ∀ H', Ev ta σ H' (.ref p)) (hb : ∀ H', Ev tb σ H' (.ref q)) (hc : Ev tc σ H (.int z)) (h0 : 0 ≤ z) (h1 : z < 1000000) (hy : ys[z.toNat]? = some y) (hl : xs.length < 100000)
    (k : ∀ H1, Own H0 ((M.set j (q, ys.eraseIdx z.toNat)).set i (p, xs ++ [y])) H1 → D.nx σ H1) :
    tDrop (tBM K "list" rAppend ta (tCons (tBM K "list" rPopAt tb (tCons tc tNil)) tNil)) D σ H :=
  ha H H (Ex.refl H) _ fun H1 e1 => by
    have O1 := O.mono e1
    refine ⟨.inl ⟨rfl, xs, O1.seq i hi⟩, ?_⟩
    refine hb H1 H1 (Ex.refl H1) _ fun H2 e2 => ?_
    have O2 := O1.mono e2
    refine ⟨.inl ⟨rfl, ys, O2.seq j hj⟩, ?_⟩
    refine hc H2 (e1.trans e2) _ fun H3 e3 => ?_
    have O3 := O2.mono e3
    have hlt : z.toNat < ys.length := (List.getElem?_eq_some_iff.mp hy).1
    refine ⟨q, ys, z, z.toNat, y, rfl, rfl, O3.get j hj, by omega, by omega, seqIndex_of h0 (by omega), hy, ?_⟩
    have O4 := O3.upd (ys := ys.eraseIdx z.toNat) j hj
    have hi4 : (M.set j (q, ys.eraseIdx z.toNat))[i]? = some (p, xs) := by rw [List.getElem?_set_ne hij.symm]; exact hi
    exact ⟨p, xs, y, rfl, rfl, O4.get i hi4, sz_lt hl, k _ (O4.upd i hi4)⟩
theorem ev_index {ns : List Int} {x : Int} (h : Ev ta σ H (.ref a)) (hs : SqL K H a (il ns)) (hx : Ev tb σ H (.int x)) (hm : x ∈ ns) : Ev (tBM K "list" (rIndex K) ta (tCons tb tNil)) σ H (.int (ns.idxOf x : Nat)) := fun H1 e Q k =>
  h H1 e _ fun H2 e2 => ⟨.inl ⟨rfl, il ns, ex_l (e.trans e2) hs⟩, hx H2 (e.trans e2) _ fun H3 e3 => by
    have hlt := List.idxOf_lt_length_iff.mpr hm
    refine ⟨a, il ns, .int x, ns.idxOf x, .int x, rfl, rfl, ex_l ((e.trans e2).trans e3) hs, rfl, ?_, ?_, ?_, ?_, k H3 (e2.trans e3)⟩
    · rw [List.all_eq_true]
      intro y hy
      obtain ⟨n, _, rfl⟩ := List.mem_map.mp hy
      rfl
    · rw [List.getElem?_map, List.getElem?_eq_getElem hlt, List.getElem_idxOf] <;> rfl
    · show (x == x) = true
      exact beq_self_eq_true x
    · intro m z' hm' hz
      obtain ⟨rfl, _⟩ := getI hz
      show (gt ns m == x) = false
      have e1 := some_gt (ns := ns) (k := m) (by omega)
      have := List.not_of_lt_findIdx (p := fun y => y == x) (xs := ns) (i := m) hm'
      rw [List.getElem?_eq_getElem (by omega)] at e1
      rw [← Option.some.inj e1]
      simpa using this⟩
end
end Sh
namespace Sh
open PySem PySem.Spec PyProof.Rows L2 Evl
section
variable {K : PySem.W.Frag} {H0 H : Hp} {M : List (Addr × List V)} {a p q : Addr} {xs ys : List V} {v w y : V} {D : Ends} {σ : L2.St} {te ta tb tc tl : TE} {tz : TS}
/-- a comprehension over ints whose element changes things -/
theorem LCM {ns : List Int} {j : Nat} {vs : List Nat} {Q : VK} (O : Own H0 M H) (h : Ev tl σ H (.ref a)) (hx : SqL K H a (il ns)) (Pv : Addr → Nat → Hp → Prop) (h0 : ∀ Dl H1, Own H0 ((Dl, []) :: M) H1 → Pv Dl 0 H1)
    (hl : ∀ Dl i H', Pv Dl i H' → SqL K H' a (il ns)) (hw : ∀ x, wipe ((wipe σ vs).set j (some x)) vs = wipe σ vs)
    (hs : ∀ Dl i x H', ns[i]? = some x → Pv Dl i H' → te ((wipe σ vs).set j (some (.int x))) H' fun y H4 => ∃ acc, H4 Dl = some (.lst acc) ∧ acc.length < sizeLine ∧ Pv Dl (i + 1) (upd H4 Dl (.lst (acc ++ [y])))) (hd : ∀ Dl H', Pv Dl ns.length H' → Q (.ref Dl) H') :
    tLc (iList K tl) (gName j) tYes te vs σ H Q := h H (Ex.refl H) _ fun H1 e1 => ⟨a, rfl, ⟨il ns, ex_l e1 hx⟩, fun Dl hD =>
  lc_list (xs := il ns) (Pv Dl) (h0 Dl _ ((O.mono e1).new hD (Ex.new hD) upd_same)) (fun i H' _ p => hl Dl i H' p) (fun i x H' hi p => by
    obtain ⟨rfl, m⟩ := getI hi
    have hi2 : ns[i]? = some (gt ns i) := by
      rw [List.getElem?_map] at hi
      cases e : ns[i]? with
      | none => rw [e] at hi; cases hi
      | some z => rw [gt_some e]
    exact ⟨hw _, hs Dl i _ H' hi2 p⟩) (fun H' p => hd Dl H' (by rw [List.length_map] at p; exact p))⟩
/-- ys.pop(z) into the comprehension's list -/
theorem LPOP (i j : Nat) {z : Int} {Dl : Addr} {Pv : Hp → Prop} (O : Own H0 M H) (hi : M[i]? = some (Dl, xs)) (hj : M[j]? = some (q, ys)) (hij : i ≠ j) (hb : ∀ H', Ev tb σ H' (.ref q)) (hc : Ev tc σ H (.int z)) (h0 : 0 ≤ z) (h1 : z < 1000000) (hy : ys[z.toNat]? = some y) (hl : xs.length < 100000)
    (k : ∀ H1, Own H0 ((M.set j (q, ys.eraseIdx z.toNat)).set i (Dl, xs ++ [y])) H1 → Pv H1) :
    tBM K "list" rPopAt tb (tCons tc tNil) σ H fun y H4 => ∃ acc, H4 Dl = some (.lst acc) ∧ acc.length < sizeLine ∧ Pv (upd H4 Dl (.lst (acc ++ [y]))) :=
  hb H H (Ex.refl H) _ fun H2 e2 => by
    have O2 := O.mono e2
    refine ⟨.inl ⟨rfl, ys, O2.seq j hj⟩, ?_⟩
    refine hc H2 e2 _ fun H3 e3 => ?_
    have O3 := O2.mono e3
    have hlt : z.toNat < ys.length := (List.getElem?_eq_some_iff.mp hy).1
    refine ⟨q, ys, z, z.toNat, y, rfl, rfl, O3.get j hj, by omega, by omega, seqIndex_of h0 (by omega), hy, ?_⟩
    have O4 := O3.upd (ys := ys.eraseIdx z.toNat) j hj
    have hi4 : (M.set j (q, ys.eraseIdx z.toNat))[i]? = some (Dl, xs) := by rw [List.getElem?_set_ne hij.symm]; exact hi
    exact ⟨xs, O4.get i hi4, sz_lt hl, k _ (O4.upd i hi4)⟩
end
end Sh
namespace Sh
open PySem PySem.Spec PyProof.Rows L2 Evl
section
variable {K : PySem.W.Frag} {H0 H : Hp} {M : List (Addr × List V)} {a p q : Addr} {xs ys : List V} {v w y : V} {D : Ends} {σ : L2.St} {te ta tb tc tl : TE} {tz : TS}
def rIns : V → List V → Hp → VK → Prop := fun x vs H Q => ∃ (l : Addr) (xs : List V) (i : Int) (y : V), x = .ref l ∧ vs = [.int i, y] ∧ H l = some (.lst xs) ∧ xs.length < sizeLine ∧ 0 ≤ i ∧ i < 2 ^ 63 ∧ Q .non (upd H l (.lst (xs.take i.toNat ++ [y] ++ xs.drop i.toNat)))
theorem mt_insertS {X : Cx} : MtR X "list.insert" rIns := mt_insert
/-- xs.insert(z, e) -/
theorem qINS (i : Nat) {z : Int} (O : Own H0 M H) (hi : M[i]? = some (p, xs)) (ha : ∀ H', Ev ta σ H' (.ref p)) (hb : Ev tb σ H (.int z)) (hc : Ev tc σ H y) (h0 : 0 ≤ z) (h1 : z < 1000000) (hl : xs.length < 100000)
    (k : ∀ H1, Own H0 (M.set i (p, xs.take z.toNat ++ [y] ++ xs.drop z.toNat)) H1 → tz D σ H1) : tSeq (tDrop (tBM K "list" rIns ta (tCons tb (tCons tc tNil)))) tz D σ H :=
  ha H H (Ex.refl H) _ fun H1 e1 => by
    have O1 := O.mono e1
    refine ⟨.inl ⟨rfl, xs, O1.seq i hi⟩, ?_⟩
    refine hb H1 e1 _ fun H2 e2 => hc H2 (e1.trans e2) _ fun H3 e3 => ?_
    have O3 := (O1.mono e2).mono e3
    exact ⟨p, xs, z, y, rfl, rfl, O3.get i hi, sz_lt hl, h0, by omega, k _ (O3.upd i hi)⟩
theorem INS (i : Nat) {z : Int} (O : Own H0 M H) (hi : M[i]? = some (p, xs)) (ha : ∀ H', Ev ta σ H' (.ref p)) (hb : Ev tb σ H (.int z)) (hc : Ev tc σ H y) (h0 : 0 ≤ z) (h1 : z < 1000000) (hl : xs.length < 100000)
    (k : ∀ H1, Own H0 (M.set i (p, xs.take z.toNat ++ [y] ++ xs.drop z.toNat)) H1 → D.nx σ H1) : tDrop (tBM K "list" rIns ta (tCons tb (tCons tc tNil))) D σ H :=
  qINS (D := D) (tz := fun D σ H => D.nx σ H) i O hi ha hb hc h0 h1 hl k
theorem Own.keep {t : Addr} (O : Own H0 M H) (h : H t = some (.tup xs)) : Own (L2.upd H0 t (.tup xs)) M H := by
  refine ⟨fun b o hb => ?_, fun m hm => ⟨?_, (O.own m hm).2⟩, O.nd⟩
  · by_cases z : b = t
    · subst z
      rw [upd_same] at hb
      cases hb
      exact h
    · rw [upd_ne z] at hb
      exact O.ex _ _ hb
  · have := O.own m hm
    rw [upd_ne (ne_of this.2 h (by intro z; cases z))]
    exact this.1
/-- xs + ys, both new -/
theorem el_catNN (ha : EvL ta σ H xs) (hb : EvL tb σ H ys) (hl : xs.length + ys.length ≤ 100000) : EvL (tOp rCat ta tb) σ H (xs ++ ys) := fun H1 e Q q =>
  ha H1 e _ fun p H2 hp e2 h2 => hb H2 (e.trans e2) _ fun r H3 hr e3 h3 => ⟨p, r, xs, ys, rfl, rfl, e3 _ _ h2, h3, sz_of hl, fun l hl => q l _ (fresh_back (e2.trans e3) hl) ((e2.trans e3).trans (Ex.new hl)) upd_same⟩
def rNon : R2 := fun x y H Q => y = .non ∧ Q (.bl (decide (x = .non))) H
theorem op_isNon {X : Cx} : OpR X (compareOp .Is) rNon := op_isN
theorem el_sortedN {ns : List Int} (h : EvL te σ H (il ns)) (hl : ns.length < 64) : EvL (tCB (rSorted K) (tCons te tNil)) σ H (il (srt ns)) := fun H1 e Q q =>
  h H1 e _ fun p H2 hp e2 h2 => ⟨p, ns, rfl, sq_of h2, hl, fun ms l hp hs hn => by
    rw [srt_eq hp hs]
    exact q l _ (fresh_back e2 hn) (e2.trans (Ex.new hn)) upd_same⟩
end
end Sh
namespace Sh
open PySem PySem.Spec PyProof.Rows L2 Evl
section
variable {K : PySem.W.Frag} {H0 H H1 : Hp} {M M' : List (Addr × List V)} {a p q : Addr} {xs ys : List V} {v w y : V} {D : Ends} {σ : L2.St} {te ta tb tc tl : TE} {tz tu : TS}
theorem Own.perm (O : Own H0 M H) (h : M.Perm M') : Own H0 M' H := ⟨O.ex, fun m hm => O.own m (h.mem_iff.mpr hm), (h.map _).nodup_iff.mp O.nd⟩
theorem Own.of_ex (e : Ex H0 H) : Own H0 [] H := ⟨e, (fun _ h => by cases h), List.nodup_nil⟩
/-- name = [e], e a new list -/
theorem qALL {i : Nat} (O : Own H0 M H) (h : EvL te σ H xs) (k : ∀ p q H1, Own H0 ((p, [.ref q]) :: (q, xs) :: M) H1 → tz D (σ.set i (some (.ref p))) H1) : tSeq (tAsg (tLst (tCons te tNil)) (gName i)) tz D σ H :=
  h H (Ex.refl H) _ fun q H1 hq e h1 => ⟨sz_of (by show 1 ≤ 100000; decide), fun p hp => k p q _ ((O.new hq e h1).new hp (Ex.new hp) upd_same)⟩
theorem atI_neg {α : Type} {l : List α} {x : α} (h : l[l.length - 1]? = some x) (hl : 0 < l.length) : atI l (-1) = some x := by
  unfold atI ixN
  rw [if_neg (by decide), if_pos (by omega)]
  show l[((-1 : Int) + (l.length : Int)).toNat]? = some x
  rw [show ((-1 : Int) + (l.length : Int)).toNat = l.length - 1 by omega]
  exact h
theorem ev_last {ns : List Int} (h : Ev tl σ H (.ref a)) (hx : SqL K H a (il ns)) (hi : Ev tb σ H (.int (-1))) (hl : 0 < ns.length) : Ev (tOp (rIxL K) tl tb) σ H (.int (gt ns (ns.length - 1))) :=
  ev_op h hi (rv_ixL hx (atI_neg (by rw [List.length_map, List.getElem?_map, some_gt (by omega)] <;> rfl) (by rw [List.length_map]; exact hl)))
theorem el_listN (h : EvL te σ H xs) : EvL (tCB (rListS K) (tCons te tNil)) σ H xs := fun H1 e Q q =>
  h H1 e _ fun p H2 _ e2 hp => ⟨p, xs, rfl, .inl (sq_of hp), fun l hl => q l _ (fresh_back e2 hl) (e2.trans (Ex.new hl)) upd_same⟩
theorem el_catRN (ha : Ev ta σ H (.ref a)) (hA : H a = some (.lst xs)) (hb : EvL tb σ H ys) (hl : xs.length + ys.length ≤ 100000) : EvL (tOp rCat ta tb) σ H (xs ++ ys) := fun H1 e Q q =>
  ha H1 e _ fun H2 e2 => hb H2 (e.trans e2) _ fun r H3 hr e3 h3 => ⟨a, r, xs, ys, rfl, rfl, e3 _ _ (e2 _ _ (e _ _ hA)), h3, sz_of hl, fun l hl => q l _ (fresh_back (e2.trans e3) hl) ((e2.trans e3).trans (Ex.new hl)) upd_same⟩
theorem el_catNR (ha : EvL ta σ H xs) (hb : ∀ H1, Ex H H1 → Ev tb σ H1 (.ref a)) (hA : H a = some (.lst ys)) (hl : xs.length + ys.length ≤ 100000) : EvL (tOp rCat ta tb) σ H (xs ++ ys) := fun H1 e Q q =>
  ha H1 e _ fun p H2 hp e2 h2 => hb H2 (e.trans e2) H2 (Ex.refl H2) _ fun H3 e3 => ⟨p, a, xs, ys, rfl, rfl, e3 _ _ h2, e3 _ _ (e2 _ _ (e _ _ hA)), sz_of hl, fun l hl => q l _ (fresh_back (e2.trans e3) hl) ((e2.trans e3).trans (Ex.new hl)) upd_same⟩
theorem el_catRR {c : Addr} (ha : Ev ta σ H (.ref a)) (hA : H a = some (.lst xs)) (hb : Ev tb σ H (.ref c)) (hC : H c = some (.lst ys)) (hl : xs.length + ys.length ≤ 100000) : EvL (tOp rCat ta tb) σ H (xs ++ ys) := fun H1 e Q q =>
  ha H1 e _ fun H2 e2 => hb H2 (e.trans e2) _ fun H3 e3 => ⟨a, c, xs, ys, rfl, rfl, e3 _ _ (e2 _ _ (e _ _ hA)), e3 _ _ (e2 _ _ (e _ _ hC)), sz_of hl, fun l hl => q l _ (fresh_back (e2.trans e3) hl) ((e2.trans e3).trans (Ex.new hl)) upd_same⟩
theorem sIx_m1 (n d : Nat) : HT.sIx n d (some (-1)) = n - 1 := by
  have h := HT.clip_eq (-1) n d
  rw [if_pos (by decide)] at h
  omega
theorem cut_last (xs : List V) : cutV xs (some (-1)) none = xs.drop (xs.length - 1) := by
  unfold cutV
  rw [sIx_m1, HT.sIx_none]
  exact List.take_of_length_le (by rw [List.length_drop]; exact Nat.le_refl _)
theorem cut_init (xs : List V) : cutV xs none (some (-1)) = xs.take (xs.length - 1) := by
  unfold cutV
  rw [sIx_m1, HT.sIx_none, List.drop_zero, Nat.sub_zero]
theorem sl_last {tl2 : TO} {ns : List Int} (h : Ev te σ H (.ref a)) (hs : SqL K H a (il ns)) (h1 : EvO tl2 σ H (some (-1))) : EvL (tSl (rSlL K) te tl2 tNoPart) σ H (il (ns.drop (ns.length - 1))) := by
  have z := el_sl h h1 eo_none hs
  rw [cut_last, List.length_map, ← List.map_drop] at z
  exact z
theorem sl_init {tl2 : TO} {ns : List Int} (h : Ev te σ H (.ref a)) (hs : SqL K H a (il ns)) (h1 : EvO tl2 σ H (some (-1))) : EvL (tSl (rSlL K) te tNoPart tl2) σ H (il (ns.take (ns.length - 1))) := by
  have z := el_sl h eo_none h1 hs
  rw [cut_init, List.length_map, ← List.map_take] at z
  exact z
theorem cut_mid (ns : List Int) (i j : Nat) (hij : i ≤ j) (hj : j ≤ ns.length) : cutV (il ns) (some (i : Int)) (some (j : Int)) = il ((ns.take j).drop i) := by
  unfold cutV
  rw [HT.sIx_nat, HT.sIx_nat]
  simp only [List.length_map]
  rw [Nat.min_eq_left (show i ≤ ns.length by omega), Nat.min_eq_left hj, ← List.map_drop, ← List.map_take, List.drop_take]
theorem sl_mid {i j : Nat} {tl2 th2 : TO} {ns : List Int} (h : Ev te σ H (.ref a)) (hs : SqL K H a (il ns)) (h1 : EvO tl2 σ H (some (i : Int))) (h2 : EvO th2 σ H (some (j : Int))) (hij : i ≤ j) (hj : j ≤ ns.length) : EvL (tSl (rSlL K) te tl2 th2) σ H (il ((ns.take j).drop i)) := by
  rw [← cut_mid ns i j hij hj]
  exact el_sl h h1 h2 hs
/-- for v in a new list of ints -/
theorem FLN {ns : List Int} {j : Nat} (O : Own H0 M H) (h : EvL tl σ H (il ns)) (Pv : Addr → Nat → L2.St → Hp → Prop) (h0 : ∀ p H1, Own H0 ((p, il ns) :: M) H1 → Pv p 0 σ H1) (hl : ∀ p i σ' H', Pv p i σ' H' → SqL K H' p (il ns))
    (hs : ∀ p i x σ' H', ns[i]? = some x → Pv p i σ' H' → tu { D with nx := Pv p (i + 1), ct := Pv p (i + 1), bk := D.nx } (σ'.set j (some (.int x))) H') (hd : ∀ p σ' H', Pv p ns.length σ' H' → D.nx σ' H') : tFor (iList K tl) (gName j) tu D σ H :=
  s_forNL (g := gName j) h Pv (fun p H1 hp e h1 => h0 p H1 (O.new hp e h1)) (fun p i σ' H' _ q => hl p i σ' H' q) (fun p i x σ' H' hi q => by
    rw [List.getElem?_map] at hi
    cases e : ns[i]? with
    | none => rw [e] at hi; cases hi
    | some y =>
      rw [e] at hi
      cases hi
      exact hs p i y σ' H' e q) (fun p σ' H' q => hd p σ' H' (by rw [List.length_map] at q; exact q))
theorem qFLN {ns : List Int} {j : Nat} (O : Own H0 M H) (h : EvL tl σ H (il ns)) (Pv : Addr → Nat → L2.St → Hp → Prop) (h0 : ∀ p H1, Own H0 ((p, il ns) :: M) H1 → Pv p 0 σ H1) (hl : ∀ p i σ' H', Pv p i σ' H' → SqL K H' p (il ns))
    (hs : ∀ p i x σ' H', ns[i]? = some x → Pv p i σ' H' → tu { D with nx := Pv p (i + 1), ct := Pv p (i + 1), bk := tz D } (σ'.set j (some (.int x))) H') (hd : ∀ p σ' H', Pv p ns.length σ' H' → tz D σ' H') : tSeq (tFor (iList K tl) (gName j) tu) tz D σ H :=
  FLN (D := { D with nx := tz D }) O h Pv h0 hl hs hd
/-- xss[-1].append(e) -/
theorem qAPPin (i j : Nat) (O : Own H0 M H) (hi : M[i]? = some (p, xs)) (hx : xs[xs.length - 1]? = some (.ref q)) (hj : M[j]? = some (q, ys)) (ha : Ev ta σ H (.ref p)) (hb : ∀ H', Ev tb σ H' (.int (-1))) (h : Ev te σ H v) (hz : ys.length < 100000) (k : ∀ H1, Own H0 (M.set j (q, ys ++ [v])) H1 → tz D σ H1) :
    tSeq (tDrop (tBM K "list" rAppend (tOp (rIxL K) ta tb) (tCons te tNil))) tz D σ H :=
  qAPP j O hj (ev_op ha (hb H) (rv_ixL (O.seq i hi) (atI_neg hx (Nat.pos_of_ne_zero fun z => by rw [List.length_eq_zero_iff.mp z] at hx; cases hx)))) h hz k
theorem APPin (i j : Nat) (O : Own H0 M H) (hi : M[i]? = some (p, xs)) (hx : xs[xs.length - 1]? = some (.ref q)) (hj : M[j]? = some (q, ys)) (ha : Ev ta σ H (.ref p)) (hb : ∀ H', Ev tb σ H' (.int (-1))) (h : Ev te σ H v) (hz : ys.length < 100000) (k : ∀ H1, Own H0 (M.set j (q, ys ++ [v])) H1 → D.nx σ H1) :
    tDrop (tBM K "list" rAppend (tOp (rIxL K) ta tb) (tCons te tNil)) D σ H :=
  APP j O hj (ev_op ha (hb H) (rv_ixL (O.seq i hi) (atI_neg hx (Nat.pos_of_ne_zero fun z => by rw [List.length_eq_zero_iff.mp z] at hx; cases hx)))) h hz k
theorem rv_eqB {x y : Bool} : RV rEq (.bl x) (.bl y) H (.bl (x == y)) := fun H1 _ Q q => ⟨rfl, by
  have e : decide (V.bl x = V.bl y) = (x == y) := by cases x <;> cases y <;> decide
  rw [e]
  exact q H1 (Ex.refl H1)⟩
/-- what is told of a list of lists: where each stands, what it holds -/
abbrev Dr (Dn : List (Addr × List Int)) : List V := Dn.map fun d => V.ref d.1
def RetP (ps : List (List Int)) (H : Hp) (Q : VK) : Prop := ∀ (p : Addr) (Dn : List (Addr × List Int)) (H2 : Hp), Dn.map (·.2) = ps → H p = none → Ex H H2 → H2 p = some (.lst (Dr Dn)) → (∀ d, d ∈ Dn → H2 d.1 = some (.lst (il d.2))) → Q (.ref p) H2
abbrev Dm (Dn : List (Addr × List Int)) : List (Addr × List V) := Dn.map fun d => (d.1, il d.2)
theorem Dr_snoc (Dn : List (Addr × List Int)) (d : Addr × List Int) : Dr (Dn ++ [d]) = Dr Dn ++ [V.ref d.1] := List.map_append
theorem Dm_snoc (Dn : List (Addr × List Int)) (d : Addr × List Int) : Dm (Dn ++ [d]) = Dm Dn ++ [(d.1, il d.2)] := List.map_append
end
end Sh
namespace Sh
open PySem PySem.Spec PyProof.Rows L2 Evl
theorem Own.sub {H0 H : Hp} {M M' : List (Addr × List V)} (O : Own H0 M H) (h : M'.Sublist M) : Own H0 M' H := ⟨O.ex, fun m hm => O.own m (h.subset hm), O.nd.sublist (h.map _)⟩
theorem Own.skip1 {H0 H : Hp} {M : List (Addr × List V)} {m n : Addr × List V} (O : Own H0 (m :: n :: M) H) : Own H0 (m :: M) H := O.sub (.cons₂ _ (.cons _ (List.Sublist.refl _)))
theorem Own.skip2 {H0 H : Hp} {M : List (Addr × List V)} {m n o : Addr × List V} (O : Own H0 (m :: n :: o :: M) H) : Own H0 (m :: n :: M) H := O.sub (.cons₂ _ (.cons₂ _ (.cons _ (List.Sublist.refl _))))
end Sh
namespace Sh
open PySem PySem.Spec PyProof.Rows L2 Evl
section
variable {K : PySem.W.Frag} {H0 H : Hp} {M : List (Addr × List V)} {D : Ends} {σ : L2.St} {tz tu : TS} {sp : Sp} {vs : List V} {tr : TA} {E : XK} {g : TG}
/-- for v in f(..) -/
theorem FC (O : Own H0 M H) (ha : EvA tr σ H vs) (hs : ∀ H1, Own H0 M H1 → sp (vs ++ []) H1 (fun x H2 => tFor (iList K (tC x)) g tu D σ H2) E) : tFor (iList K (tCall sp [] E tr)) g tu D σ H :=
  ha H (Ex.refl H) _ fun H1 e => hs H1 (O.mono e)
theorem qFC (O : Own H0 M H) (ha : EvA tr σ H vs) (hs : ∀ H1, Own H0 M H1 → sp (vs ++ []) H1 (fun x H2 => tFor (iList K (tC x)) g tu { D with nx := tz D } σ H2) E) : tSeq (tFor (iList K (tCall sp [] E tr)) g tu) tz D σ H :=
  FC (D := { D with nx := tz D }) O ha hs
/-- the same, its first word a new list -/
theorem FCN {v : V} {ta tb : TE} {xs : List V} (O : Own H0 M H) (h1 : EvL ta σ H xs) (h2 : ∀ H1, Ex H H1 → Ev tb σ H1 v) (hs : ∀ p H1, Own H0 ((p, xs) :: M) H1 → sp ([.ref p, v] ++ []) H1 (fun x H2 => tFor (iList K (tC x)) g tu D σ H2) E) :
    tFor (iList K (tCall sp [] E (tCons ta (tCons tb tNil)))) g tu D σ H :=
  h1 H (Ex.refl H) _ fun p H1 hp e h => (ea_cons (h2 H1 e) ea_nil : EvA (tCons tb tNil) σ H1 [v]) H1 (Ex.refl H1) _ fun H2 e2 => hs p H2 ((O.new hp e h).mono e2)
theorem qFCN {v : V} {ta tb : TE} {xs : List V} (O : Own H0 M H) (h1 : EvL ta σ H xs) (h2 : ∀ H1, Ex H H1 → Ev tb σ H1 v) (hs : ∀ p H1, Own H0 ((p, xs) :: M) H1 → sp ([.ref p, v] ++ []) H1 (fun x H2 => tFor (iList K (tC x)) g tu { D with nx := tz D } σ H2) E) :
    tSeq (tFor (iList K (tCall sp [] E (tCons ta (tCons tb tNil)))) g tu) tz D σ H := FCN (D := { D with nx := tz D }) O h1 h2 hs
end
end Sh
namespace Sh
open PySem PySem.Spec PyProof.Rows L2 Evl
/-! ### texts -/
def rJoin (K : PySem.W.Frag) : V → List V → Hp → VK → Prop := fun x xs H Q => ∃ a p, ∃ ys : List Str, x = .str a ∧ xs = [.ref p] ∧ (SqL K H p (ys.map V.str) ∨ SqT K H p (ys.map V.str)) ∧ (ys.map (·.length)).sum + ys.length * a.length ≤ 16777216 ∧ Q (.str (Txt.join a ys)) H
def rSplit : V → List V → Hp → VK → Prop := fun x xs H Q => ∃ a b, x = .str a ∧ xs = [.str b] ∧ (b.length == 0) = false ∧ a.length + 2 ≤ sizeLine ∧ rNewStrs (Txt.split a b) H Q
def rStrI : List V → Hp → VK → Prop := fun xs H Q => ∃ i : Int, xs = [.int i] ∧ i.natAbs.log2 < 1920 ∧ Q (.str (toString i)) H
def rIntT : List V → Hp → VK → Prop := fun xs H Q => ∃ a n, xs = [.str a] ∧ PySem.intText? a = some n ∧ a.length ≤ 640 ∧ Q (.int n) H
def rAddS : R2 := fun x y H Q => ∃ i j : Str, x = .str i ∧ y = .str j ∧ i.length + j.length ≤ sizeLine ∧ Q (.str (i ++ j)) H
def rLenT : List V → Hp → VK → Prop := fun xs H Q => ∃ z : Str, xs = [.str z] ∧ z.length ≤ sizeLine ∧ Q (.int z.length) H
def rNotInS : R2 := fun x y H Q => ∃ (c : Nat) (z : Str), x = .str ⟨#[c]⟩ ∧ y = .str z ∧ Q (.bl (!decide (c ∈ z.cps.toList))) H
section
variable {K : PySem.W.Frag} {H : Hp} {σ : L2.St} {ta tb te to : TE} {a : Addr}
theorem ev_join {s : Str} {ys : List Str} (h : Ev to σ H (.str s)) (hy : EvL te σ H (ys.map V.str)) (hz : (ys.map (·.length)).sum + ys.length * s.length ≤ 16777216) : Ev (tM1 (rJoin K) to te) σ H (.str (Txt.join s ys)) := fun H1 e _ q =>
  h H1 e _ fun H2 e2 => ⟨⟨s, rfl⟩, hy H2 (e.trans e2) _ fun p H3 _ e3 hp => ⟨s, p, ys, rfl, rfl, .inl (sq_of hp), hz, q H3 (e2.trans e3)⟩⟩
theorem ev_joinR {s : Str} {ys : List Str} (h : Ev to σ H (.str s)) (hy : Ev te σ H (.ref a)) (ha : SqL K H a (ys.map V.str)) (hz : (ys.map (·.length)).sum + ys.length * s.length ≤ 16777216) : Ev (tM1 (rJoin K) to te) σ H (.str (Txt.join s ys)) := fun H1 e _ q =>
  h H1 e _ fun H2 e2 => ⟨⟨s, rfl⟩, hy H2 (e.trans e2) _ fun H3 e3 => ⟨s, a, ys, rfl, rfl, .inl (ex_l ((e.trans e2).trans e3) ha), hz, q H3 (e2.trans e3)⟩⟩
theorem el_split {s b : Str} (h : Ev to σ H (.str s)) (hb : Ev te σ H (.str b)) (h0 : (b.length == 0) = false) (hl : s.length + 2 ≤ 100000) : EvL (tM1 rSplit to te) σ H ((Txt.split s b).map V.str) := fun H1 e Q q =>
  h H1 e _ fun H2 e2 => ⟨⟨s, rfl⟩, hb H2 (e.trans e2) _ fun H3 e3 => ⟨s, b, rfl, rfl, h0, sz_of hl, fun p hp => q p _ (fresh_back (e2.trans e3) hp) ((e2.trans e3).trans (Ex.new hp)) upd_same⟩⟩
theorem ev_strI {i : Int} (h : Ev te σ H (.int i)) (hi : i.natAbs.log2 < 1920) : Ev (tCB rStrI (tCons te tNil)) σ H (.str (toString i)) := fun H1 e _ q => h H1 e _ fun H2 e2 => ⟨i, rfl, hi, q H2 e2⟩
theorem ev_intT {s : Str} {n : Int} (h : Ev te σ H (.str s)) (hn : PySem.intText? s = some n) (hl : s.length ≤ 640) : Ev (tCB rIntT (tCons te tNil)) σ H (.int n) := fun H1 e _ q => h H1 e _ fun H2 e2 => ⟨s, n, rfl, hn, hl, q H2 e2⟩
theorem rv_addS {x y : Str} (h : x.length + y.length ≤ 100000) : RV rAddS (.str x) (.str y) H (.str (x ++ y)) := fun H1 _ _ q => ⟨x, y, rfl, rfl, sz_of h, q H1 (Ex.refl H1)⟩
theorem ev_lenT {s : Str} (h : Ev te σ H (.str s)) (hl : s.length ≤ 100000) : Ev (tCB rLenT (tCons te tNil)) σ H (.int s.length) := fun H1 e _ q => h H1 e _ fun H2 e2 => ⟨s, rfl, sz_of hl, q H2 e2⟩
theorem rv_notInS {c : Nat} {z : Str} : RV rNotInS (.str ⟨#[c]⟩) (.str z) H (.bl (!decide (c ∈ z.cps.toList))) := fun H1 _ _ q => ⟨c, z, rfl, rfl, q H1 (Ex.refl H1)⟩
end
/-! the text of a row -/
def strsL (ns : List Int) : List Str := ns.map fun v => Str.ofString (toString v)
def shownL (ns : List Int) : Str := Txt.join " " (strsL ns)
theorem str_len {v : Int} (h : 0 ≤ v ∧ v ≤ 99) : (Str.ofString (toString v)).length ≤ 2 := by
  obtain ⟨n, rfl⟩ : ∃ n : Nat, v = n := ⟨v.toNat, (Int.toNat_of_nonneg h.1).symm⟩
  rw [SX.num_S, SX.S_len]
  exact TL.numL_len (by decide) (by omega)
theorem strs_sum : ∀ ns : List Int, (∀ v, v ∈ ns → 0 ≤ v ∧ v ≤ 99) → ((strsL ns).map (·.length)).sum ≤ 2 * ns.length
  | [], _ => Nat.le_refl _
  | v :: ns, h => by
    have h1 := str_len (h v List.mem_cons_self)
    have h2 := strs_sum ns fun x hx => h x (List.mem_cons_of_mem _ hx)
    show (Str.ofString (toString v)).length + ((strsL ns).map (·.length)).sum ≤ 2 * (ns.length + 1)
    omega
theorem log_row {v : Int} (h : 0 ≤ v ∧ v ≤ 99) : v.natAbs.log2 < 1920 := Nat.lt_of_le_of_lt (Nat.log2_le_self _) (by omega)
end Sh
namespace Sh
/-! ### counting pairs -/
def cLt (l : List Int) (x : Int) : Nat := (l.filter fun y => decide (y < x)).length
def cGt (l : List Int) (x : Int) : Nat := (l.filter fun y => decide (x < y)).length
def inv : List Int → Nat
  | [] => 0
  | x :: l => cLt l x + inv l
def lessB : List Int → List Int
  | [] => []
  | x :: l => (cLt l x : Int) :: lessB l
theorem lessB_sum (l : List Int) : (lessB l).sum = (inv l : Int) := by
  induction l with
  | nil => rfl
  | cons x l ih => simp only [lessB, inv, List.sum_cons, ih]; omega
theorem lessB_len (l : List Int) : (lessB l).length = l.length := by
  induction l with
  | nil => rfl
  | cons x l ih => simp only [lessB, List.length_cons, ih]
theorem lessB_at (l : List Int) (k : Nat) (h : k < l.length) : (lessB l)[k]? = some ((cLt (l.drop (k + 1)) (gt l k) : Nat) : Int) := by
  induction l generalizing k with
  | nil => cases h
  | cons x l ih =>
    cases k with
    | zero => rfl
    | succ k =>
      have q := ih k (by simp only [List.length_cons] at h; omega)
      simp only [lessB, List.getElem?_cons_succ, q, List.drop_succ_cons]
      rfl
theorem cLt_append (l m : List Int) (x : Int) : cLt (l ++ m) x = cLt l x + cLt m x := by unfold cLt; rw [List.filter_append, List.length_append]
theorem cGt_append (l m : List Int) (x : Int) : cGt (l ++ m) x = cGt l x + cGt m x := by unfold cGt; rw [List.filter_append, List.length_append]
theorem inv_snoc (l : List Int) (x : Int) : inv (l ++ [x]) = inv l + cGt l x := by
  induction l with
  | nil => rfl
  | cons y l ih =>
    have e : cGt (y :: l) x = cGt [y] x + cGt l x := cGt_append [y] l x
    have e2 : cLt [x] y = cGt [y] x := by
      unfold cLt cGt
      by_cases h : x < y <;> simp [h]
    simp only [List.cons_append, inv, ih, cLt_append, e, e2]
    omega
/-- the pairs, the later place first -/
def pairsTo (ns : List Int) : Nat → Nat
  | 0 => 0
  | n + 1 => pairsTo ns n + cGt (ns.take n) (gt ns n)
theorem pairsTo_inv (ns : List Int) (n : Nat) (h : n ≤ ns.length) : pairsTo ns n = inv (ns.take n) := by
  induction n with
  | zero => rfl
  | succ n ih =>
    have e : ns[n]? = some (gt ns n) := some_gt (by omega)
    rw [pairsTo, ih (by omega), List.take_add_one, e]
    exact (inv_snoc _ _).symm
theorem pairs_inv (ns : List Int) : pairsTo ns ns.length = inv ns := by rw [pairsTo_inv ns _ (Nat.le_refl _), List.take_length]
theorem cGt_take (ns : List Int) (j : Nat) (x : Int) (h : j < ns.length) : cGt (ns.take (j + 1)) x = cGt (ns.take j) x + if x < gt ns j then 1 else 0 := by
  have e : ns[j]? = some (gt ns j) := some_gt h
  rw [List.take_add_one, e, cGt_append]
  congr 1
  unfold cGt
  by_cases q : x < gt ns j <;> simp [q]
def IsRow (ns : List Int) : Prop := ns.length ≤ 12 ∧ ∀ v, v ∈ ns → 0 ≤ v ∧ v ≤ 99
theorem IsRow.srt {ns : List Int} (h : IsRow ns) : IsRow (srt ns) := ⟨by rw [(srt_perm ns).length_eq]; exact h.1, fun v hv => h.2 v ((srt_perm ns).mem_iff.mp hv)⟩
theorem IsRow.rev {ns : List Int} (h : IsRow ns) : IsRow ns.reverse := ⟨by rw [List.length_reverse]; exact h.1, fun v hv => h.2 v (List.mem_reverse.mp hv)⟩
end Sh
namespace Sh
def nxt (n : Int) : Int := let s := (n + 7919) % 2147483647; (s * s + 48271 * s + 12345) % 2147483629
theorem kinds_ok (z : Int) : 0 < gt [100, 5, 2, 12] (z % 4).toNat ∧ gt [100, 5, 2, 12] (z % 4).toNat ≤ 100 := by
  have h0 : 0 ≤ z % 4 := Int.emod_nonneg _ (by decide)
  have h1 : z % 4 < 4 := Int.emod_lt_of_pos _ (by decide)
  generalize (z % 4) = y at *
  obtain ⟨n, rfl⟩ : ∃ n : Nat, y = n := ⟨y.toNat, (Int.toNat_of_nonneg h0).symm⟩
  rw [Int.toNat_natCast]
  have : n = 0 ∨ n = 1 ∨ n = 2 ∨ n = 3 := by omega
  rcases this with rfl | rfl | rfl | rfl <;> decide
end Sh
namespace Sh
/-! ### falls -/
def fallsTo (ns : List Int) (n : Nat) : List Int := ((List.range n).filter fun i => decide (gt ns (1 + i) < gt ns i)).map fun i : Nat => 1 + (i : Int)
def fallsL (ns : List Int) : List Int := fallsTo ns (ns.length - 1)
theorem fallsTo_succ (ns : List Int) (n : Nat) : fallsTo ns (n + 1) = fallsTo ns n ++ if gt ns (1 + n) < gt ns n then [1 + (n : Int)] else [] := by
  unfold fallsTo
  rw [List.range_succ, List.filter_append, List.map_append]
  congr 1
  by_cases h : gt ns (1 + n) < gt ns n <;> simp [h]
theorem fallsTo_len (ns : List Int) (n : Nat) : (fallsTo ns n).length ≤ n := by
  unfold fallsTo
  rw [List.length_map]
  exact Nat.le_trans (List.length_filter_le _ _) (by rw [List.length_range]; exact Nat.le_refl _)
end Sh
namespace Sh
theorem gt_set (l : List Int) (i j : Nat) (v : Int) (h : i < l.length) : gt (l.set i v) j = if i = j then v else gt l j := by
  unfold gt
  rw [List.getD_eq_getElem?_getD, List.getD_eq_getElem?_getD]
  by_cases e : i = j
  · subst e
    rw [List.getElem?_set_self h, if_pos rfl] <;> rfl
  · rw [List.getElem?_set_ne e, if_neg e]
theorem gtl (l : List Int) (i : Nat) (v : Int) : (il l).set i (.int v) = il (l.set i v) := by unfold il; rw [List.map_set]
end Sh
namespace Sh
theorem gt_snoc (l : List Int) (x : Int) (k : Nat) : gt (l ++ [x]) k = if k = l.length then x else gt l k := by
  unfold gt
  rw [List.getD_eq_getElem?_getD, List.getD_eq_getElem?_getD]
  by_cases e : k = l.length
  · subst e
    rw [if_pos rfl, List.getElem?_append_right (Nat.le_refl _), Nat.sub_self] <;> rfl
  · rw [if_neg e]
    by_cases h : k < l.length
    · rw [List.getElem?_append_left h]
    · rw [List.getElem?_eq_none (by rw [List.length_append, List.length_singleton]; omega), List.getElem?_eq_none (by omega)]
end Sh
namespace Sh
/-! ### rows with each number once -/
def rngI (n : Nat) : List Int := (List.range n).map fun i : Nat => (i : Int)
theorem rngI_len (n : Nat) : (rngI n).length = n := by unfold rngI; rw [List.length_map, List.length_range]
theorem rngI_succ (n : Nat) : rngI (n + 1) = rngI n ++ [(n : Int)] := by unfold rngI; rw [List.range_succ, List.map_append]; rfl
theorem mem_rngI {n : Nat} {x : Int} : x ∈ rngI n ↔ 0 ≤ x ∧ x < n := by
  unfold rngI
  rw [List.mem_map]
  constructor
  · rintro ⟨i, hi, rfl⟩
    have := List.mem_range.mp hi
    omega
  · intro h
    exact ⟨x.toNat, List.mem_range.mpr (by omega), by omega⟩
theorem rngI_sorted (n : Nat) : (rngI n).Pairwise (· ≤ ·) := by
  induction n with
  | zero => exact List.Pairwise.nil
  | succ n ih =>
    rw [rngI_succ, List.pairwise_append]
    refine ⟨ih, List.pairwise_singleton _ _, fun x hx y hy => ?_⟩
    rw [List.mem_singleton.mp hy]
    have := mem_rngI.mp hx
    omega
theorem rngI_nodup (n : Nat) : (rngI n).Nodup := by
  induction n with
  | zero => exact List.nodup_nil
  | succ n ih =>
    rw [rngI_succ, List.nodup_append]
    refine ⟨ih, List.nodup_cons.mpr ⟨by simp, List.nodup_nil⟩, fun x hx y hy => ?_⟩
    rw [List.mem_singleton.mp hy]
    have := mem_rngI.mp hx
    omega
theorem nodup_len : ∀ (n : Nat) (l : List Int), l.Nodup → (∀ x, x ∈ l → 0 ≤ x ∧ x < n) → l.length ≤ n := by
  intro n
  induction n with
  | zero =>
    intro l _ h
    cases l with
    | nil => exact Nat.le_refl _
    | cons x l => have := h x List.mem_cons_self; omega
  | succ n ih =>
    intro l nd h
    by_cases hm : (n : Int) ∈ l
    · have q := ih (l.erase (n : Int)) (nd.erase _) fun x hx => by
        have hx2 := (List.Nodup.mem_erase_iff nd).mp hx
        have := h x hx2.2
        have := hx2.1
        omega
      rw [List.length_erase_of_mem hm] at q
      omega
    · have q := ih l nd fun x hx => by
        have := h x hx
        have : x ≠ n := fun e => hm (e ▸ hx)
        omega
      omega
theorem perm_rng : ∀ (n : Nat) (l : List Int), l.Nodup → (∀ x, x ∈ l → 0 ≤ x ∧ x < n) → l.length = n → l.Perm (rngI n) := by
  intro n
  induction n with
  | zero =>
    intro l _ _ h
    rw [List.length_eq_zero_iff.mp h]
    exact List.Perm.nil
  | succ n ih =>
    intro l nd h hl
    have hm : (n : Int) ∈ l := Decidable.byContradiction fun hm => by
      have q := nodup_len n l nd fun x hx => by
        have := h x hx
        have : x ≠ n := fun e => hm (e ▸ hx)
        omega
      omega
    have q := ih (l.erase (n : Int)) (nd.erase _) (fun x hx => by
        have hx2 := (List.Nodup.mem_erase_iff nd).mp hx
        have := h x hx2.2
        have := hx2.1
        omega) (by rw [List.length_erase_of_mem hm]; omega)
    rw [rngI_succ]
    exact (List.perm_cons_erase hm).trans ((q.cons _).trans (List.perm_append_comm (l₁ := [(n : Int)])))
def IsFull (row : List Int) : Prop := row.length ≤ 12 ∧ row.Perm (rngI row.length)
theorem IsFull.nodup {row : List Int} (h : IsFull row) : row.Nodup := h.2.nodup_iff.mpr (rngI_nodup _)
theorem IsFull.mem {row : List Int} (h : IsFull row) {x : Int} : x ∈ row ↔ 0 ≤ x ∧ x < row.length := by rw [h.2.mem_iff, mem_rngI]
theorem IsFull.row {row : List Int} (h : IsFull row) : IsRow row := ⟨h.1, fun v hv => by have := h.mem.mp hv; have := h.1; omega⟩
theorem IsFull.srt {row : List Int} (h : IsFull row) : srt row = rngI row.length := (srt_eq (h.2.symm) (rngI_sorted _)).symm
theorem full_of_srt {row : List Int} (hl : row.length ≤ 12) (h : Sh.srt row = rngI row.length) : IsFull row := ⟨hl, h ▸ (srt_perm row).symm⟩
theorem full_of {row : List Int} (hl : row.length ≤ 12) (nd : row.Nodup) (h : ∀ x, x ∈ row → 0 ≤ x ∧ x < row.length) : IsFull row := ⟨hl, perm_rng _ _ nd h rfl⟩
theorem IsFull.perm {row other : List Int} (h : IsFull row) (p : other.Perm row) : IsFull other := ⟨by rw [p.length_eq]; exact h.1, by rw [p.length_eq]; exact p.trans h.2⟩
/-! ### counting by places -/
theorem map_gt (ns : List Int) : (List.range ns.length).map (gt ns) = ns := by
  refine List.ext_getElem? fun i => ?_
  rw [List.getElem?_map]
  by_cases h : i < ns.length
  · rw [List.getElem?_range h, some_gt h] <;> rfl
  · rw [List.getElem?_eq_none (by rw [List.length_range]; omega), List.getElem?_eq_none (by omega)] <;> rfl
theorem map_gt_take (ns : List Int) (n : Nat) (h : n ≤ ns.length) : (List.range n).map (gt ns) = ns.take n := by
  refine List.ext_getElem? fun i => ?_
  rw [List.getElem?_map, List.getElem?_take]
  by_cases hi : i < n
  · rw [List.getElem?_range hi, if_pos hi, some_gt (by omega)] <;> rfl
  · rw [List.getElem?_eq_none (by rw [List.length_range]; omega), if_neg hi] <;> rfl
theorem filter_gt (ns : List Int) (n : Nat) (h : n ≤ ns.length) (f : Int → Bool) : ((ns.take n).filter f).length = ((List.range n).filter fun i => f (gt ns i)).length := by
  rw [← map_gt_take ns n h, List.filter_map, List.length_map]
  rfl
theorem inv_by {a b : List Int} (hl : a.length = b.length) (h : ∀ i j, i < j → j < a.length → (gt b j < gt b i ↔ gt a j < gt a i)) : inv a = inv b := by
  rw [← pairs_inv, ← pairs_inv, ← hl]
  have : ∀ n, n ≤ a.length → pairsTo a n = pairsTo b n := by
    intro n
    induction n with
    | zero => intro _; rfl
    | succ n ih =>
      intro hn
      rw [pairsTo, pairsTo, ih (by omega)]
      congr 1
      unfold cGt
      rw [filter_gt a n (by omega), filter_gt b n (by omega)]
      congr 1
      refine List.filter_congr fun i hi => ?_
      have hi := List.mem_range.mp hi
      rw [decide_eq_decide]
      exact (h i n hi (by omega)).symm
  exact this _ (Nat.le_refl _)
theorem falls_by {a b : List Int} (hl : a.length = b.length) (h : ∀ i j, i < j → j < a.length → (gt b j < gt b i ↔ gt a j < gt a i)) : fallsL a = fallsL b := by
  unfold fallsL fallsTo
  rw [← hl]
  congr 1
  refine List.filter_congr fun i hi => ?_
  have hi := List.mem_range.mp hi
  rw [decide_eq_decide]
  exact (h i (1 + i) (by omega) (by omega)).symm
end Sh
namespace Sh
theorem perm_pop : ∀ {l : List Int} {k : Nat}, k < l.length → (gt l k :: l.eraseIdx k).Perm l
  | x :: l, 0, _ => List.Perm.refl _
  | x :: l, k + 1, h => (List.Perm.swap x (gt l k) _).trans ((perm_pop (l := l) (k := k) (by simp only [List.length_cons] at h; omega)).cons x)
theorem il_erase (l : List Int) (k : Nat) : il (l.eraseIdx k) = (il l).eraseIdx k := by
  unfold il
  rw [List.eraseIdx_eq_take_drop_succ, List.eraseIdx_eq_take_drop_succ, List.map_append, List.map_take, List.map_drop]
/-! ### the inverse -/
def invL (row : List Int) : List Int := (List.range row.length).map fun i : Nat => (row.idxOf (i : Int) : Int)
theorem invL_len (row : List Int) : (invL row).length = row.length := by unfold invL; rw [List.length_map, List.length_range]
theorem invL_gt (row : List Int) {v : Nat} (h : v < row.length) : gt (invL row) v = row.idxOf (v : Int) := by
  refine gt_some ?_
  unfold invL
  rw [List.getElem?_map, List.getElem?_range h] <;> rfl
theorem gt_idx {row : List Int} {x : Int} (h : x ∈ row) : gt row (row.idxOf x) = x := by
  have hlt := List.idxOf_lt_length_iff.mpr h
  refine gt_some ?_
  rw [List.getElem?_eq_getElem hlt, List.getElem_idxOf]
theorem gt_mem {row : List Int} {k : Nat} (h : k < row.length) : gt row k ∈ row := List.mem_of_getElem? (some_gt h)
theorem gt_inj {row : List Int} (nd : row.Nodup) {i j : Nat} (hi : i < row.length) (hj : j < row.length) (h : gt row i = gt row j) : i = j := by
  refine (List.getElem?_inj hi nd).mp ?_
  rw [some_gt hi, some_gt hj, h]
theorem idx_gt {row : List Int} (nd : row.Nodup) {k : Nat} (h : k < row.length) : row.idxOf (gt row k) = k :=
  gt_inj nd (List.idxOf_lt_length_iff.mpr (gt_mem h)) h (gt_idx (gt_mem h))
theorem ext_gt {a b : List Int} (hl : a.length = b.length) (h : ∀ i, i < a.length → gt a i = gt b i) : a = b := by
  refine List.ext_getElem? fun i => ?_
  by_cases hi : i < a.length
  · rw [some_gt hi, some_gt (by omega), h i hi]
  · rw [List.getElem?_eq_none (by omega), List.getElem?_eq_none (by omega)]
theorem nodup_gt {l : List Int} (h : ∀ i j, i < j → j < l.length → gt l i ≠ gt l j) : l.Nodup := by
  refine List.pairwise_iff_getElem.mpr fun i j hi hj hij => ?_
  have e1 := some_gt hi
  have e2 := some_gt hj
  rw [List.getElem?_eq_getElem hi] at e1
  rw [List.getElem?_eq_getElem hj] at e2
  rw [Option.some.inj e1, Option.some.inj e2]
  exact h i j hij hj
theorem IsFull.at {row : List Int} (h : IsFull row) {k : Nat} (hk : k < row.length) : 0 ≤ gt row k ∧ gt row k < row.length := h.mem.mp (gt_mem hk)
theorem IsFull.has {row : List Int} (h : IsFull row) {v : Nat} (hv : v < row.length) : (v : Int) ∈ row := h.mem.mpr ⟨by omega, by omega⟩
theorem IsFull.idx {row : List Int} (h : IsFull row) {v : Nat} (hv : v < row.length) : row.idxOf (v : Int) < row.length := List.idxOf_lt_length_iff.mpr (h.has hv)
theorem due_inv {row due : List Int} (h : IsFull row) (hl : due.length = row.length) (hd : ∀ k, k < row.length → gt due (gt row k).toNat = k) : due = invL row := by
  refine ext_gt (by rw [invL_len, hl]) fun v hv => ?_
  rw [hl] at hv
  rw [invL_gt row hv]
  have q := hd _ (h.idx hv)
  rw [gt_idx (h.has hv), Int.toNat_natCast] at q
  exact q
theorem invL_full {row : List Int} (h : IsFull row) : IsFull (invL row) := by
  have hl := invL_len row
  refine full_of (by rw [hl]; exact h.1) (nodup_gt fun i j hij hj => ?_) fun x hx => ?_
  · rw [hl] at hj
    rw [invL_gt row hj, invL_gt row (by omega : i < row.length)]
    intro e
    have := gt_idx (h.has hj)
    rw [← Int.ofNat_inj.mp e, gt_idx (h.has (by omega : i < row.length))] at this
    omega
  · unfold invL at hx
    obtain ⟨i, hi, rfl⟩ := List.mem_map.mp hx
    have := h.idx (List.mem_range.mp hi)
    rw [hl]
    omega
end Sh
namespace Sh
theorem drop_gt {l : List Int} {k : Nat} (h : k < l.length) : l.drop k = gt l k :: l.drop (k + 1) := by
  have := some_gt h
  rw [List.getElem?_eq_getElem h] at this
  rw [List.drop_eq_getElem_cons h, Option.some.inj this]
end Sh
namespace Sh
/-! ### swaps of neighbours -/
def swapAt (l : List Int) (k : Nat) : List Int := (l.set (k - 1) (gt l k)).set k (gt l (k - 1))
def swapAll (l : List Int) (ps : List Int) : List Int := ps.foldl (fun l k => swapAt l k.toNat) l
theorem swapAt_len (l : List Int) (k : Nat) : (swapAt l k).length = l.length := by unfold swapAt; rw [List.length_set, List.length_set]
theorem swapAll_len (l ps : List Int) : (swapAll l ps).length = l.length := by
  unfold swapAll
  induction ps generalizing l with
  | nil => rfl
  | cons p ps ih => rw [List.foldl_cons, ih, swapAt_len]
theorem swapAll_snoc (l ps : List Int) (k : Int) : swapAll l (ps ++ [k]) = swapAt (swapAll l ps) k.toNat := by unfold swapAll; rw [List.foldl_append]; rfl
theorem gt_swap (l : List Int) (k j : Nat) (h : k < l.length) (h1 : 1 ≤ k) : gt (swapAt l k) j = if j = k then gt l (k - 1) else if j = k - 1 then gt l k else gt l j := by
  unfold swapAt
  rw [gt_set _ _ _ _ (by rw [List.length_set]; exact h), gt_set _ _ _ _ (by omega)]
  by_cases e : k = j
  · subst e
    rw [if_pos rfl, if_pos rfl]
  · rw [if_neg e, if_neg (Ne.symm e)]
    by_cases e2 : k - 1 = j
    · rw [if_pos e2, if_pos e2.symm]
    · rw [if_neg e2, if_neg (Ne.symm e2)]
theorem cLt_perm {l m : List Int} (h : l.Perm m) (x : Int) : cLt l x = cLt m x := (h.filter _).length_eq
theorem cGt_perm {l m : List Int} (h : l.Perm m) (x : Int) : cGt l x = cGt m x := (h.filter _).length_eq
theorem inv_swap2 (A B : List Int) (x y : Int) (h : y < x) : inv (A ++ x :: y :: B) = inv (A ++ y :: x :: B) + 1 := by
  induction A with
  | nil =>
    have e1 : cLt (y :: B) x = 1 + cLt B x := by
      have := cLt_append [y] B x
      have e : cLt [y] x = 1 := by unfold cLt; simp [h]
      rw [e] at this
      exact this
    have e2 : cLt (x :: B) y = cLt B y := by
      have := cLt_append [x] B y
      have e : cLt [x] y = 0 := by unfold cLt; simp; omega
      rw [e, Nat.zero_add] at this
      exact this
    show cLt (y :: B) x + (cLt B y + inv B) = cLt (x :: B) y + (cLt B x + inv B) + 1
    omega
  | cons a A ih =>
    have e : cLt (A ++ x :: y :: B) a = cLt (A ++ y :: x :: B) a := cLt_perm ((List.Perm.swap y x B).append_left A) a
    show cLt (A ++ x :: y :: B) a + inv (A ++ x :: y :: B) = cLt (A ++ y :: x :: B) a + inv (A ++ y :: x :: B) + 1
    omega
theorem split2 (l : List Int) (k : Nat) (h : k < l.length) (h1 : 1 ≤ k) : l = l.take (k - 1) ++ gt l (k - 1) :: gt l k :: l.drop (k + 1) := by
  have e1 : l[k - 1]? = some (gt l (k - 1)) := some_gt (by omega)
  have e2 : l[k]? = some (gt l k) := some_gt h
  have a1 : k - 1 < l.length := by omega
  have d1 : l.drop (k - 1) = gt l (k - 1) :: l.drop k := by
    rw [List.drop_eq_getElem_cons a1]
    rw [List.getElem?_eq_getElem a1] at e1
    rw [Option.some.inj e1, show k - 1 + 1 = k by omega]
  have d2 : l.drop k = gt l k :: l.drop (k + 1) := by
    rw [List.drop_eq_getElem_cons h]
    rw [List.getElem?_eq_getElem h] at e2
    rw [Option.some.inj e2]
  conv => lhs; rw [← List.take_append_drop (k - 1) l, d1, d2]
theorem swap_split (l : List Int) (k : Nat) (h : k < l.length) (h1 : 1 ≤ k) : swapAt l k = l.take (k - 1) ++ gt l k :: gt l (k - 1) :: l.drop (k + 1) := by
  have e := split2 l k h h1
  have lt : (l.take (k - 1)).length = k - 1 := by rw [List.length_take]; omega
  unfold swapAt
  generalize gt l (k - 1) = x at *
  generalize gt l k = y at *
  generalize l.take (k - 1) = A at *
  generalize l.drop (k + 1) = B at *
  subst e
  rw [List.set_append_right _ _ (by omega), show k - 1 - A.length = 0 by omega, List.set_cons_zero, List.set_append_right _ _ (by omega), show k - A.length = 1 by omega]
  rfl
theorem swapAt_perm (l : List Int) (k : Nat) (h : k < l.length) (h1 : 1 ≤ k) : (swapAt l k).Perm l := by
  rw [swap_split l k h h1]
  conv => rhs; rw [split2 l k h h1]
  exact (List.Perm.swap _ _ _).append_left _
theorem inv_swapAt (l : List Int) (k : Nat) (h : k < l.length) (h1 : 1 ≤ k) (hd : gt l k < gt l (k - 1)) : inv l = inv (swapAt l k) + 1 := by
  rw [swap_split l k h h1]
  conv => lhs; rw [split2 l k h h1]
  exact inv_swap2 _ _ _ _ hd
/-- the swaps told so far, what is left to be done -/
structure StInv (row left found : List Int) : Prop where
  all : left = swapAll row found
  num : found.length + inv left = inv row
  ok : ∀ x, x ∈ found → 1 ≤ x ∧ x < row.length
theorem StInv.len {row left found : List Int} (h : StInv row left found) : left.length = row.length := by rw [h.all, swapAll_len]
theorem StInv.start (row : List Int) : StInv row row [] := ⟨rfl, by simp, fun _ h => by cases h⟩
theorem StInv.step {row left found : List Int} (h : StInv row left found) {k : Nat} (hk : k < row.length) (h1 : 1 ≤ k) (hd : gt left k < gt left (k - 1)) : StInv row (swapAt left k) (found ++ [(k : Int)]) := by
  have hl := h.len
  refine ⟨by rw [swapAll_snoc, ← h.all, Int.toNat_natCast], ?_, fun x hx => ?_⟩
  · have := inv_swapAt left k (by omega) h1 hd
    have := h.num
    rw [List.length_append]
    simp only [List.length_cons, List.length_nil]
    omega
  · rcases List.mem_append.mp hx with hx | hx
    · exact h.ok x hx
    · rw [List.mem_singleton.mp hx]
      omega
/-- in order but for the volume at p, that is at most those from there to e -/
def Hole (l : List Int) (p e : Nat) : Prop := (∀ i j, i < j → j ≤ e → i ≠ p → j ≠ p → gt l i ≤ gt l j) ∧ ∀ j, p < j → j ≤ e → gt l p ≤ gt l j
def Upto (l : List Int) (n : Nat) : Prop := ∀ i j, i < j → j < n → gt l i ≤ gt l j
theorem Upto.hole {l : List Int} {e : Nat} (h : Upto l e) : Hole l e e := ⟨fun i j hij hj _ hne => h i j hij (by omega), fun j h1 h2 => by omega⟩
theorem Hole.step {l : List Int} {p e : Nat} (h : Hole l p e) (hp : 1 ≤ p) (hpe : p ≤ e) (he : e < l.length) (hd : gt l p < gt l (p - 1)) : Hole (swapAt l p) (p - 1) e := by
  obtain ⟨h1, h2⟩ := h
  have g := fun j => gt_swap l p j (by omega) hp
  constructor
  · intro i j hij hj hi hj2
    rw [g i, g j]
    rw [if_neg hi] 
    rw [if_neg hj2]
    by_cases ei : i = p
    · rw [if_pos ei, if_neg (by omega)]
      exact h1 (p - 1) j (by omega) hj (by omega) (by omega)
    · rw [if_neg ei]
      by_cases ej : j = p
      · rw [if_pos ej]
        exact h1 i (p - 1) (by omega) (by omega) ei (by omega)
      · rw [if_neg ej]
        exact h1 i j hij hj ei ej
  · intro j h3 h4
    rw [g (p - 1), g j, if_neg (by omega), if_pos rfl]
    by_cases ej : j = p
    · rw [if_pos ej]
      omega
    · rw [if_neg ej, if_neg (by omega)]
      exact h2 j (by omega) h4
theorem Hole.done {l : List Int} {p e : Nat} (h : Hole l p e) (hpe : p ≤ e) (hd : p = 0 ∨ gt l (p - 1) ≤ gt l p) : Upto l (e + 1) := by
  obtain ⟨h1, h2⟩ := h
  intro i j hij hj
  by_cases ei : i = p
  · subst ei
    exact h2 j hij (by omega)
  · by_cases ej : j = p
    · subst ej
      rcases hd with hd | hd
      · omega
      · by_cases e1 : i = j - 1
        · rw [e1]
          exact hd
        · exact Int.le_trans (h1 i (j - 1) (by omega) (by omega) ei (by omega)) hd
    · exact h1 i j hij (by omega) ei ej
theorem Upto.falls {l : List Int} (h : Upto l l.length) : fallsL l = [] := by
  unfold fallsL fallsTo
  rw [List.filter_eq_nil_iff.mpr, List.map_nil]
  intro i hi
  have := List.mem_range.mp hi
  have := h i (1 + i) (by omega) (by omega)
  simp only [decide_eq_true_eq]
  omega
/-- what is asked of the steps -/
structure Steps (row found : List Int) : Prop where
  num : found.length = inv row
  ok : ∀ x, x ∈ found → 1 ≤ x ∧ x < row.length
  falls : fallsL (swapAll row found) = []
theorem inv_sorted {l : List Int} (h : l.Pairwise (· ≤ ·)) : inv l = 0 := by
  induction h with
  | nil => rfl
  | cons h1 _ ih =>
    simp only [inv, ih, Nat.add_zero]
    unfold cLt
    rw [List.length_eq_zero_iff, List.filter_eq_nil_iff]
    intro y hy
    have := h1 y hy
    simp only [decide_eq_true_eq]
    omega
theorem inv_upto {l : List Int} (h : Upto l l.length) : inv l = 0 := by
  refine inv_sorted (List.pairwise_iff_getElem.mpr fun i j hi hj hij => ?_)
  have := h i j hij hj
  have e1 := some_gt hi
  have e2 := some_gt hj
  rw [List.getElem?_eq_getElem hi] at e1
  rw [List.getElem?_eq_getElem hj] at e2
  rw [Option.some.inj e1, Option.some.inj e2]
  exact this
theorem StInv.done {row left found : List Int} (h : StInv row left found) (hu : Upto left row.length) : Steps row found := by
  have hl := h.len
  rw [← hl] at hu
  have := h.num
  refine ⟨by rw [inv_upto hu] at this; omega, h.ok, ?_⟩
  rw [← h.all]
  exact hu.falls
theorem inv_le (l : List Int) : inv l ≤ l.length * l.length := by
  induction l with
  | nil => exact Nat.le_refl _
  | cons x l ih =>
    have h : cLt l x ≤ l.length := List.length_filter_le _ _
    simp only [inv, List.length_cons]
    have : l.length * l.length + l.length ≤ (l.length + 1) * (l.length + 1) := by
      rw [Nat.add_mul, Nat.mul_add, Nat.mul_add]
      omega
    omega
end Sh
namespace Sh
/-! ### codes -/
def pc (row : List Int) (e : Nat) : Nat → Nat
  | 0 => 0
  | i + 1 => pc row e i + if e < i ∧ gt row i < gt row e then 1 else 0
theorem pc_take (row : List Int) (e n : Nat) (h : n ≤ row.length) : pc row e n = cLt ((row.take n).drop (e + 1)) (gt row e) := by
  induction n with
  | zero => rw [List.take_zero, List.drop_nil]; rfl
  | succ n ih =>
    have g := some_gt (ns := row) (k := n) (by omega)
    rw [pc, ih (by omega), List.take_add_one, g]
    show _ = cLt ((row.take n ++ [gt row n]).drop (e + 1)) (gt row e)
    by_cases c : e < n
    · rw [List.drop_append_of_le_length (by rw [List.length_take]; omega), cLt_append]
      congr 1
      unfold cLt
      by_cases d : gt row n < gt row e <;> simp [c, d]
    · rw [if_neg (fun z => c z.1), List.drop_of_length_le (by rw [List.length_take]; omega), List.drop_of_length_le (by rw [List.length_append, List.length_take, List.length_singleton]; omega)]
      rfl
theorem due_code {row due : List Int} (hl : due.length = row.length) (h : ∀ e, e < row.length → gt due e = pc row e row.length) : due = lessB row := by
  refine ext_gt (by rw [lessB_len, hl]) fun e he => ?_
  rw [hl] at he
  rw [h e he, pc_take row e _ (Nat.le_refl _), List.take_length, gt_some (lessB_at row e he)]
end Sh
namespace Sh
/-! ### the row by a code -/
def byCode : List Int → List Int → List Int
  | _, [] => []
  | left, c :: cs => gt left c.toNat :: byCode (left.eraseIdx c.toNat) cs
def CodeOk : List Int → Prop
  | [] => True
  | c :: cs => (0 ≤ c ∧ c < (cs.length : Int) + 1) ∧ CodeOk cs
theorem codeOk_iff (code : List Int) : CodeOk code ↔ ∀ k, k < code.length → 0 ≤ gt code k ∧ gt code k < (code.length : Int) - k := by
  induction code with
  | nil => exact ⟨fun _ k h => absurd h (Nat.not_lt_zero _), fun _ => trivial⟩
  | cons c cs ih =>
    constructor
    · rintro ⟨h1, h2⟩ k hk
      rw [List.length_cons] at *
      cases k with
      | zero =>
        show 0 ≤ c ∧ c < _
        omega
      | succ k =>
        have := ih.mp h2 k (by omega)
        show 0 ≤ gt cs k ∧ gt cs k < _
        omega
    · intro h
      rw [List.length_cons] at h
      refine ⟨?_, ih.mpr fun k hk => ?_⟩
      · have : 0 ≤ c ∧ c < _ := h 0 (by omega)
        omega
      · have : 0 ≤ gt cs k ∧ gt cs k < _ := h (k + 1) (by omega)
        omega
theorem lessB_ok (row : List Int) : CodeOk (lessB row) := by
  induction row with
  | nil => trivial
  | cons x l ih =>
    refine ⟨?_, ih⟩
    have : cLt l x ≤ l.length := List.length_filter_le _ _
    rw [lessB_len]
    omega
theorem byCode_len (left code : List Int) : (byCode left code).length = code.length := by
  induction code generalizing left with
  | nil => rfl
  | cons c cs ih => rw [byCode, List.length_cons, List.length_cons, ih]
theorem byCode_perm : ∀ (code left : List Int), CodeOk code → left.length = code.length → (byCode left code).Perm left := by
  intro code
  induction code with
  | nil =>
    intro left _ h
    rw [List.length_eq_zero_iff.mp h]
    exact List.Perm.nil
  | cons c cs ih =>
    intro left h hl
    obtain ⟨h1, h2⟩ := h
    rw [List.length_cons] at hl
    have hc : c.toNat < left.length := by omega
    have q := ih (left.eraseIdx c.toNat) h2 (by rw [List.length_eraseIdx_of_lt hc]; omega)
    exact (q.cons _).trans (perm_pop hc)
def StrictL (l : List Int) : Prop := l.Pairwise (· < ·)
theorem strict_gt {l : List Int} (h : StrictL l) {i j : Nat} (hij : i < j) (hj : j < l.length) : gt l i < gt l j := by
  have := List.pairwise_iff_getElem.mp h i j (by omega) hj hij
  have e1 := some_gt (ns := l) (k := i) (by omega)
  have e2 := some_gt hj
  rw [List.getElem?_eq_getElem (by omega)] at e1
  rw [List.getElem?_eq_getElem hj] at e2
  rw [Option.some.inj e1, Option.some.inj e2] at this
  exact this
theorem strict_erase {l : List Int} (h : StrictL l) (k : Nat) : StrictL (l.eraseIdx k) := h.sublist (List.eraseIdx_sublist _ _)
theorem cLt_all {l : List Int} {x : Int} (h : ∀ y, y ∈ l → y < x) : cLt l x = l.length := by
  unfold cLt
  rw [List.filter_eq_self.mpr fun y hy => decide_eq_true (h y hy)]
theorem cLt_none {l : List Int} {x : Int} (h : ∀ y, y ∈ l → ¬ y < x) : cLt l x = 0 := by
  unfold cLt
  rw [List.length_eq_zero_iff, List.filter_eq_nil_iff]
  intro y hy
  simpa using h y hy
theorem strict_cLt {l : List Int} (h : StrictL l) {c : Nat} (hc : c < l.length) : cLt (l.eraseIdx c) (gt l c) = c := by
  rw [List.eraseIdx_eq_take_drop_succ, cLt_append, cLt_all, cLt_none, List.length_take]
  · omega
  · intro y hy
    obtain ⟨i, hi⟩ := List.getElem?_of_mem hy
    rw [List.getElem?_drop] at hi
    have hlt := (List.getElem?_eq_some_iff.mp hi).1
    have := strict_gt h (i := c) (j := c + 1 + i) (by omega) hlt
    rw [← gt_some hi]
    omega
  · intro y hy
    obtain ⟨i, hi⟩ := List.getElem?_of_mem hy
    rw [List.getElem?_take] at hi
    by_cases hic : i < c
    · rw [if_pos hic] at hi
      rw [← gt_some hi]
      exact strict_gt h hic hc
    · rw [if_neg hic] at hi
      cases hi
theorem code_byCode : ∀ (code left : List Int), CodeOk code → left.length = code.length → StrictL left → lessB (byCode left code) = code := by
  intro code
  induction code with
  | nil => intro _ _ _ _; rfl
  | cons c cs ih =>
    intro left h hl hs
    obtain ⟨h1, h2⟩ := h
    rw [List.length_cons] at hl
    have hc : c.toNat < left.length := by omega
    have hl2 : (left.eraseIdx c.toNat).length = cs.length := by rw [List.length_eraseIdx_of_lt hc]; omega
    have q := ih _ h2 hl2 (strict_erase hs _)
    show ((cLt (byCode (left.eraseIdx c.toNat) cs) (gt left c.toNat) : Nat) : Int) :: lessB (byCode (left.eraseIdx c.toNat) cs) = c :: cs
    rw [q, cLt_perm (byCode_perm cs _ h2 hl2), strict_cLt hs hc, Int.toNat_of_nonneg h1.1]
theorem byCode_code : ∀ (row left : List Int), row.Perm left → StrictL left → byCode left (lessB row) = row := by
  intro row
  induction row with
  | nil => intro _ _ _; rfl
  | cons x l ih =>
    intro left hp hs
    have hx : x ∈ left := hp.mem_iff.mp List.mem_cons_self
    have hm := List.idxOf_lt_length_iff.mpr hx
    have hg := gt_idx hx
    generalize left.idxOf x = m at *
    have hp2 : l.Perm (left.eraseIdx m) := by
      have := hp.trans (perm_pop hm).symm
      rw [hg] at this
      exact (List.perm_cons x).mp this
    have hc : cLt l x = m := by rw [cLt_perm hp2, ← hg, strict_cLt hs hm]
    show gt left ((cLt l x : Nat) : Int).toNat :: byCode (left.eraseIdx ((cLt l x : Nat) : Int).toNat) (lessB l) = x :: l
    rw [Int.toNat_natCast, hc, hg, ih _ hp2 (strict_erase hs m)]
theorem rngI_strict (n : Nat) : StrictL (rngI n) := by
  induction n with
  | zero => exact List.Pairwise.nil
  | succ n ih =>
    rw [rngI_succ]
    refine List.pairwise_append.mpr ⟨ih, List.pairwise_singleton _ _, fun x hx y hy => ?_⟩
    rw [List.mem_singleton.mp hy]
    exact (mem_rngI.mp hx).2
def rowBy (code : List Int) : List Int := byCode (rngI code.length) code
theorem rowBy_len (code : List Int) : (rowBy code).length = code.length := byCode_len _ _
theorem rowBy_full {code : List Int} (h : CodeOk code) (hl : code.length ≤ 12) : IsFull (rowBy code) := by
  have q := byCode_perm code (rngI code.length) h (rngI_len _)
  exact ⟨by rw [rowBy_len]; exact hl, by rw [rowBy_len]; exact q⟩
theorem rowBy_code {code : List Int} (h : CodeOk code) : lessB (rowBy code) = code := code_byCode code _ h (rngI_len _) (rngI_strict _)
theorem code_rowBy {row : List Int} (h : IsFull row) : rowBy (lessB row) = row := by
  unfold rowBy
  rw [lessB_len]
  exact byCode_code row _ h.2 (rngI_strict _)
/-- turn by turn -/
def leftN (left code : List Int) : Nat → List Int
  | 0 => left
  | i + 1 => (leftN left code i).eraseIdx (gt code i).toNat
theorem leftN_cons (left cs : List Int) (c : Int) (i : Nat) : leftN left (c :: cs) (i + 1) = leftN (left.eraseIdx c.toNat) cs i := by
  induction i with
  | zero => rfl
  | succ i ih =>
    rw [leftN, ih]
    rfl
theorem byCode_at (code left : List Int) (i : Nat) (h : i < code.length) : (byCode left code)[i]? = some (gt (leftN left code i) (gt code i).toNat) := by
  induction code generalizing left i with
  | nil => cases h
  | cons c cs ih =>
    cases i with
    | zero => rfl
    | succ i =>
      rw [byCode, List.getElem?_cons_succ, ih _ i (by simp only [List.length_cons] at h; omega), leftN_cons]
      rfl
theorem leftN_len {left code : List Int} (h : CodeOk code) (hl : left.length = code.length) (i : Nat) (hi : i ≤ code.length) : (leftN left code i).length = code.length - i := by
  induction i with
  | zero => exact hl
  | succ i ih =>
    have q := (codeOk_iff code).mp h i (by omega)
    have ih := ih (by omega)
    rw [leftN, List.length_eraseIdx_of_lt (by omega), ih]
    omega
end Sh
namespace Sh
/-! ### the standing -/
def ahead (ns : List Int) (k j : Nat) : Bool := decide (gt ns j < gt ns k ∨ (gt ns j = gt ns k ∧ j < k))
def rk (ns : List Int) (k : Nat) : Nat := ((List.range ns.length).filter (ahead ns k)).length
def standL (ns : List Int) : List Int := (List.range ns.length).map fun k => (rk ns k : Int)
def cEq (l : List Int) (x : Int) : Nat := (l.filter fun y => decide (y = x)).length
theorem filter_or {α : Type} (l : List α) (p q : α → Bool) (h : ∀ x, x ∈ l → p x = true → q x = false) : (l.filter fun x => p x || q x).length = (l.filter p).length + (l.filter q).length := by
  induction l with
  | nil => rfl
  | cons x l ih =>
    have ih := ih fun y hy => h y (List.mem_cons_of_mem _ hy)
    have hx := h x List.mem_cons_self
    have e : ∀ c : Bool, (if c = true then x :: l.filter (fun x => p x || q x) else l.filter fun x => p x || q x).length = (l.filter fun x => p x || q x).length + if c = true then 1 else 0 := fun c => by cases c <;> rfl
    rw [List.filter_cons, List.filter_cons, List.filter_cons, e, ih]
    cases hp : p x with
    | true =>
      rw [hx hp]
      simp only [Bool.or_false, if_true, List.length_cons, Bool.false_eq_true, if_false]
      omega
    | false =>
      cases hq : q x <;> simp only [Bool.or_false, Bool.or_true, if_true, List.length_cons, Bool.false_eq_true, if_false] <;> omega
theorem filter_range_lt (n k : Nat) (h : k ≤ n) (p : Nat → Bool) : ((List.range n).filter fun i => p i && decide (i < k)) = (List.range k).filter p := by
  induction n with
  | zero =>
    have : k = 0 := by omega
    subst this
    rfl
  | succ n ih =>
    by_cases e : k = n + 1
    · subst e
      refine List.filter_congr fun i hi => ?_
      rw [decide_eq_true (List.mem_range.mp hi), Bool.and_true]
    · rw [List.range_succ, List.filter_append, ih (by omega)]
      have : decide (n < k) = false := decide_eq_false (by omega)
      simp [this]
theorem stand_at (ns : List Int) (k : Nat) (hk : k < ns.length) : cLt ns (gt ns k) + cEq (ns.take k) (gt ns k) = rk ns k := by
  have e1 : cLt ns (gt ns k) = ((List.range ns.length).filter fun i => decide (gt ns i < gt ns k)).length := by
    have := filter_gt ns ns.length (Nat.le_refl _) fun y => decide (y < gt ns k)
    rw [List.take_length] at this
    exact this
  have e2 : cEq (ns.take k) (gt ns k) = ((List.range ns.length).filter fun i => decide (gt ns i = gt ns k) && decide (i < k)).length := by
    rw [filter_range_lt ns.length k (by omega) fun i => decide (gt ns i = gt ns k)]
    exact filter_gt ns k (by omega) fun y => decide (y = gt ns k)
  rw [e1, e2, ← filter_or]
  · unfold rk
    congr 1
    refine List.filter_congr fun i _ => ?_
    unfold ahead
    rw [Bool.eq_iff_iff]
    simp
  · intro i _ hp
    have := of_decide_eq_true hp
    rw [decide_eq_false (by omega), Bool.false_and]
theorem ahead_tot (ns : List Int) {i j : Nat} (h : i ≠ j) : ahead ns j i = true ∨ ahead ns i j = true := by
  unfold ahead
  simp only [decide_eq_true_eq]
  omega
theorem filter_sub {α : Type} (l : List α) (p q : α → Bool) (h : ∀ x, p x = true → q x = true) {y : α} (hy : y ∈ l) (h1 : p y = false) (h2 : q y = true) : (l.filter p).length < (l.filter q).length := by
  induction l with
  | nil => cases hy
  | cons x l ih =>
    have mono : (l.filter p).length ≤ (l.filter q).length := by
      clear ih hy
      induction l with
      | nil => exact Nat.le_refl _
      | cons z l ih =>
        simp only [List.filter_cons]
        have := h z
        cases hp : p z <;> cases hq : q z <;> simp_all <;> omega
    simp only [List.filter_cons]
    rcases List.mem_cons.mp hy with rfl | hy
    · rw [h1, h2]
      simp only [Bool.false_eq_true, if_false, if_true, List.length_cons]
      omega
    · have := ih hy
      have := h x
      cases hp : p x <;> cases hq : q x <;> simp_all <;> omega
theorem rk_lt (ns : List Int) {i j : Nat} (hi : i < ns.length) (h : ahead ns j i = true) : rk ns i < rk ns j := by
  refine filter_sub _ _ _ (fun x hx => ?_) (List.mem_range.mpr hi) ?_ h
  · unfold ahead at *
    simp only [decide_eq_true_eq] at *
    omega
  · unfold ahead
    rw [decide_eq_false_iff_not]
    omega
theorem rk_bound (ns : List Int) {i : Nat} (hi : i < ns.length) : rk ns i < ns.length := by
  have := filter_sub (List.range ns.length) (ahead ns i) (fun _ => true) (fun _ _ => rfl) (List.mem_range.mpr hi) (by unfold ahead; rw [decide_eq_false_iff_not]; omega) rfl
  rw [filter_yes, List.length_range] at this
  exact this
theorem stand_len (ns : List Int) : (standL ns).length = ns.length := by unfold standL; rw [List.length_map, List.length_range]
theorem stand_gt (ns : List Int) {k : Nat} (hk : k < ns.length) : gt (standL ns) k = rk ns k := by
  refine gt_some ?_
  unfold standL
  rw [List.getElem?_map, List.getElem?_range hk] <;> rfl
theorem stand_cmp (ns : List Int) {i j : Nat} (hij : i < j) (hj : j < ns.length) : (gt (standL ns) j < gt (standL ns) i ↔ gt ns j < gt ns i) := by
  rw [stand_gt ns hj, stand_gt ns (by omega : i < ns.length)]
  constructor
  · intro h
    rcases ahead_tot ns (Nat.ne_of_lt hij) with q | q
    · have := rk_lt ns (by omega) q
      omega
    · unfold ahead at q
      simp only [decide_eq_true_eq] at q
      omega
  · intro h
    have := rk_lt ns hj (j := i) (by unfold ahead; rw [decide_eq_true_eq]; exact .inl h)
    omega
theorem stand_inv (ns : List Int) : inv (standL ns) = inv ns := (inv_by (stand_len ns).symm fun i j hij hj => stand_cmp ns hij hj).symm
theorem stand_falls (ns : List Int) : fallsL (standL ns) = fallsL ns := (falls_by (stand_len ns).symm fun i j hij hj => stand_cmp ns hij hj).symm
theorem stand_full (ns : List Int) (h : ns.length ≤ 12) : IsFull (standL ns) := by
  refine full_of (by rw [stand_len]; exact h) ?_ fun x hx => ?_
  · unfold standL
    refine List.Pairwise.map _ (R := fun i j => i ≠ j ∧ i < ns.length ∧ j < ns.length) (fun i j ⟨h1, h2, h3⟩ e => ?_) ?_
    · rcases ahead_tot ns h1 with q | q
      · have := rk_lt ns h2 q; omega
      · have := rk_lt ns h3 q; omega
    · refine List.Pairwise.imp_of_mem (R := (· ≠ ·)) (fun {a b} ha hb hab => ⟨hab, List.mem_range.mp ha, List.mem_range.mp hb⟩) List.nodup_range
  · unfold standL at hx
    obtain ⟨k, hk, rfl⟩ := List.mem_map.mp hx
    rw [stand_len]
    have := rk_bound ns (List.mem_range.mp hk)
    omega
theorem rowStand (ns : List Int) (h : ns.length ≤ 12) : IsRow (standL ns) := (stand_full ns h).row
end Sh
namespace Sh
/-! ### sums over lists -/
def sm {α : Type} (l : List α) (f : α → Nat) : Nat := (l.map f).sum
theorem sm_nil {α : Type} (f : α → Nat) : sm [] f = 0 := rfl
theorem sm_cons {α : Type} (x : α) (l : List α) (f : α → Nat) : sm (x :: l) f = f x + sm l f := rfl
theorem sm_append {α : Type} (l m : List α) (f : α → Nat) : sm (l ++ m) f = sm l f + sm m f := by unfold sm; rw [List.map_append, List.sum_append]
theorem sm_congr {α : Type} {l : List α} {f g : α → Nat} (h : ∀ x, x ∈ l → f x = g x) : sm l f = sm l g := by
  unfold sm
  rw [List.map_congr_left h]
theorem sm_zero {α : Type} (l : List α) : sm l (fun _ => 0) = 0 := by
  induction l with
  | nil => rfl
  | cons x l ih => rw [sm_cons, ih]
theorem sm_add {α : Type} (l : List α) (f g : α → Nat) : sm l (fun x => f x + g x) = sm l f + sm l g := by
  induction l with
  | nil => rfl
  | cons x l ih => rw [sm_cons, sm_cons, sm_cons, ih]; omega
theorem sm_swap {α β : Type} (l : List α) (m : List β) (f : α → β → Nat) : sm l (fun x => sm m (f x)) = sm m (fun y => sm l fun x => f x y) := by
  induction l with
  | nil => exact (sm_zero m).symm
  | cons x l ih =>
    rw [sm_cons, ih, ← sm_add]
    rfl
theorem sm_perm {α : Type} {l m : List α} (h : l.Perm m) (f : α → Nat) : sm l f = sm m f := by
  induction h with
  | nil => rfl
  | cons x _ ih => rw [sm_cons, sm_cons, ih]
  | swap x y l => rw [sm_cons, sm_cons, sm_cons, sm_cons]; omega
  | trans _ _ h1 h2 => rw [h1, h2]
theorem sm_map {α β : Type} (l : List α) (g : α → β) (f : β → Nat) : sm (l.map g) f = sm l fun x => f (g x) := by unfold sm; rw [List.map_map]; rfl
theorem sm_filter {α : Type} (l : List α) (p : α → Bool) : (l.filter p).length = sm l fun x => if p x = true then 1 else 0 := by
  induction l with
  | nil => rfl
  | cons x l ih =>
    rw [sm_cons, List.filter_cons, ← ih]
    cases p x <;> simp <;> omega
theorem sm_range_gt (ns : List Int) (f : Int → Nat) : sm ns f = sm (List.range ns.length) fun i => f (gt ns i) := by
  conv => lhs; rw [← map_gt ns]
  rw [sm_map]
theorem sm_full {row : List Int} (h : IsFull row) (f : Nat → Nat) : sm (List.range row.length) f = sm (List.range row.length) fun i => f (gt row i).toNat := by
  have e := sm_range_gt row fun v => f v.toNat
  rw [← e, sm_perm h.2]
  unfold rngI
  rw [sm_map]
  rfl
theorem inv_sm (row : List Int) : inv row = sm (List.range row.length) fun j => sm (List.range row.length) fun i => if i < j ∧ gt row j < gt row i then 1 else 0 := by
  rw [← pairs_inv]
  have h : ∀ n, n ≤ row.length → pairsTo row n = sm (List.range n) fun j => sm (List.range row.length) fun i => if i < j ∧ gt row j < gt row i then 1 else 0 := by
    intro n
    induction n with
    | zero => intro _; rfl
    | succ n ih =>
      intro hn
      rw [pairsTo, ih (by omega), List.range_succ, sm_append, sm_cons, sm_nil, Nat.add_zero]
      congr 1
      unfold cGt
      rw [filter_gt row n (by omega), ← filter_range_lt row.length n (by omega) fun i => decide (gt row n < gt row i), sm_filter]
      refine sm_congr fun i _ => ?_
      by_cases h1 : gt row n < gt row i <;> by_cases h2 : i < n <;> simp [h1, h2]
  exact h _ (Nat.le_refl _)
theorem inv_invL {row : List Int} (h : IsFull row) : inv (invL row) = inv row := by
  rw [inv_sm, inv_sm row, invL_len, sm_full h]
  have e : ∀ j, j ∈ List.range row.length → (sm (List.range row.length) fun i => if i < (gt row j).toNat ∧ gt (invL row) (gt row j).toNat < gt (invL row) i then 1 else 0) =
      sm (List.range row.length) fun i => if j < i ∧ gt row i < gt row j then 1 else 0 := by
    intro j hj
    have hj := List.mem_range.mp hj
    rw [sm_full h]
    refine sm_congr fun i hi => ?_
    have hi := List.mem_range.mp hi
    have bi := h.at hi
    have bj := h.at hj
    rw [invL_gt row (by omega), invL_gt row (by omega), Int.toNat_of_nonneg bi.1, Int.toNat_of_nonneg bj.1, idx_gt h.nodup hi, idx_gt h.nodup hj]
    have : ((gt row i).toNat < (gt row j).toNat ∧ (j : Int) < (i : Int)) ↔ (j < i ∧ gt row i < gt row j) := by omega
    simp only [this]
  rw [sm_congr e, sm_swap]
theorem invL_invL {row : List Int} (h : IsFull row) : invL (invL row) = row := by
  have hf := invL_full h
  have hl := invL_len row
  refine ext_gt (by rw [invL_len, hl]) fun v hv => ?_
  rw [invL_len, hl] at hv
  rw [invL_gt _ (by rw [hl]; exact hv)]
  have hr := h.at hv
  have e : gt (invL row) (gt row v).toNat = (v : Int) := by
    rw [invL_gt row (by omega), Int.toNat_of_nonneg hr.1, idx_gt h.nodup hv]
  rw [← e, idx_gt hf.nodup (by rw [hl]; omega)]
  exact Int.toNat_of_nonneg hr.1
end Sh
namespace Sh
/-! ### ranks -/
def fct : Nat → Int
  | 0 => 1
  | n + 1 => fct n * ((n : Int) + 1)
theorem fct_bd : ∀ n, n < 13 → 1 ≤ fct n ∧ fct n ≤ 479001600 := by decide
theorem fct_pos (n : Nat) : 1 ≤ fct n := by
  induction n with
  | zero => decide
  | succ n ih =>
    have : fct n * 1 ≤ fct n * ((n : Int) + 1) := Int.mul_le_mul_of_nonneg_left (by omega) (by omega)
    rw [fct]
    omega
def rankC : List Int → Int
  | [] => 0
  | c :: cs => c * fct cs.length + rankC cs
theorem rankC_bd : ∀ {code : List Int}, CodeOk code → 0 ≤ rankC code ∧ rankC code < fct code.length := by
  intro code
  induction code with
  | nil => intro _; decide
  | cons c cs ih =>
    rintro ⟨h1, h2⟩
    have ih := ih h2
    have hp := fct_pos cs.length
    have a : 0 ≤ c * fct cs.length := Int.mul_nonneg h1.1 (by omega)
    have b : c * fct cs.length ≤ (cs.length : Int) * fct cs.length := Int.mul_le_mul_of_nonneg_right (by omega) (by omega)
    have e : fct (cs.length + 1) = (cs.length : Int) * fct cs.length + fct cs.length := by
      rw [fct, Int.mul_add, Int.mul_one, Int.mul_comm]
    rw [List.length_cons, e, rankC]
    omega
theorem rank_div {c d f r s : Int} (hr : 0 ≤ r ∧ r < f) (hs : 0 ≤ s ∧ s < f) (h : c * f + r = d * f + s) : c = d ∧ r = s := by
  have hf : 0 < f := by omega
  have e1 : (c * f + r) / f = c := by
    rw [Int.add_comm, Int.add_mul_ediv_right _ _ (by omega), Int.ediv_eq_zero_of_lt hr.1 hr.2, Int.zero_add]
  have e2 : (d * f + s) / f = d := by
    rw [Int.add_comm, Int.add_mul_ediv_right _ _ (by omega), Int.ediv_eq_zero_of_lt hs.1 hs.2, Int.zero_add]
  have e : c = d := by rw [← e1, h, e2]
  subst e
  exact ⟨rfl, by omega⟩
theorem rankC_inj : ∀ {a b : List Int}, CodeOk a → CodeOk b → a.length = b.length → rankC a = rankC b → a = b := by
  intro a
  induction a with
  | nil =>
    intro b _ _ hl _
    exact (List.length_eq_zero_iff.mp hl.symm).symm
  | cons c cs ih =>
    intro b ha hb hl h
    cases b with
    | nil => cases hl
    | cons d ds =>
      have hl : cs.length = ds.length := by simpa using hl
      have b1 := rankC_bd ha.2
      have b2 := rankC_bd hb.2
      simp only [rankC] at h
      rw [hl] at h b1
      obtain ⟨e1, e2⟩ := rank_div b1 b2 h
      rw [e1, ih ha.2 hb.2 hl e2]
theorem code_exists : ∀ (n : Nat) (r : Int), 0 ≤ r → r < fct n → ∃ code : List Int, code.length = n ∧ CodeOk code ∧ rankC code = r := by
  intro n
  induction n with
  | zero =>
    intro r h0 h1
    refine ⟨[], rfl, trivial, ?_⟩
    have : fct 0 = 1 := rfl
    show (0 : Int) = r
    omega
  | succ n ih =>
    intro r h0 h1
    have hp := fct_pos n
    obtain ⟨cs, h2, h3, h4⟩ := ih (r % fct n) (Int.emod_nonneg _ (by omega)) (Int.emod_lt_of_pos _ (by omega))
    have hd := Int.mul_ediv_add_emod r (fct n)
    have hd0 : 0 ≤ r / fct n := Int.ediv_nonneg h0 (by omega)
    have hd1 : r / fct n < (n : Int) + 1 := Int.ediv_lt_of_lt_mul (by omega) (by rw [fct, Int.mul_comm] at h1; exact h1)
    refine ⟨(r / fct n) :: cs, by rw [List.length_cons, h2], ⟨by rw [h2]; exact ⟨hd0, hd1⟩, h3⟩, ?_⟩
    rw [rankC, h2, h4, Int.mul_comm]
    exact hd
def hk (code : List Int) : Nat → Int
  | 0 => 0
  | i + 1 => hk code i * ((code.length : Int) - i) + gt code i
theorem hk_rank (code : List Int) (i : Nat) (hi : i ≤ code.length) : hk code i * fct (code.length - i) + rankC (code.drop i) = rankC code := by
  induction i with
  | zero => rw [List.drop_zero, hk]; omega
  | succ i ih =>
    rw [← ih (by omega)]
    have e : code.drop i = gt code i :: code.drop (i + 1) := by
      have := some_gt (ns := code) (k := i) (by omega)
      rw [List.getElem?_eq_getElem (by omega)] at this
      rw [List.drop_eq_getElem_cons (by omega), Option.some.inj this]
    have e2 : code.length - i = (code.length - (i + 1)) + 1 := by omega
    rw [e, rankC, List.length_drop, e2, fct, hk]
    have e3 : ((code.length - (i + 1) : Nat) : Int) + 1 = (code.length : Int) - i := by omega
    rw [e3, Int.add_mul, Int.mul_assoc, Int.mul_comm ((code.length : Int) - i)]
    omega
theorem hk_bd {code : List Int} (h : CodeOk code) (hl : code.length ≤ 12) {i : Nat} (hi : i ≤ code.length) : 0 ≤ hk code i ∧ hk code i ≤ 479001600 := by
  have h0 : 0 ≤ hk code i := by
    clear hl
    induction i with
    | zero => exact Int.le_refl 0
    | succ i ih =>
      have q := (codeOk_iff code).mp h i (by omega)
      have := Int.mul_nonneg (ih (by omega)) (show 0 ≤ (code.length : Int) - i by omega)
      rw [hk]
      omega
  have e := hk_rank code i hi
  have b := rankC_bd h
  have b2 := (fct_bd code.length (by omega)).2
  have hd : 0 ≤ rankC (code.drop i) := by
    refine (rankC_bd ((codeOk_iff _).mpr fun k hk => ?_)).1
    rw [List.length_drop] at hk
    have q := (codeOk_iff code).mp h (i + k) (by omega)
    have e : gt (code.drop i) k = gt code (i + k) := by unfold gt; rw [List.getD_eq_getElem?_getD, List.getD_eq_getElem?_getD, List.getElem?_drop]
    rw [e, List.length_drop]
    omega
  have hp := fct_pos (code.length - i)
  have : hk code i * 1 ≤ hk code i * fct (code.length - i) := Int.mul_le_mul_of_nonneg_left hp h0
  omega
/-- the next code -/
def sc : List Int → Option (List Int)
  | [] => none
  | c :: cs => match sc cs with
    | some ds => some (c :: ds)
    | none => if c < cs.length then some ((c + 1) :: List.replicate cs.length 0) else none
theorem rank_zeros (n : Nat) : rankC (List.replicate n 0) = 0 := by
  induction n with
  | zero => rfl
  | succ n ih => rw [List.replicate_succ, rankC, ih]; omega
theorem ok_zeros (n : Nat) : CodeOk (List.replicate n 0) := by
  induction n with
  | zero => trivial
  | succ n ih => exact ⟨⟨Int.le_refl 0, by omega⟩, ih⟩
theorem sc_some : ∀ {code ds : List Int}, CodeOk code → sc code = some ds → ds.length = code.length ∧ CodeOk ds ∧ rankC ds = rankC code + 1
  | [], _, _, h => by cases h
  | c :: cs, ds, ⟨h1, h2⟩, h => by
    unfold sc at h
    cases e : sc cs with
    | some es =>
      rw [e] at h
      cases h
      obtain ⟨q1, q2, q3⟩ := sc_some h2 e
      refine ⟨by rw [List.length_cons, List.length_cons, q1], ⟨by rw [q1]; exact h1, q2⟩, ?_⟩
      rw [rankC, rankC, q1, q3]
      omega
    | none =>
      rw [e] at h
      have q := sc_none h2 e
      by_cases hc : c < cs.length
      · have h : (if c < (cs.length : Int) then some ((c + 1) :: List.replicate cs.length 0) else none) = some ds := h
        rw [if_pos hc] at h
        cases h
        refine ⟨by rw [List.length_cons, List.length_cons, List.length_replicate], ⟨by rw [List.length_replicate]; omega, ok_zeros _⟩, ?_⟩
        rw [rankC, rankC, List.length_replicate, rank_zeros, q, Int.add_mul]
        omega
      · have h : (if c < (cs.length : Int) then some ((c + 1) :: List.replicate cs.length 0) else none) = some ds := h
        rw [if_neg hc] at h
        cases h
where
  sc_none : ∀ {code : List Int}, CodeOk code → sc code = none → rankC code = fct code.length - 1
  | [], _, _ => rfl
  | c :: cs, ⟨h1, h2⟩, h => by
    unfold sc at h
    cases e : sc cs with
    | some es =>
      rw [e] at h
      cases h
    | none =>
      rw [e] at h
      have h : (if c < (cs.length : Int) then some ((c + 1) :: List.replicate cs.length 0) else none) = none := h
      have q := sc_none h2 e
      by_cases hc : c < cs.length
      · rw [if_pos hc] at h
        cases h
      · have : c = cs.length := by omega
        rw [rankC, q, List.length_cons, fct, this, Int.mul_add, Int.mul_one, Int.mul_comm (fct cs.length)]
        omega
theorem sc_last {code : List Int} (h : CodeOk code) (hr : rankC code = fct code.length - 1) : sc code = none := by
  cases e : sc code with
  | none => rfl
  | some ds =>
    obtain ⟨q1, q2, q3⟩ := sc_some h e
    have := rankC_bd q2
    rw [q1] at this
    omega
theorem sc_more {code : List Int} (h : CodeOk code) (hr : rankC code ≠ fct code.length - 1) : ∃ ds, sc code = some ds := by
  cases e : sc code with
  | some ds => exact ⟨ds, rfl⟩
  | none => exact absurd (sc_some.sc_none h e) hr
/-! ### the next row -/
def mn (ns : List Int) : Int := gt (srt ns) 0
theorem mn_eq {ns : List Int} {m : Int} (h : m ∈ ns) (hm : ∀ y, y ∈ ns → m ≤ y) : m = mn ns := by
  unfold mn
  have hp := srt_perm ns
  have hs := srt_le ns
  cases e : srt ns with
  | nil =>
    rw [e] at hp
    have := hp.mem_iff.mpr h
    cases this
  | cons x l =>
    rw [e] at hp hs
    have h1 := hm x (hp.mem_iff.mp List.mem_cons_self)
    have h2 : x ≤ m := by
      rcases List.mem_cons.mp (hp.mem_iff.mpr h) with z | z
      · omega
      · exact (List.pairwise_cons.mp hs).1 m z
    show m = x
    omega
def nx : List Int → Option (List Int)
  | [] => none
  | x :: l => match nx l with
    | some m => some (x :: m)
    | none => if (l.filter fun y => decide (x < y)) = [] then none
      else some (mn (l.filter fun y => decide (x < y)) :: srt ((x :: l).filter fun y => !decide (y = mn (l.filter fun y => decide (x < y)))))
theorem byCode_zeros (left : List Int) : byCode left (List.replicate left.length 0) = left := by
  induction left with
  | nil => rfl
  | cons x l ih =>
    rw [List.length_cons, List.replicate_succ, byCode]
    show x :: byCode l _ = _
    rw [ih]
theorem strict_nodup {l : List Int} (h : StrictL l) : l.Nodup := h.imp fun h => by omega
theorem nx_byCode : ∀ (code left : List Int), CodeOk code → left.length = code.length → StrictL left → nx (byCode left code) = (sc code).map (byCode left) := by
  intro code
  induction code with
  | nil => intro _ _ _ _; rfl
  | cons c cs ih =>
    rintro left ⟨h1, h2⟩ hl hs
    rw [List.length_cons] at hl
    obtain ⟨k, rfl⟩ : ∃ k : Nat, c = k := ⟨c.toNat, by omega⟩
    have hc : k < left.length := by omega
    have hl2 : (left.eraseIdx k).length = cs.length := by rw [List.length_eraseIdx_of_lt hc]; omega
    have ih := ih _ h2 hl2 (strict_erase hs k)
    have hp := byCode_perm cs _ h2 hl2
    have hp2 : (gt left k :: byCode (left.eraseIdx k) cs).Perm left := (hp.cons _).trans (perm_pop hc)
    rw [byCode, nx, sc, Int.toNat_natCast, ih]
    cases e : sc cs with
    | some ds => rfl
    | none =>
      show (if _ = [] then none else _) = Option.map (byCode left) (if (k : Int) < cs.length then some (((k : Int) + 1) :: List.replicate cs.length 0) else none)
      by_cases hk : (k : Int) < cs.length
      · have hk1 : k + 1 < left.length := by omega
        have hg : gt left k < gt left (k + 1) := strict_gt hs (by omega) hk1
        have hm : gt left (k + 1) ∈ (byCode (left.eraseIdx k) cs).filter fun y => decide (gt left k < y) := by
          rw [List.mem_filter]
          refine ⟨?_, decide_eq_true hg⟩
          rcases List.mem_cons.mp (hp2.mem_iff.mpr (gt_mem hk1)) with z | z
          · omega
          · exact z
        have hmn : gt left (k + 1) = mn ((byCode (left.eraseIdx k) cs).filter fun y => decide (gt left k < y)) := mn_eq hm fun y hy => by
          obtain ⟨y1, y2⟩ := List.mem_filter.mp hy
          have y2 := of_decide_eq_true y2
          have y3 : y ∈ left := hp2.mem_iff.mp (List.mem_cons_of_mem _ y1)
          have y4 := List.idxOf_lt_length_iff.mpr y3
          have y5 := gt_idx y3
          by_cases c1 : left.idxOf y < k + 1
          · by_cases c2 : left.idxOf y < k
            · have := strict_gt hs c2 hc
              omega
            · have : left.idxOf y = k := by omega
              rw [this] at y5
              omega
          · by_cases c2 : left.idxOf y = k + 1
            · rw [c2] at y5
              omega
            · have := strict_gt hs (i := k + 1) (j := left.idxOf y) (by omega) y4
              omega
        rw [if_neg (fun z => by rw [z] at hm; cases hm), if_pos hk, ← hmn]
        show some _ = some (gt left ((k : Int) + 1).toNat :: byCode (left.eraseIdx ((k : Int) + 1).toNat) (List.replicate cs.length 0))
        rw [show ((k : Int) + 1).toNat = k + 1 by omega]
        have hlen : (left.eraseIdx (k + 1)).length = cs.length := by rw [List.length_eraseIdx_of_lt hk1]; omega
        rw [← hlen, byCode_zeros]
        congr 2
        have hq : ((gt left k :: byCode (left.eraseIdx k) cs).filter fun y => !decide (y = gt left (k + 1))).Perm (left.eraseIdx (k + 1)) := by
          have q1 := (hp2.filter fun y => !decide (y = gt left (k + 1))).trans ((perm_pop hk1).symm.filter fun y => !decide (y = gt left (k + 1)))
          refine q1.trans ?_
          rw [List.filter_cons, decide_eq_true rfl, if_neg (by decide), List.filter_eq_self.mpr]
          intro y hy
          have nd := (perm_pop hk1).nodup_iff.mpr (strict_nodup hs)
          have := (List.nodup_cons.mp nd).1
          rw [decide_eq_false (show ¬ y = gt left (k + 1) from fun z => this (z ▸ hy))] <;> rfl
        exact (srt_eq hq.symm ((strict_erase hs _).imp fun h => by omega)).symm
      · rw [if_neg hk, if_pos]
        · rfl
        · rw [List.filter_eq_nil_iff]
          intro y hy
          have y3 : y ∈ left := hp2.mem_iff.mp (List.mem_cons_of_mem _ hy)
          have y4 := List.idxOf_lt_length_iff.mpr y3
          have y5 := gt_idx y3
          rw [decide_eq_true_eq]
          by_cases c2 : left.idxOf y = k
          · rw [c2] at y5
            omega
          · have := strict_gt hs (i := left.idxOf y) (j := k) (by omega) hc
            omega
theorem nx_rowBy {code : List Int} (h : CodeOk code) : nx (rowBy code) = (sc code).map rowBy := by
  unfold rowBy
  rw [nx_byCode code _ h (rngI_len _) (rngI_strict _)]
  cases e : sc code with
  | none => rfl
  | some ds =>
    have := (sc_some h e).1
    show some _ = some (byCode (rngI ds.length) ds)
    rw [this]
/-- the same, found from the end -/
def Desc (l : List Int) : Prop := l.Pairwise (· ≥ ·)
theorem nx_desc : ∀ {l : List Int}, Desc l → nx l = none
  | [], _ => rfl
  | x :: l, h => by
    have h := List.pairwise_cons.mp h
    rw [nx, nx_desc (l := l) h.2]
    show (if _ = [] then none else _) = none
    rw [if_pos]
    rw [List.filter_eq_nil_iff]
    intro y hy
    have := h.1 y hy
    rw [decide_eq_true_eq]
    omega
theorem nx_at {row : List Int} {k : Nat} {m : List Int} (hk : k ≤ row.length) (h : nx (row.drop k) = some m) : nx row = some (row.take k ++ m) := by
  induction row generalizing k with
  | nil =>
    rw [List.drop_nil] at h
    cases h
  | cons x l ih =>
    cases k with
    | zero => exact h
    | succ k =>
      rw [List.drop_succ_cons] at h
      rw [nx, ih (by simp only [List.length_cons] at hk; omega) h]
      rfl
theorem desc_step {row : List Int} {k : Nat} (h : k + 1 < row.length) (hd : Desc (row.drop (k + 1))) (hg : gt row (k + 1) < gt row k) : Desc (row.drop k) := by
  rw [drop_gt (by omega)]
  refine List.pairwise_cons.mpr ⟨fun y hy => ?_, hd⟩
  rw [drop_gt h] at hd hy
  have hd := List.pairwise_cons.mp hd
  rcases List.mem_cons.mp hy with rfl | hy
  · omega
  · have := hd.1 y hy
    omega
def nextAt (row : List Int) (k : Nat) : List Int :=
  let g := mn ((row.drop k).filter fun y => decide (gt row k < y))
  row.take k ++ g :: srt ((row.drop k).filter fun y => !decide (y = g))
theorem next_is {row : List Int} {k : Nat} (h : k + 1 < row.length) (hd : Desc (row.drop (k + 1))) (hg : gt row k < gt row (k + 1)) : nx row = some (nextAt row k) ∧ ((row.drop k).filter fun y => decide (gt row k < y)) ≠ [] := by
  have e : ((row.drop k).filter fun y => decide (gt row k < y)) = (row.drop (k + 1)).filter fun y => decide (gt row k < y) := by
    rw [drop_gt (by omega), List.filter_cons, if_neg (by simp)]
  have hm : gt row (k + 1) ∈ (row.drop (k + 1)).filter fun y => decide (gt row k < y) := by
    rw [List.mem_filter]
    refine ⟨?_, decide_eq_true hg⟩
    rw [drop_gt h]
    exact List.mem_cons_self
  have hne : ((row.drop (k + 1)).filter fun y => decide (gt row k < y)) ≠ [] := fun z => by rw [z] at hm; cases hm
  refine ⟨nx_at (by omega) ?_, by rw [e]; exact hne⟩
  have q : nx (row.drop k) = nx (gt row k :: row.drop (k + 1)) := by rw [drop_gt (by omega)]
  rw [q, nx, nx_desc hd]
  show (if _ = [] then none else _) = _
  rw [if_neg hne, e, drop_gt (l := row) (k := k) (by omega)]
end Sh
namespace Sh
/-! ### turning -/
def lst (ns : List Int) : Int := gt ns (ns.length - 1)
def kd (x : Int) (least : Bool) (v : Int) : Bool := if least = true then decide (v ≤ x) else decide (x < v)
/-- the last one of each piece put ahead, the open piece being cur -/
def rot (P : Int → Bool) : List Int → List Int → List Int
  | cur, [] => cur
  | cur, v :: l => if P v = true then v :: (cur ++ rot P [] l) else rot P (cur ++ [v]) l
/-- back: the open piece being v :: cur -/
def unr (P : Int → Bool) : Int → List Int → List Int → List Int
  | v, cur, [] => cur ++ [v]
  | v, cur, w :: l => if P w = true then cur ++ v :: unr P w [] l else unr P v (cur ++ [w]) l
def turnStep (found : List Int) (x : Int) : List Int := rot (kd x (decide (lst found ≤ x))) [] found ++ [x]
def turnL : List Int → List Int
  | [] => []
  | v :: l => l.foldl turnStep [v]
theorem rot_perm (P : Int → Bool) : ∀ (l cur : List Int), (rot P cur l).Perm (cur ++ l)
  | [], cur => by rw [rot, List.append_nil]
  | v :: l, cur => by
    rw [rot]
    by_cases h : P v = true
    · rw [if_pos h]
      have q := rot_perm P l []
      rw [List.nil_append] at q
      exact ((q.append_left cur).cons v).trans (List.perm_middle.symm)
    · rw [if_neg h]
      have q := rot_perm P l (cur ++ [v])
      rw [List.append_assoc] at q
      exact q
theorem rot_perm0 (P : Int → Bool) (l : List Int) : (rot P [] l).Perm l := rot_perm P l []
theorem rot_len (P : Int → Bool) (l : List Int) : (rot P [] l).length = l.length := (rot_perm0 P l).length_eq
theorem turnStep_perm (found : List Int) (x : Int) : (turnStep found x).Perm (found ++ [x]) := (rot_perm0 _ _).append_right _
theorem foldTurn_perm (l : List Int) : ∀ found : List Int, (l.foldl turnStep found).Perm (found ++ l) := by
  induction l with
  | nil => intro found; rw [List.append_nil]; exact List.Perm.refl _
  | cons x l ih =>
    intro found
    have q := (ih (turnStep found x)).trans ((turnStep_perm found x).append_right l)
    rw [List.append_assoc] at q
    exact q
theorem turnL_perm : ∀ row : List Int, (turnL row).Perm row
  | [] => List.Perm.refl _
  | v :: l => foldTurn_perm l [v]
theorem turnL_len (row : List Int) : (turnL row).length = row.length := (turnL_perm row).length_eq
theorem turnL_snoc (row : List Int) (x : Int) (h : row ≠ []) : turnL (row ++ [x]) = turnStep (turnL row) x := by
  cases row with
  | nil => exact absurd rfl h
  | cons v l =>
    show (l ++ [x]).foldl turnStep [v] = _
    rw [List.foldl_append]
    rfl
theorem turnL_one (x : Int) : turnL [x] = [x] := rfl
theorem lst_snoc (l : List Int) (x : Int) : lst (l ++ [x]) = x := by
  unfold lst
  rw [gt_snoc, List.length_append, List.length_singleton, Nat.add_sub_cancel, if_pos rfl]
theorem snoc_of {l : List Int} (h : l ≠ []) : ∃ m, l = m ++ [lst l] := by
  refine ⟨l.dropLast, ?_⟩
  have e := List.dropLast_concat_getLast h
  have e2 : lst l = l.getLast h := by
    conv => lhs; rw [← e]
    exact lst_snoc _ _
  rw [e2, e]
theorem row_ind {C : List Int → Prop} (h0 : C []) (h1 : ∀ x, C [x]) (hs : ∀ l x, l ≠ [] → C l → C (l ++ [x])) : ∀ l, C l := by
  have : ∀ n, ∀ l : List Int, l.length = n → C l := by
    intro n
    induction n with
    | zero =>
      intro l hl
      rw [List.length_eq_zero_iff.mp hl]
      exact h0
    | succ n ih =>
      intro l hl
      obtain ⟨m, e⟩ := snoc_of (l := l) (fun z => by rw [z] at hl; cases hl)
      rw [e] at hl ⊢
      rw [List.length_append, List.length_singleton] at hl
      by_cases hm : m = []
      · rw [hm]
        exact h1 _
      · exact hs m _ hm (ih m (by omega))
  exact fun l => this _ l rfl
theorem lst_turn : ∀ row : List Int, lst (turnL row) = lst row := by
  refine row_ind rfl (fun x => rfl) fun l x hl _ => ?_
  rw [turnL_snoc l x hl, lst_snoc]
  exact lst_snoc _ _
theorem turn_ne {row : List Int} (h : row ≠ []) : turnL row ≠ [] := fun z => by
  have := turnL_len row
  rw [z] at this
  exact h (List.length_eq_zero_iff.mp this.symm)
theorem kd_last (found : List Int) (x : Int) : kd x (decide (lst found ≤ x)) (lst found) = true := by
  unfold kd
  by_cases h : lst found ≤ x
  · rw [decide_eq_true h, if_pos rfl]
  · rw [decide_eq_false h, if_neg (by decide), decide_eq_true_eq]
    omega
/-! #### pairs behind a turning -/
def cr (a b : List Int) : Nat := sm a fun x => cLt b x
theorem inv_app (a b : List Int) : inv (a ++ b) = inv a + cr a b + inv b := by
  induction a with
  | nil =>
    show inv b = 0 + 0 + inv b
    omega
  | cons x a ih =>
    show cLt (a ++ b) x + inv (a ++ b) = cLt a x + inv a + (cLt b x + cr a b) + inv b
    rw [ih, cLt_append]
    omega
theorem cr_perm {b c : List Int} (h : b.Perm c) (a : List Int) : cr a b = cr a c := sm_congr fun x _ => cLt_perm h x
theorem cr_cons (a : List Int) (v : Int) (b : List Int) : cr a (v :: b) = cr a [v] + cr a b := by
  unfold cr
  rw [← sm_add]
  exact sm_congr fun x _ => cLt_append [v] b x
theorem cr_all {a : List Int} {v : Int} (h : ∀ y, y ∈ a → v < y) : cr a [v] = a.length := by
  induction a with
  | nil => rfl
  | cons x a ih =>
    have e : cLt [v] x = 1 := by
      unfold cLt
      rw [List.filter_cons, decide_eq_true (h x List.mem_cons_self)] <;> rfl
    show cLt [v] x + cr a [v] = a.length + 1
    rw [e, ih fun y hy => h y (List.mem_cons_of_mem _ hy)]
    omega
theorem cr_none {a : List Int} {v : Int} (h : ∀ y, y ∈ a → ¬ v < y) : cr a [v] = 0 := by
  unfold cr
  rw [sm_congr (g := fun _ => 0), sm_zero]
  intro y hy
  unfold cLt
  rw [List.filter_cons, decide_eq_false (h y hy)] <;> rfl
def nonP (P : Int → Bool) (l : List Int) : Nat := (l.filter fun v => !P v).length
theorem nonP_cons (P : Int → Bool) (v : Int) (l : List Int) : nonP P (v :: l) = (if P v = true then 0 else 1) + nonP P l := by
  unfold nonP
  rw [List.filter_cons]
  cases P v <;> simp <;> omega
/-- those of the kind are at most x, the others greater -/
theorem rot_low {P : Int → Bool} {x : Int} (h1 : ∀ v, P v = true → v ≤ x) (h2 : ∀ v, P v = false → x < v) : ∀ (l cur : List Int), (∀ y, y ∈ cur → P y = false) → (l = [] → cur = []) → (l ≠ [] → P (lst l) = true) →
    inv (rot P cur l) + (cur.length + nonP P l) = inv (cur ++ l) := by
  intro l
  induction l with
  | nil =>
    intro cur _ hc _
    rw [hc rfl]
    rfl
  | cons v l ih =>
    intro cur hc _ hl
    have hl := hl (by simp)
    rw [rot, nonP_cons]
    by_cases hv : P v = true
    · rw [if_pos hv, if_pos hv]
      have q := ih [] (fun y hy => by cases hy) (fun _ => rfl) (fun hne => by
        have : lst (v :: l) = lst l := by
          cases l with
          | nil => exact absurd rfl hne
          | cons w l => rfl
        rw [← this]
        exact hl)
      have hp := rot_perm0 P l
      have e1 : cLt cur v = 0 := cLt_none fun y hy => by
        have := h2 y (hc y hy)
        have := h1 v hv
        omega
      have e2 : cr cur [v] = cur.length := cr_all fun y hy => by
        have := h2 y (hc y hy)
        have := h1 v hv
        omega
      show cLt (cur ++ rot P [] l) v + inv (cur ++ rot P [] l) + _ = inv (cur ++ v :: l)
      rw [cLt_append, inv_app, inv_app, cr_perm hp, cLt_perm hp, cr_cons, e1, e2]
      have e3 : inv (v :: l) = cLt l v + inv l := rfl
      rw [e3]
      simp only [List.length_nil, List.nil_append] at q
      omega
    · rw [if_neg hv, if_neg hv]
      have hv : P v = false := by simpa using hv
      have hne : l ≠ [] := fun z => by
        subst z
        have : lst [v] = v := rfl
        rw [this, hv] at hl
        cases hl
      have q := ih (cur ++ [v]) (fun y hy => (List.mem_append.mp hy).elim (hc y) fun z => by rw [List.mem_singleton.mp z]; exact hv) (fun z => absurd z hne) (fun _ => by
        have : lst (v :: l) = lst l := by
          cases l with
          | nil => exact absurd rfl hne
          | cons w l => rfl
        rw [← this]
        exact hl)
      rw [List.length_append, List.length_singleton, List.append_assoc] at q
      show _ = inv (cur ++ ([v] ++ l))
      omega
/-- those of the kind are greater than x, the others at most -/
theorem rot_high {P : Int → Bool} {x : Int} (h1 : ∀ v, P v = true → x < v) (h2 : ∀ v, P v = false → v ≤ x) : ∀ (l cur : List Int), (∀ y, y ∈ cur → P y = false) → (l = [] → cur = []) → (l ≠ [] → P (lst l) = true) →
    inv (rot P cur l) = inv (cur ++ l) + (cur.length + nonP P l) := by
  intro l
  induction l with
  | nil =>
    intro cur _ hc _
    rw [hc rfl]
    rfl
  | cons v l ih =>
    intro cur hc _ hl
    have hl := hl (by simp)
    rw [rot, nonP_cons]
    by_cases hv : P v = true
    · rw [if_pos hv, if_pos hv]
      have q := ih [] (fun y hy => by cases hy) (fun _ => rfl) (fun hne => by
        have : lst (v :: l) = lst l := by
          cases l with
          | nil => exact absurd rfl hne
          | cons w l => rfl
        rw [← this]
        exact hl)
      have hp := rot_perm0 P l
      have e1 : cLt cur v = cur.length := cLt_all fun y hy => by
        have := h2 y (hc y hy)
        have := h1 v hv
        omega
      have e2 : cr cur [v] = 0 := cr_none fun y hy => by
        have := h2 y (hc y hy)
        have := h1 v hv
        omega
      show cLt (cur ++ rot P [] l) v + inv (cur ++ rot P [] l) = inv (cur ++ v :: l) + _
      rw [cLt_append, inv_app, inv_app, cr_perm hp, cLt_perm hp, cr_cons, e1, e2]
      have e3 : inv (v :: l) = cLt l v + inv l := rfl
      rw [e3]
      simp only [List.length_nil, List.nil_append] at q
      omega
    · rw [if_neg hv, if_neg hv]
      have hv : P v = false := by simpa using hv
      have hne : l ≠ [] := fun z => by
        subst z
        have : lst [v] = v := rfl
        rw [this, hv] at hl
        cases hl
      have q := ih (cur ++ [v]) (fun y hy => (List.mem_append.mp hy).elim (hc y) fun z => by rw [List.mem_singleton.mp z]; exact hv) (fun z => absurd z hne) (fun _ => by
        have : lst (v :: l) = lst l := by
          cases l with
          | nil => exact absurd rfl hne
          | cons w l => rfl
        rw [← this]
        exact hl)
      rw [List.length_append, List.length_singleton, List.append_assoc] at q
      show _ = inv (cur ++ ([v] ++ l)) + _
      omega
theorem cnt_split (l : List Int) (x : Int) : (l.filter fun v => !decide (x < v)).length + cGt l x = l.length := by
  induction l with
  | nil => rfl
  | cons v l ih =>
    unfold cGt at *
    rw [List.filter_cons, List.filter_cons, List.length_cons]
    by_cases h : x < v <;> simp [h] <;> omega
theorem inv_turn : ∀ row : List Int, (inv (turnL row) : Int) = (fallsL row).sum := by
  refine row_ind rfl (fun x => rfl) fun l x hl ih => ?_
  rw [turnL_snoc l x hl, turnStep, inv_snoc, cGt_perm (rot_perm0 _ _)]
  have hlen : 0 < l.length := List.length_pos_iff.mpr hl
  have hne := turn_ne hl
  have hlt := lst_turn l
  have hll := turnL_len l
  have hf : fallsL (l ++ [x]) = fallsL l ++ if x < lst l then [(l.length : Int)] else [] := by
    have e0 : (l ++ [x]).length - 1 = (l.length - 1) + 1 := by rw [List.length_append, List.length_singleton]; omega
    have e1 : fallsTo (l ++ [x]) (l.length - 1) = fallsTo l (l.length - 1) := by
      unfold fallsTo
      congr 1
      refine List.filter_congr fun i hi => ?_
      have hi := List.mem_range.mp hi
      rw [gt_snoc, gt_snoc, if_neg (by omega), if_neg (by omega)]
    have g1 : gt (l ++ [x]) (1 + (l.length - 1)) = x := by rw [gt_snoc, if_pos (by omega)]
    have g2 : gt (l ++ [x]) (l.length - 1) = lst l := by
      rw [gt_snoc, if_neg (by omega)]
      rfl
    have e2 : 1 + ((l.length - 1 : Nat) : Int) = l.length := by omega
    unfold fallsL
    rw [e0, fallsTo_succ, e1, g1, g2, e2]
  rw [hf, List.sum_append, ← ih]
  by_cases hc : lst (turnL l) ≤ x
  · have q := rot_low (P := kd x true) (x := x) (fun v hv => by unfold kd at hv; simpa using hv) (fun v hv => by unfold kd at hv; simpa using hv) (turnL l) [] (fun y hy => by cases hy) (fun _ => rfl) (fun _ => by
      have := kd_last (turnL l) x
      rw [decide_eq_true hc] at this
      exact this)
    have e : nonP (kd x true) (turnL l) = cGt (turnL l) x := by
      unfold nonP cGt kd
      congr 1
      refine List.filter_congr fun v _ => ?_
      rw [if_pos rfl, Bool.eq_iff_iff]
      simp
    rw [decide_eq_true hc, if_neg (by omega)]
    rw [e] at q
    simp only [List.length_nil, List.nil_append, List.sum_nil] at *
    omega
  · have q := rot_high (P := kd x false) (x := x) (fun v hv => by unfold kd at hv; simpa using hv) (fun v hv => by unfold kd at hv; simpa using hv) (turnL l) [] (fun y hy => by cases hy) (fun _ => rfl) (fun _ => by
      have := kd_last (turnL l) x
      rw [decide_eq_false hc] at this
      exact this)
    have e : nonP (kd x false) (turnL l) = ((turnL l).filter fun v => !decide (x < v)).length := rfl
    have e2 := cnt_split (turnL l) x
    rw [decide_eq_false hc, if_pos (by omega)]
    rw [e] at q
    simp only [List.length_nil, List.nil_append, List.sum_cons, List.sum_nil] at *
    omega
/-! #### turned back -/
theorem unr_rot (P : Int → Bool) : ∀ (l : List Int) (v : Int) (cur cur2 : List Int), (∀ y, y ∈ cur → P y = false) → (∀ y, y ∈ cur2 → P y = false) → (l = [] → cur2 = []) → (l ≠ [] → P (lst l) = true) →
    unr P v cur (rot P cur2 l) = if l = [] then cur ++ [v] else cur ++ v :: (cur2 ++ l) := by
  intro l
  have pass : ∀ (c m : List Int) (v : Int) (cur : List Int), (∀ y, y ∈ c → P y = false) → unr P v cur (c ++ m) = unr P v (cur ++ c) m := by
    intro c
    induction c with
    | nil => intro m v cur _; rw [List.nil_append, List.append_nil]
    | cons y c ih =>
      intro m v cur h
      show (if P y = true then _ else unr P v (cur ++ [y]) (c ++ m)) = _
      rw [if_neg (by rw [h y List.mem_cons_self]; decide), ih m v (cur ++ [y]) fun z hz => h z (List.mem_cons_of_mem _ hz), List.append_assoc]
      rfl
  induction l with
  | nil =>
    intro v cur cur2 _ _ h _
    rw [h rfl]
    rfl
  | cons w l ih =>
    intro v cur cur2 h1 h2 _ hl
    have hl := hl (by simp)
    have hl2 : l ≠ [] → P (lst l) = true := fun hne => by
      have : lst (w :: l) = lst l := by
        cases l with
        | nil => exact absurd rfl hne
        | cons w l => rfl
      rw [← this]
      exact hl
    rw [if_neg (show ¬ (w :: l = []) by simp), rot]
    by_cases hw : P w = true
    · rw [if_pos hw]
      show (if P w = true then cur ++ v :: unr P w [] (cur2 ++ rot P [] l) else _) = _
      rw [if_pos hw, pass _ _ _ _ h2, List.nil_append]
      have q := ih w cur2 [] h2 (fun y hy => by cases hy) (fun _ => rfl) hl2
      rw [q]
      by_cases hne : l = []
      · rw [if_pos hne, hne]
      · rw [if_neg hne]
        rfl
    · rw [if_neg hw]
      have hw : P w = false := by simpa using hw
      have hne : l ≠ [] := fun z => by
        subst z
        have : lst [w] = w := rfl
        rw [this, hw] at hl
        cases hl
      rw [ih v cur (cur2 ++ [w]) h1 (fun y hy => (List.mem_append.mp hy).elim (h2 y) fun z => by rw [List.mem_singleton.mp z]; exact hw) (fun z => absurd z hne) hl2, if_neg hne, List.append_assoc]
      rfl
/-- turning back of a list whose first one is of the kind -/
def unr0 (P : Int → Bool) : List Int → List Int
  | [] => []
  | v :: l => unr P v [] l
theorem rot_first (P : Int → Bool) : ∀ (l cur : List Int), l ≠ [] → P (lst l) = true → ∃ v m, rot P cur l = v :: m ∧ P v = true
  | [], _, h, _ => absurd rfl h
  | w :: l, cur, _, hl => by
    rw [rot]
    by_cases hw : P w = true
    · exact ⟨w, _, if_pos hw, hw⟩
    · rw [if_neg hw]
      have hne : l ≠ [] := fun z => by
        subst z
        exact hw hl
      refine rot_first P l (cur ++ [w]) hne ?_
      have : lst (w :: l) = lst l := by
        cases l with
        | nil => exact absurd rfl hne
        | cons w l => rfl
      rw [← this]
      exact hl
theorem unr0_rot {P : Int → Bool} {l : List Int} (h : l ≠ [] → P (lst l) = true) : unr0 P (rot P [] l) = l := by
  cases l with
  | nil => rfl
  | cons w l =>
    have h := h (by simp)
    have aux : ∀ (l cur : List Int), l ≠ [] → (∀ y, y ∈ cur → P y = false) → P (lst l) = true → unr0 P (rot P cur l) = cur ++ l := by
      intro l
      induction l with
      | nil => intro _ h; exact absurd rfl h
      | cons w l ih =>
        intro cur _ hc hl
        have hl2 : l ≠ [] → P (lst l) = true := fun hne => by
          have : lst (w :: l) = lst l := by
            cases l with
            | nil => exact absurd rfl hne
            | cons w l => rfl
          rw [← this]
          exact hl
        rw [rot]
        by_cases hw : P w = true
        · rw [if_pos hw]
          show unr P w [] (cur ++ rot P [] l) = _
          have pass : ∀ (c m : List Int) (v : Int) (cur : List Int), (∀ y, y ∈ c → P y = false) → unr P v cur (c ++ m) = unr P v (cur ++ c) m := by
            intro c
            induction c with
            | nil => intro m v cur _; rw [List.nil_append, List.append_nil]
            | cons y c ih =>
              intro m v cur h
              show (if P y = true then _ else unr P v (cur ++ [y]) (c ++ m)) = _
              rw [if_neg (by rw [h y List.mem_cons_self]; decide), ih m v (cur ++ [y]) fun z hz => h z (List.mem_cons_of_mem _ hz), List.append_assoc]
              rfl
          rw [pass _ _ _ _ hc, List.nil_append, unr_rot P l w cur [] hc (fun y hy => by cases hy) (fun _ => rfl) hl2]
          by_cases hne : l = []
          · rw [if_pos hne, hne]
          · rw [if_neg hne]
            rfl
        · rw [if_neg hw]
          have hw : P w = false := by simpa using hw
          have hne : l ≠ [] := fun z => by
            subst z
            have : lst [w] = w := rfl
            rw [this, hw] at hl
            cases hl
          rw [ih (cur ++ [w]) hne (fun y hy => (List.mem_append.mp hy).elim (hc y) fun z => by rw [List.mem_singleton.mp z]; exact hw) (hl2 hne), List.append_assoc]
          rfl
    exact aux (w :: l) [] (by simp) (fun y hy => by cases hy) h
theorem rot_unr (P : Int → Bool) : ∀ (l : List Int) (v : Int) (cur : List Int), P v = true → (∀ y, y ∈ cur → P y = false) → rot P [] (unr P v cur l) = v :: (cur ++ l) := by
  have pass : ∀ (c m cur : List Int), (∀ y, y ∈ c → P y = false) → rot P cur (c ++ m) = rot P (cur ++ c) m := by
    intro c
    induction c with
    | nil => intro m cur _; rw [List.nil_append, List.append_nil]
    | cons y c ih =>
      intro m cur h
      show rot P cur (y :: (c ++ m)) = _
      rw [rot, if_neg (by rw [h y List.mem_cons_self]; decide), ih m (cur ++ [y]) fun z hz => h z (List.mem_cons_of_mem _ hz), List.append_assoc]
      rfl
  intro l
  induction l with
  | nil =>
    intro v cur hv hc
    show rot P [] (cur ++ [v]) = _
    rw [pass cur [v] [] hc, rot, if_pos hv]
    rfl
  | cons w l ih =>
    intro v cur hv hc
    rw [unr]
    by_cases hw : P w = true
    · rw [if_pos hw, pass cur _ [] hc, rot, if_pos hv, ih w [] hw (fun y hy => by cases hy)]
      rfl
    · rw [if_neg hw]
      have hw : P w = false := by simpa using hw
      rw [ih v (cur ++ [w]) hv (fun y hy => (List.mem_append.mp hy).elim (hc y) fun z => by rw [List.mem_singleton.mp z]; exact hw), List.append_assoc]
      rfl
theorem unr_last (P : Int → Bool) : ∀ (l : List Int) (v : Int) (cur : List Int), P v = true → P (lst (unr P v cur l)) = true
  | [], v, cur, hv => by
    show P (lst (cur ++ [v])) = true
    rw [lst_snoc]
    exact hv
  | w :: l, v, cur, hv => by
    rw [unr]
    by_cases hw : P w = true
    · rw [if_pos hw]
      have q := unr_last P l w [] hw
      have hne : unr P w [] l ≠ [] := fun z => by
        have := rot_unr P l w [] hw (fun y hy => by cases hy)
        rw [z] at this
        cases this
      obtain ⟨m, e⟩ := snoc_of hne
      rw [e, show cur ++ v :: (m ++ [lst (unr P w [] l)]) = (cur ++ v :: m) ++ [lst (unr P w [] l)] by simp, lst_snoc]
      exact q
    · rw [if_neg hw]
      exact unr_last P l v (cur ++ [w]) hv
def fst (ns : List Int) : Int := gt ns 0
/-- one step back: the row but its last one x -/
def backStep (m : List Int) (x : Int) : List Int := unr0 (kd x (decide (fst m ≤ x))) m
theorem kd_first (m : List Int) (x : Int) : kd x (decide (fst m ≤ x)) (fst m) = true := by
  unfold kd
  by_cases h : fst m ≤ x
  · rw [decide_eq_true h, if_pos rfl]
  · rw [decide_eq_false h, if_neg (by decide), decide_eq_true_eq]
    omega
theorem kd_eq {x : Int} {c d : Bool} {v : Int} (h1 : kd x c v = true) (h2 : kd x d v = true) : c = d := by
  unfold kd at *
  cases c <;> cases d <;> simp at * <;> omega
theorem back_turn (found : List Int) (x : Int) : backStep (rot (kd x (decide (lst found ≤ x))) [] found) x = found := by
  by_cases hne : found = []
  · rw [hne]
    rfl
  · have hk := kd_last found x
    obtain ⟨v, m, e, hv⟩ := rot_first (kd x (decide (lst found ≤ x))) found [] hne hk
    unfold backStep
    have ef : fst (rot (kd x (decide (lst found ≤ x))) [] found) = v := by rw [e]; rfl
    have e2 : decide (fst (rot (kd x (decide (lst found ≤ x))) [] found) ≤ x) = decide (lst found ≤ x) := by
      refine kd_eq (kd_first _ x) ?_
      rw [ef]
      exact hv
    rw [e2]
    exact unr0_rot fun _ => hk
theorem turn_back {m : List Int} {x : Int} (hne : m ≠ []) : turnStep (backStep m x) x = m ++ [x] := by
  cases m with
  | nil => exact absurd rfl hne
  | cons v l =>
    have hv : kd x (decide (fst (v :: l) ≤ x)) v = true := kd_first (v :: l) x
    have e : backStep (v :: l) x = unr (kd x (decide (fst (v :: l) ≤ x))) v [] l := rfl
    have hl := unr_last _ l v [] hv
    rw [← e] at hl
    have e2 : decide (lst (backStep (v :: l) x) ≤ x) = decide (fst (v :: l) ≤ x) := kd_eq (kd_last _ x) hl
    unfold turnStep
    rw [e2, e, rot_unr _ l v [] hv (fun y hy => by cases hy)]
    rfl
theorem back_len (m : List Int) (x : Int) : (backStep m x).length = m.length := by
  cases m with
  | nil => rfl
  | cons v l =>
    have hv : kd x (decide (fst (v :: l) ≤ x)) v = true := kd_first (v :: l) x
    have e : backStep (v :: l) x = unr (kd x (decide (fst (v :: l) ≤ x))) v [] l := rfl
    have q := rot_unr _ l v [] hv (fun y hy => by cases hy)
    have q2 := rot_len (kd x (decide (fst (v :: l) ≤ x))) (unr (kd x (decide (fst (v :: l) ≤ x))) v [] l)
    rw [q] at q2
    rw [e, ← q2]
    rfl
/-- the whole way back -/
theorem back_exists : ∀ row : List Int, ∃ other, turnL other = row := by
  refine fun row => ?_
  have : ∀ n, ∀ row : List Int, row.length = n → ∃ other, turnL other = row ∧ other.length = n := by
    intro n
    induction n with
    | zero =>
      intro row h
      exact ⟨[], (List.length_eq_zero_iff.mp h).symm, rfl⟩
    | succ n ih =>
      intro row h
      obtain ⟨m, e⟩ := snoc_of (l := row) (fun z => by rw [z] at h; cases h)
      rw [e] at h ⊢
      rw [List.length_append, List.length_singleton] at h
      by_cases hm : m = []
      · rw [hm]
        exact ⟨[lst row], rfl, by rw [hm] at h; exact h⟩
      · obtain ⟨o, ho, hol⟩ := ih (backStep m (lst row)) (by rw [back_len]; omega)
        have hon : o ≠ [] := fun z => by
          subst z
          have := back_len m (lst row)
          rw [← ho] at this
          exact hm (List.length_eq_zero_iff.mp this.symm)
        exact ⟨o ++ [lst row], by rw [turnL_snoc o _ hon, ho, turn_back hm], by rw [List.length_append, List.length_singleton, hol]⟩
  obtain ⟨o, h, _⟩ := this _ row rfl
  exact ⟨o, h⟩
end Sh
namespace Sh
/-! #### the inverse's falls behind a turning -/
theorem rot_filter (P : Int → Bool) (b : Bool) : ∀ (l cur : List Int), (∀ y, y ∈ cur → P y = false) → (rot P cur l).filter (fun v => P v == b) = (cur ++ l).filter (fun v => P v == b)
  | [], cur, _ => by rw [rot, List.append_nil]
  | v :: l, cur, hc => by
    rw [rot]
    by_cases hv : P v = true
    · rw [if_pos hv]
      have q := rot_filter P b l [] (fun y hy => by cases hy)
      rw [List.nil_append] at q
      cases b with
      | true =>
        have e : cur.filter (fun v => P v == true) = [] := by
          rw [List.filter_eq_nil_iff]
          intro y hy
          rw [hc y hy]
          decide
        rw [List.filter_cons, List.filter_append, q, List.filter_append, List.filter_cons, e, hv]
        rfl
      | false =>
        rw [List.filter_cons, List.filter_append, q, List.filter_append, List.filter_cons, hv]
        rfl
    · rw [if_neg hv]
      have hv : P v = false := by simpa using hv
      rw [rot_filter P b l (cur ++ [v]) (fun y hy => (List.mem_append.mp hy).elim (hc y) fun z => by rw [List.mem_singleton.mp z]; exact hv), List.append_assoc]
      rfl
def two (i : Int) (v : Int) : Bool := decide (v = i) || decide (v = i + 1)
theorem rot_two {P : Int → Bool} {l : List Int} {i : Int} (b : Bool) (h : ∀ v, v ∈ l → two i v = true → P v = b) : (rot P [] l).filter (two i) = l.filter (two i) := by
  have q := rot_filter P b l [] (fun y hy => by cases hy)
  rw [List.nil_append] at q
  have e : ∀ m : List Int, (∀ v, v ∈ m → two i v = true → P v = b) → m.filter (two i) = (m.filter fun v => P v == b).filter (two i) := by
    intro m hm
    rw [List.filter_filter]
    refine List.filter_congr fun v hv => ?_
    cases ht : two i v with
    | false => rfl
    | true => rw [hm v hv ht, beq_self_eq_true] <;> rfl
  rw [e _ fun v hv => h v ((rot_perm0 P l).mem_iff.mp hv), q, ← e l h]
theorem turn_two (i : Int) : ∀ row : List Int, row.Nodup → (turnL row).filter (two i) = row.filter (two i) := by
  refine row_ind (fun _ => rfl) (fun x _ => rfl) fun l x hl ih hnd => ?_
  have nd := List.nodup_append.mp hnd
  have ih := ih nd.1
  have hx : x ∉ l := fun h => nd.2.2 x h x (List.mem_singleton.mpr rfl) rfl
  have hp := turnL_perm l
  rw [turnL_snoc l x hl, turnStep, List.filter_append, List.filter_append, ← ih]
  congr 1
  have hxm : ∀ v, v ∈ turnL l → v ≠ x := fun v hv e => hx (hp.mem_iff.mp (e ▸ hv))
  generalize decide (lst (turnL l) ≤ x) = c
  by_cases h1 : x = i
  · refine rot_two (kd x c (i + 1)) fun v hv ht => ?_
    unfold two at ht
    rw [Bool.or_eq_true, decide_eq_true_eq, decide_eq_true_eq] at ht
    rcases ht with e | e
    · exact absurd (e.trans h1.symm) (hxm v hv)
    · rw [e]
  · refine rot_two (kd x c i) fun v hv ht => ?_
    unfold two at ht
    rw [Bool.or_eq_true, decide_eq_true_eq, decide_eq_true_eq] at ht
    rcases ht with e | e
    · rw [e]
    · have h2 := hxm v hv
      rw [e]
      unfold kd
      cases c
      · rw [if_neg (by decide), if_neg (by decide), decide_eq_decide]
        omega
      · rw [if_pos rfl, if_pos rfl, decide_eq_decide]
        omega
theorem idx_ne {x a : Int} {l : List Int} (h : x ≠ a) : (x :: l).idxOf a = l.idxOf a + 1 := by
  have e : (x == a) = false := by simpa using h
  rw [List.idxOf_cons, e]
  rfl
/-- which of two comes first -/
theorem first_of {l : List Int} {a b : Int} (hab : a ≠ b) (ha : a ∈ l) (hb : b ∈ l) : l.idxOf a < l.idxOf b ↔ (l.filter fun v => decide (v = a) || decide (v = b)).head? = some a := by
  induction l with
  | nil => cases ha
  | cons y l ih =>
    rw [List.filter_cons]
    by_cases h1 : y = a
    · subst h1
      rw [decide_eq_true rfl, Bool.true_or, if_pos rfl, List.idxOf_cons_self, idx_ne hab]
      constructor
      · intro _; rfl
      · intro _; omega
    · by_cases h2 : y = b
      · subst h2
        rw [decide_eq_true (rfl : y = y), Bool.or_true, if_pos rfl, List.idxOf_cons_self]
        constructor
        · intro h; omega
        · intro h
          exact absurd (Option.some.inj h) h1
      · rw [decide_eq_false h1, decide_eq_false h2, Bool.or_false, if_neg (by decide), idx_ne h1, idx_ne h2]
        have := ih ((List.mem_cons.mp ha).resolve_left (Ne.symm h1)) ((List.mem_cons.mp hb).resolve_left (Ne.symm h2))
        rw [← this]
        omega
theorem turn_full {row : List Int} (h : IsFull row) : IsFull (turnL row) := h.perm (turnL_perm row)
theorem turn_row {row : List Int} (h : IsRow row) : IsRow (turnL row) := ⟨by rw [turnL_len]; exact h.1, fun v hv => h.2 v ((turnL_perm row).mem_iff.mp hv)⟩
theorem turn_inv_falls {row : List Int} (h : IsFull row) : fallsL (invL (turnL row)) = fallsL (invL row) := by
  have hf := turn_full h
  have hl := turnL_len row
  unfold fallsL fallsTo
  rw [invL_len, invL_len, hl]
  congr 1
  refine List.filter_congr fun i hi => ?_
  have hi := List.mem_range.mp hi
  rw [invL_gt _ (by omega), invL_gt _ (by omega), invL_gt _ (by omega), invL_gt _ (by omega), decide_eq_decide]
  have c : ∀ r : List Int, IsFull r → r.length = row.length → (((r.idxOf ((1 + i : Nat) : Int) : Nat) : Int) < (r.idxOf ((i : Nat) : Int) : Nat) ↔ (r.filter (two (i : Int))).head? = some ((i : Int) + 1)) := by
    intro r hr hrl
    have := first_of (l := r) (a := (i : Int) + 1) (b := (i : Int)) (by omega) (hr.mem.mpr ⟨by omega, by omega⟩) (hr.mem.mpr ⟨by omega, by omega⟩)
    rw [show ((1 + i : Nat) : Int) = (i : Int) + 1 by omega, Int.ofNat_lt, this]
    have e : (fun v => decide (v = (i : Int) + 1) || decide (v = (i : Int))) = two (i : Int) := by
      funext v
      unfold two
      rw [Bool.or_comm]
    rw [e]
  rw [c _ hf hl, c _ h rfl, turn_two (i : Int) row h.nodup]
end Sh
namespace Sh
def cutE (P : Int → Bool) : List Int → List Int → List (List Int)
  | _, [] => []
  | cur, v :: l => if P v = true then (cur ++ [v]) :: cutE P [] l else cutE P (cur ++ [v]) l
def rotl (d : List Int) : List Int := d.drop (d.length - 1) ++ d.take (d.length - 1)
theorem rotl_snoc (c : List Int) (v : Int) : rotl (c ++ [v]) = v :: c := by
  unfold rotl
  rw [List.length_append, List.length_singleton, Nat.add_sub_cancel, List.drop_left, List.take_left]
  rfl
theorem cutE_rot (P : Int → Bool) : ∀ (l cur : List Int), (l = [] → cur = []) → (l ≠ [] → P (lst l) = true) → (cutE P cur l).flatMap rotl = rot P cur l
  | [], cur, h, _ => by rw [h rfl]; rfl
  | v :: l, cur, _, hl => by
    have hl := hl (by simp)
    have hl2 : l ≠ [] → P (lst l) = true := fun hne => by
      have : lst (v :: l) = lst l := by
        cases l with
        | nil => exact absurd rfl hne
        | cons w l => rfl
      rw [← this]
      exact hl
    rw [cutE, rot]
    by_cases hv : P v = true
    · rw [if_pos hv, if_pos hv, List.flatMap_cons, rotl_snoc, cutE_rot P l [] (fun _ => rfl) hl2]
      rfl
    · rw [if_neg hv, if_neg hv]
      refine cutE_rot P l (cur ++ [v]) (fun z => ?_) hl2
      subst z
      exact absurd hl hv
/-- cut ahead of those of the kind, the open piece being v :: cur -/
def cutB (P : Int → Bool) : Int → List Int → List Int → List (List Int)
  | v, cur, [] => [v :: cur]
  | v, cur, w :: l => if P w = true then (v :: cur) :: cutB P w [] l else cutB P v (cur ++ [w]) l
def rotr (d : List Int) : List Int := d.drop 1 ++ d.take 1
theorem cutB_unr (P : Int → Bool) : ∀ (l : List Int) (v : Int) (cur : List Int), (cutB P v cur l).flatMap rotr = unr P v cur l
  | [], v, cur => by
    show rotr (v :: cur) ++ [] = _
    rw [List.append_nil]
    rfl
  | w :: l, v, cur => by
    rw [cutB, unr]
    by_cases hw : P w = true
    · rw [if_pos hw, if_pos hw, List.flatMap_cons, cutB_unr P l w []]
      show (cur ++ [v]) ++ _ = _
      rw [List.append_assoc]
      rfl
    · rw [if_neg hw, if_neg hw]
      exact cutB_unr P l v (cur ++ [w])
theorem turnL_eq (row : List Int) : turnL row = (row.drop 1).foldl turnStep (row.take 1) := by
  cases row <;> rfl
theorem foldTurn_len (l found : List Int) : (l.foldl turnStep found).length = found.length + l.length := by rw [(foldTurn_perm l found).length_eq, List.length_append]
end Sh
namespace Sh
theorem kd_beq (x : Int) (c : Bool) (v : Int) : (decide (v ≤ x) == c) = kd x c v := by
  unfold kd
  cases c
  · rw [if_neg (by decide)]
    by_cases h : v ≤ x
    · rw [decide_eq_true h, decide_eq_false (by omega)] <;> rfl
    · rw [decide_eq_false h, decide_eq_true (by omega)] <;> rfl
  · rw [if_pos rfl]
    cases decide (v ≤ x) <;> rfl
theorem take_gt {l : List Int} {k : Nat} (h : k < l.length) : l.take (k + 1) = l.take k ++ [gt l k] := by
  rw [List.take_add_one, some_gt h] <;> rfl
end Sh
namespace Sh
open PySem PySem.Spec PyProof.Rows L2 Evl
/-! ### short ways: "sq" a list that stands, "e" what an expression is worth, "t" a test -/
local macro_rules | `(tactic| walk_at "sq") => `(tactic| first
  | assumption
  | exact Own.arg (by assumption) (by assumption)
  | exact Own.seq (by assumption) 0 rfl
  | exact Own.seq (by assumption) 1 rfl
  | exact Own.seq (by assumption) 2 rfl
  | exact Own.seq (by assumption) 3 rfl
  | exact ex_l (by assumption) (by assumption)
  | exact ex_l (by assumption) (Own.arg (by assumption) (by assumption))
  | exact ex_l (by assumption) (Own.seq (by assumption) 0 rfl)
  | exact ex_l (by assumption) (Own.seq (by assumption) 1 rfl)
  | exact ex_l (by assumption) (Own.seq (by assumption) 2 rfl)
  | exact ex_l (by assumption) (Own.seq (by assumption) 3 rfl))
local macro_rules | `(tactic| walk_at "s") => `(tactic| first | assumption | omega | (constructor <;> omega) | decide | exact ⟨by decide, by decide⟩ | exact .inl ⟨by omega, by omega⟩ | exact .inr ⟨by omega, by omega⟩)
local macro_rules | `(tactic| walk_at "e") => `(tactic| first
  | with_reducible exact ev_c
  | ((with_reducible refine' ev_var ?h); (case h => rfl))
  | ((with_reducible refine' ev_op ?h ?h2 rv_I0); (case h => walk_at "e"); (case h2 => walk_at "e"))
  | ((with_reducible refine' ev_op ?h ?h2 (rv_I ?h3)); (case h => walk_at "e"); (case h2 => walk_at "e"); (case h3 => walk_at "s"))
  | ((with_reducible refine' ev_op ?h ?h2 rv_eqI); (case h => walk_at "e"); (case h2 => walk_at "e"))
  | ((with_reducible refine' ev_op ?h ?h2 rv_neI); (case h => walk_at "e"); (case h2 => walk_at "e"))
  | ((with_reducible refine' ev_op ?h ?h2 (rv_eqL ?h3 ?h4)); (case h => walk_at "e"); (case h2 => walk_at "e"); (case h3 => walk_at "sq"); (case h4 => walk_at "sq"))
  | ((with_reducible refine' ev_op ?h ?h2 (rv_neL ?h3 ?h4)); (case h => walk_at "e"); (case h2 => walk_at "e"); (case h3 => walk_at "sq"); (case h4 => walk_at "sq"))
  | ((with_reducible refine' ev_un ?h ru_neg); (case h => walk_at "e"))
  | ((with_reducible refine' ev_ix ?h ?h2 ?h3 ?h4); (case h => walk_at "e"); (case h2 => walk_at "sq"); (case h3 => walk_at "e"); (case h4 => walk_at "s"))
  | ((with_reducible refine' ev_ixz ?h ?h2 ?h3 ?h4); (case h => walk_at "e"); (case h2 => walk_at "sq"); (case h3 => walk_at "e"); (case h4 => walk_at "s"))
  | ((with_reducible refine' ev_lenI ?h ?h2); (case h => walk_at "e"); (case h2 => walk_at "sq"))
  | ((with_reducible refine' ev_sum ?h ?h2); (case h => walk_at "e"); (case h2 => walk_at "sq"))
  | ((with_reducible refine' ev_chain ?h ?h2 rv_I0 ?h3 rv_I0); (case h => walk_at "e"); (case h2 => walk_at "e"); (case h3 => walk_at "e"))
  | ((with_reducible refine' ev_andV ?h ?h2); (case h => walk_at "e"); (case h2 => intro _; (walk_at "e")))
  | ((with_reducible refine' ev_orV ?h ?h2); (case h => walk_at "e"); (case h2 => intro _; (walk_at "e")))
  | ((with_reducible refine' ev_notV ?h); (case h => walk_at "e"))
  | walk_at "c")
local macro_rules | `(tactic| walk_at "t") => `(tactic| first
  | ((with_reducible refine' et_test ?h); (case h => walk_at "e"))
  | ((with_reducible refine' et_B ?h); (case h => walk_at "e"))
  | ((with_reducible refine' et_not ?h); (case h => walk_at "t"))
  | ((with_reducible refine' et_and ?h ?h2); (case h => walk_at "t"); (case h2 => intro _; (walk_at "t")))
  | ((with_reducible refine' et_or ?h ?h2); (case h => walk_at "t"); (case h2 => intro _; (walk_at "t")))
  | with_reducible exact et_yes)
local macro_rules | `(tactic| walk_at "a") => `(tactic| first
  | with_reducible exact ea_nil
  | ((with_reducible refine' ea_cons ?h ?h2); (case h => walk_at "e"); (case h2 => walk_at "a")))
local macro_rules | `(tactic| walk_at "if") => `(tactic| first
  | ((with_reducible refine' qWH (by assumption) ?h ?_ ?_); (case h => walk_at "t"))
  | ((with_reducible refine' WH (by assumption) ?h ?_ ?_); (case h => walk_at "t"))
  | ((with_reducible refine' qIF (by assumption) ?h ?_ ?_); (case h => walk_at "t"))
  | ((with_reducible refine' IF (by assumption) ?h ?_ ?_); (case h => walk_at "t")))
local macro_rules | `(tactic| walk_at "set") => `(tactic| first
  | ((with_reducible refine' qAS (by assumption) ?h ?_); (case h => walk_at "e"))
  | ((with_reducible refine' AS (by assumption) ?h ?_); (case h => walk_at "e")))
local macro_rules | `(tactic| walk_at "ret") => `(tactic| ((with_reducible refine' RT (by assumption) ?h ?_); (case h => walk_at "e")))
/-! ### the text -/
def topS (i : Nat) : Stmt := PySem.Challenge.pw_shelfway_k06_no_row.main.body.getD i (.Pass ⟨0, 0, 0, 0⟩)
abbrev s_law_cell_at : Stmt := topS 35
theorem sc_law_cell_at : FnScope ["script", "k"] ["script", "k"] (defScope s_law_cell_at) := ⟨rfl, rfl, rfl, by decide +kernel, rfl, by decide +kernel, by decide +kernel⟩
abbrev s_law_next : Stmt := topS 36
theorem sc_law_next : FnScope ["seed"] ["seed"] (defScope s_law_next) := ⟨rfl, rfl, rfl, by decide +kernel, rfl, by decide +kernel, by decide +kernel⟩
abbrev s_law_row : Stmt := topS 37
theorem sc_law_row : FnScope ["script", "most", "many", "kinds", "row", "k"] ["script", "most"] (defScope s_law_row) := ⟨rfl, rfl, rfl, by decide +kernel, rfl, by decide +kernel, by decide +kernel⟩
abbrev s_law_bad_row : Stmt := topS 39
theorem sc_law_bad_row : FnScope ["row", "cell", "far", "at", "k"] ["row", "cell"] (defScope s_law_bad_row) := ⟨rfl, rfl, rfl, by decide +kernel, rfl, by decide +kernel, by decide +kernel⟩
abbrev s_asked_row : Stmt := topS 12
theorem sc_asked_row : FnScope ["row", "volume"] ["row"] (defScope s_asked_row) := ⟨rfl, rfl, rfl, by decide +kernel, rfl, by decide +kernel, by decide +kernel⟩
abbrev s_less_behind : Stmt := topS 13
theorem sc_less_behind : FnScope ["row", "found", "k", "volume"] ["row"] (defScope s_less_behind) := ⟨rfl, rfl, rfl, by decide +kernel, rfl, by decide +kernel, by decide +kernel⟩
abbrev s_pairs_out : Stmt := topS 14
theorem sc_pairs_out : FnScope ["row"] ["row"] (defScope s_pairs_out) := ⟨rfl, rfl, rfl, by decide +kernel, rfl, by decide +kernel, by decide +kernel⟩
abbrev s_falls : Stmt := topS 15
theorem sc_falls : FnScope ["row", "k"] ["row"] (defScope s_falls) := ⟨rfl, rfl, rfl, by decide +kernel, rfl, by decide +kernel, by decide +kernel⟩
abbrev s_fall_sum : Stmt := topS 16
theorem sc_fall_sum : FnScope ["row"] ["row"] (defScope s_fall_sum) := ⟨rfl, rfl, rfl, by decide +kernel, rfl, by decide +kernel, by decide +kernel⟩
abbrev s_standing : Stmt := topS 17
theorem sc_standing : FnScope ["row", "found", "k", "less", "alike", "volume"] ["row"] (defScope s_standing) := ⟨rfl, rfl, rfl, by decide +kernel, rfl, by decide +kernel, by decide +kernel⟩
abbrev s_steps : Stmt := topS 25
theorem sc_steps : FnScope ["row", "left", "found", "end", "place", "volume"] ["row"] (defScope s_steps) := ⟨rfl, rfl, rfl, by decide +kernel, rfl, by decide +kernel, by decide +kernel⟩
abbrev s_swapped : Stmt := topS 24
theorem sc_swapped : FnScope ["row", "places", "found", "place", "volume"] ["row", "places"] (defScope s_swapped) := ⟨rfl, rfl, rfl, by decide +kernel, rfl, by decide +kernel, by decide +kernel⟩
abbrev s_code_of : Stmt := topS 21
theorem sc_code_of : FnScope ["row"] ["row"] (defScope s_code_of) := ⟨rfl, rfl, rfl, by decide +kernel, rfl, by decide +kernel, by decide +kernel⟩
abbrev s_law_first : Stmt := topS 40
theorem sc_law_first : FnScope ["turn", "row"] ["turn", "row"] (defScope s_law_first) := ⟨rfl, rfl, rfl, by decide +kernel, rfl, by decide +kernel, by decide +kernel⟩
abbrev s_stands : Stmt := topS 29
theorem sc_stands : FnScope ["volume", "last", "least"] ["volume", "last", "least"] (defScope s_stands) := ⟨rfl, rfl, rfl, by decide +kernel, rfl, by decide +kernel, by decide +kernel⟩
abbrev s_pieces_ended : Stmt := topS 30
theorem sc_pieces_ended : FnScope ["row", "last", "least", "found", "volume"] ["row", "last"] (defScope s_pieces_ended) := ⟨rfl, rfl, rfl, by decide +kernel, rfl, by decide +kernel, by decide +kernel⟩
abbrev s_turned : Stmt := topS 32
theorem sc_turned : FnScope ["row", "found", "volume", "fresh", "piece"] ["row"] (defScope s_turned) := ⟨rfl, rfl, rfl, by decide +kernel, rfl, by decide +kernel, by decide +kernel⟩
abbrev s_pieces_begun : Stmt := topS 31
theorem sc_pieces_begun : FnScope ["row", "last", "least", "found", "volume"] ["row", "last"] (defScope s_pieces_begun) := ⟨rfl, rfl, rfl, by decide +kernel, rfl, by decide +kernel, by decide +kernel⟩
abbrev s_turned_back : Stmt := topS 33
theorem sc_turned_back : FnScope ["row", "left", "found", "last", "fresh", "piece"] ["row"] (defScope s_turned_back) := ⟨rfl, rfl, rfl, by decide +kernel, rfl, by decide +kernel, by decide +kernel⟩
abbrev s_shown : Stmt := topS 27
theorem sc_shown : FnScope ["row", "volume"] ["row"] (defScope s_shown) := ⟨rfl, rfl, rfl, by decide +kernel, rfl, by decide +kernel, by decide +kernel⟩
abbrev s_asked_full : Stmt := topS 19
theorem sc_asked_full : FnScope ["row"] ["row"] (defScope s_asked_full) := ⟨rfl, rfl, rfl, by decide +kernel, rfl, by decide +kernel, by decide +kernel⟩
abbrev s_inverse : Stmt := topS 20
theorem sc_inverse : FnScope ["row", "number"] ["row"] (defScope s_inverse) := ⟨rfl, rfl, rfl, by decide +kernel, rfl, by decide +kernel, by decide +kernel⟩
abbrev s_rank_of : Stmt := topS 22
theorem sc_rank_of : FnScope ["row", "rank", "code", "k"] ["row"] (defScope s_rank_of) := ⟨rfl, rfl, rfl, by decide +kernel, rfl, by decide +kernel, by decide +kernel⟩
abbrev s_law_second : Stmt := topS 41
theorem sc_law_second : FnScope ["turn", "row"] ["turn", "row"] (defScope s_law_second) := ⟨rfl, rfl, rfl, by decide +kernel, rfl, by decide +kernel, by decide +kernel⟩
abbrev s_law_kind : Stmt := topS 38
theorem sc_law_kind : FnScope ["e", "kinds"] ["e"] (defScope s_law_kind) := ⟨rfl, rfl, rfl, by decide +kernel, rfl, by decide +kernel, by decide +kernel⟩
abbrev s_law_tried : Stmt := topS 42
theorem sc_law_tried : FnScope ["turn", "row", "e"] ["turn", "row"] (defScope s_law_tried) := ⟨rfl, rfl, rfl, by decide +kernel, rfl, by decide +kernel, by decide +kernel⟩
abbrev s_law : Stmt := topS 43
theorem sc_law : FnScope ["script", "row", "bad", "turn"] ["script"] (defScope s_law) := ⟨rfl, rfl, rfl, by decide +kernel, rfl, by decide +kernel, by decide +kernel⟩
structure Bi (K : PySem.W.Frag) (mg : Str → Option Value) (C : Nat → Addr) : Prop where
  b_ValueError : mg "ValueError" = none
  b_isinstance : mg "isinstance" = none
  b_len : mg "len" = none
  b_list : mg "list" = none
  b_min : mg "min" = none
  b_range : mg "range" = none
  b_reversed : mg "reversed" = none
  b_sorted : mg "sorted" = none
  b_str : mg "str" = none
  b_sum : mg "sum" = none
  c_GREATEST : ∃ t, mg "GREATEST" = some (.int 99 t)
  c_MOST : ∃ t, mg "MOST" = some (.int 12 t)
  g_ShelfError : mg "ShelfError" = some (.ref (C 0))
  g_NoRow : mg "NoRow" = some (.ref (C 1))
  g_NoPlace : mg "NoPlace" = some (.ref (C 2))
  g_NotFull : mg "NotFull" = some (.ref (C 3))
  g_NoCode : mg "NoCode" = some (.ref (C 4))
  g_NoRank : mg "NoRank" = some (.ref (C 5))
  g_NoAmount : mg "NoAmount" = some (.ref (C 6))
  g_NoNote : mg "NoNote" = some (.ref (C 7))
  c_NoRow : ClsE K mg "NoRow" (C 1) (C 0)
  k_NoRow_NoRow : PySem.W.kitOne K (.ref (C 1)) (.ref (C 1)) = some true
  k_NoRow_NoPlace : PySem.W.kitOne K (.ref (C 1)) (.ref (C 2)) = some false
  k_NoRow_NotFull : PySem.W.kitOne K (.ref (C 1)) (.ref (C 3)) = some false
  k_NoRow_NoCode : PySem.W.kitOne K (.ref (C 1)) (.ref (C 4)) = some false
  k_NoRow_NoRank : PySem.W.kitOne K (.ref (C 1)) (.ref (C 5)) = some false
  k_NoRow_NoAmount : PySem.W.kitOne K (.ref (C 1)) (.ref (C 6)) = some false
  k_NoRow_NoNote : PySem.W.kitOne K (.ref (C 1)) (.ref (C 7)) = some false
theorem kf_NoRow {K : PySem.W.Frag} {mg : Str → Option Value} {C : Nat → Addr} (T : Bi K mg C) : KF K C 1 := ⟨by decide, by decide, T.c_NoRow.c, T.c_NoRow.v, fun j h1 h2 => by
  obtain rfl | rfl | rfl | rfl | rfl | rfl | rfl : j = 1 ∨ j = 2 ∨ j = 3 ∨ j = 4 ∨ j = 5 ∨ j = 6 ∨ j = 7 := by omega
  · exact T.k_NoRow_NoRow
  · exact T.k_NoRow_NoPlace
  · exact T.k_NoRow_NotFull
  · exact T.k_NoRow_NoCode
  · exact T.k_NoRow_NoRank
  · exact T.k_NoRow_NoAmount
  · exact T.k_NoRow_NoNote⟩
section
variable {P : Program} {w : World} {K : PySem.W.Frag} {mg : Str → Option Value} {base : Heap} {C : Nat → Addr}
/-! #### _law_cell_at -/
def sp_law_cell_at (K : PySem.W.Frag) : Sp := fun vs H Q _ => ∃ (a : Addr) (ns : List Int) (z : Int), vs = [.ref a, .int z] ∧ SqL K H a (il ns) ∧ 0 ≤ z ∧ RetV (.int (gt ns z.toNat)) H Q
theorem ec_law_cell_at {σ : L2.St} {H : Hp} {ta tb : TE} {a : Addr} {ns : List Int} {z : Int} {E : XK} (h1 : Ev ta σ H (.ref a)) (hx : SqL K H a (il ns)) (h2 : Ev tb σ H (.int z)) (hz : 0 ≤ z) :
    Ev (tCall (sp_law_cell_at K) [] E (tCons ta (tCons tb tNil))) σ H (.int (gt ns z.toNat)) :=
  ev_call (ea_cons h1 (ea_cons h2 ea_nil)) fun H1 e Q q _ => ⟨a, ns, z, rfl, ex_l e hx, hz, q⟩
theorem ok_law_cell_at (T : Bi K mg C) (df : Def K mg "_law_cell_at" s_law_cell_at) : Has P w K mg base CX0 "_law_cell_at" 1 ["script", "k"] (sp_law_cell_at K) := by
  obtain ⟨f, fd, F, g⟩ := df
  refine ⟨f, fd, F.ok sc_law_cell_at (fun vs H Q E h => ?_) (fun cdv A outer s H vs Q E hr h => ?_), g, F.kp, F.binds fun _ _ _ _ _ _ us hl => match us, hl with | [_, _], _ => rfl⟩
  · obtain ⟨a, ns, z, rfl, hS, hz, k⟩ := h; rfl
  · obtain ⟨a, ns, z, rfl, hS, hz, k⟩ := h
    refine ⟨_, (pss_cons (ps_if (pt_cmpR op_lt (pv 1) (pe_callB (r := rLenS K) call_lenS (by rfl) T.b_len PySem.boot_len (pa_cons (pv 0) pa_nil)) (nomark _)) (pss_one (ps_ret (pe_ix (r := rIxL K) ix_list (pv 0) (pv 1) (fun _ _ => rfl)))) pss_nil)
        (pss_one (ps_ret pe_int))), ?_⟩
    have O : Own H [] H := .start
    walk_at "if"
    · intro hb H1 O
      refine RT O (ev_ixz (ev_var rfl) (O.arg hS) (ev_var rfl) ⟨hz, of_decide_eq_true hb⟩) fun H2 O => O.ret k
    · intro hb H1 O
      refine RT O ev_c fun H2 O => ?_
      have e : gt ns z.toNat = 0 := by
        have := of_decide_eq_false hb
        unfold gt
        rw [List.getD_eq_getElem?_getD, List.getElem?_eq_none (by omega)] <;> rfl
      rw [e] at k
      exact O.ret k
/-! #### _law_next -/
def sp_law_next (_ : PySem.W.Frag) : Sp := fun vs H Q _ => ∃ n : Int, vs = [.int n] ∧ RetV (.int (nxt n)) H Q
theorem ec_law_next {σ : L2.St} {H : Hp} {ta : TE} {n : Int} {E : XK} (h1 : Ev ta σ H (.int n)) : Ev (tCall (sp_law_next K) [] E (tCons ta tNil)) σ H (.int (nxt n)) :=
  ev_call (ea_cons h1 ea_nil) fun H1 e Q q _ => ⟨n, rfl, q⟩
theorem ok_law_next (T : Bi K mg C) (df : Def K mg "_law_next" s_law_next) : Has P w K mg base CX0 "_law_next" 1 ["seed"] (sp_law_next K) := by
  obtain ⟨f, fd, F, g⟩ := df
  refine ⟨f, fd, F.ok sc_law_next (fun vs H Q E h => ?_) (fun cdv A outer s H vs Q E hr h => ?_), g, F.kp, F.binds fun _ _ _ _ _ _ us hl => match us, hl with | [_], _ => rfl⟩
  · obtain ⟨n, rfl, k⟩ := h; rfl
  · obtain ⟨n, rfl, k⟩ := h
    refine ⟨_, (pss_cons (ps_set (i := 0) sc_law_next.nd rfl (Or.inl rfl) (pe_op op_mod (pe_op op_add (pv 0) pe_int) pe_int))
        (pss_one (ps_ret (pe_op op_mod (pe_op op_add (pe_op op_add (pe_op op_mul (pv 0) (pv 0)) (pe_op op_mul pe_int (pv 0))) pe_int) pe_int)))), ?_⟩
    have O : Own H [] H := .start
    have b1 : 0 ≤ (n + 7919) % 2147483647 := Int.emod_nonneg _ (by decide)
    have b2 : (n + 7919) % 2147483647 < 2147483647 := Int.emod_lt_of_pos _ (by decide)
    walk_at "set"
    intro H1 O
    refine RT O (ev_op (ev_op (ev_op (ev_op (ev_var rfl) (ev_var rfl) (rv_I (.inl ⟨by omega, by omega⟩))) (ev_op ev_c (ev_var rfl) (rv_I (.inl ⟨by omega, by omega⟩))) rv_I0) ev_c rv_I0) ev_c (rv_I (by decide))) fun H2 O => O.ret k
/-! #### _law_row -/
def sp_law_row (K : PySem.W.Frag) : Sp := fun vs H Q _ => ∃ (a : Addr) (ns : List Int), vs = [.ref a, .int 12] ∧ SqL K H a (il ns) ∧ ∀ row, IsRow row → RetL (il row) H Q
theorem ok_law_row (T : Bi K mg C) (h_law_cell_at : Has P w K mg base CX0 "_law_cell_at" 1 ["script", "k"] (sp_law_cell_at K)) (h_law_next : Has P w K mg base CX0 "_law_next" 1 ["seed"] (sp_law_next K)) (df : Def K mg "_law_row" s_law_row) : Has P w K mg base CX0 "_law_row" 2 ["script", "most"] (sp_law_row K) := by
  obtain ⟨f, fd, F, g⟩ := df
  obtain ⟨f_law_cell_at, fd_law_cell_at, G_law_cell_at, g_law_cell_at, kp_law_cell_at, bd_law_cell_at⟩ := h_law_cell_at
  obtain ⟨f_law_next, fd_law_next, G_law_next, g_law_next, kp_law_next, bd_law_next⟩ := h_law_next
  refine ⟨f, fd, F.ok sc_law_row (fun vs H Q E h => ?_) (fun cdv A outer s H vs Q E hr h => ?_), g, F.kp, F.binds fun _ _ _ _ _ _ us hl => match us, hl with | [_, _], _ => rfl⟩
  · obtain ⟨a, ns, rfl, hS, k⟩ := h; rfl
  · obtain ⟨a, ns, rfl, hS, k⟩ := h
    have hr_law_cell_at : Room 1 _ := hr.mono (by decide)
    have hr_law_next : Room 1 _ := hr.mono (by decide)
    refine ⟨_, (pss_cons (ps_set (i := 2) sc_law_row.nd rfl (Or.inl rfl) (pe_op op_mod (pe_call G_law_cell_at hr_law_cell_at (by rfl) g_law_cell_at kp_law_cell_at bd_law_cell_at .nil pass0 (pa_cons (pv 0) (pa_cons pe_int pa_nil))) (pe_op op_add (pv 1) pe_int)))
        (pss_cons (ps_set (i := 3) sc_law_row.nd rfl (Or.inl rfl) (pe_ix (r := rIxL K) ix_list (pe_lst (pa_cons pe_int (pa_cons pe_int (pa_cons pe_int (pa_cons pe_int pa_nil))))) (pe_op op_mod (pe_call G_law_cell_at hr_law_cell_at (by rfl) g_law_cell_at kp_law_cell_at bd_law_cell_at .nil pass0 (pa_cons (pv 0) (pa_cons pe_int pa_nil))) pe_int) (fun _ _ => rfl)))
        (pss_cons (ps_set (i := 4) sc_law_row.nd rfl (Or.inl rfl) (pe_lst pa_nil))
        (pss_cons (ps_for PassesOwn.never rfl (pi_range1 rfl T.b_range (pa_cons (pv 2) pa_nil)) (pg_name (i := 5) sc_law_row.nd rfl (Or.inl rfl))
         (pss_one (ps_expr (show PE _ _ (tBM K "list" rAppend _ (tCons _ tNil)) from pe_bm PySem.F.plainAttrs_list PySem.F.slot_list_append PySem.F.type_list_append mt_append (pv 4) (pa_cons (pe_op op_mod (pe_op op_fdiv (pe_call G_law_next hr_law_next (by rfl) g_law_next kp_law_next bd_law_next .nil pass0 (pa_cons (pe_op op_add (pe_call G_law_cell_at hr_law_cell_at (by rfl) g_law_cell_at kp_law_cell_at bd_law_cell_at .nil pass0 (pa_cons (pv 0) (pa_cons (pe_op op_add pe_int (pe_op op_mod (pv 5) pe_int)) pa_nil))) (pe_op op_mul pe_int (pv 5))) pa_nil)) pe_int) (pv 3)) pa_nil)))))
        (pss_cut (ps_if (pt_cmpR op_eq (pe_op op_mod (pe_call G_law_cell_at hr_law_cell_at (by rfl) g_law_cell_at kp_law_cell_at bd_law_cell_at .nil pass0 (pa_cons (pv 0) (pa_cons pe_int pa_nil))) pe_int) pe_int (nomark _)) (pss_one (ps_set (i := 4) sc_law_row.nd rfl (Or.inl rfl) (pe_callB (r := rSorted K) cr_sorted (by rfl) T.b_sorted (by decide +kernel) (pa_cons (pv 4) pa_nil)))) pss_nil)
        (pss_cut (ps_if (pt_cmpR op_eq (pe_op op_mod (pe_call G_law_cell_at hr_law_cell_at (by rfl) g_law_cell_at kp_law_cell_at bd_law_cell_at .nil pass0 (pa_cons (pv 0) (pa_cons pe_int pa_nil))) pe_int) pe_int (nomark _)) (pss_one (ps_set (i := 4) sc_law_row.nd rfl (Or.inl rfl) (pe_listRev (by rfl) (by rfl) T.b_list (by rfl) T.b_reversed (pe_callB (r := rSorted K) cr_sorted (by rfl) T.b_sorted (by decide +kernel) (pa_cons (pv 4) pa_nil))))) pss_nil)
        (pss_one (ps_ret (pv 4))))))))), ?_⟩
    have O : Own H [] H := .start
    refine sq (AS O (ev_op (ec_law_cell_at (ev_var rfl) hS ev_c (by decide)) (ev_op (ev_var rfl) ev_c rv_I0) (rv_I (by decide))) fun H1 O => ?_)
    refine sq (AS O (v := .int (gt [100, 5, 2, 12] _)) (ev_ixNL (ns := [100, 5, 2, 12]) (el_lst (ea_cons ev_c (ea_cons ev_c (ea_cons ev_c (ea_cons ev_c ea_nil)))) (by decide)) (fun H2 e => ev_op (ec_law_cell_at (ev_var rfl) (ex_l e (O.arg hS)) ev_c (by decide)) ev_c (rv_I (by decide))) ⟨Int.emod_nonneg _ (by decide), Int.emod_lt_of_pos _ (by decide)⟩) fun H2 O => ?_)
    refine sq (AL O (el_lst ea_nil (Nat.zero_le _)) fun p H3 O => ?_)
    have hk := kinds_ok (gt ns 1)
    have hm0 : 0 ≤ gt ns 0 % (12 + 1) := Int.emod_nonneg _ (by decide)
    have hm1 : gt ns 0 % (12 + 1) < 13 := Int.emod_lt_of_pos _ (by decide)
    refine sq (FR O (ea_cons (ev_var rfl) ea_nil) ⟨hm0, Int.le_trans (Int.le_of_lt hm1) (by decide)⟩
      (fun i σ' H' => ∃ (row : List Int) (x : Option V), σ' = [some (.ref a), some (.int 12), some (.int (gt ns 0 % (12 + 1))), some (.int (gt [100, 5, 2, 12] (gt ns 1 % 4).toNat)), some (.ref p), x] ∧ row.length = i ∧ (∀ v ∈ row, 0 ≤ v ∧ v ≤ 99) ∧ Own H [(p, il row)] H')
      (fun H4 O => ⟨[], none, rfl, rfl, (fun _ h => by cases h), O⟩) (fun i σ' H' hi hP => ?_) (fun σ' H' hP => ?_))
    · obtain ⟨row, x, rfl, hl, hr, O⟩ := hP
      have hb0 : 0 ≤ nxt (gt ns (3 + (i : Int) % 12).toNat + 5003 * (i : Int)) / 7 % gt [100, 5, 2, 12] (gt ns 1 % 4).toNat := Int.emod_nonneg _ (by omega)
      have hb1 := Int.emod_lt_of_pos (nxt (gt ns (3 + (i : Int) % 12).toNat + 5003 * (i : Int)) / 7) hk.1
      refine APP 0 O rfl (ev_var rfl) (ev_op (ev_op (ec_law_next (ev_op (ec_law_cell_at (ev_var rfl) (O.arg hS) (ev_op ev_c (ev_op (ev_var rfl) ev_c (rv_I (by decide))) rv_I0) (by omega)) (ev_op ev_c (ev_var rfl) (rv_I (.inl (by decide)))) rv_I0)) ev_c (rv_I ⟨by decide, by decide⟩)) (ev_var rfl) (rv_I hk.1)) (by rw [List.length_map]; omega) fun H5 O => ?_
      refine ⟨row ++ [_], _, rfl, by rw [List.length_append, hl]; rfl, fun v hv => ?_, by rw [il_append]; exact O⟩
      rcases List.mem_append.mp hv with hv | hv
      · exact hr v hv
      · rw [List.mem_singleton.mp hv]
        omega
    · obtain ⟨row, x, rfl, hl, hr, O⟩ := hP
      have hR : IsRow row := ⟨by omega, hr⟩
      refine q_cut (M := fun σ' H' => ∃ (row : List Int) (q : Addr) (x : Option V), σ' = [some (.ref a), some (.int 12), some (.int (gt ns 0 % (12 + 1))), some (.int (gt [100, 5, 2, 12] (gt ns 1 % 4).toNat)), some (.ref q), x] ∧ IsRow row ∧ ∃ M, Own H ((q, il row) :: M) H') ?_ (fun σ' H' hM => ?_)
      · refine IF O (et_test (ev_op (ev_op (ec_law_cell_at (ev_var rfl) (O.arg hS) ev_c (by decide)) ev_c (rv_I (by decide))) ev_c rv_eqI)) (fun _ H1 O => ?_) (fun _ H1 O => ⟨row, p, x, rfl, hR, _, O⟩)
        exact AL O (el_sorted (ev_var rfl) (O.seq 0 rfl) (by have := hR.1; omega)) fun q H2 O => ⟨srt row, q, x, rfl, hR.srt, _, O⟩
      · obtain ⟨row, q, x, rfl, hR, M, O⟩ := hM
        refine q_cut (M := fun σ' H' => ∃ (row : List Int) (q : Addr) (x : Option V), σ' = [some (.ref a), some (.int 12), some (.int (gt ns 0 % (12 + 1))), some (.int (gt [100, 5, 2, 12] (gt ns 1 % 4).toNat)), some (.ref q), x] ∧ IsRow row ∧ ∃ M, Own H ((q, il row) :: M) H') ?_ (fun σ' H' hM => ?_)
        · refine IF O (et_test (ev_op (ev_op (ec_law_cell_at (ev_var rfl) (O.arg hS) ev_c (by decide)) ev_c (rv_I (by decide))) ev_c rv_eqI)) (fun _ H1 O => ?_) (fun _ H1 O => ⟨row, q, x, rfl, hR, _, O⟩)
          refine AL O (el_revN (el_sorted (ev_var rfl) (O.seq 0 rfl) (by have := hR.1; omega))) fun q H2 O => ⟨(srt row).reverse, q, x, rfl, hR.srt.rev, _, by rw [il_rev]; exact O⟩
        · obtain ⟨row, q, x, rfl, hR, M, O⟩ := hM
          exact RT O (ev_var rfl) fun H1 O => O.retL 0 rfl (k row hR)
/-! #### _law_bad_row -/
def sp_law_bad_row (K : PySem.W.Frag) : Sp := fun vs H Q _ => ∃ (a : Addr) (ns : List Int) (c : Int), vs = [.ref a, .int c] ∧ H a = some (.lst (il ns)) ∧ IsRow ns ∧ 0 ≤ c ∧ ∀ bad, bad.length ≤ 1000 → ¬ IsRow bad → RetL (il bad) H Q
theorem ok_law_bad_row (T : Bi K mg C) (df : Def K mg "_law_bad_row" s_law_bad_row) : Has P w K mg base CX0 "_law_bad_row" 1 ["row", "cell"] (sp_law_bad_row K) := by
  obtain ⟨f, fd, F, g⟩ := df
  refine ⟨f, fd, F.ok sc_law_bad_row (fun vs H Q E h => ?_) (fun cdv A outer s H vs Q E hr h => ?_), g, F.kp, F.binds fun _ _ _ _ _ _ us hl => match us, hl with | [_, _], _ => rfl⟩
  · obtain ⟨a, ns, c, rfl, hA, hR, hc, k⟩ := h; rfl
  · obtain ⟨a, ns, c, rfl, hA, hR, hc, k⟩ := h
    refine ⟨_, (pss_cons (ps_set (i := 2) sc_law_bad_row.nd rfl (Or.inl rfl) (pe_op op_mod (pe_op op_fdiv (pv 1) pe_int) (pe_op op_pow pe_int pe_int)))
        (pss_cons (ps_set (i := 3) sc_law_bad_row.nd rfl (Or.inl rfl) (pe_op op_mod (pe_op op_fdiv (pv 1) pe_int) (pe_op op_add (pe_callB (r := rLenS K) call_lenS (by rfl) T.b_len PySem.boot_len (pa_cons (pv 0) pa_nil)) pe_int)))
        (pss_cons (ps_if (pt_cmpR op_eq (pe_op op_mod (pv 1) pe_int) pe_int (nomark _)) (pss_one (ps_ret (pe_op op_cat (pv 0) (pe_lc (own := [("k", 4)]) (g := gName 4) (by rfl) sc_law_bad_row.nd (pi_range1 rfl T.b_range (pa_cons (pe_op op_add (pe_op op_sub pe_int (pe_callB (r := rLenS K) call_lenS (by rfl) T.b_len PySem.boot_len (pa_cons (pv 0) pa_nil))) (pe_op op_mod (pe_op op_fdiv (pv 1) pe_int) pe_int)) pa_nil)) (blkOk_by (own := [("k", 4)]) (N := ["row", "cell", "far", "at", "k"]) (sc := defScope s_law_bad_row) (by decide +kernel)) (fun _ _ _ _ _ => pg_name (i := 4) sc_law_bad_row.nd rfl (Or.inl rfl)) (fun _ _ _ _ _ => pts_nil) (fun _ _ _ _ _ => (pe_op op_mod (pe_op op_fdiv (pv 1) pe_int) pe_int)))))) pss_nil)
        (pss_cut (ps_if (pt_cmpR op_eq (pe_callB (r := rLenS K) call_lenS (by rfl) T.b_len PySem.boot_len (pa_cons (pv 0) pa_nil)) pe_int (nomark _)) (pss_cons (ps_set (i := 0) sc_law_bad_row.nd rfl (Or.inl rfl) (pe_slice (r := rSlL K) sl_list (pv 0) po_none (po_some pe_int)))
         (pss_one (ps_set (i := 3) sc_law_bad_row.nd rfl (Or.inl rfl) (pe_callB (r := rMin2) (call_min2 rfl) (by rfl) T.b_min (by decide +kernel) (pa_cons (pv 3) (pa_cons pe_int pa_nil)))))) pss_nil)
        (pss_one (ps_ret (pe_op op_cat (pe_op op_cat (pe_slice (r := rSlL K) sl_list (pv 0) po_none (po_some (pv 3))) (pe_lst (pa_cons (pe_ix (r := rIxL K) ix_list (pe_lst (pa_cons pe_int (pa_cons (pe_un un_neg pe_int) (pa_cons (pe_op op_add pe_int (pv 2)) (pa_cons (pe_op op_sub (pe_un un_neg pe_int) (pv 2)) pa_nil))))) (pe_op op_mod (pe_op op_fdiv (pv 1) pe_int) pe_int) (fun _ _ => rfl)) pa_nil))) (pe_slice (r := rSlL K) sl_list (pv 0) (po_some (pv 3)) po_none)))))))), ?_⟩
    have O : Own H [] H := .start
    have hl := hR.1
    have hS : SqL K H a (il ns) := sq_of hA
    have hf0 : 0 ≤ c / 64 % (10 ^ 20 : Int) := Int.emod_nonneg _ (by decide)
    obtain ⟨far, hfar⟩ : ∃ z : Int, c / 64 % (10 ^ 20 : Int) = z := ⟨_, rfl⟩
    rw [hfar] at hf0
    refine qAS O (ev_is (ev_op (ev_op (ev_var rfl) ev_c (rv_I ⟨by decide, by decide⟩)) (ev_op ev_c ev_c (rv_I ⟨by decide, by decide, by decide⟩)) (rv_I (by decide))) (w := .int far) (congrArg V.int hfar)) fun H1 O => ?_
    have ha0 : 0 ≤ c / 4 % ((ns.length : Int) + 1) := Int.emod_nonneg _ (by omega)
    have ha1 : c / 4 % ((ns.length : Int) + 1) < (ns.length : Int) + 1 := Int.emod_lt_of_pos _ (by omega)
    obtain ⟨at', hat⟩ : ∃ j : Nat, c / 4 % ((ns.length : Int) + 1) = (j : Int) := ⟨(c / 4 % ((ns.length : Int) + 1)).toNat, (Int.toNat_of_nonneg ha0).symm⟩
    refine qAS O (ev_is (ev_op (ev_op (ev_var rfl) ev_c (rv_I ⟨by decide, by decide⟩)) (ev_op (ev_lenI (ev_var rfl) (O.arg hS)) ev_c rv_I0) (rv_I (show (0 : Int) < (ns.length : Int) + 1 by omega))) (w := .int (at' : Int)) (congrArg V.int hat)) fun H2 O => ?_
    refine qWH O (et_test (ev_op (ev_op (ev_var rfl) ev_c (rv_I (by decide))) ev_c rv_eqI)) (fun _ H3 O => ?_) (fun _ H3 O => ?_)
    ·
      have h50 : 0 ≤ c / 400 % 5 := Int.emod_nonneg _ (by decide)
      have h51 : c / 400 % 5 < 5 := Int.emod_lt_of_pos _ (by decide)
      obtain ⟨z, hz⟩ : ∃ z : Nat, 13 - (ns.length : Int) + c / 400 % 5 = (z : Int) := ⟨(13 - (ns.length : Int) + c / 400 % 5).toNat, by omega⟩
      have ez : ((List.range z).filter fun _ => true).map (fun _ => V.int (c / 4 % 100)) = il (List.replicate z (c / 4 % 100)) := by
        rw [filter_yes]
        unfold il
        rw [List.map_replicate]
        exact List.eq_replicate_iff.mpr ⟨by rw [List.length_map, List.length_range], fun b hb => by obtain ⟨_, _, rfl⟩ := List.mem_map.mp hb; rfl⟩
      refine RTL O (el_catRN (ev_var rfl) (O.ex _ _ hA) (ez ▸ lcR (n := z) (fun _ => true) (fun _ => V.int (c / 4 % 100)) (ea_cons (ev_is (ev_op (ev_op ev_c (ev_lenI (ev_var rfl) (O.arg hS)) rv_I0) (ev_op (ev_op (ev_var rfl) ev_c (rv_I (by exact ⟨by decide, by decide⟩))) ev_c (rv_I (by decide))) rv_I0) (congrArg V.int hz)) ea_nil) (by omega) (fun x => rfl) (fun i H2 e hi => et_yes)
        (fun i H2 e hi _ => ev_op (ev_op (ev_var rfl) ev_c (rv_I (by exact ⟨by decide, by decide⟩))) ev_c (rv_I (by decide)))) (by rw [List.length_map, List.length_map, List.length_replicate]; omega)) fun p H4 O => ?_
      rw [← il_append] at O
      exact O.retL 0 rfl (k _ (by rw [List.length_append, List.length_replicate]; omega) fun h => by have := h.1; rw [List.length_append, List.length_replicate] at this; omega)
    · refine q_cut (M := fun σ' H' => ∃ (p : Addr) (ms : List Int) (j : Nat), σ' = [some (.ref p), some (.int c), some (.int far), some (.int (j : Int)), none] ∧ H' p = some (.lst (il ms)) ∧ ms.length ≤ 12 ∧ j ≤ ms.length ∧ Own H [] H') ?_ (fun σ' H' hM => ?_)
      · refine WH O (et_test (ev_op (ev_lenI (ev_var rfl) (O.arg hS)) ev_c rv_eqI)) (fun hb H3 O => ?_) (fun _ H3 O => ⟨a, ns, at', rfl, O.ex _ _ hA, hl, by omega, O⟩)
        have hb := of_decide_eq_true hb
        refine qAL O (sl_to (k := 11) (ev_var rfl) (O.arg hS) (eo_some ev_c)) fun p H4 O => ?_
        refine AS O (ev_is (ev_min2 (ev_var rfl) ev_c) (w := .int ((min at' 11 : Nat) : Int)) (congrArg V.int (by split <;> omega))) fun H5 O => ⟨p, ns.take 11, min at' 11, rfl, O.get 0 rfl, by rw [List.length_take]; omega, by rw [List.length_take]; omega, O.cons⟩
      · obtain ⟨p, ms, j, rfl, hp, hml, hj, O⟩ := hM
        have hpS : SqL K H' p (il ms) := sq_of hp
        have h40 : 0 ≤ c / 13 % 4 := Int.emod_nonneg _ (by decide)
        have h41 : c / 13 % 4 < 4 := Int.emod_lt_of_pos _ (by decide)
        obtain ⟨v, hv⟩ : ∃ v : Int, gt [100, -1, 100 + far, -1 - far] (c / 13 % 4).toNat = v := ⟨_, rfl⟩
        have hbadv : ¬ (0 ≤ v ∧ v ≤ 99) := by
          rw [← hv]
          generalize c / 13 % 4 = y at *
          obtain ⟨n, rfl⟩ : ∃ n : Nat, y = n := ⟨y.toNat, (Int.toNat_of_nonneg h40).symm⟩
          rw [Int.toNat_natCast]
          have : n = 0 ∨ n = 1 ∨ n = 2 ∨ n = 3 := by omega
          rcases this with rfl | rfl | rfl | rfl
          · show ¬ (0 ≤ (100 : Int) ∧ (100 : Int) ≤ 99)
            omega
          · show ¬ (0 ≤ (-1 : Int) ∧ _)
            omega
          · show ¬ (0 ≤ 100 + far ∧ 100 + far ≤ 99)
            omega
          · show ¬ (0 ≤ -1 - far ∧ _)
            omega
        refine RTL O (el_catNN (el_catNN (sl_to (k := j) (ev_var rfl) hpS (eo_some (ev_var rfl))) (el_lst (ea_cons (ev_is (ev_ixNL (ns := [100, -1, 100 + far, -1 - far]) (el_lst (ea_cons ev_c (ea_cons (ev_un ev_c ru_neg) (ea_cons (ev_op ev_c (ev_var rfl) rv_I0) (ea_cons (ev_op (ev_un ev_c ru_neg) (ev_var rfl) rv_I0) ea_nil)))) (by show 4 ≤ 100000; decide))
          (fun H2 e => ev_op (ev_op (ev_var rfl) ev_c (rv_I ⟨by decide, by decide⟩)) ev_c (rv_I (by decide))) ⟨h40, h41⟩) (w := .int v) (congrArg V.int hv)) ea_nil) (by show 1 ≤ 100000; decide)) (by rw [List.length_map, List.length_take]; show _ + 1 ≤ _; omega)) (sl_from (k := j) (ev_var rfl) hpS (eo_some (ev_var rfl)))
          (by rw [List.length_append, List.length_map, List.length_map, List.length_take, List.length_drop]; show _ + 1 + _ ≤ _; omega)) fun r H4 O => ?_
        have e : (il (ms.take j) ++ [V.int v]) ++ il (ms.drop j) = il (ms.take j ++ [v] ++ ms.drop j) := by rw [il_append, il_append]; rfl
        rw [e] at O
        exact O.retL 0 rfl (k _ (by rw [List.length_append, List.length_append, List.length_take, List.length_drop, List.length_singleton]; omega) fun h => hbadv (h.2 v (List.mem_append_left _ (List.mem_append_right _ List.mem_cons_self))))
/-! #### asked_row -/
def sp_asked_row0 (K : PySem.W.Frag) : Sp := fun vs H Q _ => ∃ (a : Addr) (ns : List Int), vs = [.ref a] ∧ SqL K H a (il ns) ∧ IsRow ns ∧ RetV .non H Q
def sp_asked_row (K : PySem.W.Frag) (C : Nat → Addr) : Sp := fun vs H Q E => sp_asked_row0 K vs H Q E ∨ (∃ (a : Addr) (ns : List Int), vs = [.ref a] ∧ SqL K H a (il ns) ∧ ns.length ≤ 1000 ∧ ¬ IsRow ns ∧ ∀ H', Ex H H' → E (.ref (C 1)) none H')
theorem ec_asked_row {σ : L2.St} {H : Hp} {ta : TE} {a : Addr} {ns : List Int} {E : XK} (h1 : Ev ta σ H (.ref a)) (hx : SqL K H a (il ns)) (hr : IsRow ns) : Ev (tCall (sp_asked_row K C) [] E (tCons ta tNil)) σ H .non :=
  ev_call (ea_cons h1 ea_nil) fun H1 e Q q _ => Or.inl ⟨a, ns, rfl, ex_l e hx, hr, q⟩
theorem ok_asked_row (T : Bi K mg C) (df : Def K mg "asked_row" s_asked_row) : Has P w K mg base (L2N.CX P w) "asked_row" 1 ["row"] (sp_asked_row K C) := by
  obtain ⟨f, fd, F, g⟩ := df
  obtain ⟨t_MOST, g_MOST⟩ := T.c_MOST
  obtain ⟨t_GREATEST, g_GREATEST⟩ := T.c_GREATEST
  refine ⟨f, fd, okN F sc_asked_row (fun vs H Q E h => ?_) (fun cdv A outer s H vs Q E hr h => ?_), g, F.kp, F.binds fun _ _ _ _ _ _ us hl => match us, hl with | [_], _ => rfl⟩
  · rcases h with ⟨a, ns, rfl, hS, hR, k⟩ | ⟨a, ns, rfl, hS, hlen, hbad, kE⟩ <;> rfl
  ·
    refine ⟨_, (pss_cons (ps_if (pt_cmpR op_gt (pe_callB (r := rLenS K) call_lenS (by rfl) T.b_len PySem.boot_len (pa_cons (pv 0) pa_nil)) (pe_glob (v := .int 12) rfl g_MOST ⟨_, rfl⟩) (nomark _)) (pss_one (L2N.ps_raise rfl (L2N.takes_of rfl rfl rfl rfl) (L2N.pmk_own PySem.F.excBase_ValueError T.c_NoRow.x T.c_NoRow.g T.c_NoRow.k (raises_own T.c_NoRow.b T.c_NoRow.t) rfl))) pss_nil)
        (pss_one (ps_for (passes_of rfl) rfl (pi_list (pv 0)) (pg_name (i := 1) sc_asked_row.nd rfl (Or.inl rfl))
         (pss_one (ps_if (pt_not (pt_chain op_le op_le pe_int (pv 1) (pe_glob (v := .int 99) rfl g_GREATEST ⟨_, rfl⟩))) (pss_one (L2N.ps_raise rfl (L2N.takes_of rfl rfl rfl rfl) (L2N.pmk_own PySem.F.excBase_ValueError T.c_NoRow.x T.c_NoRow.g T.c_NoRow.k (raises_own T.c_NoRow.b T.c_NoRow.t) rfl))) pss_nil))))), ?_⟩
    rcases h with ⟨a, ns, rfl, hS, hR, k⟩ | ⟨a, ns, rfl, hS, hlen, hbad, kE⟩
    ·
      have O : Own H [] H := .start
      have hl := hR.1
      walk_at "if"
      · intro hb H1 O
        have hb := of_decide_eq_true hb
        omega
      · intro hb H1 O
        refine FL O (ev_var rfl) (O.arg hS) (fun i σ' H' => ∃ x : Option V, σ' = [some (.ref a), x] ∧ Own H [] H') (fun H2 O => ⟨none, rfl, O⟩) (fun i σ' H' hP => hP.elim fun _ q => q.2.arg hS) (fun i x σ' H' hx hP => ?_) (fun σ' H' hP => ?_)
        · obtain ⟨y, rfl, O⟩ := hP
          have hv := hR.2 x (List.mem_of_getElem? hx)
          walk_at "if"
          rotate_left
          · exact fun hb H2 O => ⟨_, rfl, O⟩
          intro hb H2 O
          rw [decide_eq_true hv.1, decide_eq_true hv.2] at hb
          cases hb
        · obtain ⟨x, rfl, O⟩ := hP
          exact O.ret k
    ·
      have O : Own H [] H := .start
      walk_at "if"
      · intro hb H1 O
        exact kE H1 O.ex
      · intro hb H1 O
        have hl : ns.length ≤ 12 := by
          have := of_decide_eq_false hb
          omega
        refine FL O (ev_var rfl) (O.arg hS) (fun i σ' H' => ∃ x : Option V, σ' = [some (.ref a), x] ∧ (∀ j, j < i → 0 ≤ gt ns j ∧ gt ns j ≤ 99) ∧ Own H [] H') (fun H2 O => ⟨none, rfl, fun j hj => absurd hj (Nat.not_lt_zero j), O⟩) (fun i σ' H' hP => hP.elim fun _ q => q.2.2.arg hS) (fun i x σ' H' hx hP => ?_) (fun σ' H' hP => ?_)
        · obtain ⟨y, rfl, hok, O⟩ := hP
          walk_at "if"
          · exact fun hb H2 O => kE H2 O.ex
          · intro hb H2 O
            rw [Bool.not_eq_false', Bool.and_eq_true, decide_eq_true_eq, decide_eq_true_eq] at hb
            refine ⟨_, rfl, fun j hj => ?_, O⟩
            by_cases ej : j = i
            · rw [ej, gt_some hx]
              exact hb
            · exact hok j (by omega)
        · obtain ⟨x, rfl, hok, O⟩ := hP
          refine absurd ⟨hl, fun v hv => ?_⟩ hbad
          obtain ⟨j, hj⟩ := List.getElem?_of_mem hv
          have := hok j (List.getElem?_eq_some_iff.mp hj).1
          rw [gt_some hj] at this
          exact this
/-! #### less_behind -/
def sp_less_behind (K : PySem.W.Frag) : Sp := fun vs H Q _ => ∃ (a : Addr) (ns : List Int), vs = [.ref a] ∧ SqL K H a (il ns) ∧ ns.length ≤ 1000 ∧ RetL (il (lessB ns)) H Q
theorem el_less_behind {σ : L2.St} {H : Hp} {ta : TE} {a : Addr} {ns : List Int} {E : XK} (h1 : Ev ta σ H (.ref a)) (hx : SqL K H a (il ns)) (hl : ns.length ≤ 1000) : EvL (tCall (sp_less_behind K) [] E (tCons ta tNil)) σ H (il (lessB ns)) :=
  el_call (ea_cons h1 ea_nil) fun H1 e Q q _ => ⟨a, ns, rfl, ex_l e hx, hl, q⟩
theorem ok_less_behind (T : Bi K mg C) (df : Def K mg "less_behind" s_less_behind) : Has P w K mg base CX0 "less_behind" 1 ["row"] (sp_less_behind K) := by
  obtain ⟨f, fd, F, g⟩ := df
  refine ⟨f, fd, F.ok sc_less_behind (fun vs H Q E h => ?_) (fun cdv A outer s H vs Q E hr h => ?_), g, F.kp, F.binds fun _ _ _ _ _ _ us hl => match us, hl with | [_], _ => rfl⟩
  · obtain ⟨a, ns, rfl, hS, hl, k⟩ := h; rfl
  · obtain ⟨a, ns, rfl, hS, hl, k⟩ := h
    refine ⟨_, (pss_cons (ps_set (i := 1) sc_less_behind.nd rfl (Or.inl rfl) (pe_lst pa_nil))
        (pss_cons (ps_for PassesOwn.never rfl (pi_range1 rfl T.b_range (pa_cons (pe_callB (r := rLenS K) call_lenS (by rfl) T.b_len PySem.boot_len (pa_cons (pv 0) pa_nil)) pa_nil)) (pg_name (i := 2) sc_less_behind.nd rfl (Or.inr rfl))
         (pss_one (ps_expr (show PE _ _ (tBM K "list" rAppend _ (tCons _ tNil)) from pe_bm PySem.F.plainAttrs_list PySem.F.slot_list_append PySem.F.type_list_append mt_append (pv 1) (pa_cons (pe_callB (r := rLenS K) call_lenS (by rfl) T.b_len PySem.boot_len (pa_cons (pe_lc (own := [("volume", 3)]) (g := gName 3) (by rfl) sc_less_behind.nd (pi_list (pe_slice (r := rSlL K) sl_list (pv 0) (po_some (pe_op op_add (pv 2) pe_int)) po_none)) (blkOk_by (own := [("volume", 3)]) (N := ["row", "found", "k", "volume"]) (sc := defScope s_less_behind) (by decide +kernel)) (fun _ _ _ _ _ => pg_name (i := 3) sc_less_behind.nd rfl (Or.inl rfl)) (fun _ _ _ _ _ => (pts_one (pt_cmpR op_lt (pv 3) (pe_ix (r := rIxL K) ix_list (pv 0) (pv 2) (fun _ _ => rfl)) (nomark _)))) (fun _ _ _ _ _ => (pv 3))) pa_nil)) pa_nil)))))
        (pss_one (ps_ret (pv 1))))), ?_⟩
    have O : Own H [] H := .start
    refine sq (AL O (el_lst ea_nil (Nat.zero_le _)) fun p H1 O => ?_)
    refine sq (FR O (ea_cons (ev_lenI (ev_var rfl) (O.arg hS)) ea_nil) ⟨by omega, by omega⟩ (fun i σ' H' => ∃ (x y : Option V), σ' = [some (.ref a), some (.ref p), x, y] ∧ Own H [(p, il ((lessB ns).take i))] H')
      (fun H2 O => ⟨none, none, rfl, O⟩) (fun i σ' H' hi hP => ?_) (fun σ' H' hP => ?_))
    · obtain ⟨x, y, rfl, O⟩ := hP
      have hi' : i < ns.length := by omega
      refine APP 0 O rfl (ev_var rfl) (ev_lenN (lcNL (ns := ns.drop (i + 1)) (fun y => decide (y < gt ns i)) V.int (sl_from (k := i + 1) (ev_var rfl) (O.arg hS) (eo_some (ev_op (ev_var rfl) ev_c rv_I0))) (by rw [List.length_drop]; omega) (fun x => rfl) (fun x hx H2 e => et_test (ev_op (ev_var rfl) (ev_ix (ev_var rfl) (ex_l e (O.arg hS)) (ev_var rfl) hi') rv_I0)) (fun x hx H2 e _ => ev_var rfl))) (by rw [List.length_map, List.length_take]; omega) fun H2 O => ⟨_, _, rfl, ?_⟩
      rw [List.take_add_one, lessB_at ns i hi', il_append]
      rw [List.length_map] at O
      exact O
    · obtain ⟨x, y, rfl, O⟩ := hP
      rw [Int.toNat_natCast, ← lessB_len, List.take_length] at O
      exact RT O (ev_var rfl) fun H2 O => O.retL 0 rfl k
/-! #### pairs_out -/
def sp_pairs_out0 (K : PySem.W.Frag) : Sp := fun vs H Q _ => ∃ (a : Addr) (ns : List Int), vs = [.ref a] ∧ SqL K H a (il ns) ∧ IsRow ns ∧ RetV (.int (inv ns : Nat)) H Q
def sp_pairs_out (K : PySem.W.Frag) (C : Nat → Addr) : Sp := fun vs H Q E => sp_pairs_out0 K vs H Q E ∨ (∃ (a : Addr) (ns : List Int), vs = [.ref a] ∧ SqL K H a (il ns) ∧ ns.length ≤ 1000 ∧ ¬ IsRow ns ∧ ∀ H', Ex H H' → E (.ref (C 1)) none H')
theorem ec_pairs_out {σ : L2.St} {H : Hp} {ta : TE} {a : Addr} {ns : List Int} {E : XK} (h1 : Ev ta σ H (.ref a)) (hx : SqL K H a (il ns)) (hr : IsRow ns) : Ev (tCall (sp_pairs_out K C) [] E (tCons ta tNil)) σ H (.int (inv ns : Nat)) :=
  ev_call (ea_cons h1 ea_nil) fun H1 e Q q _ => Or.inl ⟨a, ns, rfl, ex_l e hx, hr, q⟩
theorem ok_pairs_out (T : Bi K mg C) (h_asked_row : Has P w K mg base (L2N.CX P w) "asked_row" 1 ["row"] (sp_asked_row K C)) (h_less_behind : Has P w K mg base CX0 "less_behind" 1 ["row"] (sp_less_behind K)) (df : Def K mg "pairs_out" s_pairs_out) : Has P w K mg base (L2N.CX P w) "pairs_out" 2 ["row"] (sp_pairs_out K C) := by
  obtain ⟨f, fd, F, g⟩ := df
  obtain ⟨f_asked_row, fd_asked_row, G_asked_row, g_asked_row, kp_asked_row, bd_asked_row⟩ := h_asked_row
  obtain ⟨f_less_behind, fd_less_behind, G_less_behind, g_less_behind, kp_less_behind, bd_less_behind⟩ := h_less_behind
  refine ⟨f, fd, okN F sc_pairs_out (fun vs H Q E h => ?_) (fun cdv A outer s H vs Q E hr h => ?_), g, F.kp, F.binds fun _ _ _ _ _ _ us hl => match us, hl with | [_], _ => rfl⟩
  · rcases h with ⟨a, ns, rfl, hS, hR, k⟩ | ⟨a, ns, rfl, hS, hlen, hbad, kE⟩ <;> rfl
  ·
    have hr_asked_row : Room 1 _ := hr.mono (by decide)
    have hr_less_behind : Room 1 _ := hr.mono (by decide)
    refine ⟨_, (pss_cons (ps_expr (pe_call G_asked_row hr_asked_row (by rfl) g_asked_row kp_asked_row bd_asked_row .nil (L2N.passes_call (E := E) (L2N.takes_of rfl rfl rfl rfl) (fun _ _ _ _ h => h)) (pa_cons (pv 0) pa_nil)))
        (pss_one (ps_ret (pe_callB (r := rSum K) (cr_sum rfl) (by rfl) T.b_sum (by decide +kernel) (pa_cons (pe_call G_less_behind hr_less_behind (by rfl) g_less_behind kp_less_behind bd_less_behind .nil pass0 (pa_cons (pv 0) pa_nil)) pa_nil))))), ?_⟩
    rcases h with ⟨a, ns, rfl, hS, hR, k⟩ | ⟨a, ns, rfl, hS, hlen, hbad, kE⟩
    ·
      have O : Own H [] H := .start
      have hl := hR.1
      refine sq (DR O (ec_asked_row (ev_var rfl) hS hR) fun H1 O => ?_)
      refine RT O (ev_sumN (el_less_behind (ev_var rfl) (O.arg hS) (by omega))) fun H2 O => ?_
      rw [lessB_sum]
      exact O.ret k
    ·
      exact qDC (.start : Own H [] H) (ea_cons (ev_var rfl) ea_nil) fun H1 O => Or.inr ⟨a, ns, rfl, O.arg hS, hlen, hbad, fun H2 e2 => kE H2 (O.ex.trans e2)⟩
/-! #### falls -/
def sp_falls0 (K : PySem.W.Frag) : Sp := fun vs H Q _ => ∃ (a : Addr) (ns : List Int), vs = [.ref a] ∧ SqL K H a (il ns) ∧ IsRow ns ∧ RetL (il (fallsL ns)) H Q
def sp_falls (K : PySem.W.Frag) (C : Nat → Addr) : Sp := fun vs H Q E => sp_falls0 K vs H Q E ∨ (∃ (a : Addr) (ns : List Int), vs = [.ref a] ∧ SqL K H a (il ns) ∧ ns.length ≤ 1000 ∧ ¬ IsRow ns ∧ ∀ H', Ex H H' → E (.ref (C 1)) none H')
theorem el_falls {σ : L2.St} {H : Hp} {ta : TE} {a : Addr} {ns : List Int} {E : XK} (h1 : Ev ta σ H (.ref a)) (hx : SqL K H a (il ns)) (hr : IsRow ns) : EvL (tCall (sp_falls K C) [] E (tCons ta tNil)) σ H (il (fallsL ns)) :=
  el_call (ea_cons h1 ea_nil) fun H1 e Q q _ => Or.inl ⟨a, ns, rfl, ex_l e hx, hr, q⟩
theorem ok_falls (T : Bi K mg C) (h_asked_row : Has P w K mg base (L2N.CX P w) "asked_row" 1 ["row"] (sp_asked_row K C)) (df : Def K mg "falls" s_falls) : Has P w K mg base (L2N.CX P w) "falls" 2 ["row"] (sp_falls K C) := by
  obtain ⟨f, fd, F, g⟩ := df
  obtain ⟨f_asked_row, fd_asked_row, G_asked_row, g_asked_row, kp_asked_row, bd_asked_row⟩ := h_asked_row
  refine ⟨f, fd, okN F sc_falls (fun vs H Q E h => ?_) (fun cdv A outer s H vs Q E hr h => ?_), g, F.kp, F.binds fun _ _ _ _ _ _ us hl => match us, hl with | [_], _ => rfl⟩
  · rcases h with ⟨a, ns, rfl, hS, hR, k⟩ | ⟨a, ns, rfl, hS, hlen, hbad, kE⟩ <;> rfl
  ·
    have hr_asked_row : Room 1 _ := hr.mono (by decide)
    refine ⟨_, (pss_cons (ps_expr (pe_call G_asked_row hr_asked_row (by rfl) g_asked_row kp_asked_row bd_asked_row .nil (L2N.passes_call (E := E) (L2N.takes_of rfl rfl rfl rfl) (fun _ _ _ _ h => h)) (pa_cons (pv 0) pa_nil)))
        (pss_one (ps_ret (pe_lc (own := [("k", 1)]) (g := gName 1) (by rfl) sc_falls.nd (pi_range2 rfl T.b_range (pa_cons pe_int (pa_cons (pe_callB (r := rLenS K) call_lenS (by rfl) T.b_len PySem.boot_len (pa_cons (pv 0) pa_nil)) pa_nil))) (blkOk_by (own := [("k", 1)]) (N := ["row", "k"]) (sc := defScope s_falls) (by decide +kernel)) (fun _ _ _ _ _ => pg_name (i := 1) sc_falls.nd rfl (Or.inl rfl)) (fun _ _ _ _ _ => (pts_one (pt_cmpR op_gt (pe_ix (r := rIxL K) ix_list (pv 0) (pe_op op_sub (pv 1) pe_int) (fun _ _ => rfl)) (pe_ix (r := rIxL K) ix_list (pv 0) (pv 1) (fun _ _ => rfl)) (nomark _)))) (fun _ _ _ _ _ => (pv 1)))))), ?_⟩
    rcases h with ⟨a, ns, rfl, hS, hR, k⟩ | ⟨a, ns, rfl, hS, hlen, hbad, kE⟩
    ·
      have O : Own H [] H := .start
      have hl := hR.1
      refine qDR O (ec_asked_row (ev_var rfl) hS hR) fun H1 O => ?_
      have hS := O.arg hS
      have e : ((List.range ((ns.length : Int) - 1).toNat).filter fun i => decide (gt ns (1 + i) < gt ns i)).map (fun i : Nat => V.int (1 + (i : Int))) = il (fallsL ns) := by
        unfold fallsL fallsTo il
        rw [List.map_map, show ((ns.length : Int) - 1).toNat = ns.length - 1 by omega]
        rfl
      refine RTL O (e ▸ lcR2 (fun i => decide (gt ns (1 + i) < gt ns i)) (fun i : Nat => V.int (1 + (i : Int))) (ea_cons ev_c (ea_cons (ev_lenI (ev_var rfl) hS) ea_nil)) ⟨by omega, by omega, by omega, by omega⟩ (fun x => rfl) (fun i H2 e hi => et_test (ev_op (ev_ixn i (ev_var rfl) (ex_l e hS) (ev_op (ev_var rfl) ev_c rv_I0) (by omega) (by omega)) (ev_ixn (1 + i) (ev_var rfl) (ex_l e hS) (ev_var rfl) (by omega) (by omega)) rv_I0)) (fun i H2 e hi _ => ev_var rfl)) fun p H2 O => O.retL 0 rfl k
    ·
      exact qDC (.start : Own H [] H) (ea_cons (ev_var rfl) ea_nil) fun H1 O => Or.inr ⟨a, ns, rfl, O.arg hS, hlen, hbad, fun H2 e2 => kE H2 (O.ex.trans e2)⟩
/-! #### fall_sum -/
def sp_fall_sum0 (K : PySem.W.Frag) : Sp := fun vs H Q _ => ∃ (a : Addr) (ns : List Int), vs = [.ref a] ∧ SqL K H a (il ns) ∧ IsRow ns ∧ RetV (.int (fallsL ns).sum) H Q
def sp_fall_sum (K : PySem.W.Frag) (C : Nat → Addr) : Sp := fun vs H Q E => sp_fall_sum0 K vs H Q E ∨ (∃ (a : Addr) (ns : List Int), vs = [.ref a] ∧ SqL K H a (il ns) ∧ ns.length ≤ 1000 ∧ ¬ IsRow ns ∧ ∀ H', Ex H H' → E (.ref (C 1)) none H')
theorem ec_fall_sum {σ : L2.St} {H : Hp} {ta : TE} {a : Addr} {ns : List Int} {E : XK} (h1 : Ev ta σ H (.ref a)) (hx : SqL K H a (il ns)) (hr : IsRow ns) : Ev (tCall (sp_fall_sum K C) [] E (tCons ta tNil)) σ H (.int (fallsL ns).sum) :=
  ev_call (ea_cons h1 ea_nil) fun H1 e Q q _ => Or.inl ⟨a, ns, rfl, ex_l e hx, hr, q⟩
theorem ok_fall_sum (T : Bi K mg C) (h_falls : Has P w K mg base (L2N.CX P w) "falls" 2 ["row"] (sp_falls K C)) (df : Def K mg "fall_sum" s_fall_sum) : Has P w K mg base (L2N.CX P w) "fall_sum" 3 ["row"] (sp_fall_sum K C) := by
  obtain ⟨f, fd, F, g⟩ := df
  obtain ⟨f_falls, fd_falls, G_falls, g_falls, kp_falls, bd_falls⟩ := h_falls
  refine ⟨f, fd, okN F sc_fall_sum (fun vs H Q E h => ?_) (fun cdv A outer s H vs Q E hr h => ?_), g, F.kp, F.binds fun _ _ _ _ _ _ us hl => match us, hl with | [_], _ => rfl⟩
  · rcases h with ⟨a, ns, rfl, hS, hR, k⟩ | ⟨a, ns, rfl, hS, hlen, hbad, kE⟩ <;> rfl
  ·
    have hr_falls : Room 2 _ := hr.mono (by decide)
    refine ⟨_, (pss_one (ps_ret (pe_callB (r := rSum K) (cr_sum rfl) (by rfl) T.b_sum (by decide +kernel) (pa_cons (pe_call G_falls hr_falls (by rfl) g_falls kp_falls bd_falls .nil (L2N.passes_call (E := E) (L2N.takes_of rfl rfl rfl rfl) (fun _ _ _ _ h => h)) (pa_cons (pv 0) pa_nil)) pa_nil)))), ?_⟩
    rcases h with ⟨a, ns, rfl, hS, hR, k⟩ | ⟨a, ns, rfl, hS, hlen, hbad, kE⟩
    ·
      have O : Own H [] H := .start
      exact RT O (ev_sumN (el_falls (ev_var rfl) hS hR)) fun H2 O => O.ret k
    ·
      exact (ea_cons (ev_var (i := 0) rfl) ea_nil : EvA (tCons (tVar 0) tNil) [some (V.ref a)] H [.ref a]) H (Ex.refl H) (fun vs H1 => sp_falls K C (vs ++ []) H1 (fun x H2 => rSum K [x] H2 Q) E) fun H1 e => Or.inr ⟨a, ns, rfl, ex_l e hS, hlen, hbad, fun H2 e2 => kE H2 (e.trans e2)⟩
/-! #### standing -/
def sp_standing0 (K : PySem.W.Frag) : Sp := fun vs H Q _ => ∃ (a : Addr) (ns : List Int), vs = [.ref a] ∧ SqL K H a (il ns) ∧ IsRow ns ∧ RetL (il (standL ns)) H Q
def sp_standing (K : PySem.W.Frag) (C : Nat → Addr) : Sp := fun vs H Q E => sp_standing0 K vs H Q E ∨ (∃ (a : Addr) (ns : List Int), vs = [.ref a] ∧ SqL K H a (il ns) ∧ ns.length ≤ 1000 ∧ ¬ IsRow ns ∧ ∀ H', Ex H H' → E (.ref (C 1)) none H')
theorem el_standing {σ : L2.St} {H : Hp} {ta : TE} {a : Addr} {ns : List Int} {E : XK} (h1 : Ev ta σ H (.ref a)) (hx : SqL K H a (il ns)) (hr : IsRow ns) : EvL (tCall (sp_standing K C) [] E (tCons ta tNil)) σ H (il (standL ns)) :=
  el_call (ea_cons h1 ea_nil) fun H1 e Q q _ => Or.inl ⟨a, ns, rfl, ex_l e hx, hr, q⟩
theorem ok_standing (T : Bi K mg C) (h_asked_row : Has P w K mg base (L2N.CX P w) "asked_row" 1 ["row"] (sp_asked_row K C)) (df : Def K mg "standing" s_standing) : Has P w K mg base (L2N.CX P w) "standing" 2 ["row"] (sp_standing K C) := by
  obtain ⟨f, fd, F, g⟩ := df
  obtain ⟨f_asked_row, fd_asked_row, G_asked_row, g_asked_row, kp_asked_row, bd_asked_row⟩ := h_asked_row
  refine ⟨f, fd, okN F sc_standing (fun vs H Q E h => ?_) (fun cdv A outer s H vs Q E hr h => ?_), g, F.kp, F.binds fun _ _ _ _ _ _ us hl => match us, hl with | [_], _ => rfl⟩
  · rcases h with ⟨a, ns, rfl, hS, hR, k⟩ | ⟨a, ns, rfl, hS, hlen, hbad, kE⟩ <;> rfl
  ·
    have hr_asked_row : Room 1 _ := hr.mono (by decide)
    refine ⟨_, (pss_cons (ps_expr (pe_call G_asked_row hr_asked_row (by rfl) g_asked_row kp_asked_row bd_asked_row .nil (L2N.passes_call (E := E) (L2N.takes_of rfl rfl rfl rfl) (fun _ _ _ _ h => h)) (pa_cons (pv 0) pa_nil)))
        (pss_cons (ps_set (i := 1) sc_standing.nd rfl (Or.inl rfl) (pe_lst pa_nil))
        (pss_cons (ps_for (passes_of rfl) rfl (pi_range1 rfl T.b_range (pa_cons (pe_callB (r := rLenS K) call_lenS (by rfl) T.b_len PySem.boot_len (pa_cons (pv 0) pa_nil)) pa_nil)) (pg_name (i := 2) sc_standing.nd rfl (Or.inr rfl))
         (pss_cons (ps_set (i := 3) sc_standing.nd rfl (Or.inl rfl) (pe_callB (r := rLenS K) call_lenS (by rfl) T.b_len PySem.boot_len (pa_cons (pe_lc (own := [("volume", 5)]) (g := gName 5) (by rfl) sc_standing.nd (pi_list (pv 0)) (blkOk_by (own := [("volume", 5)]) (N := ["row", "found", "k", "less", "alike", "volume"]) (sc := defScope s_standing) (by decide +kernel)) (fun _ _ _ _ _ => pg_name (i := 5) sc_standing.nd rfl (Or.inl rfl)) (fun _ _ _ _ _ => (pts_one (pt_cmpR op_lt (pv 5) (pe_ix (r := rIxL K) ix_list (pv 0) (pv 2) (fun _ _ => rfl)) (nomark _)))) (fun _ _ _ _ _ => (pv 5))) pa_nil)))
         (pss_cons (ps_set (i := 4) sc_standing.nd rfl (Or.inl rfl) (pe_callB (r := rLenS K) call_lenS (by rfl) T.b_len PySem.boot_len (pa_cons (pe_lc (own := [("volume", 5)]) (g := gName 5) (by rfl) sc_standing.nd (pi_list (pe_slice (r := rSlL K) sl_list (pv 0) po_none (po_some (pv 2)))) (blkOk_by (own := [("volume", 5)]) (N := ["row", "found", "k", "less", "alike", "volume"]) (sc := defScope s_standing) (by decide +kernel)) (fun _ _ _ _ _ => pg_name (i := 5) sc_standing.nd rfl (Or.inl rfl)) (fun _ _ _ _ _ => (pts_one (pt_cmpR op_eq (pv 5) (pe_ix (r := rIxL K) ix_list (pv 0) (pv 2) (fun _ _ => rfl)) (nomark _)))) (fun _ _ _ _ _ => (pv 5))) pa_nil)))
         (pss_one (ps_expr (show PE _ _ (tBM K "list" rAppend _ (tCons _ tNil)) from pe_bm PySem.F.plainAttrs_list PySem.F.slot_list_append PySem.F.type_list_append mt_append (pv 1) (pa_cons (pe_op op_add (pv 3) (pv 4)) pa_nil)))))))
        (pss_one (ps_ret (pv 1)))))), ?_⟩
    rcases h with ⟨a, ns, rfl, hS, hR, k⟩ | ⟨a, ns, rfl, hS, hlen, hbad, kE⟩
    ·
      have O : Own H [] H := .start
      have hl := hR.1
      refine qDR O (ec_asked_row (ev_var rfl) hS hR) fun H1 O => ?_
      refine qAL O (el_lst ea_nil (Nat.zero_le _)) fun p H2 O => ?_
      refine qFR O (ea_cons (ev_lenI (ev_var rfl) (O.arg hS)) ea_nil) ⟨by omega, by omega⟩ (fun i σ' H' => ∃ (x y z u : Option V), σ' = [some (.ref a), some (.ref p), x, y, z, u] ∧ Own H [(p, il ((standL ns).take i))] H')
        (fun H3 O => ⟨none, none, none, none, rfl, O⟩) (fun i σ' H' hi hP => ?_) (fun σ' H' hP => ?_)
      · obtain ⟨x, y, z, u, rfl, O⟩ := hP
        have hi : i < ns.length := by omega
        refine qAS O (ev_is (ev_lenN (lcL (ns := ns) (fun y => decide (y < gt ns i)) V.int (ev_var rfl) (O.arg hS) (by omega) (fun x => rfl) (fun x _ H2 e => et_test (ev_op (ev_var rfl) (ev_ix (ev_var rfl) (ex_l e (O.arg hS)) (ev_var rfl) hi) rv_I0)) (fun x _ H2 e _ => ev_var rfl))) (w := .int (cLt ns (gt ns i) : Nat)) (by rw [List.length_map]; rfl)) fun H3 O => ?_
        refine qAS O (ev_is (ev_lenN (lcNL (ns := ns.take i) (fun y => decide (y = gt ns i)) V.int (sl_to (k := i) (ev_var rfl) (O.arg hS) (eo_some (ev_var rfl))) (by rw [List.length_take]; omega) (fun x => rfl) (fun x _ H2 e => et_test (ev_op (ev_var rfl) (ev_ix (ev_var rfl) (ex_l e (O.arg hS)) (ev_var rfl) hi) rv_eqI)) (fun x _ H2 e _ => ev_var rfl))) (w := .int (cEq (ns.take i) (gt ns i) : Nat)) (by rw [List.length_map]; rfl)) fun H4 O => ?_
        refine APP 0 O rfl (ev_var rfl) (ev_is (ev_op (ev_var rfl) (ev_var rfl) rv_I0) (w := .int (rk ns i : Nat)) (congrArg V.int (by rw [← stand_at ns i hi]; omega))) (by rw [List.length_map, List.length_take]; omega) fun H5 O => ⟨_, _, _, _, rfl, ?_⟩
        have e : (standL ns)[i]? = some (rk ns i : Int) := by rw [some_gt (by rw [stand_len]; exact hi), stand_gt ns hi]
        rw [List.take_add_one, e, il_append]
        exact O
      · obtain ⟨x, y, z, u, rfl, O⟩ := hP
        rw [Int.toNat_natCast, ← stand_len, List.take_length] at O
        exact RT O (ev_var rfl) fun H2 O => O.retL 0 rfl k
    ·
      exact qDC (.start : Own H [] H) (ea_cons (ev_var rfl) ea_nil) fun H1 O => Or.inr ⟨a, ns, rfl, O.arg hS, hlen, hbad, fun H2 e2 => kE H2 (O.ex.trans e2)⟩
/-! #### steps -/
def sp_steps0 (K : PySem.W.Frag) : Sp := fun vs H Q _ => ∃ (a : Addr) (ns : List Int), vs = [.ref a] ∧ SqL K H a (il ns) ∧ IsRow ns ∧ ∀ found, Steps ns found → RetL (il found) H Q
def sp_steps (K : PySem.W.Frag) (C : Nat → Addr) : Sp := fun vs H Q E => sp_steps0 K vs H Q E ∨ (∃ (a : Addr) (ns : List Int), vs = [.ref a] ∧ SqL K H a (il ns) ∧ ns.length ≤ 1000 ∧ ¬ IsRow ns ∧ ∀ H', Ex H H' → E (.ref (C 1)) none H')

theorem ok_steps (T : Bi K mg C) (h_asked_row : Has P w K mg base (L2N.CX P w) "asked_row" 1 ["row"] (sp_asked_row K C)) (df : Def K mg "steps" s_steps) : Has P w K mg base (L2N.CX P w) "steps" 2 ["row"] (sp_steps K C) := by
  obtain ⟨f, fd, F, g⟩ := df
  obtain ⟨f_asked_row, fd_asked_row, G_asked_row, g_asked_row, kp_asked_row, bd_asked_row⟩ := h_asked_row
  refine ⟨f, fd, okN F sc_steps (fun vs H Q E h => ?_) (fun cdv A outer s H vs Q E hr h => ?_), g, F.kp, F.binds fun _ _ _ _ _ _ us hl => match us, hl with | [_], _ => rfl⟩
  · rcases h with ⟨a, ns, rfl, hS, hR, k⟩ | ⟨a, ns, rfl, hS, hlen, hbad, kE⟩ <;> rfl
  ·
    have hr_asked_row : Room 1 _ := hr.mono (by decide)
    refine ⟨_, (pss_cons (ps_expr (pe_call G_asked_row hr_asked_row (by rfl) g_asked_row kp_asked_row bd_asked_row .nil (L2N.passes_call (E := E) (L2N.takes_of rfl rfl rfl rfl) (fun _ _ _ _ h => h)) (pa_cons (pv 0) pa_nil)))
        (pss_cons (ps_set (i := 1) sc_steps.nd rfl (Or.inl rfl) (pe_callTy (r := rListS K) call_listS (by rfl) T.b_list (by decide +kernel) (pa_cons (pv 0) pa_nil)))
        (pss_cons (ps_set (i := 2) sc_steps.nd rfl (Or.inl rfl) (pe_lst pa_nil))
        (pss_cons (ps_for (passes_of rfl) rfl (pi_range2 rfl T.b_range (pa_cons pe_int (pa_cons (pe_callB (r := rLenS K) call_lenS (by rfl) T.b_len PySem.boot_len (pa_cons (pv 1) pa_nil)) pa_nil))) (pg_name (i := 3) sc_steps.nd rfl (Or.inl rfl))
         (pss_cons (ps_set (i := 4) sc_steps.nd rfl (Or.inl rfl) (pv 3))
         (pss_one (ps_while (passes_of rfl) (PW.pt (pw_and (pt_cmpR op_gt (pv 4) pe_int (nomark _)) (pw_and1 (pt_cmpR op_gt (pe_ix (r := rIxL K) ix_list (pv 1) (pe_op op_sub (pv 4) pe_int) (fun _ _ => rfl)) (pe_ix (r := rIxL K) ix_list (pv 1) (pv 4) (fun _ _ => rfl)) (nomark _))))) (pss_cons (ps_set (i := 5) sc_steps.nd rfl (Or.inl rfl) (pe_ix (r := rIxL K) ix_list (pv 1) (pe_op op_sub (pv 4) pe_int) (fun _ _ => rfl)))
          (pss_cons (ps_asg (pe_ix (r := rIxL K) ix_list (pv 1) (pv 4) (fun _ _ => rfl)) (pg_sub (pv 1) (pe_op op_sub (pv 4) pe_int) set_list))
          (pss_cons (ps_asg (pv 5) (pg_sub (pv 1) (pv 4) set_list))
          (pss_cons (ps_expr (show PE _ _ (tBM K "list" rAppend _ (tCons _ tNil)) from pe_bm PySem.F.plainAttrs_list PySem.F.slot_list_append PySem.F.type_list_append mt_append (pv 2) (pa_cons (pv 4) pa_nil)))
          (pss_one (ps_set (i := 4) sc_steps.nd rfl (Or.inl rfl) (pe_op op_sub (pv 4) pe_int)))))))))))
        (pss_one (ps_ret (pv 2))))))), ?_⟩
    rcases h with ⟨a, ns, rfl, hS, hR, k⟩ | ⟨a, ns, rfl, hS, hlen, hbad, kE⟩
    ·
      have O : Own H [] H := .start
      have hl := hR.1
      refine qDR O (ec_asked_row (ev_var rfl) hS hR) fun H1 O => ?_
      refine qAL O (el_list (ev_var rfl) (O.arg hS)) fun p H2 O => ?_
      refine qAL O (el_lst ea_nil (Nat.zero_le _)) fun q H3 O => ?_
      refine qFR2 O (ea_cons ev_c (ea_cons (ev_lenI (ev_var rfl) (O.seq 1 rfl)) ea_nil)) ⟨by omega, by omega, by omega, by omega⟩
        (fun i σ' H' => ∃ (left found : List Int) (x y z : Option V), σ' = [some (.ref a), some (.ref p), some (.ref q), x, y, z] ∧ StInv ns left found ∧ Upto left (1 + i) ∧ Own H [(q, il found), (p, il left)] H')
        (fun H4 O => ⟨ns, [], none, none, none, rfl, .start ns, fun i j h1 h2 => by omega, O⟩) (fun i σ' H' hi hP => ?_) (fun σ' H' hP => ?_)
      · obtain ⟨left, found, x, y, z, rfl, hI, hU, O⟩ := hP
        have hi : 1 + i < ns.length := by omega
        refine qAS O (ev_is (ev_var rfl) (w := .int ((1 + i : Nat) : Int)) (congrArg V.int (by omega))) fun H4 O => ?_
        refine s_while (fun m σ' H' => ∃ (left found : List Int) (z : Option V), m ≤ 1 + i ∧ σ' = [some (.ref a), some (.ref p), some (.ref q), some (.int (1 + (i : Int))), some (.int (m : Int)), z] ∧ StInv ns left found ∧ Hole left m (1 + i) ∧ Own H [(q, il found), (p, il left)] H')
          (1 + i) ⟨left, found, z, Nat.le_refl _, rfl, hI, hU.hole, O⟩ ?_
        rintro m σ' H' ⟨left, found, z, hm, rfl, hI, hH, O⟩
        have hll := hI.len
        have hin := hI.num
        have hiv := inv_le ns
        have hsq : ns.length * ns.length ≤ 12 * 12 := Nat.mul_le_mul hl hl
        have hp := O.seq (K := K) 1 rfl
        refine ⟨decide (0 < (m : Int)) && decide (gt left m < gt left (m - 1)), et_and (et_test (ev_op (ev_var rfl) ev_c rv_I0)) (fun hb => et_test (ev_op (ev_ixn (m - 1) (ev_var rfl) hp (ev_op (ev_var rfl) ev_c rv_I0) (by have := of_decide_eq_true hb; omega) (by omega)) (ev_ix (ev_var rfl) hp (ev_var rfl) (by omega)) rv_I0)), fun hb H5 e5 => ?_, fun hb H5 e5 => ?_⟩
        · rw [Bool.and_eq_true, decide_eq_true_eq, decide_eq_true_eq] at hb
          have hm1 : 1 ≤ m := by omega
          have O := O.mono e5
          have hp := O.seq (K := K) 1 rfl
          refine ⟨fun σ' H' => ∃ (left found : List Int) (z : Option V), σ' = [some (.ref a), some (.ref p), some (.ref q), some (.int (1 + (i : Int))), some (.int ((m - 1 : Nat) : Int)), z] ∧ StInv ns left found ∧ Hole left (m - 1) (1 + i) ∧ Own H [(q, il found), (p, il left)] H', ?_, ?_⟩
          · rintro σ2 H6 ⟨l2, f2, z2, e2, r⟩
            exact ⟨m - 1, by omega, l2, f2, z2, by omega, e2, r⟩
          refine qAS O (ev_ixn (m - 1) (ev_var rfl) hp (ev_op (ev_var rfl) ev_c rv_I0) (by omega) (by omega)) fun H6 O => ?_
          refine qSET 1 (m - 1) O rfl (ev_ix (ev_var rfl) (O.seq 1 rfl) (ev_var rfl) (by omega)) (ev_var rfl) (ev_is (ev_op (ev_var rfl) ev_c rv_I0) (congrArg V.int (by omega))) (by rw [List.length_map]; omega) fun H7 O => ?_
          refine qSET 1 m O rfl (ev_var rfl) (ev_var rfl) (ev_var rfl) (by rw [List.length_set, List.length_map]; omega) fun H8 O => ?_
          have O : Own H [(q, il found), (p, il (swapAt left m))] H8 := by
            unfold swapAt
            rw [← gtl, ← gtl]
            exact O
          refine qAPP 0 O rfl (ev_var rfl) (ev_var rfl) (by rw [List.length_map]; omega) fun H9 O => ?_
          refine AS O (ev_is (ev_op (ev_var rfl) ev_c rv_I0) (w := .int ((m - 1 : Nat) : Int)) (congrArg V.int (by omega))) fun H10 O => ?_
          refine ⟨swapAt left m, found ++ [(m : Int)], _, rfl, hI.step (by omega) hm1 hb.2, hH.step hm1 hm (by omega) hb.2, ?_⟩
          rw [il_append]
          exact O
        · refine ⟨left, found, _, _, _, rfl, hI, ?_, O.mono e5⟩
          have := hH.done hm (by
            rw [Bool.and_eq_false_iff, decide_eq_false_iff_not, decide_eq_false_iff_not] at hb
            omega)
          rw [show 1 + (i + 1) = 1 + i + 1 by omega]
          exact this
      · obtain ⟨left, found, x, y, z, rfl, hI, hU, O⟩ := hP
        refine RT O (ev_var rfl) fun H4 O => O.retL 0 rfl (k found (hI.done fun i j h1 h2 => hU i j h1 (by omega)))
    ·
      exact qDC (.start : Own H [] H) (ea_cons (ev_var rfl) ea_nil) fun H1 O => Or.inr ⟨a, ns, rfl, O.arg hS, hlen, hbad, fun H2 e2 => kE H2 (O.ex.trans e2)⟩
/-! #### swapped -/
def sp_swapped0 (K : PySem.W.Frag) : Sp := fun vs H Q _ => ∃ (a c : Addr) (ns ps : List Int), vs = [.ref a, .ref c] ∧ SqL K H a (il ns) ∧ SqL K H c (il ps) ∧ IsRow ns ∧ (∀ p, p ∈ ps → 1 ≤ p ∧ p < ns.length) ∧ RetL (il (swapAll ns ps)) H Q
def sp_swapped (K : PySem.W.Frag) (C : Nat → Addr) : Sp := fun vs H Q E => sp_swapped0 K vs H Q E ∨ (∃ (a c : Addr) (ns ps : List Int), vs = [.ref a, .ref c] ∧ SqL K H a (il ns) ∧ ns.length ≤ 1000 ∧ ¬ IsRow ns ∧ ∀ H', Ex H H' → E (.ref (C 1)) none H')
theorem el_swapped {σ : L2.St} {H : Hp} {ta tb : TE} {a c : Addr} {ns ps : List Int} {E : XK} (h1 : Ev ta σ H (.ref a)) (h2 : Ev tb σ H (.ref c)) (hx : SqL K H a (il ns)) (hp : SqL K H c (il ps)) (hr : IsRow ns) (hps : ∀ p, p ∈ ps → 1 ≤ p ∧ p < ns.length) : EvL (tCall (sp_swapped K C) [] E (tCons ta (tCons tb tNil))) σ H (il (swapAll ns ps)) :=
  el_call (ea_cons h1 (ea_cons h2 ea_nil)) fun H1 e Q q _ => Or.inl ⟨a, c, ns, ps, rfl, ex_l e hx, ex_l e hp, hr, hps, q⟩
theorem ok_swapped (T : Bi K mg C) (h_asked_row : Has P w K mg base (L2N.CX P w) "asked_row" 1 ["row"] (sp_asked_row K C)) (df : Def K mg "swapped" s_swapped) : Has P w K mg base (L2N.CX P w) "swapped" 2 ["row", "places"] (sp_swapped K C) := by
  obtain ⟨f, fd, F, g⟩ := df
  obtain ⟨f_asked_row, fd_asked_row, G_asked_row, g_asked_row, kp_asked_row, bd_asked_row⟩ := h_asked_row
  refine ⟨f, fd, okN F sc_swapped (fun vs H Q E h => ?_) (fun cdv A outer s H vs Q E hr h => ?_), g, F.kp, F.binds fun _ _ _ _ _ _ us hl => match us, hl with | [_, _], _ => rfl⟩
  · rcases h with ⟨a, c, ns, ps, rfl, hS, hP, hR, hps, k⟩ | ⟨a, c, ns, ps, rfl, hS, hlen, hbad, kE⟩ <;> rfl
  ·
    have hr_asked_row : Room 1 _ := hr.mono (by decide)
    refine ⟨_, (pss_cons (ps_expr (pe_call G_asked_row hr_asked_row (by rfl) g_asked_row kp_asked_row bd_asked_row .nil (L2N.passes_call (E := E) (L2N.takes_of rfl rfl rfl rfl) (fun _ _ _ _ h => h)) (pa_cons (pv 0) pa_nil)))
        (pss_cons (ps_set (i := 2) sc_swapped.nd rfl (Or.inl rfl) (pe_callTy (r := rListS K) call_listS (by rfl) T.b_list (by decide +kernel) (pa_cons (pv 0) pa_nil)))
        (pss_cons (ps_for (passes_of rfl) rfl (pi_list (pv 1)) (pg_name (i := 3) sc_swapped.nd rfl (Or.inl rfl))
         (pss_cons (ps_if (pt_not (pt_chain op_le op_lt pe_int (pv 3) (pe_callB (r := rLenS K) call_lenS (by rfl) T.b_len PySem.boot_len (pa_cons (pv 2) pa_nil)))) (pss_one ps_never) pss_nil)
         (pss_cons (ps_set (i := 4) sc_swapped.nd rfl (Or.inl rfl) (pe_ix (r := rIxL K) ix_list (pv 2) (pe_op op_sub (pv 3) pe_int) (fun _ _ => rfl)))
         (pss_cons (ps_asg (pe_ix (r := rIxL K) ix_list (pv 2) (pv 3) (fun _ _ => rfl)) (pg_sub (pv 2) (pe_op op_sub (pv 3) pe_int) set_list))
         (pss_one (ps_asg (pv 4) (pg_sub (pv 2) (pv 3) set_list)))))))
        (pss_one (ps_ret (pv 2)))))), ?_⟩
    rcases h with ⟨a, c, ns, ps, rfl, hS, hP, hR, hps, k⟩ | ⟨a, c, ns, ps, rfl, hS, hlen, hbad, kE⟩
    ·
      have O : Own H [] H := .start
      have hl := hR.1
      refine qDR O (ec_asked_row (ev_var rfl) hS hR) fun H1 O => ?_
      refine qAL O (el_list (ev_var rfl) (O.arg hS)) fun f H2 O => ?_
      refine qFL O (ev_var rfl) (O.arg hP) (fun i σ' H' => ∃ x y : Option V, σ' = [some (.ref a), some (.ref c), some (.ref f), x, y] ∧ Own H [(f, il (swapAll ns (ps.take i)))] H') (fun H2 O => ⟨none, none, rfl, O⟩) (fun i σ' H' hPv => by obtain ⟨x, y, _, O⟩ := hPv; exact O.arg hP) (fun i x σ' H' hx hPv => ?_) (fun σ' H' hPv => ?_)
      · obtain ⟨y, z, rfl, O⟩ := hPv
        have hv := hps x (List.mem_of_getElem? hx)
        have hsl := swapAll_len ns (ps.take i)
        obtain ⟨m, rfl⟩ : ∃ m : Nat, x = (m : Int) := ⟨x.toNat, (Int.toNat_of_nonneg (by omega)).symm⟩
        have hnext : swapAll ns (ps.take (i + 1)) = swapAt (swapAll ns (ps.take i)) m := by
          rw [show ps.take (i + 1) = ps.take i ++ [(m : Int)] by rw [List.take_add_one, hx]; rfl, swapAll_snoc, Int.toNat_natCast]
        rw [hnext]
        generalize swapAll ns (ps.take i) = left at *
        refine qWH O (et_not (et_test (ev_chain ev_c (ev_var rfl) rv_I0 (ev_lenI (ev_var rfl) (O.seq 0 rfl)) rv_I0))) (fun hb H3 O => ?_) (fun hb H3 O => ?_)
        · rw [decide_eq_true (show (1 : Int) ≤ (m : Int) by omega), decide_eq_true (show (m : Int) < (left.length : Int) by omega)] at hb
          cases hb
        · refine qAS O (ev_ixn (m - 1) (ev_var rfl) (O.seq 0 rfl) (ev_op (ev_var rfl) ev_c rv_I0) (by omega) (by omega)) fun H6 O => ?_
          refine qSET 0 (m - 1) O rfl (ev_ix (ev_var rfl) (O.seq 0 rfl) (ev_var rfl) (by omega)) (ev_var rfl) (ev_is (ev_op (ev_var rfl) ev_c rv_I0) (congrArg V.int (by omega))) (by rw [List.length_map]; omega) fun H7 O => ?_
          refine SET 0 m O rfl (ev_var rfl) (ev_var rfl) (ev_var rfl) (by rw [List.length_set, List.length_map]; omega) fun H8 O => ⟨_, _, rfl, ?_⟩
          unfold swapAt
          rw [← gtl, ← gtl]
          exact O
      · obtain ⟨x, y, rfl, O⟩ := hPv
        rw [List.take_length] at O
        exact RT O (ev_var rfl) fun H4 O => O.retL 0 rfl k
    ·
      exact qDC (.start : Own H [] H) (ea_cons (ev_var rfl) ea_nil) fun H1 O => Or.inr ⟨a, ns, rfl, O.arg hS, hlen, hbad, fun H2 e2 => kE H2 (O.ex.trans e2)⟩
/-! #### code_of -/
def sp_code_of0 (K : PySem.W.Frag) : Sp := fun vs H Q _ => ∃ (a : Addr) (ns : List Int), vs = [.ref a] ∧ SqL K H a (il ns) ∧ IsRow ns ∧ RetL (il (lessB ns)) H Q
def sp_code_of (K : PySem.W.Frag) (C : Nat → Addr) : Sp := fun vs H Q E => sp_code_of0 K vs H Q E ∨ (∃ (a : Addr) (ns : List Int), vs = [.ref a] ∧ SqL K H a (il ns) ∧ ns.length ≤ 1000 ∧ ¬ IsRow ns ∧ ∀ H', Ex H H' → E (.ref (C 1)) none H')
theorem el_code_of {σ : L2.St} {H : Hp} {ta : TE} {a : Addr} {ns : List Int} {E : XK} (h1 : Ev ta σ H (.ref a)) (hx : SqL K H a (il ns)) (hr : IsRow ns) : EvL (tCall (sp_code_of K C) [] E (tCons ta tNil)) σ H (il (lessB ns)) :=
  el_call (ea_cons h1 ea_nil) fun H1 e Q q _ => Or.inl ⟨a, ns, rfl, ex_l e hx, hr, q⟩
theorem ok_code_of (T : Bi K mg C) (h_asked_row : Has P w K mg base (L2N.CX P w) "asked_row" 1 ["row"] (sp_asked_row K C)) (h_less_behind : Has P w K mg base CX0 "less_behind" 1 ["row"] (sp_less_behind K)) (df : Def K mg "code_of" s_code_of) : Has P w K mg base (L2N.CX P w) "code_of" 2 ["row"] (sp_code_of K C) := by
  obtain ⟨f, fd, F, g⟩ := df
  obtain ⟨f_asked_row, fd_asked_row, G_asked_row, g_asked_row, kp_asked_row, bd_asked_row⟩ := h_asked_row
  obtain ⟨f_less_behind, fd_less_behind, G_less_behind, g_less_behind, kp_less_behind, bd_less_behind⟩ := h_less_behind
  refine ⟨f, fd, okN F sc_code_of (fun vs H Q E h => ?_) (fun cdv A outer s H vs Q E hr h => ?_), g, F.kp, F.binds fun _ _ _ _ _ _ us hl => match us, hl with | [_], _ => rfl⟩
  · rcases h with ⟨a, ns, rfl, hS, hR, k⟩ | ⟨a, ns, rfl, hS, hlen, hbad, kE⟩ <;> rfl
  ·
    have hr_asked_row : Room 1 _ := hr.mono (by decide)
    have hr_less_behind : Room 1 _ := hr.mono (by decide)
    refine ⟨_, (pss_cons (ps_expr (pe_call G_asked_row hr_asked_row (by rfl) g_asked_row kp_asked_row bd_asked_row .nil (L2N.passes_call (E := E) (L2N.takes_of rfl rfl rfl rfl) (fun _ _ _ _ h => h)) (pa_cons (pv 0) pa_nil)))
        (pss_one (ps_ret (pe_call G_less_behind hr_less_behind (by rfl) g_less_behind kp_less_behind bd_less_behind .nil pass0 (pa_cons (pv 0) pa_nil))))), ?_⟩
    rcases h with ⟨a, ns, rfl, hS, hR, k⟩ | ⟨a, ns, rfl, hS, hlen, hbad, kE⟩
    ·
      have O : Own H [] H := .start
      have hl := hR.1
      refine qDR O (ec_asked_row (ev_var rfl) hS hR) fun H1 O => ?_
      exact RTL O (el_less_behind (ev_var rfl) (O.arg hS) (by omega)) fun p H2 O => O.retL 0 rfl k
    ·
      exact qDC (.start : Own H [] H) (ea_cons (ev_var rfl) ea_nil) fun H1 O => Or.inr ⟨a, ns, rfl, O.arg hS, hlen, hbad, fun H2 e2 => kE H2 (O.ex.trans e2)⟩
/-! #### _law_first -/
def sp_law_first0 (K : PySem.W.Frag) : Sp := fun vs H Q _ => ∃ (t : Int) (a : Addr) (ns : List Int), vs = [.int t, .ref a] ∧ SqL K H a (il ns) ∧ IsRow ns ∧ ∀ v H', Ex H H' → Q v H'
def sp_law_first (K : PySem.W.Frag) (C : Nat → Addr) : Sp := fun vs H Q E => sp_law_first0 K vs H Q E ∨ (∃ (t : Int) (a : Addr) (ns : List Int), vs = [.int t, .ref a] ∧ SqL K H a (il ns) ∧ ns.length ≤ 1000 ∧ ¬ IsRow ns ∧ ∀ H', Ex H H' → E (.ref (C 1)) none H')

theorem ok_law_first (T : Bi K mg C) (h_pairs_out : Has P w K mg base (L2N.CX P w) "pairs_out" 2 ["row"] (sp_pairs_out K C)) (h_falls : Has P w K mg base (L2N.CX P w) "falls" 2 ["row"] (sp_falls K C)) (h_fall_sum : Has P w K mg base (L2N.CX P w) "fall_sum" 3 ["row"] (sp_fall_sum K C)) (h_standing : Has P w K mg base (L2N.CX P w) "standing" 2 ["row"] (sp_standing K C)) (h_steps : Has P w K mg base (L2N.CX P w) "steps" 2 ["row"] (sp_steps K C)) (h_swapped : Has P w K mg base (L2N.CX P w) "swapped" 2 ["row", "places"] (sp_swapped K C)) (h_code_of : Has P w K mg base (L2N.CX P w) "code_of" 2 ["row"] (sp_code_of K C)) (df : Def K mg "_law_first" s_law_first) : Has P w K mg base (L2N.CX P w) "_law_first" 4 ["turn", "row"] (sp_law_first K C) := by
  obtain ⟨f, fd, F, g⟩ := df
  obtain ⟨f_pairs_out, fd_pairs_out, G_pairs_out, g_pairs_out, kp_pairs_out, bd_pairs_out⟩ := h_pairs_out
  obtain ⟨f_falls, fd_falls, G_falls, g_falls, kp_falls, bd_falls⟩ := h_falls
  obtain ⟨f_fall_sum, fd_fall_sum, G_fall_sum, g_fall_sum, kp_fall_sum, bd_fall_sum⟩ := h_fall_sum
  obtain ⟨f_standing, fd_standing, G_standing, g_standing, kp_standing, bd_standing⟩ := h_standing
  obtain ⟨f_steps, fd_steps, G_steps, g_steps, kp_steps, bd_steps⟩ := h_steps
  obtain ⟨f_swapped, fd_swapped, G_swapped, g_swapped, kp_swapped, bd_swapped⟩ := h_swapped
  obtain ⟨f_code_of, fd_code_of, G_code_of, g_code_of, kp_code_of, bd_code_of⟩ := h_code_of
  refine ⟨f, fd, okN F sc_law_first (fun vs H Q E h => ?_) (fun cdv A outer s H vs Q E hr h => ?_), g, F.kp, F.binds fun _ _ _ _ _ _ us hl => match us, hl with | [_, _], _ => rfl⟩
  · rcases h with ⟨t, a, ns, rfl, hS, hR, k⟩ | ⟨t, a, ns, rfl, hS, hlen, hbad, kE⟩ <;> rfl
  ·
    have hr_pairs_out : Room 2 _ := hr.mono (by decide)
    have hr_falls : Room 2 _ := hr.mono (by decide)
    have hr_fall_sum : Room 3 _ := hr.mono (by decide)
    have hr_standing : Room 2 _ := hr.mono (by decide)
    have hr_steps : Room 2 _ := hr.mono (by decide)
    have hr_swapped : Room 2 _ := hr.mono (by decide)
    have hr_code_of : Room 2 _ := hr.mono (by decide)
    refine ⟨_, (pss_cons (ps_if (pt_cmpR op_eq (pv 0) pe_int (nomark _)) (pss_one (ps_ret (pe_call G_pairs_out hr_pairs_out (by rfl) g_pairs_out kp_pairs_out bd_pairs_out .nil (L2N.passes_call (E := E) (L2N.takes_of rfl rfl rfl rfl) (fun _ _ _ _ h => h)) (pa_cons (pv 1) pa_nil)))) pss_nil)
        (pss_cons (ps_if (pt_cmpR op_eq (pv 0) pe_int (nomark _)) (pss_one (ps_ret (pe_call G_falls hr_falls (by rfl) g_falls kp_falls bd_falls .nil (L2N.passes_call (E := E) (L2N.takes_of rfl rfl rfl rfl) (fun _ _ _ _ h => h)) (pa_cons (pv 1) pa_nil)))) pss_nil)
        (pss_cons (ps_if (pt_cmpR op_eq (pv 0) pe_int (nomark _)) (pss_one (ps_ret (pe_call G_fall_sum hr_fall_sum (by rfl) g_fall_sum kp_fall_sum bd_fall_sum .nil (L2N.passes_call (E := E) (L2N.takes_of rfl rfl rfl rfl) (fun _ _ _ _ h => h)) (pa_cons (pv 1) pa_nil)))) pss_nil)
        (pss_cons (ps_if (pt_cmpR op_eq (pv 0) pe_int (nomark _)) (pss_one (ps_ret (pe_call G_standing hr_standing (by rfl) g_standing kp_standing bd_standing .nil (L2N.passes_call (E := E) (L2N.takes_of rfl rfl rfl rfl) (fun _ _ _ _ h => h)) (pa_cons (pv 1) pa_nil)))) pss_nil)
        (pss_cons (ps_if (pt_cmpR op_eq (pv 0) pe_int (nomark _)) (pss_one (ps_ret (pe_call G_steps hr_steps (by rfl) g_steps kp_steps bd_steps .nil (L2N.passes_call (E := E) (L2N.takes_of rfl rfl rfl rfl) (fun _ _ _ _ h => h)) (pa_cons (pv 1) pa_nil)))) pss_nil)
        (pss_cons (ps_if (pt_cmpR op_eq (pv 0) pe_int (nomark _)) (pss_one (ps_ret (pe_call G_swapped hr_swapped (by rfl) g_swapped kp_swapped bd_swapped .nil (L2N.passes_call (E := E) (L2N.takes_of rfl rfl rfl rfl) (fun _ _ _ _ h => h)) (pa_cons (pv 1) (pa_cons (pe_lst pa_nil) pa_nil))))) pss_nil)
        (pss_one (ps_ret (pe_call G_code_of hr_code_of (by rfl) g_code_of kp_code_of bd_code_of .nil (L2N.passes_call (E := E) (L2N.takes_of rfl rfl rfl rfl) (fun _ _ _ _ h => h)) (pa_cons (pv 1) pa_nil)))))))))), ?_⟩
    rcases h with ⟨t, a, ns, rfl, hS, hR, k⟩ | ⟨t, a, ns, rfl, hS, hlen, hbad, kE⟩
    ·
      have O : Own H [] H := .start
      refine qWH O (et_test (ev_op (ev_var rfl) ev_c rv_eqI)) (fun _ H1 O => RTC O (ea_cons (ev_var rfl) ea_nil) fun H2 O => Or.inl ⟨a, ns, rfl, O.arg hS, hR, fun H3 e3 => k _ H3 (O.ex.trans e3)⟩) (fun _ H1 O => ?_)
      refine qWH O (et_test (ev_op (ev_var rfl) ev_c rv_eqI)) (fun _ H1 O => RTC O (ea_cons (ev_var rfl) ea_nil) fun H2 O => Or.inl ⟨a, ns, rfl, O.arg hS, hR, fun p H3 _ e3 _ => k _ H3 (O.ex.trans e3)⟩) (fun _ H1 O => ?_)
      refine qWH O (et_test (ev_op (ev_var rfl) ev_c rv_eqI)) (fun _ H1 O => RTC O (ea_cons (ev_var rfl) ea_nil) fun H2 O => Or.inl ⟨a, ns, rfl, O.arg hS, hR, fun H3 e3 => k _ H3 (O.ex.trans e3)⟩) (fun _ H1 O => ?_)
      refine qWH O (et_test (ev_op (ev_var rfl) ev_c rv_eqI)) (fun _ H1 O => RTC O (ea_cons (ev_var rfl) ea_nil) fun H2 O => Or.inl ⟨a, ns, rfl, O.arg hS, hR, fun p H3 _ e3 _ => k _ H3 (O.ex.trans e3)⟩) (fun _ H1 O => ?_)
      refine qWH O (et_test (ev_op (ev_var rfl) ev_c rv_eqI)) (fun _ H1 O => RTC O (ea_cons (ev_var rfl) ea_nil) fun H2 O => Or.inl ⟨a, ns, rfl, O.arg hS, hR, fun _ _ p H3 _ e3 _ => k _ H3 (O.ex.trans e3)⟩) (fun _ H1 O => ?_)
      refine qWH O (et_test (ev_op (ev_var rfl) ev_c rv_eqI)) (fun _ H1 O => RTCN (xs := []) O (ev_var rfl) (el_lst ea_nil (Nat.zero_le _)) fun q H2 O => Or.inl ⟨a, q, ns, [], rfl, O.arg hS, O.seq 0 rfl, hR, (fun p hp => by cases hp), fun p H3 _ e3 _ => k _ H3 (O.ex.trans e3)⟩) (fun _ H1 O => ?_)
      exact RTC O (ea_cons (ev_var rfl) ea_nil) fun H2 O => Or.inl ⟨a, ns, rfl, O.arg hS, hR, fun p H3 _ e3 _ => k _ H3 (O.ex.trans e3)⟩
    ·
      have O : Own H [] H := .start
      refine qWH O (et_test (ev_op (ev_var rfl) ev_c rv_eqI)) (fun _ H1 O => RTC O (ea_cons (ev_var rfl) ea_nil) fun H2 O => Or.inr ⟨a, ns, rfl, O.arg hS, hlen, hbad, fun H3 e3 => kE H3 (O.ex.trans e3)⟩) (fun _ H1 O => ?_)
      refine qWH O (et_test (ev_op (ev_var rfl) ev_c rv_eqI)) (fun _ H1 O => RTC O (ea_cons (ev_var rfl) ea_nil) fun H2 O => Or.inr ⟨a, ns, rfl, O.arg hS, hlen, hbad, fun H3 e3 => kE H3 (O.ex.trans e3)⟩) (fun _ H1 O => ?_)
      refine qWH O (et_test (ev_op (ev_var rfl) ev_c rv_eqI)) (fun _ H1 O => RTC O (ea_cons (ev_var rfl) ea_nil) fun H2 O => Or.inr ⟨a, ns, rfl, O.arg hS, hlen, hbad, fun H3 e3 => kE H3 (O.ex.trans e3)⟩) (fun _ H1 O => ?_)
      refine qWH O (et_test (ev_op (ev_var rfl) ev_c rv_eqI)) (fun _ H1 O => RTC O (ea_cons (ev_var rfl) ea_nil) fun H2 O => Or.inr ⟨a, ns, rfl, O.arg hS, hlen, hbad, fun H3 e3 => kE H3 (O.ex.trans e3)⟩) (fun _ H1 O => ?_)
      refine qWH O (et_test (ev_op (ev_var rfl) ev_c rv_eqI)) (fun _ H1 O => RTC O (ea_cons (ev_var rfl) ea_nil) fun H2 O => Or.inr ⟨a, ns, rfl, O.arg hS, hlen, hbad, fun H3 e3 => kE H3 (O.ex.trans e3)⟩) (fun _ H1 O => ?_)
      refine qWH O (et_test (ev_op (ev_var rfl) ev_c rv_eqI)) (fun _ H1 O => RTCN (xs := []) O (ev_var rfl) (el_lst ea_nil (Nat.zero_le _)) fun q H2 O => Or.inr ⟨a, q, ns, [], rfl, O.arg hS, hlen, hbad, fun H3 e3 => kE H3 (O.ex.trans e3)⟩) (fun _ H1 O => ?_)
      exact RTC O (ea_cons (ev_var rfl) ea_nil) fun H2 O => Or.inr ⟨a, ns, rfl, O.arg hS, hlen, hbad, fun H3 e3 => kE H3 (O.ex.trans e3)⟩
/-! #### stands -/
def sp_stands (_ : PySem.W.Frag) : Sp := fun vs H Q _ => ∃ (v x : Int) (b : Bool), vs = [.int v, .int x, .bl b] ∧ RetV (.bl (kd x b v)) H Q
theorem ec_stands {σ : L2.St} {H : Hp} {ta tb tc : TE} {v x : Int} {b : Bool} {E : XK} (h1 : Ev ta σ H (.int v)) (h2 : Ev tb σ H (.int x)) (h3 : Ev tc σ H (.bl b)) : Ev (tCall (sp_stands K) [] E (tCons ta (tCons tb (tCons tc tNil)))) σ H (.bl (kd x b v)) :=
  ev_call (ea_cons h1 (ea_cons h2 (ea_cons h3 ea_nil))) fun H1 e Q q _ => ⟨v, x, b, rfl, q⟩
theorem ok_stands (T : Bi K mg C) (df : Def K mg "stands" s_stands) : Has P w K mg base CX0 "stands" 1 ["volume", "last", "least"] (sp_stands K) := by
  obtain ⟨f, fd, F, g⟩ := df
  refine ⟨f, fd, F.ok sc_stands (fun vs H Q E h => ?_) (fun cdv A outer s H vs Q E hr h => ?_), g, F.kp, F.binds fun _ _ _ _ _ _ us hl => match us, hl with | [_, _, _], _ => rfl⟩
  · obtain ⟨v, x, b, rfl, k⟩ := h; rfl
  · obtain ⟨v, x, b, rfl, k⟩ := h
    refine ⟨_, (pss_cons (ps_if (pt_val (pv 2)) (pss_one (ps_ret (pe_cmpR op_le (pv 0) (pv 1) (nomark _)))) pss_nil)
        (pss_one (ps_ret (pe_cmpR op_gt (pv 0) (pv 1) (nomark _))))), ?_⟩
    have O : Own H [] H := .start
    refine qWH O (et_B (ev_var rfl)) (fun hb H1 O => ?_) (fun hb H1 O => ?_)
    · subst hb
      exact RT O (ev_op (ev_var rfl) (ev_var rfl) rv_I0) fun H2 O => O.ret k
    · subst hb
      exact RT O (ev_op (ev_var rfl) (ev_var rfl) rv_I0) fun H2 O => O.ret k
/-! #### pieces_ended -/
def sp_pieces_ended (K : PySem.W.Frag) : Sp := fun vs H Q _ => ∃ (a : Addr) (ns : List Int) (x : Int), vs = [.ref a, .int x] ∧ SqL K H a (il ns) ∧ 0 < ns.length ∧ ns.length ≤ 12 ∧ RetP (cutE (kd x (decide (lst ns ≤ x))) [] ns) H Q
theorem ok_pieces_ended (T : Bi K mg C) (h_stands : Has P w K mg base CX0 "stands" 1 ["volume", "last", "least"] (sp_stands K)) (df : Def K mg "pieces_ended" s_pieces_ended) : Has P w K mg base CX0 "pieces_ended" 2 ["row", "last"] (sp_pieces_ended K) := by
  obtain ⟨f, fd, F, g⟩ := df
  obtain ⟨f_stands, fd_stands, G_stands, g_stands, kp_stands, bd_stands⟩ := h_stands
  refine ⟨f, fd, F.ok sc_pieces_ended (fun vs H Q E h => ?_) (fun cdv A outer s H vs Q E hr h => ?_), g, F.kp, F.binds fun _ _ _ _ _ _ us hl => match us, hl with | [_, _], _ => rfl⟩
  · obtain ⟨a, ns, x, rfl, hS, hpos, hlen, k⟩ := h; rfl
  · obtain ⟨a, ns, x, rfl, hS, hpos, hlen, k⟩ := h
    have hr_stands : Room 1 _ := hr.mono (by decide)
    refine ⟨_, (pss_cons (ps_set (i := 2) sc_pieces_ended.nd rfl (Or.inl rfl) (pe_cmpR op_le (pe_ix (r := rIxL K) ix_list (pv 0) (pe_un un_neg pe_int) (fun _ _ => rfl)) (pv 1) (nomark _)))
        (pss_cons (ps_set (i := 3) sc_pieces_ended.nd rfl (Or.inl rfl) (pe_lst (pa_cons (pe_lst pa_nil) pa_nil)))
        (pss_cons (ps_for PassesOwn.never rfl (pi_list (pv 0)) (pg_name (i := 4) sc_pieces_ended.nd rfl (Or.inl rfl))
         (pss_cons (ps_expr (show PE _ _ (tBM K "list" rAppend _ (tCons _ tNil)) from pe_bm PySem.F.plainAttrs_list PySem.F.slot_list_append PySem.F.type_list_append mt_append (pe_ix (r := rIxL K) ix_list (pv 3) (pe_un un_neg pe_int) (fun _ _ => rfl)) (pa_cons (pv 4) pa_nil)))
         (pss_one (ps_if (pt_val (pe_call G_stands hr_stands (by rfl) g_stands kp_stands bd_stands .nil pass0 (pa_cons (pv 4) (pa_cons (pv 1) (pa_cons (pv 2) pa_nil))))) (pss_one (ps_expr (show PE _ _ (tBM K "list" rAppend _ (tCons _ tNil)) from pe_bm PySem.F.plainAttrs_list PySem.F.slot_list_append PySem.F.type_list_append mt_append (pv 3) (pa_cons (pe_lst pa_nil) pa_nil)))) pss_nil))))
        (pss_one (ps_ret (pe_slice (r := rSlL K) sl_list (pv 3) po_none (po_some (pe_un un_neg pe_int)))))))), ?_⟩
    have O : Own H [] H := .start
    refine qAS O (ev_op (ev_last (ev_var rfl) hS (ev_un ev_c ru_neg) hpos) (ev_var rfl) rv_I0) fun H1 O => ?_
    refine qALL O (el_lst ea_nil (Nat.zero_le _)) fun p qc H2 O => ?_
    have hk := kd_last ns x
    obtain ⟨b, hb⟩ : ∃ b, decide (lst ns ≤ x) = b := ⟨_, rfl⟩
    have hb2 : decide (gt ns (ns.length - 1) ≤ x) = b := hb
    rw [hb] at hk k
    rw [hb2]
    refine qFL O (ev_var rfl) (O.arg hS) (fun i σ' H' => ∃ (Dn : List (Addr × List Int)) (cur : List Int) (qc : Addr) (y : Option V), σ' = [some (.ref a), some (.int x), some (.bl b), some (.ref p), y] ∧ cutE (kd x b) [] ns = Dn.map (·.2) ++ cutE (kd x b) cur (ns.drop i) ∧
        Dn.length ≤ i ∧ cur.length ≤ i ∧ (0 < i → kd x b (gt ns (i - 1)) = true → cur = []) ∧ Own H ((p, Dr Dn ++ [.ref qc]) :: (qc, il cur) :: Dm Dn) H')
      (fun H3 O => ⟨[], [], qc, none, rfl, rfl, Nat.le_refl _, Nat.le_refl _, fun h => absurd h (Nat.lt_irrefl _), O⟩) (fun i σ' H' hP => by obtain ⟨Dn, cur, qc, y, _, _, _, _, _, O⟩ := hP; exact O.arg hS) (fun i v σ' H' hv hP => ?_) (fun σ' H' hP => ?_)
    · obtain ⟨Dn, cur, qc, y, rfl, hc, hl1, hl2, _, O⟩ := hP
      have hi : i < ns.length := (List.getElem?_eq_some_iff.mp hv).1
      have hg := gt_some hv
      rw [drop_gt hi, hg, cutE] at hc
      refine qAPPin 0 1 O rfl (by rw [List.length_append, List.length_singleton, Nat.add_sub_cancel, List.getElem?_append_right (Nat.le_refl _), Nat.sub_self] <;> rfl) rfl (ev_var rfl) (fun H' => ev_un ev_c ru_neg) (ev_var rfl) (by rw [List.length_map]; omega) fun H3 O => ?_
      refine WH O (et_B (ec_stands (ev_var rfl) (ev_var rfl) (ev_var rfl))) (fun hb H4 O => ?_) (fun hb H4 O => ?_)
      · rw [if_pos hb] at hc
        refine APPL 0 O rfl (ev_var rfl) (el_lst ea_nil (Nat.zero_le _)) (by rw [List.length_append, List.length_map, List.length_singleton]; omega) fun qn H5 O => ?_
        refine ⟨Dn ++ [(qc, cur ++ [v])], [], qn, _, rfl, ?_, by rw [List.length_append, List.length_singleton]; omega, Nat.zero_le _, fun _ _ => rfl, ?_⟩
        · rw [hc, List.map_append, List.append_assoc]
          rfl
        · refine O.perm ?_
          have e1 : Dr (Dn ++ [(qc, cur ++ [v])]) ++ [V.ref qn] = Dr Dn ++ [V.ref qc] ++ [V.ref qn] := by rw [Dr_snoc]
          have e2 : Dm (Dn ++ [(qc, cur ++ [v])]) = Dm Dn ++ [(qc, il cur ++ [V.int v])] := by
            rw [Dm_snoc, il_append]
            rfl
          rw [e1, e2]
          exact (List.Perm.swap _ _ _).trans (((List.perm_append_comm (l₁ := [(qc, il cur ++ [V.int v])])).cons _).cons _)
      · rw [if_neg (by rw [hb]; decide)] at hc
        refine ⟨Dn, cur ++ [v], qc, _, rfl, hc, by omega, by rw [List.length_append, List.length_singleton]; omega, fun _ h => ?_, by rw [il_append]; exact O⟩
        rw [show i + 1 - 1 = i by omega, hg, hb] at h
        cases h
    · obtain ⟨Dn, cur, qc, y, rfl, hc, hl1, hl2, h0, O⟩ := hP
      rw [List.drop_length, cutE, List.append_nil] at hc
      refine RTL O (el_sl (ev_var rfl) eo_none (eo_some (ev_un ev_c ru_neg)) (O.seq 0 rfl)) fun r H4 O => ?_
      rw [cut_init, List.length_append, List.length_singleton, Nat.add_sub_cancel, List.take_left] at O
      exact k r Dn H4 hc.symm (O.own _ List.mem_cons_self).1 O.ex (O.get 0 rfl) fun d hd => (O.own (d.1, il d.2) (List.mem_cons_of_mem _ (List.mem_cons_of_mem _ (List.mem_cons_of_mem _ (List.mem_map.mpr ⟨d, hd, rfl⟩))))).2
/-! #### turned -/
def sp_turned0 (K : PySem.W.Frag) : Sp := fun vs H Q _ => ∃ (a : Addr) (ns : List Int), vs = [.ref a] ∧ SqL K H a (il ns) ∧ IsRow ns ∧ RetL (il (turnL ns)) H Q
def sp_turned (K : PySem.W.Frag) (C : Nat → Addr) : Sp := fun vs H Q E => sp_turned0 K vs H Q E ∨ (∃ (a : Addr) (ns : List Int), vs = [.ref a] ∧ SqL K H a (il ns) ∧ ns.length ≤ 1000 ∧ ¬ IsRow ns ∧ ∀ H', Ex H H' → E (.ref (C 1)) none H')
theorem el_turned {σ : L2.St} {H : Hp} {ta : TE} {a : Addr} {ns : List Int} {E : XK} (h1 : Ev ta σ H (.ref a)) (hx : SqL K H a (il ns)) (hr : IsRow ns) : EvL (tCall (sp_turned K C) [] E (tCons ta tNil)) σ H (il (turnL ns)) :=
  el_call (ea_cons h1 ea_nil) fun H1 e Q q _ => Or.inl ⟨a, ns, rfl, ex_l e hx, hr, q⟩
theorem el_turnedN {σ : L2.St} {H : Hp} {ta : TE} {ns : List Int} {E : XK} (h1 : EvL ta σ H (il ns)) (hr : IsRow ns) : EvL (tCall (sp_turned K C) [] E (tCons ta tNil)) σ H (il (turnL ns)) :=
  el_call1N h1 fun p H1 hp _ H2 e Q q E => Or.inl ⟨p, ns, rfl, ex_l e (sq_of hp), hr, q⟩
theorem ok_turned (T : Bi K mg C) (h_asked_row : Has P w K mg base (L2N.CX P w) "asked_row" 1 ["row"] (sp_asked_row K C)) (h_pieces_ended : Has P w K mg base CX0 "pieces_ended" 2 ["row", "last"] (sp_pieces_ended K)) (df : Def K mg "turned" s_turned) : Has P w K mg base (L2N.CX P w) "turned" 3 ["row"] (sp_turned K C) := by
  obtain ⟨f, fd, F, g⟩ := df
  obtain ⟨f_asked_row, fd_asked_row, G_asked_row, g_asked_row, kp_asked_row, bd_asked_row⟩ := h_asked_row
  obtain ⟨f_pieces_ended, fd_pieces_ended, G_pieces_ended, g_pieces_ended, kp_pieces_ended, bd_pieces_ended⟩ := h_pieces_ended
  refine ⟨f, fd, okN F sc_turned (fun vs H Q E h => ?_) (fun cdv A outer s H vs Q E hr h => ?_), g, F.kp, F.binds fun _ _ _ _ _ _ us hl => match us, hl with | [_], _ => rfl⟩
  · rcases h with ⟨a, ns, rfl, hS, hR, k⟩ | ⟨a, ns, rfl, hS, hlen, hbad, kE⟩ <;> rfl
  ·
    have hr_asked_row : Room 1 _ := hr.mono (by decide)
    have hr_pieces_ended : Room 2 _ := hr.mono (by decide)
    refine ⟨_, (pss_cons (ps_expr (pe_call G_asked_row hr_asked_row (by rfl) g_asked_row kp_asked_row bd_asked_row .nil (L2N.passes_call (E := E) (L2N.takes_of rfl rfl rfl rfl) (fun _ _ _ _ h => h)) (pa_cons (pv 0) pa_nil)))
        (pss_cons (ps_set (i := 1) sc_turned.nd rfl (Or.inl rfl) (pe_callTy (r := rListS K) call_listS (by rfl) T.b_list (by decide +kernel) (pa_cons (pe_slice (r := rSlL K) sl_list (pv 0) po_none (po_some pe_int)) pa_nil)))
        (pss_cons (ps_for (passes_of rfl) rfl (pi_list (pe_slice (r := rSlL K) sl_list (pv 0) (po_some pe_int) po_none)) (pg_name (i := 2) sc_turned.nd rfl (Or.inl rfl))
         (pss_cons (ps_set (i := 3) sc_turned.nd rfl (Or.inl rfl) (pe_lst pa_nil))
         (pss_cons (ps_for (passes_of rfl) rfl (pi_list (pe_call G_pieces_ended hr_pieces_ended (by rfl) g_pieces_ended kp_pieces_ended bd_pieces_ended .nil pass0 (pa_cons (pv 1) (pa_cons (pv 2) pa_nil)))) (pg_name (i := 4) sc_turned.nd rfl (Or.inl rfl))
          (pss_one (ps_set (i := 3) sc_turned.nd rfl (Or.inl rfl) (pe_op op_cat (pe_op op_cat (pv 3) (pe_slice (r := rSlL K) sl_list (pv 4) (po_some (pe_un un_neg pe_int)) po_none)) (pe_slice (r := rSlL K) sl_list (pv 4) po_none (po_some (pe_un un_neg pe_int)))))))
         (pss_one (ps_set (i := 1) sc_turned.nd rfl (Or.inl rfl) (pe_op op_cat (pv 3) (pe_lst (pa_cons (pv 2) pa_nil))))))))
        (pss_one (ps_ret (pv 1)))))), ?_⟩
    rcases h with ⟨a, ns, rfl, hS, hR, k⟩ | ⟨a, ns, rfl, hS, hlen, hbad, kE⟩
    ·
      have O : Own H [] H := .start
      have hl := hR.1
      refine qDR O (ec_asked_row (ev_var rfl) hS hR) fun H1 O => ?_
      refine qAL O (el_listN (sl_to (k := 1) (ev_var rfl) (O.arg hS) (eo_some ev_c))) fun f H2 O => ?_
      refine qFLN (ns := ns.drop 1) O (sl_from (k := 1) (ev_var rfl) (O.arg hS) (eo_some ev_c)) (fun r i σ' H' => ∃ (f : Addr) (x y z : Option V), σ' = [some (.ref a), some (.ref f), x, y, z] ∧ Own H [(f, il (((ns.drop 1).take i).foldl turnStep (ns.take 1))), (r, il (ns.drop 1))] H')
        (fun r H3 O => ⟨f, none, none, none, rfl, O.perm (List.Perm.swap _ _ _)⟩) (fun r i σ' H' hP => by obtain ⟨f, x, y, z, _, O⟩ := hP; exact O.seq 1 rfl) (fun r i v σ' H' hv hP => ?_) (fun r σ' H' hP => ?_)
      · obtain ⟨f, x, y, z, rfl, O⟩ := hP
        have hi : i < (ns.drop 1).length := (List.getElem?_eq_some_iff.mp hv).1
        have hi2 : i + 1 < ns.length := by rw [List.length_drop] at hi; omega
        have hfl := foldTurn_len ((ns.drop 1).take i) (ns.take 1)
        rw [List.length_take, List.length_take, List.length_drop, show min 1 ns.length = 1 by omega, show min i (ns.length - 1) = i by omega] at hfl
        have hnext : ((ns.drop 1).take (i + 1)).foldl turnStep (ns.take 1) = turnStep (((ns.drop 1).take i).foldl turnStep (ns.take 1)) v := by
          rw [show (ns.drop 1).take (i + 1) = (ns.drop 1).take i ++ [v] by rw [List.take_add_one, hv]; rfl, List.foldl_append]
          rfl
        rw [hnext]
        generalize ((ns.drop 1).take i).foldl turnStep (ns.take 1) = found at *
        refine qAL O (el_lst ea_nil (Nat.zero_le _)) fun q0 H3 O => ?_
        refine qFC O (ea_cons (ev_var rfl) (ea_cons (ev_var rfl) ea_nil)) fun H4 O => ⟨f, found, v, rfl, O.seq 1 rfl, by omega, by omega, fun p Dn H5 hD hp e5 h5 hd => ?_⟩
        have O := O.mono e5
        have hk := kd_last found v
        have hrot := cutE_rot (kd v (decide (lst found ≤ v))) found [] (fun _ => rfl) (fun _ => hk)
        rw [← hD] at hrot
        have hlen2 : ∀ j, (((Dn.map (·.2)).take j).flatMap rotl).length ≤ 12 := fun j => by
          have e := rot_len (kd v (decide (lst found ≤ v))) found
          rw [← hrot] at e
          have e2 : (Dn.map (·.2)).flatMap rotl = ((Dn.map (·.2)).take j).flatMap rotl ++ ((Dn.map (·.2)).drop j).flatMap rotl := by rw [← List.flatMap_append, List.take_append_drop]
          rw [e2, List.length_append] at e
          omega
        refine s_forLn (a := p) (xs := Dr Dn) ev_c (sq_of h5) (fun j σ' H' => ∃ (q : Addr) (z : Option V), σ' = [some (.ref a), some (.ref f), some (.int v), some (.ref q), z] ∧ Ex H5 H' ∧ Own H [(q, il (((Dn.map (·.2)).take j).flatMap rotl)), (f, il found), (r, il (ns.drop 1))] H')
          (fun H6 e6 => ⟨q0, z, rfl, e6, O.mono e6⟩) (fun j σ' H' _ hP => by obtain ⟨q, z, _, e, _⟩ := hP; exact sq_of (e _ _ h5)) (fun j y σ' H' hy hP => ?_) (fun σ' H' hP => ?_)
        · obtain ⟨q, z, rfl, e, O⟩ := hP
          rw [List.getElem?_map] at hy
          cases hdj : Dn[j]? with
          | none => rw [hdj] at hy; cases hy
          | some d =>
            rw [hdj] at hy
            cases hy
            have hmem := List.mem_of_getElem? hdj
            have hdS : SqL K H' d.1 (il d.2) := sq_of (e _ _ (hd d hmem))
            have hd2 : d.2.length ≤ 12 := by
              have e1 : ((Dn.map (·.2)).take (j + 1)) = (Dn.map (·.2)).take j ++ [d.2] := by rw [List.take_add_one, List.getElem?_map, hdj]; rfl
              have e2 := hlen2 (j + 1)
              rw [e1, List.flatMap_append, List.length_append] at e2
              have e3 : ([d.2].flatMap rotl).length = d.2.length := by
                show (rotl d.2 ++ []).length = _
                rw [List.append_nil]
                unfold rotl
                rw [List.length_append, List.length_drop, List.length_take]
                omega
              omega
            have hq := hlen2 j
            refine s_asgL (xs := il (((Dn.map (·.2)).take (j + 1)).flatMap rotl)) (i := 3) ?_ fun q2 H6 hq2 e6 h6 => ⟨q2, _, rfl, e.trans e6, ?_⟩
            · have e1 : il (((Dn.map (·.2)).take (j + 1)).flatMap rotl) = (il (((Dn.map (·.2)).take j).flatMap rotl) ++ il (d.2.drop (d.2.length - 1))) ++ il (d.2.take (d.2.length - 1)) := by
                rw [List.take_add_one, List.getElem?_map, hdj]
                show il (((Dn.map (·.2)).take j ++ [d.2]).flatMap rotl) = _
                rw [List.flatMap_append, il_append, List.append_assoc]
                congr 1
                show il (rotl d.2 ++ []) = _
                rw [List.append_nil]
                unfold rotl
                exact il_append _ _
              rw [e1]
              refine el_catNN (el_catRN (ev_var rfl) (O.get 0 rfl) (sl_last (ev_var rfl) hdS (eo_some (ev_un ev_c ru_neg))) ?_) (sl_init (ev_var rfl) hdS (eo_some (ev_un ev_c ru_neg))) ?_
              · rw [List.length_map, List.length_map, List.length_drop]
                omega
              · rw [List.length_append, List.length_map, List.length_map, List.length_map, List.length_drop, List.length_take]
                omega
            · exact (O.new hq2 e6 h6).skip1
        · obtain ⟨q, z, rfl, e, O⟩ := hP
          rw [show (Dr Dn).length = (Dn.map (·.2)).length by rw [List.length_map, List.length_map], List.take_length, hrot] at O
          refine AL O (el_catRN (ev_var rfl) (O.get 0 rfl) (el_lst (ea_cons (ev_var rfl) ea_nil) (by show 1 ≤ 100000; decide)) (by rw [List.length_map, rot_len]; show _ + 1 ≤ _; omega)) fun f2 H6 O => ?_
          refine ⟨f2, _, _, _, rfl, ?_⟩
          have e7 : il (rot (kd v (decide (lst found ≤ v))) [] found) ++ [V.int v] = il (turnStep found v) := by
            unfold turnStep
            rw [il_append]
            rfl
          rw [e7] at O
          exact O.skip1.skip1
      · obtain ⟨f, x, y, z, rfl, O⟩ := hP
        rw [List.take_length, ← turnL_eq] at O
        exact RT O (ev_var rfl) fun H4 O => O.retL 0 rfl k
    ·
      exact qDC (.start : Own H [] H) (ea_cons (ev_var rfl) ea_nil) fun H1 O => Or.inr ⟨a, ns, rfl, O.arg hS, hlen, hbad, fun H2 e2 => kE H2 (O.ex.trans e2)⟩
/-! #### pieces_begun -/
def sp_pieces_begun (K : PySem.W.Frag) : Sp := fun vs H Q _ => ∃ (a : Addr) (v0 : Int) (l0 : List Int) (x : Int), vs = [.ref a, .int x] ∧ SqL K H a (il (v0 :: l0)) ∧ (v0 :: l0).length ≤ 12 ∧ RetP (cutB (kd x (decide (v0 ≤ x))) v0 [] l0) H Q
theorem ok_pieces_begun (T : Bi K mg C) (h_stands : Has P w K mg base CX0 "stands" 1 ["volume", "last", "least"] (sp_stands K)) (df : Def K mg "pieces_begun" s_pieces_begun) : Has P w K mg base CX0 "pieces_begun" 2 ["row", "last"] (sp_pieces_begun K) := by
  obtain ⟨f, fd, F, g⟩ := df
  obtain ⟨f_stands, fd_stands, G_stands, g_stands, kp_stands, bd_stands⟩ := h_stands
  refine ⟨f, fd, F.ok sc_pieces_begun (fun vs H Q E h => ?_) (fun cdv A outer s H vs Q E hr h => ?_), g, F.kp, F.binds fun _ _ _ _ _ _ us hl => match us, hl with | [_, _], _ => rfl⟩
  · obtain ⟨a, v0, l0, x, rfl, hS, hlen, k⟩ := h; rfl
  · obtain ⟨a, v0, l0, x, rfl, hS, hlen, k⟩ := h
    have hr_stands : Room 1 _ := hr.mono (by decide)
    refine ⟨_, (pss_cons (ps_set (i := 2) sc_pieces_begun.nd rfl (Or.inl rfl) (pe_cmpR op_le (pe_ix (r := rIxL K) ix_list (pv 0) pe_int (fun _ _ => rfl)) (pv 1) (nomark _)))
        (pss_cons (ps_set (i := 3) sc_pieces_begun.nd rfl (Or.inl rfl) (pe_lst pa_nil))
        (pss_cons (ps_for PassesOwn.never rfl (pi_list (pv 0)) (pg_name (i := 4) sc_pieces_begun.nd rfl (Or.inl rfl))
         (pss_cut (ps_if (pt_val (pe_call G_stands hr_stands (by rfl) g_stands kp_stands bd_stands .nil pass0 (pa_cons (pv 4) (pa_cons (pv 1) (pa_cons (pv 2) pa_nil))))) (pss_one (ps_expr (show PE _ _ (tBM K "list" rAppend _ (tCons _ tNil)) from pe_bm PySem.F.plainAttrs_list PySem.F.slot_list_append PySem.F.type_list_append mt_append (pv 3) (pa_cons (pe_lst pa_nil) pa_nil)))) pss_nil)
         (pss_one (ps_expr (show PE _ _ (tBM K "list" rAppend _ (tCons _ tNil)) from pe_bm PySem.F.plainAttrs_list PySem.F.slot_list_append PySem.F.type_list_append mt_append (pe_ix (r := rIxL K) ix_list (pv 3) (pe_un un_neg pe_int) (fun _ _ => rfl)) (pa_cons (pv 4) pa_nil))))))
        (pss_one (ps_ret (pv 3)))))), ?_⟩
    have O : Own H [] H := .start
    have hk := kd_first (v0 :: l0) x
    refine qAS O (ev_op (ev_ix (i := 0) (ev_var rfl) hS ev_c (by rw [List.length_cons]; omega)) (ev_var rfl) rv_I0) fun H1 O => ?_
    refine qAL O (el_lst ea_nil (Nat.zero_le _)) fun p H2 O => ?_
    obtain ⟨b, hb⟩ : ∃ b, decide (v0 ≤ x) = b := ⟨_, rfl⟩
    have hb1 : decide (fst (v0 :: l0) ≤ x) = b := hb
    have hb2 : decide (gt (v0 :: l0) 0 ≤ x) = b := hb
    rw [hb] at k
    rw [hb1] at hk
    rw [hb2]
    have hk : kd x b v0 = true := hk
    refine qFL O (ev_var rfl) (O.arg hS) (fun i σ' H' => ∃ (y : Option V), σ' = [some (.ref a), some (.int x), some (.bl b), some (.ref p), y] ∧ ((i = 0 ∧ Own H [(p, [])] H') ∨
        (0 < i ∧ ∃ (Dn : List (Addr × List Int)) (w : Int) (cur : List Int) (qc : Addr), cutB (kd x b) v0 [] l0 = Dn.map (·.2) ++ cutB (kd x b) w cur ((v0 :: l0).drop i) ∧ Dn.length + 1 ≤ i ∧ cur.length ≤ i ∧ Own H ((p, Dr Dn ++ [.ref qc]) :: (qc, il (w :: cur)) :: Dm Dn) H')))
      (fun H3 O => ⟨none, rfl, .inl ⟨rfl, O⟩⟩) (fun i σ' H' hP => by obtain ⟨y, _, ⟨_, O⟩ | ⟨_, Dn, w, cur, qc, _, _, _, O⟩⟩ := hP <;> exact O.arg hS) (fun i v σ' H' hv hP => ?_) (fun σ' H' hP => ?_)
    · obtain ⟨y, rfl, hP⟩ := hP
      have hi : i < (v0 :: l0).length := (List.getElem?_eq_some_iff.mp hv).1
      have hg := gt_some hv
      refine q_cut (M := fun σ' H' => σ' = [some (.ref a), some (.int x), some (.bl b), some (.ref p), some (.int v)] ∧ ∃ (Dn : List (Addr × List Int)) (cl : List Int) (w : Int) (cur : List Int) (qc : Addr), cl ++ [v] = w :: cur ∧
          cutB (kd x b) v0 [] l0 = Dn.map (·.2) ++ cutB (kd x b) w cur ((v0 :: l0).drop (i + 1)) ∧ Dn.length ≤ i ∧ cl.length ≤ i + 1 ∧ Own H ((p, Dr Dn ++ [.ref qc]) :: (qc, il cl) :: Dm Dn) H') ?_ (fun σ' H' hM => ?_)
      · rcases hP with ⟨rfl, O⟩ | ⟨h0, Dn, w, cur, qc, hc, hl1, hl2, O⟩
        · cases hv
          refine WH O (et_B (ec_stands (ev_var rfl) (ev_var rfl) (ev_var rfl))) (fun hb H4 O => ?_) (fun hb H4 O => ?_)
          · exact APPL 0 O rfl (ev_var rfl) (el_lst ea_nil (Nat.zero_le _)) (by decide) fun qn H5 O => ⟨rfl, [], [], v0, [], qn, rfl, rfl, Nat.le_refl _, Nat.zero_le _, O.perm (List.Perm.swap _ _ _)⟩
          · rw [hk] at hb
            cases hb
        · rw [drop_gt hi, hg, cutB] at hc
          refine WH O (et_B (ec_stands (ev_var rfl) (ev_var rfl) (ev_var rfl))) (fun hb H4 O => ?_) (fun hb H4 O => ?_)
          · rw [if_pos hb] at hc
            refine APPL 0 O rfl (ev_var rfl) (el_lst ea_nil (Nat.zero_le _)) (by rw [List.length_append, List.length_map, List.length_singleton]; omega) fun qn H5 O => ?_
            refine ⟨rfl, Dn ++ [(qc, w :: cur)], [], v, [], qn, rfl, ?_, ?_, Nat.zero_le _, ?_⟩
            · rw [hc, List.map_append, List.append_assoc]
              rfl
            · rw [List.length_append, List.length_singleton]; omega
            · refine O.perm ?_
              have e1 : Dr (Dn ++ [(qc, w :: cur)]) ++ [V.ref qn] = Dr Dn ++ [V.ref qc] ++ [V.ref qn] := by rw [Dr_snoc]
              have e2 : Dm (Dn ++ [(qc, w :: cur)]) = Dm Dn ++ [(qc, il (w :: cur))] := Dm_snoc _ _
              rw [e1, e2]
              exact (List.Perm.swap _ _ _).trans (((List.perm_append_comm (l₁ := [(qc, il (w :: cur))])).cons _).cons _)
          · rw [if_neg (by rw [hb]; decide)] at hc
            exact ⟨rfl, Dn, w :: cur, w, cur ++ [v], qc, rfl, hc, by omega, by rw [List.length_cons]; omega, O⟩
      · obtain ⟨rfl, Dn, cl, w, cur, qc, hcl, hc, hl1, hl2, O⟩ := hM
        have hcl2 := congrArg List.length hcl
        rw [List.length_append, List.length_singleton, List.length_cons] at hcl2
        refine APPin 0 1 O rfl (by rw [List.length_append, List.length_singleton, Nat.add_sub_cancel, List.getElem?_append_right (Nat.le_refl _), Nat.sub_self] <;> rfl) rfl (ev_var rfl) (fun H' => ev_un ev_c ru_neg) (ev_var rfl) (by rw [List.length_map]; omega) fun H3 O => ?_
        refine ⟨_, rfl, .inr ⟨by omega, Dn, w, cur, qc, hc, by omega, by omega, ?_⟩⟩
        rw [← hcl, il_append]
        exact O
    · obtain ⟨y, rfl, ⟨h0, _⟩ | ⟨_, Dn, w, cur, qc, hc, hl1, hl2, O⟩⟩ := hP
      · cases h0
      rw [List.drop_length, cutB] at hc
      refine RT O (ev_var rfl) fun H4 O => ?_
      have e1 : Dr Dn ++ [V.ref qc] = Dr (Dn ++ [(qc, w :: cur)]) := (Dr_snoc Dn (qc, w :: cur)).symm
      refine k p (Dn ++ [(qc, w :: cur)]) H4 (by rw [hc, List.map_append]; rfl) (O.own _ List.mem_cons_self).1 O.ex (e1 ▸ O.get 0 rfl) fun d hd => ?_
      rcases List.mem_append.mp hd with hd | hd
      · exact (O.own (d.1, il d.2) (List.mem_cons_of_mem _ (List.mem_cons_of_mem _ (List.mem_map.mpr ⟨d, hd, rfl⟩)))).2
      · rw [List.mem_singleton.mp hd]
        exact O.get 1 rfl
/-! #### turned_back -/
def sp_turned_back0 (K : PySem.W.Frag) : Sp := fun vs H Q _ => ∃ (a : Addr) (o : List Int), vs = [.ref a] ∧ SqL K H a (il (turnL o)) ∧ IsRow o ∧ RetL (il o) H Q
def sp_turned_back (K : PySem.W.Frag) (C : Nat → Addr) : Sp := fun vs H Q E => sp_turned_back0 K vs H Q E ∨ (∃ (a : Addr) (ns : List Int), vs = [.ref a] ∧ SqL K H a (il ns) ∧ ns.length ≤ 1000 ∧ ¬ IsRow ns ∧ ∀ H', Ex H H' → E (.ref (C 1)) none H')
theorem el_turned_back {σ : L2.St} {H : Hp} {ta : TE} {a : Addr} {o : List Int} {E : XK} (h1 : Ev ta σ H (.ref a)) (hx : SqL K H a (il (turnL o))) (hr : IsRow o) : EvL (tCall (sp_turned_back K C) [] E (tCons ta tNil)) σ H (il o) :=
  el_call (ea_cons h1 ea_nil) fun H1 e Q q _ => Or.inl ⟨a, o, rfl, ex_l e hx, hr, q⟩
theorem el_turned_backN {σ : L2.St} {H : Hp} {ta : TE} {o : List Int} {E : XK} (h1 : EvL ta σ H (il (turnL o))) (hr : IsRow o) : EvL (tCall (sp_turned_back K C) [] E (tCons ta tNil)) σ H (il o) :=
  el_call1N h1 fun p H1 hp _ H2 e Q q E => Or.inl ⟨p, o, rfl, ex_l e (sq_of hp), hr, q⟩
theorem ok_turned_back (T : Bi K mg C) (h_asked_row : Has P w K mg base (L2N.CX P w) "asked_row" 1 ["row"] (sp_asked_row K C)) (h_pieces_begun : Has P w K mg base CX0 "pieces_begun" 2 ["row", "last"] (sp_pieces_begun K)) (df : Def K mg "turned_back" s_turned_back) : Has P w K mg base (L2N.CX P w) "turned_back" 3 ["row"] (sp_turned_back K C) := by
  obtain ⟨f, fd, F, g⟩ := df
  obtain ⟨f_asked_row, fd_asked_row, G_asked_row, g_asked_row, kp_asked_row, bd_asked_row⟩ := h_asked_row
  obtain ⟨f_pieces_begun, fd_pieces_begun, G_pieces_begun, g_pieces_begun, kp_pieces_begun, bd_pieces_begun⟩ := h_pieces_begun
  refine ⟨f, fd, okN F sc_turned_back (fun vs H Q E h => ?_) (fun cdv A outer s H vs Q E hr h => ?_), g, F.kp, F.binds fun _ _ _ _ _ _ us hl => match us, hl with | [_], _ => rfl⟩
  · rcases h with ⟨a, o, rfl, hS, hR, k⟩ | ⟨a, ns, rfl, hS, hlen, hbad, kE⟩ <;> rfl
  ·
    have hr_asked_row : Room 1 _ := hr.mono (by decide)
    have hr_pieces_begun : Room 2 _ := hr.mono (by decide)
    refine ⟨_, (pss_cons (ps_expr (pe_call G_asked_row hr_asked_row (by rfl) g_asked_row kp_asked_row bd_asked_row .nil (L2N.passes_call (E := E) (L2N.takes_of rfl rfl rfl rfl) (fun _ _ _ _ h => h)) (pa_cons (pv 0) pa_nil)))
        (pss_cons (ps_set (i := 1) sc_turned_back.nd rfl (Or.inl rfl) (pe_callTy (r := rListS K) call_listS (by rfl) T.b_list (by decide +kernel) (pa_cons (pv 0) pa_nil)))
        (pss_cons (ps_set (i := 2) sc_turned_back.nd rfl (Or.inl rfl) (pe_lst pa_nil))
        (pss_cons (ps_while (passes_of rfl) (pt_cmpR op_gt (pe_callB (r := rLenS K) call_lenS (by rfl) T.b_len PySem.boot_len (pa_cons (pv 1) pa_nil)) pe_int (nomark _)) (pss_cons (ps_set (i := 3) sc_turned_back.nd rfl (Or.inl rfl) (pe_ix (r := rIxL K) ix_list (pv 1) (pe_un un_neg pe_int) (fun _ _ => rfl)))
         (pss_cons (ps_set (i := 4) sc_turned_back.nd rfl (Or.inl rfl) (pe_lst pa_nil))
         (pss_cons (ps_for (passes_of rfl) rfl (pi_list (pe_call G_pieces_begun hr_pieces_begun (by rfl) g_pieces_begun kp_pieces_begun bd_pieces_begun .nil pass0 (pa_cons (pe_slice (r := rSlL K) sl_list (pv 1) po_none (po_some (pe_un un_neg pe_int))) (pa_cons (pv 3) pa_nil)))) (pg_name (i := 5) sc_turned_back.nd rfl (Or.inl rfl))
          (pss_one (ps_set (i := 4) sc_turned_back.nd rfl (Or.inl rfl) (pe_op op_cat (pe_op op_cat (pv 4) (pe_slice (r := rSlL K) sl_list (pv 5) (po_some pe_int) po_none)) (pe_slice (r := rSlL K) sl_list (pv 5) po_none (po_some pe_int))))))
         (pss_cons (ps_set (i := 2) sc_turned_back.nd rfl (Or.inl rfl) (pe_op op_cat (pe_lst (pa_cons (pv 3) pa_nil)) (pv 2)))
         (pss_one (ps_set (i := 1) sc_turned_back.nd rfl (Or.inl rfl) (pv 4))))))))
        (pss_one (ps_ret (pe_op op_cat (pv 1) (pv 2)))))))), ?_⟩
    rcases h with ⟨a, o, rfl, hS, hR, k⟩ | ⟨a, ns, rfl, hS, hlen, hbad, kE⟩
    ·
      have O : Own H [] H := .start
      have hl := hR.1
      refine qDR O (ec_asked_row (ev_var rfl) hS (turn_row hR)) fun H1 O => ?_
      refine qAL O (el_list (ev_var rfl) (O.arg hS)) fun lf H2 O => ?_
      refine qAL O (el_lst ea_nil (Nat.zero_le _)) fun fd H3 O => ?_
      refine q_while (fun m σ' H' => ∃ (lf fd : Addr) (oo dn : List Int) (x y z : Option V), oo ++ dn = o ∧ oo.length = m ∧ σ' = [some (.ref a), some (.ref lf), some (.ref fd), x, y, z] ∧ Own H [(fd, il dn), (lf, il (turnL oo))] H')
        o.length ⟨lf, fd, o, [], none, none, none, List.append_nil _, rfl, rfl, O⟩ ?_
      rintro m σ' H' ⟨lf, fd, oo, dn, x, y, z, ho, hm, rfl, O⟩
      have hol := congrArg List.length ho
      rw [List.length_append] at hol
      have htl := turnL_len oo
      refine ⟨_, et_test (ev_op (ev_lenI (ev_var rfl) (O.seq 1 rfl)) ev_c rv_I0), fun hb H5 e5 => ?_, fun hb H5 e5 => ?_⟩
      · have hb : (1 : Int) < ((turnL oo).length : Int) := of_decide_eq_true hb
        have O := O.mono e5
        have hne : oo ≠ [] := fun z => by rw [z] at hb; exact absurd hb (by decide)
        obtain ⟨u, hu⟩ := snoc_of hne
        generalize lst oo = v at hu
        have hul : u.length + 1 = m := by rw [← hm, hu, List.length_append, List.length_singleton]
        have hune : u ≠ [] := fun z => by rw [z] at hul; simp at hul; omega
        have htu : turnL oo = rot (kd v (decide (lst (turnL u) ≤ v))) [] (turnL u) ++ [v] := by rw [hu, turnL_snoc u v hune]; rfl
        have hbt := back_turn (turnL u) v
        have hrl := rot_len (kd v (decide (lst (turnL u) ≤ v))) (turnL u)
        rw [turnL_len] at hrl
        generalize rot (kd v (decide (lst (turnL u) ≤ v))) [] (turnL u) = r at htu hbt hrl
        refine ⟨fun σ' H' => ∃ (lf fd : Addr) (x y z : Option V), σ' = [some (.ref a), some (.ref lf), some (.ref fd), x, y, z] ∧ Own H [(fd, il (v :: dn)), (lf, il (turnL u))] H', ?_, ?_⟩
        · rintro σ2 H6 ⟨lf, fd, x, y, z, e2, O⟩
          exact ⟨u.length, by omega, lf, fd, u, v :: dn, x, y, z, by rw [← ho, hu, List.append_assoc]; rfl, rfl, e2, O⟩
        have hgl : gt (turnL oo) ((turnL oo).length - 1) = v := by rw [htu]; exact lst_snoc r v
        have hini : (turnL oo).take ((turnL oo).length - 1) = r := by rw [htu, List.length_append, List.length_singleton, Nat.add_sub_cancel, List.take_left]
        refine qAS O (hgl ▸ ev_last (ev_var rfl) (O.seq 1 rfl) (ev_un ev_c ru_neg) (by omega)) fun H6 O => ?_
        refine qAL O (el_lst ea_nil (Nat.zero_le _)) fun q0 H7 O => ?_
        cases r with
        | nil => simp at hrl; exact absurd hrl.symm (by omega)
        | cons v0 l0 =>
        have hbt : unr (kd v (decide (v0 ≤ v))) v0 [] l0 = turnL u := hbt
        rw [← cutB_unr] at hbt
        refine qFCN O (hini ▸ sl_init (ev_var rfl) (O.seq 2 rfl) (eo_some (ev_un ev_c ru_neg))) (fun _ _ => ev_var rfl) fun pr H8 O => ⟨pr, v0, l0, v, rfl, O.seq 0 rfl, by omega, fun p Dn H9 hD hp e9 h9 hd => ?_⟩
        have O := (O.mono e9).cons
        rw [← hD] at hbt
        have hlen2 : ∀ j, (((Dn.map (·.2)).take j).flatMap rotr).length ≤ 12 := fun j => by
          have e := congrArg List.length hbt
          have e2 : (Dn.map (·.2)).flatMap rotr = ((Dn.map (·.2)).take j).flatMap rotr ++ ((Dn.map (·.2)).drop j).flatMap rotr := by rw [← List.flatMap_append, List.take_append_drop]
          rw [e2, List.length_append, turnL_len] at e
          omega
        refine q_forLn (a := p) (xs := Dr Dn) ev_c (sq_of h9) (fun j σ' H' => ∃ (q : Addr) (z : Option V), σ' = [some (.ref a), some (.ref lf), some (.ref fd), some (.int v), some (.ref q), z] ∧ Ex H9 H' ∧ Own H [(q, il (((Dn.map (·.2)).take j).flatMap rotr)), (fd, il dn), (lf, il (turnL oo))] H')
          (fun H6 e6 => ⟨q0, z, rfl, e6, O.mono e6⟩) (fun j σ' H' _ hP => by obtain ⟨q, z, _, e, _⟩ := hP; exact sq_of (e _ _ h9)) (fun j y σ' H' hy hP => ?_) (fun σ' H' hP => ?_)
        · obtain ⟨q, z, rfl, e, O⟩ := hP
          rw [List.getElem?_map] at hy
          cases hdj : Dn[j]? with
          | none => rw [hdj] at hy; cases hy
          | some d =>
            rw [hdj] at hy
            cases hy
            have hmem := List.mem_of_getElem? hdj
            have hdS : SqL K H' d.1 (il d.2) := sq_of (e _ _ (hd d hmem))
            have hd2 : d.2.length ≤ 12 := by
              have e1 : ((Dn.map (·.2)).take (j + 1)) = (Dn.map (·.2)).take j ++ [d.2] := by rw [List.take_add_one, List.getElem?_map, hdj]; rfl
              have e2 := hlen2 (j + 1)
              rw [e1, List.flatMap_append, List.length_append] at e2
              have e3 : ([d.2].flatMap rotr).length = d.2.length := by
                show (rotr d.2 ++ []).length = _
                rw [List.append_nil]
                unfold rotr
                rw [List.length_append, List.length_drop, List.length_take]
                omega
              omega
            have hq := hlen2 j
            refine s_asgL (xs := il (((Dn.map (·.2)).take (j + 1)).flatMap rotr)) (i := 4) ?_ fun q2 H6 hq2 e6 h6 => ⟨q2, _, rfl, e.trans e6, ?_⟩
            · have e1 : il (((Dn.map (·.2)).take (j + 1)).flatMap rotr) = (il (((Dn.map (·.2)).take j).flatMap rotr) ++ il (d.2.drop 1)) ++ il (d.2.take 1) := by
                rw [List.take_add_one, List.getElem?_map, hdj]
                show il (((Dn.map (·.2)).take j ++ [d.2]).flatMap rotr) = _
                rw [List.flatMap_append, il_append, List.append_assoc]
                congr 1
                show il (rotr d.2 ++ []) = _
                rw [List.append_nil]
                unfold rotr
                exact il_append _ _
              rw [e1]
              refine el_catNN (el_catRN (ev_var rfl) (O.get 0 rfl) (sl_from (k := 1) (ev_var rfl) hdS (eo_some ev_c)) ?_) (sl_to (k := 1) (ev_var rfl) hdS (eo_some ev_c)) ?_
              · rw [List.length_map, List.length_map, List.length_drop]
                omega
              · rw [List.length_append, List.length_map, List.length_map, List.length_map, List.length_drop, List.length_take]
                omega
            · exact (O.new hq2 e6 h6).skip1
        · obtain ⟨q, z, rfl, e, O⟩ := hP
          rw [show (Dr Dn).length = (Dn.map (·.2)).length by rw [List.length_map, List.length_map], List.take_length, hbt] at O
          refine qAL O (el_catNR (el_lst (ea_cons (ev_var rfl) ea_nil) (by show 1 ≤ 100000; decide)) (fun _ _ => ev_var rfl) (O.get 1 rfl) (by rw [List.length_map]; show 1 + _ ≤ _; omega)) fun f2 H6 O => ?_
          exact AS O (ev_var rfl) fun H7 O => ⟨q, f2, _, _, _, rfl, O.sub (.cons₂ _ (.cons₂ _ (List.nil_sublist _)))⟩
      · have hb : ¬ (1 : Int) < ((turnL oo).length : Int) := of_decide_eq_false hb
        have O := O.mono e5
        have e : turnL oo = oo := by
          rw [htl] at hb
          match oo, hb with
          | [], _ => rfl
          | [w], _ => rfl
          | w :: w2 :: l, hb => simp at hb; omega
        rw [e] at O
        refine RTL O (el_catRR (ev_var rfl) (O.get 1 rfl) (ev_var rfl) (O.get 0 rfl) (by rw [List.length_map, List.length_map]; omega)) fun q H6 O => ?_
        rw [← il_append, ho] at O
        exact O.retL 0 rfl k
    ·
      exact qDC (.start : Own H [] H) (ea_cons (ev_var rfl) ea_nil) fun H1 O => Or.inr ⟨a, ns, rfl, O.arg hS, hlen, hbad, fun H2 e2 => kE H2 (O.ex.trans e2)⟩
/-! #### shown -/
def sp_shown0 (K : PySem.W.Frag) : Sp := fun vs H Q _ => ∃ (a : Addr) (ns : List Int), vs = [.ref a] ∧ SqL K H a (il ns) ∧ IsRow ns ∧ RetV (.str (shownL ns)) H Q
def sp_shown (K : PySem.W.Frag) (C : Nat → Addr) : Sp := fun vs H Q E => sp_shown0 K vs H Q E ∨ (∃ (a : Addr) (ns : List Int), vs = [.ref a] ∧ SqL K H a (il ns) ∧ ns.length ≤ 1000 ∧ ¬ IsRow ns ∧ ∀ H', Ex H H' → E (.ref (C 1)) none H')
theorem ec_shown {σ : L2.St} {H : Hp} {ta : TE} {a : Addr} {ns : List Int} {E : XK} (h1 : Ev ta σ H (.ref a)) (hx : SqL K H a (il ns)) (hr : IsRow ns) : Ev (tCall (sp_shown K C) [] E (tCons ta tNil)) σ H (.str (shownL ns)) :=
  ev_call (ea_cons h1 ea_nil) fun H1 e Q q _ => Or.inl ⟨a, ns, rfl, ex_l e hx, hr, q⟩
theorem ok_shown (T : Bi K mg C) (h_asked_row : Has P w K mg base (L2N.CX P w) "asked_row" 1 ["row"] (sp_asked_row K C)) (df : Def K mg "shown" s_shown) : Has P w K mg base (L2N.CX P w) "shown" 2 ["row"] (sp_shown K C) := by
  obtain ⟨f, fd, F, g⟩ := df
  obtain ⟨f_asked_row, fd_asked_row, G_asked_row, g_asked_row, kp_asked_row, bd_asked_row⟩ := h_asked_row
  refine ⟨f, fd, okN F sc_shown (fun vs H Q E h => ?_) (fun cdv A outer s H vs Q E hr h => ?_), g, F.kp, F.binds fun _ _ _ _ _ _ us hl => match us, hl with | [_], _ => rfl⟩
  · rcases h with ⟨a, ns, rfl, hS, hR, k⟩ | ⟨a, ns, rfl, hS, hlen, hbad, kE⟩ <;> rfl
  ·
    have hr_asked_row : Room 1 _ := hr.mono (by decide)
    refine ⟨_, (pss_cons (ps_expr (pe_call G_asked_row hr_asked_row (by rfl) g_asked_row kp_asked_row bd_asked_row .nil (L2N.passes_call (E := E) (L2N.takes_of rfl rfl rfl rfl) (fun _ _ _ _ h => h)) (pa_cons (pv 0) pa_nil)))
        (pss_one (ps_ret (show PE _ _ (tM1 (rJoin K) _ _) from pe_join pe_str (pe_lc (own := [("volume", 1)]) (g := gName 1) (by rfl) sc_shown.nd (pi_list (pv 0)) (blkOk_by (own := [("volume", 1)]) (N := ["row", "volume"]) (sc := defScope s_shown) (by decide +kernel)) (fun _ _ _ _ _ => pg_name (i := 1) sc_shown.nd rfl (Or.inl rfl)) (fun _ _ _ _ _ => pts_nil) (fun _ _ _ _ _ => (pe_callTy (r := rStrI) call_str_int (by rfl) T.b_str (by decide +kernel) (pa_cons (pv 1) pa_nil)))))))), ?_⟩
    rcases h with ⟨a, ns, rfl, hS, hR, k⟩ | ⟨a, ns, rfl, hS, hlen, hbad, kE⟩
    ·
      have O : Own H [] H := .start
      have hl := hR.1
      refine qDR O (ec_asked_row (ev_var rfl) hS hR) fun H1 O => ?_
      have e0 : (ns.filter fun _ => true).map (fun v => V.str (toString v)) = (strsL ns).map V.str := by
        rw [filter_yes]
        unfold strsL
        rw [List.map_map]
        rfl
      refine RT O (ev_join (s := " ") (ys := strsL ns) ev_c (e0 ▸ lcL (ns := ns) (fun _ => true) (fun v => V.str (toString v)) (ev_var rfl) (O.arg hS) (by omega) (fun x => rfl) (fun x _ H3 e => et_yes) (fun x hx H3 e _ => ev_strI (ev_var rfl) (log_row (hR.2 x hx)))) ?_) fun H2 O => O.ret k
      have h1 := strs_sum ns hR.2
      have h2 : (strsL ns).length = ns.length := by unfold strsL; rw [List.length_map]
      have h3 : ((" " : Str)).length = 1 := rfl
      rw [h2, h3]
      omega
    ·
      exact qDC (.start : Own H [] H) (ea_cons (ev_var rfl) ea_nil) fun H1 O => Or.inr ⟨a, ns, rfl, O.arg hS, hlen, hbad, fun H2 e2 => kE H2 (O.ex.trans e2)⟩
/-! #### asked_full -/
def sp_asked_full0 (K : PySem.W.Frag) : Sp := fun vs H Q _ => ∃ (a : Addr) (ns : List Int), vs = [.ref a] ∧ SqL K H a (il ns) ∧ IsFull ns ∧ RetV .non H Q
def sp_asked_full (K : PySem.W.Frag) (C : Nat → Addr) : Sp := fun vs H Q E => sp_asked_full0 K vs H Q E ∨ (∃ (a : Addr) (ns : List Int), vs = [.ref a] ∧ SqL K H a (il ns) ∧ ns.length ≤ 1000 ∧ ¬ IsRow ns ∧ ∀ H', Ex H H' → E (.ref (C 1)) none H')
theorem ec_asked_full {σ : L2.St} {H : Hp} {ta : TE} {a : Addr} {ns : List Int} {E : XK} (h1 : Ev ta σ H (.ref a)) (hx : SqL K H a (il ns)) (hr : IsFull ns) : Ev (tCall (sp_asked_full K C) [] E (tCons ta tNil)) σ H .non :=
  ev_call (ea_cons h1 ea_nil) fun H1 e Q q _ => Or.inl ⟨a, ns, rfl, ex_l e hx, hr, q⟩
theorem ok_asked_full (T : Bi K mg C) (h_asked_row : Has P w K mg base (L2N.CX P w) "asked_row" 1 ["row"] (sp_asked_row K C)) (df : Def K mg "asked_full" s_asked_full) : Has P w K mg base (L2N.CX P w) "asked_full" 2 ["row"] (sp_asked_full K C) := by
  obtain ⟨f, fd, F, g⟩ := df
  obtain ⟨f_asked_row, fd_asked_row, G_asked_row, g_asked_row, kp_asked_row, bd_asked_row⟩ := h_asked_row
  refine ⟨f, fd, okN F sc_asked_full (fun vs H Q E h => ?_) (fun cdv A outer s H vs Q E hr h => ?_), g, F.kp, F.binds fun _ _ _ _ _ _ us hl => match us, hl with | [_], _ => rfl⟩
  · rcases h with ⟨a, ns, rfl, hS, hR, k⟩ | ⟨a, ns, rfl, hS, hlen, hbad, kE⟩ <;> rfl
  ·
    have hr_asked_row : Room 1 _ := hr.mono (by decide)
    refine ⟨_, (pss_cons (ps_expr (pe_call G_asked_row hr_asked_row (by rfl) g_asked_row kp_asked_row bd_asked_row .nil (L2N.passes_call (E := E) (L2N.takes_of rfl rfl rfl rfl) (fun _ _ _ _ h => h)) (pa_cons (pv 0) pa_nil)))
        (pss_one (ps_if (pt_cmpR (r := rNeD K) (op_neD hr.units) (pe_callB (r := rSorted K) cr_sorted (by rfl) T.b_sorted (by decide +kernel) (pa_cons (pv 0) pa_nil)) (pe_listRg (by rfl) (by rfl) T.b_list (prg_1 (by rfl) T.b_range (pe_callB (r := rLenS K) call_lenS (by rfl) T.b_len PySem.boot_len (pa_cons (pv 0) pa_nil)))) (nomark _)) (pss_one ps_never) pss_nil))), ?_⟩
    rcases h with ⟨a, ns, rfl, hS, hR, k⟩ | ⟨a, ns, rfl, hS, hlen, hbad, kE⟩
    ·
      have O : Own H [] H := .start
      have hl := hR.1
      refine qDR O (ec_asked_row (ev_var rfl) hS hR.row) fun H1 O => ?_
      refine WH O (et_test (ev_opLL (el_sorted (ev_var rfl) (O.arg hS) (by omega)) (el_listRg (n := ns.length) (ev_lenI (ev_var rfl) (O.arg hS)) (by omega)) fun x y H2 hx hy _ => rv_neL (sq_of hx) (sq_of hy))) (fun hb H2 O => ?_) (fun hb H2 O => O.ret k)
      rw [hR.srt, decide_eq_true (show rngI ns.length = (List.range ns.length).map fun i : Nat => (i : Int) from rfl)] at hb
      cases hb
    ·
      exact qDC (.start : Own H [] H) (ea_cons (ev_var rfl) ea_nil) fun H1 O => Or.inr ⟨a, ns, rfl, O.arg hS, hlen, hbad, fun H2 e2 => kE H2 (O.ex.trans e2)⟩
/-! #### inverse -/
def sp_inverse0 (K : PySem.W.Frag) : Sp := fun vs H Q _ => ∃ (a : Addr) (ns : List Int), vs = [.ref a] ∧ SqL K H a (il ns) ∧ IsFull ns ∧ RetL (il (invL ns)) H Q
def sp_inverse (K : PySem.W.Frag) (C : Nat → Addr) : Sp := fun vs H Q E => sp_inverse0 K vs H Q E ∨ (∃ (a : Addr) (ns : List Int), vs = [.ref a] ∧ SqL K H a (il ns) ∧ ns.length ≤ 1000 ∧ ¬ IsRow ns ∧ ∀ H', Ex H H' → E (.ref (C 1)) none H')
theorem el_inverse {σ : L2.St} {H : Hp} {ta : TE} {a : Addr} {ns : List Int} {E : XK} (h1 : Ev ta σ H (.ref a)) (hx : SqL K H a (il ns)) (hr : IsFull ns) : EvL (tCall (sp_inverse K C) [] E (tCons ta tNil)) σ H (il (invL ns)) :=
  el_call (ea_cons h1 ea_nil) fun H1 e Q q _ => Or.inl ⟨a, ns, rfl, ex_l e hx, hr, q⟩
theorem ok_inverse (T : Bi K mg C) (h_asked_full : Has P w K mg base (L2N.CX P w) "asked_full" 2 ["row"] (sp_asked_full K C)) (df : Def K mg "inverse" s_inverse) : Has P w K mg base (L2N.CX P w) "inverse" 3 ["row"] (sp_inverse K C) := by
  obtain ⟨f, fd, F, g⟩ := df
  obtain ⟨f_asked_full, fd_asked_full, G_asked_full, g_asked_full, kp_asked_full, bd_asked_full⟩ := h_asked_full
  refine ⟨f, fd, okN F sc_inverse (fun vs H Q E h => ?_) (fun cdv A outer s H vs Q E hr h => ?_), g, F.kp, F.binds fun _ _ _ _ _ _ us hl => match us, hl with | [_], _ => rfl⟩
  · rcases h with ⟨a, ns, rfl, hS, hR, k⟩ | ⟨a, ns, rfl, hS, hlen, hbad, kE⟩ <;> rfl
  ·
    have hr_asked_full : Room 2 _ := hr.mono (by decide)
    refine ⟨_, (pss_cons (ps_expr (pe_call G_asked_full hr_asked_full (by rfl) g_asked_full kp_asked_full bd_asked_full .nil (L2N.passes_call (E := E) (L2N.takes_of rfl rfl rfl rfl) (fun _ _ _ _ h => h)) (pa_cons (pv 0) pa_nil)))
        (pss_one (ps_ret (pe_lc (own := [("number", 1)]) (g := gName 1) (by rfl) sc_inverse.nd (pi_range1 rfl T.b_range (pa_cons (pe_callB (r := rLenS K) call_lenS (by rfl) T.b_len PySem.boot_len (pa_cons (pv 0) pa_nil)) pa_nil)) (blkOk_by (own := [("number", 1)]) (N := ["row", "number"]) (sc := defScope s_inverse) (by decide +kernel)) (fun _ _ _ _ _ => pg_name (i := 1) sc_inverse.nd rfl (Or.inl rfl)) (fun _ _ _ _ _ => pts_nil) (fun _ _ _ _ _ => (show PE _ _ (tBM K "list" (rIndex K) _ (tCons _ tNil)) from pe_bm PySem.F.plainAttrs_list PySem.F.slot_list_index PySem.F.type_list_index mt_index (pv 0) (pa_cons (pv 1) pa_nil))))))), ?_⟩
    rcases h with ⟨a, ns, rfl, hS, hR, k⟩ | ⟨a, ns, rfl, hS, hlen, hbad, kE⟩
    ·
      have O : Own H [] H := .start
      have hl := hR.1
      refine qDR O (ec_asked_full (ev_var rfl) hS hR) fun H1 O => ?_
      have hS := O.arg hS
      have e : ((List.range ns.length).filter fun _ => true).map (fun i : Nat => V.int (ns.idxOf (i : Int) : Nat)) = il (invL ns) := by
        rw [filter_yes]
        unfold invL il
        rw [List.map_map]
        rfl
      exact RTL O (e ▸ lcR (n := ns.length) (fun _ => true) (fun i : Nat => V.int (ns.idxOf (i : Int) : Nat)) (ea_cons (ev_lenI (ev_var rfl) hS) ea_nil) (by omega) (fun x => rfl) (fun i H2 e hi => et_yes) (fun i H2 e hi _ => ev_index (ev_var rfl) (ex_l e hS) (ev_var rfl) (hR.has hi))) fun p H2 O => O.retL 0 rfl k
    ·
      exact qDC (.start : Own H [] H) (ea_cons (ev_var rfl) ea_nil) fun H1 O => Or.inr ⟨a, ns, rfl, O.arg hS, hlen, hbad, fun H2 e2 => kE H2 (O.ex.trans e2)⟩
/-! #### rank_of -/
def sp_rank_of0 (K : PySem.W.Frag) : Sp := fun vs H Q _ => ∃ (a : Addr) (ns : List Int), vs = [.ref a] ∧ SqL K H a (il ns) ∧ IsFull ns ∧ RetV (.int (rankC (lessB ns))) H Q
def sp_rank_of (K : PySem.W.Frag) (C : Nat → Addr) : Sp := fun vs H Q E => sp_rank_of0 K vs H Q E ∨ (∃ (a : Addr) (ns : List Int), vs = [.ref a] ∧ SqL K H a (il ns) ∧ ns.length ≤ 1000 ∧ ¬ IsRow ns ∧ ∀ H', Ex H H' → E (.ref (C 1)) none H')
theorem ec_rank_of {σ : L2.St} {H : Hp} {ta : TE} {a : Addr} {ns : List Int} {E : XK} (h1 : Ev ta σ H (.ref a)) (hx : SqL K H a (il ns)) (hr : IsFull ns) : Ev (tCall (sp_rank_of K C) [] E (tCons ta tNil)) σ H (.int (rankC (lessB ns))) :=
  ev_call (ea_cons h1 ea_nil) fun H1 e Q q _ => Or.inl ⟨a, ns, rfl, ex_l e hx, hr, q⟩
theorem ok_rank_of (T : Bi K mg C) (h_asked_full : Has P w K mg base (L2N.CX P w) "asked_full" 2 ["row"] (sp_asked_full K C)) (h_less_behind : Has P w K mg base CX0 "less_behind" 1 ["row"] (sp_less_behind K)) (df : Def K mg "rank_of" s_rank_of) : Has P w K mg base (L2N.CX P w) "rank_of" 3 ["row"] (sp_rank_of K C) := by
  obtain ⟨f, fd, F, g⟩ := df
  obtain ⟨f_asked_full, fd_asked_full, G_asked_full, g_asked_full, kp_asked_full, bd_asked_full⟩ := h_asked_full
  obtain ⟨f_less_behind, fd_less_behind, G_less_behind, g_less_behind, kp_less_behind, bd_less_behind⟩ := h_less_behind
  refine ⟨f, fd, okN F sc_rank_of (fun vs H Q E h => ?_) (fun cdv A outer s H vs Q E hr h => ?_), g, F.kp, F.binds fun _ _ _ _ _ _ us hl => match us, hl with | [_], _ => rfl⟩
  · rcases h with ⟨a, ns, rfl, hS, hR, k⟩ | ⟨a, ns, rfl, hS, hlen, hbad, kE⟩ <;> rfl
  ·
    have hr_asked_full : Room 2 _ := hr.mono (by decide)
    have hr_less_behind : Room 1 _ := hr.mono (by decide)
    refine ⟨_, (pss_cons (ps_expr (pe_call G_asked_full hr_asked_full (by rfl) g_asked_full kp_asked_full bd_asked_full .nil (L2N.passes_call (E := E) (L2N.takes_of rfl rfl rfl rfl) (fun _ _ _ _ h => h)) (pa_cons (pv 0) pa_nil)))
        (pss_cons (ps_set (i := 1) sc_rank_of.nd rfl (Or.inl rfl) pe_int)
        (pss_cons (ps_set (i := 2) sc_rank_of.nd rfl (Or.inl rfl) (pe_call G_less_behind hr_less_behind (by rfl) g_less_behind kp_less_behind bd_less_behind .nil pass0 (pa_cons (pv 0) pa_nil)))
        (pss_cons (ps_for (passes_of rfl) rfl (pi_range1 rfl T.b_range (pa_cons (pe_callB (r := rLenS K) call_lenS (by rfl) T.b_len PySem.boot_len (pa_cons (pv 2) pa_nil)) pa_nil)) (pg_name (i := 3) sc_rank_of.nd rfl (Or.inl rfl))
         (pss_one (ps_set (i := 1) sc_rank_of.nd rfl (Or.inl rfl) (pe_op op_add (pe_op op_mul (pv 1) (pe_op op_sub (pe_callB (r := rLenS K) call_lenS (by rfl) T.b_len PySem.boot_len (pa_cons (pv 2) pa_nil)) (pv 3))) (pe_ix (r := rIxL K) ix_list (pv 2) (pv 3) (fun _ _ => rfl))))))
        (pss_one (ps_ret (pv 1))))))), ?_⟩
    rcases h with ⟨a, ns, rfl, hS, hR, k⟩ | ⟨a, ns, rfl, hS, hlen, hbad, kE⟩
    ·
      have O : Own H [] H := .start
      have hl := hR.1
      have hll := lessB_len ns
      have hok := lessB_ok ns
      refine qDR O (ec_asked_full (ev_var rfl) hS hR) fun H1 O => ?_
      refine qAS O ev_c fun H2 O => ?_
      refine qAL O (el_less_behind (ev_var rfl) (O.arg hS) (by omega)) fun c H3 O => ?_
      refine qFR O (ea_cons (ev_lenI (ev_var rfl) (O.seq 0 rfl)) ea_nil) ⟨by omega, by omega⟩ (fun i σ' H' => ∃ x : Option V, σ' = [some (.ref a), some (.int (hk (lessB ns) i)), some (.ref c), x] ∧ Own H [(c, il (lessB ns))] H') (fun H4 O => ⟨none, rfl, O⟩) (fun i σ' H' hi hP => ?_) (fun σ' H' hP => ?_)
      · obtain ⟨x, rfl, O⟩ := hP
        have hi : i < (lessB ns).length := by omega
        have hb := hk_bd hok (by omega) (Nat.le_of_lt hi)
        exact AS O (ev_op (ev_op (ev_var rfl) (ev_op (ev_lenI (ev_var rfl) (O.seq 0 rfl)) (ev_var rfl) rv_I0) (rv_I (.inl ⟨by omega, by omega⟩))) (ev_ix (ev_var rfl) (O.seq 0 rfl) (ev_var rfl) hi) rv_I0) fun H5 O => ⟨_, rfl, O⟩
      · obtain ⟨x, rfl, O⟩ := hP
        refine RT O (ev_is (ev_var rfl) (w := .int (rankC (lessB ns))) (congrArg V.int ?_)) fun H5 O => O.ret k
        have e := hk_rank (lessB ns) (lessB ns).length (Nat.le_refl _)
        rw [Nat.sub_self, List.drop_length] at e
        rw [Int.toNat_natCast, ← e]
        show _ = _ * 1 + 0
        omega
    ·
      exact qDC (.start : Own H [] H) (ea_cons (ev_var rfl) ea_nil) fun H1 O => Or.inr ⟨a, ns, rfl, O.arg hS, hlen, hbad, fun H2 e2 => kE H2 (O.ex.trans e2)⟩
/-! #### _law_second -/
def sp_law_second0 (K : PySem.W.Frag) : Sp := fun vs H Q _ => ∃ (t : Int) (a : Addr) (ns : List Int), vs = [.int t, .ref a] ∧ SqL K H a (il ns) ∧ IsRow ns ∧ 7 ≤ t ∧ t < 10 ∧ ∀ v H', Ex H H' → Q v H'
def sp_law_second (K : PySem.W.Frag) (C : Nat → Addr) : Sp := fun vs H Q E => sp_law_second0 K vs H Q E ∨ (∃ (t : Int) (a : Addr) (ns : List Int), vs = [.int t, .ref a] ∧ SqL K H a (il ns) ∧ ns.length ≤ 1000 ∧ ¬ IsRow ns ∧ ∀ H', Ex H H' → E (.ref (C 1)) none H')

theorem ok_law_second (T : Bi K mg C) (h_turned : Has P w K mg base (L2N.CX P w) "turned" 3 ["row"] (sp_turned K C)) (h_turned_back : Has P w K mg base (L2N.CX P w) "turned_back" 3 ["row"] (sp_turned_back K C)) (h_shown : Has P w K mg base (L2N.CX P w) "shown" 2 ["row"] (sp_shown K C)) (h_inverse : Has P w K mg base (L2N.CX P w) "inverse" 3 ["row"] (sp_inverse K C)) (h_rank_of : Has P w K mg base (L2N.CX P w) "rank_of" 3 ["row"] (sp_rank_of K C)) (h_swapped : Has P w K mg base (L2N.CX P w) "swapped" 2 ["row", "places"] (sp_swapped K C)) (df : Def K mg "_law_second" s_law_second) : Has P w K mg base (L2N.CX P w) "_law_second" 4 ["turn", "row"] (sp_law_second K C) := by
  obtain ⟨f, fd, F, g⟩ := df
  obtain ⟨f_turned, fd_turned, G_turned, g_turned, kp_turned, bd_turned⟩ := h_turned
  obtain ⟨f_turned_back, fd_turned_back, G_turned_back, g_turned_back, kp_turned_back, bd_turned_back⟩ := h_turned_back
  obtain ⟨f_shown, fd_shown, G_shown, g_shown, kp_shown, bd_shown⟩ := h_shown
  obtain ⟨f_inverse, fd_inverse, G_inverse, g_inverse, kp_inverse, bd_inverse⟩ := h_inverse
  obtain ⟨f_rank_of, fd_rank_of, G_rank_of, g_rank_of, kp_rank_of, bd_rank_of⟩ := h_rank_of
  obtain ⟨f_swapped, fd_swapped, G_swapped, g_swapped, kp_swapped, bd_swapped⟩ := h_swapped
  refine ⟨f, fd, okN F sc_law_second (fun vs H Q E h => ?_) (fun cdv A outer s H vs Q E hr h => ?_), g, F.kp, F.binds fun _ _ _ _ _ _ us hl => match us, hl with | [_, _], _ => rfl⟩
  · rcases h with ⟨t, a, ns, rfl, hS, hR, h7, h10, k⟩ | ⟨t, a, ns, rfl, hS, hlen, hbad, kE⟩ <;> rfl
  ·
    have hr_turned : Room 3 _ := hr.mono (by decide)
    have hr_turned_back : Room 3 _ := hr.mono (by decide)
    have hr_shown : Room 2 _ := hr.mono (by decide)
    have hr_inverse : Room 3 _ := hr.mono (by decide)
    have hr_rank_of : Room 3 _ := hr.mono (by decide)
    have hr_swapped : Room 2 _ := hr.mono (by decide)
    refine ⟨_, (pss_cons (ps_if (pt_cmpR op_eq (pv 0) pe_int (nomark _)) (pss_one (ps_ret (pe_call G_turned hr_turned (by rfl) g_turned kp_turned bd_turned .nil (L2N.passes_call (E := E) (L2N.takes_of rfl rfl rfl rfl) (fun _ _ _ _ h => h)) (pa_cons (pv 1) pa_nil)))) pss_nil)
        (pss_cons (ps_if (pt_cmpR op_eq (pv 0) pe_int (nomark _)) (pss_one (ps_ret (pe_call G_turned_back hr_turned_back (by rfl) g_turned_back kp_turned_back bd_turned_back .nil (L2N.passes_call (E := E) (L2N.takes_of rfl rfl rfl rfl) (fun _ _ _ _ h => h)) (pa_cons (pv 1) pa_nil)))) pss_nil)
        (pss_cons (ps_if (pt_cmpR op_eq (pv 0) pe_int (nomark _)) (pss_one (ps_ret (pe_call G_shown hr_shown (by rfl) g_shown kp_shown bd_shown .nil (L2N.passes_call (E := E) (L2N.takes_of rfl rfl rfl rfl) (fun _ _ _ _ h => h)) (pa_cons (pv 1) pa_nil)))) pss_nil)
        (pss_cons (ps_if (pt_cmpR op_eq (pv 0) pe_int (nomark _)) (pss_one (ps_ret (pe_call G_inverse hr_inverse (by rfl) g_inverse kp_inverse bd_inverse .nil (L2N.passes_call (E := E) (L2N.takes_of rfl rfl rfl rfl) (fun _ _ _ _ h => h)) (pa_cons (pv 1) pa_nil)))) pss_nil)
        (pss_cons (ps_if (pt_cmpR op_eq (pv 0) pe_int (nomark _)) (pss_one (ps_ret (pe_call G_rank_of hr_rank_of (by rfl) g_rank_of kp_rank_of bd_rank_of .nil (L2N.passes_call (E := E) (L2N.takes_of rfl rfl rfl rfl) (fun _ _ _ _ h => h)) (pa_cons (pv 1) pa_nil)))) pss_nil)
        (pss_one (ps_ret (pe_call G_swapped hr_swapped (by rfl) g_swapped kp_swapped bd_swapped .nil (L2N.passes_call (E := E) (L2N.takes_of rfl rfl rfl rfl) (fun _ _ _ _ h => h)) (pa_cons (pv 1) (pa_cons (pe_lst (pa_cons pe_int pa_nil)) pa_nil)))))))))), ?_⟩
    rcases h with ⟨t, a, ns, rfl, hS, hR, h7, h10, k⟩ | ⟨t, a, ns, rfl, hS, hlen, hbad, kE⟩
    ·
      have O : Own H [] H := .start
      obtain ⟨o, ho⟩ := back_exists ns
      have hpo : ns.Perm o := ho ▸ turnL_perm o
      have hRo : IsRow o := ⟨by rw [← hpo.length_eq]; exact hR.1, fun v hv => hR.2 v (hpo.mem_iff.mpr hv)⟩
      refine qWH O (et_test (ev_op (ev_var rfl) ev_c rv_eqI)) (fun _ H1 O => RTC O (ea_cons (ev_var rfl) ea_nil) fun H2 O => Or.inl ⟨a, ns, rfl, O.arg hS, hR, fun p H3 _ e3 _ => k _ H3 (O.ex.trans e3)⟩) (fun hb1 H1 O => ?_)
      refine qWH O (et_test (ev_op (ev_var rfl) ev_c rv_eqI)) (fun _ H1 O => RTC O (ea_cons (ev_var rfl) ea_nil) fun H2 O => Or.inl ⟨a, o, rfl, ho.symm ▸ O.arg hS, hRo, fun p H3 _ e3 _ => k _ H3 (O.ex.trans e3)⟩) (fun hb2 H1 O => ?_)
      refine qWH O (et_test (ev_op (ev_var rfl) ev_c rv_eqI)) (fun _ H1 O => RTC O (ea_cons (ev_var rfl) ea_nil) fun H2 O => Or.inl ⟨a, ns, rfl, O.arg hS, hR, fun H3 e3 => k _ H3 (O.ex.trans e3)⟩) (fun hb3 H1 O => ?_)
      have hb1 := of_decide_eq_false hb1
      have hb2 := of_decide_eq_false hb2
      have hb3 := of_decide_eq_false hb3
      omega
    ·
      have O : Own H [] H := .start
      refine qWH O (et_test (ev_op (ev_var rfl) ev_c rv_eqI)) (fun _ H1 O => RTC O (ea_cons (ev_var rfl) ea_nil) fun H2 O => Or.inr ⟨a, ns, rfl, O.arg hS, hlen, hbad, fun H3 e3 => kE H3 (O.ex.trans e3)⟩) (fun _ H1 O => ?_)
      refine qWH O (et_test (ev_op (ev_var rfl) ev_c rv_eqI)) (fun _ H1 O => RTC O (ea_cons (ev_var rfl) ea_nil) fun H2 O => Or.inr ⟨a, ns, rfl, O.arg hS, hlen, hbad, fun H3 e3 => kE H3 (O.ex.trans e3)⟩) (fun _ H1 O => ?_)
      refine qWH O (et_test (ev_op (ev_var rfl) ev_c rv_eqI)) (fun _ H1 O => RTC O (ea_cons (ev_var rfl) ea_nil) fun H2 O => Or.inr ⟨a, ns, rfl, O.arg hS, hlen, hbad, fun H3 e3 => kE H3 (O.ex.trans e3)⟩) (fun _ H1 O => ?_)
      refine qWH O (et_test (ev_op (ev_var rfl) ev_c rv_eqI)) (fun _ H1 O => RTC O (ea_cons (ev_var rfl) ea_nil) fun H2 O => Or.inr ⟨a, ns, rfl, O.arg hS, hlen, hbad, fun H3 e3 => kE H3 (O.ex.trans e3)⟩) (fun _ H1 O => ?_)
      refine qWH O (et_test (ev_op (ev_var rfl) ev_c rv_eqI)) (fun _ H1 O => RTC O (ea_cons (ev_var rfl) ea_nil) fun H2 O => Or.inr ⟨a, ns, rfl, O.arg hS, hlen, hbad, fun H3 e3 => kE H3 (O.ex.trans e3)⟩) (fun _ H1 O => ?_)
      exact RTCN (xs := [.int 0]) O (ev_var rfl) (el_lst (ea_cons ev_c ea_nil) (by show 1 ≤ 100000; decide)) fun q H2 O => Or.inr ⟨a, q, ns, [0], rfl, O.arg hS, hlen, hbad, fun H3 e3 => kE H3 (O.ex.trans e3)⟩
/-! #### _law_kind -/
def sp_law_kind (K : PySem.W.Frag) (C : Nat → Addr) : Addr × Obj → Sp := fun p vs H Q _ => ∃ i : Nat, vs = [.ref p.1] ∧ Zc (.ref (C i)) none p.2 ∧ (∃ us, p.2.data = .fields us) ∧ KF K C i ∧ RetV (.str (kindName i)) H Q
theorem rt_kind {i : Nat} (f : KF K C i) {D : Ends} {σ : L2.St} {H : Hp} {b : Addr} {te : TE} (h : Ev te σ H (.ref b)) (k : ∀ H', Ex H H' → D.rt (.str (kindName i)) H') : tRet (tCallP (sp_law_kind K C) b (.ref (C i)) none te) D σ H := by
  show tCallP (sp_law_kind K C) b (.ref (C i)) none te σ H D.rt
  refine (ea_cons h ea_nil : EvA (tCons te tNil) σ H [.ref b]) H (Ex.refl H) _ fun H3 e3 => ⟨rfl, fun oe hz hf => ⟨i, rfl, hz, hf, f, fun H4 e4 => k H4 (e3.trans e4)⟩⟩
theorem ok_law_kind (T : Bi K mg C) (df : Def K mg "_law_kind" s_law_kind) : HasP P w K mg base "_law_kind" 1 ["e"] (sp_law_kind K C) := by
  obtain ⟨f, fd, F, g⟩ := df
  refine ⟨f, fd, okP F sc_law_kind (fun p vs H Q E h => ?_) (fun p cdv A outer s H vs Q E hr h => ?_), g, F.kp, F.binds fun _ _ _ _ _ _ us hl => match us, hl with | [_], _ => rfl⟩
  · obtain ⟨i, rfl, hz, hf, hK, k⟩ := h; rfl
  · obtain ⟨i, rfl, hz, hf, hK, k⟩ := h
    refine ⟨_, (pss_cons (ps_set (i := 1) sc_law_kind.nd rfl (Or.inl rfl) (pe_lst (pa_cons (pe_callB (r := rIsP K p.1 _) (call_isP (show (p.1, p.2) ∈ [p] from List.mem_cons_self) hK.c hz hf) (by rfl) T.b_isinstance (by decide +kernel) (pa_cons (pv 0) (pa_cons (pe_glob (v := .ref _) rfl T.g_NoRow rfl) pa_nil))) (pa_cons (pe_callB (r := rIsP K p.1 _) (call_isP (show (p.1, p.2) ∈ [p] from List.mem_cons_self) hK.c hz hf) (by rfl) T.b_isinstance (by decide +kernel) (pa_cons (pv 0) (pa_cons (pe_glob (v := .ref _) rfl T.g_NoPlace rfl) pa_nil))) (pa_cons (pe_callB (r := rIsP K p.1 _) (call_isP (show (p.1, p.2) ∈ [p] from List.mem_cons_self) hK.c hz hf) (by rfl) T.b_isinstance (by decide +kernel) (pa_cons (pv 0) (pa_cons (pe_glob (v := .ref _) rfl T.g_NotFull rfl) pa_nil))) (pa_cons (pe_callB (r := rIsP K p.1 _) (call_isP (show (p.1, p.2) ∈ [p] from List.mem_cons_self) hK.c hz hf) (by rfl) T.b_isinstance (by decide +kernel) (pa_cons (pv 0) (pa_cons (pe_glob (v := .ref _) rfl T.g_NoCode rfl) pa_nil))) pa_nil))))))
        (pss_cons (ps_set (i := 1) sc_law_kind.nd rfl (Or.inl rfl) (pe_op op_cat (pv 1) (pe_lst (pa_cons (pe_callB (r := rIsP K p.1 _) (call_isP (show (p.1, p.2) ∈ [p] from List.mem_cons_self) hK.c hz hf) (by rfl) T.b_isinstance (by decide +kernel) (pa_cons (pv 0) (pa_cons (pe_glob (v := .ref _) rfl T.g_NoRank rfl) pa_nil))) (pa_cons (pe_callB (r := rIsP K p.1 _) (call_isP (show (p.1, p.2) ∈ [p] from List.mem_cons_self) hK.c hz hf) (by rfl) T.b_isinstance (by decide +kernel) (pa_cons (pv 0) (pa_cons (pe_glob (v := .ref _) rfl T.g_NoAmount rfl) pa_nil))) (pa_cons (pe_callB (r := rIsP K p.1 _) (call_isP (show (p.1, p.2) ∈ [p] from List.mem_cons_self) hK.c hz hf) (by rfl) T.b_isinstance (by decide +kernel) (pa_cons (pv 0) (pa_cons (pe_glob (v := .ref _) rfl T.g_NoNote rfl) pa_nil))) pa_nil))))))
        (pss_cons (ps_if (PW.pt (pw_or (pt_not (pt_val (pe_callB (r := rIsP K p.1 _) (call_isP (show (p.1, p.2) ∈ [p] from List.mem_cons_self) hK.c hz hf) (by rfl) T.b_isinstance (by decide +kernel) (pa_cons (pv 0) (pa_cons (pe_bltn (v := .ty "ValueError") (by rfl) T.b_ValueError (by decide +kernel) rfl) pa_nil))))) (pw_or1 (pt_cmpR op_ne (show PE _ _ (tBM K "list" (rCntV K) _ (tCons _ tNil)) from pe_bm PySem.F.plainAttrs_list PySem.F.slot_list_count PySem.F.type_list_count mt_cntV (pv 1) (pa_cons pe_bl pa_nil)) pe_int (nomark _))))) (pss_one (ps_ret pe_str)) pss_nil)
        (pss_one (ps_ret (pe_ix (r := rIxL K) ix_list (pe_lst (pa_cons pe_str (pa_cons pe_str (pa_cons pe_str (pa_cons pe_str (pa_cons pe_str (pa_cons pe_str (pa_cons pe_str pa_nil)))))))) (show PE _ _ (tBM K "list" (rIndex K) _ (tCons _ tNil)) from pe_bm PySem.F.plainAttrs_list PySem.F.slot_list_index PySem.F.type_list_index mt_index (pv 1) (pa_cons pe_bl pa_nil)) (fun _ _ => rfl))))))), ?_⟩
    have O : Own H [] H := .start
    have kt : ∀ j, 1 ≤ j → j ≤ 7 → ∀ {σ H te}, Ev te σ H (.ref p.1) → Ev (tCB (rIsP K p.1 (C i)) (tCons te (tCons (tC (.ref (C j))) tNil))) σ H (.bl (decide (i = j))) := fun j h1 h2 σ H te h => ev_isP h (fun u r => r) (hK.kit j h1 h2)
    have hi : i = 1 ∨ i = 2 ∨ i = 3 ∨ i = 4 ∨ i = 5 ∨ i = 6 ∨ i = 7 := by
      have := hK.lo
      have := hK.hi
      omega
    refine qAL O (el_lst (ea_cons (kt 1 (by decide) (by decide) (ev_var rfl)) (ea_cons (kt 2 (by decide) (by decide) (ev_var rfl)) (ea_cons (kt 3 (by decide) (by decide) (ev_var rfl)) (ea_cons (kt 4 (by decide) (by decide) (ev_var rfl)) ea_nil)))) (by show 4 ≤ 100000; decide)) fun q H1 O => ?_
    refine qAL O (el_catRN' (ev_var rfl) (O.get 0 rfl) (el_lst (ea_cons (kt 5 (by decide) (by decide) (ev_var rfl)) (ea_cons (kt 6 (by decide) (by decide) (ev_var rfl)) (ea_cons (kt 7 (by decide) (by decide) (ev_var rfl)) ea_nil))) (by show 3 ≤ 100000; decide)) (by show 4 + 3 ≤ 100000; decide)) fun q2 H2 O => ?_
    obtain ⟨m, hm7, hnm, h1, h2, h3⟩ : ∃ m : Nat, m < 7 ∧ kindName i = (["row", "place", "full", "code", "rank", "amount", "note"] : List Str).getD m "" ∧
        ([V.bl (decide (i = 1)), V.bl (decide (i = 2)), V.bl (decide (i = 3)), V.bl (decide (i = 4))] ++ [V.bl (decide (i = 5)), V.bl (decide (i = 6)), V.bl (decide (i = 7))]).countP (fun z => eqV z (.bl true)) = 1 ∧
        ([V.bl (decide (i = 1)), V.bl (decide (i = 2)), V.bl (decide (i = 3)), V.bl (decide (i = 4))] ++ [V.bl (decide (i = 5)), V.bl (decide (i = 6)), V.bl (decide (i = 7))])[m]? = some (.bl true) ∧
        (([V.bl (decide (i = 1)), V.bl (decide (i = 2)), V.bl (decide (i = 3)), V.bl (decide (i = 4))] ++ [V.bl (decide (i = 5)), V.bl (decide (i = 6)), V.bl (decide (i = 7))]).take m).all (fun z => !eqV z (.bl true)) = true := by
      rcases hi with rfl | rfl | rfl | rfl | rfl | rfl | rfl
      · exact ⟨0, by decide, rfl, rfl, rfl, rfl⟩
      · exact ⟨1, by decide, rfl, rfl, rfl, rfl⟩
      · exact ⟨2, by decide, rfl, rfl, rfl, rfl⟩
      · exact ⟨3, by decide, rfl, rfl, rfl, rfl⟩
      · exact ⟨4, by decide, rfl, rfl, rfl, rfl⟩
      · exact ⟨5, by decide, rfl, rfl, rfl, rfl⟩
      · exact ⟨6, by decide, rfl, rfl, rfl, rfl⟩
    refine qWH O (et_or (et_not (et_B (ev_isP (ev_var rfl) (fun u r => r) hK.v))) fun _ => et_test (ev_op (ev_cntV (ev_var rfl) (O.seq 0 rfl) ev_c rfl rfl) ev_c rv_neI)) (fun hb H4 O => ?_) (fun hb H4 O => ?_)
    · rw [h1] at hb
      cases hb
    · refine RT O (v := .str (kindName i)) (ev_opL1 (el_lst (ea_cons ev_c (ea_cons ev_c (ea_cons ev_c (ea_cons ev_c (ea_cons ev_c (ea_cons ev_c (ea_cons ev_c ea_nil))))))) (by show 7 ≤ 100000; decide)) (fun H5 e5 => ev_idxV m (ev_var rfl) (ex_l e5 (O.seq 0 rfl)) ev_c rfl rfl h2 rfl h3) fun x H6 hx _ => rv_ixL (sq_of hx) (atI_nat ?_)) fun H5 O => O.ret k
      rw [hnm]
      obtain rfl | rfl | rfl | rfl | rfl | rfl | rfl : m = 0 ∨ m = 1 ∨ m = 2 ∨ m = 3 ∨ m = 4 ∨ m = 5 ∨ m = 6 := by omega
      all_goals rfl
/-! #### _law_tried -/
def sp_law_tried (K : PySem.W.Frag) : Sp := fun vs H Q _ => ∃ (t : Int) (a : Addr) (ns : List Int) (s : Str), vs = [.int t, .ref a] ∧ SqL K H a (il ns) ∧ ns.length ≤ 1000 ∧ ((IsRow ns ∧ t < 10 ∧ s = "done") ∨ (¬ IsRow ns ∧ s = "row")) ∧ RetV (.str s) H Q
theorem ec_law_triedN {σ : L2.St} {H : Hp} {ta tb : TE} {t : Int} {ns : List Int} {E : XK} (s : Str) (h1 : Ev ta σ H (.int t)) (h2 : EvL tb σ H (il ns)) (hl : ns.length ≤ 1000) (hs : (IsRow ns ∧ t < 10 ∧ s = "done") ∨ (¬ IsRow ns ∧ s = "row")) : Ev (tCall (sp_law_tried K) [] E (tCons ta (tCons tb tNil))) σ H (.str s) := fun H1 e Q q =>
  h1 H1 e (fun x H2 => tCons tb tNil σ H2 fun xs H3 => sp_law_tried K ((x :: xs) ++ []) H3 Q E) fun H2 e2 => h2 H2 (e.trans e2) (fun x H3 => sp_law_tried K ([.int t, x] ++ []) H3 Q E) fun p H3 hp e3 h => ⟨t, p, ns, s, rfl, sq_of h, hl, hs, fun H4 e4 => q H4 ((e2.trans e3).trans e4)⟩
theorem ok_law_tried (T : Bi K mg C) (h_law_first : Has P w K mg base (L2N.CX P w) "_law_first" 4 ["turn", "row"] (sp_law_first K C)) (h_law_second : Has P w K mg base (L2N.CX P w) "_law_second" 4 ["turn", "row"] (sp_law_second K C)) (h_law_kind : HasP P w K mg base "_law_kind" 1 ["e"] (sp_law_kind K C)) (df : Def K mg "_law_tried" s_law_tried) : Has P w K mg base CX0 "_law_tried" 5 ["turn", "row"] (sp_law_tried K) := by
  obtain ⟨f, fd, F, g⟩ := df
  obtain ⟨f_law_first, fd_law_first, G_law_first, g_law_first, kp_law_first, bd_law_first⟩ := h_law_first
  obtain ⟨f_law_second, fd_law_second, G_law_second, g_law_second, kp_law_second, bd_law_second⟩ := h_law_second
  obtain ⟨f_law_kind, fd_law_kind, G_law_kind, g_law_kind, kp_law_kind, bd_law_kind⟩ := h_law_kind
  refine ⟨f, fd, F.ok sc_law_tried (fun vs H Q E h => ?_) (fun cdv A outer s H vs Q E hr h => ?_), g, F.kp, F.binds fun _ _ _ _ _ _ us hl => match us, hl with | [_, _], _ => rfl⟩
  · obtain ⟨t, a, ns, s, rfl, hS, hlen, hs, k⟩ := h; rfl
  · obtain ⟨t, a, ns, s, rfl, hS, hlen, hs, k⟩ := h
    have hr_law_first : Room 4 _ := hr.mono (by decide)
    have hr_law_second : Room 4 _ := hr.mono (by decide)
    have hr_law_kind : Room 1 _ := hr.mono (by decide)
    refine ⟨_, (pss_cons (L2N.ps_try_as (i := 2) rfl rfl sc_law_tried.nd rfl rfl ⟨rfl, by decide, .inl T.g_ShelfError⟩ takes0N (fun W pn xe tk _ => (pss_one (ps_if (pt_cmpR op_lt (pv 0) pe_int (nomark _)) (pss_one (ps_expr (pe_callS G_law_first hr_law_first (by rfl) g_law_first kp_law_first bd_law_first (fun σ => L2N.passAt tk σ) (pa_cons (pv 0) (pa_cons (pv 1) pa_nil))))) (pss_one (ps_expr (pe_callS G_law_second hr_law_second (by rfl) g_law_second kp_law_second bd_law_second (fun σ => L2N.passAt tk σ) (pa_cons (pv 0) (pa_cons (pv 1) pa_nil)))))))) (fun a oe cls d pn hz hf => (pss_one (ps_ret (pe_callP List.mem_cons_self hz hf G_law_kind ⟨hr_law_kind.dp, hr_law_kind.un⟩ (by rfl) g_law_kind kp_law_kind bd_law_kind (pv 2))))))
        (pss_one (ps_ret pe_str))), ?_⟩
    have O : Own H [] H := .start
    refine sq (IF O (et_test (ev_op (ev_var rfl) ev_c rv_I0)) (fun hb H1 O => DCS O (ea_cons (ev_var rfl) (ea_cons (ev_var rfl) ea_nil)) fun H2 O => ?_) (fun hb H1 O => DCS O (ea_cons (ev_var rfl) (ea_cons (ev_var rfl) ea_nil)) fun H2 O => ?_))
    · rcases hs with ⟨h1, h2, rfl⟩ | ⟨hbad, rfl⟩
      · refine Or.inl ⟨t, a, ns, rfl, O.arg hS, h1, fun v H3 e3 => ?_⟩
        have O := O.mono e3
        dsimp only
        refine RT O ev_c ?_
        exact fun H4 O => O.ret k
      · exact Or.inr ⟨t, a, ns, rfl, O.arg hS, hlen, hbad, fun H3 e3 => ⟨true, T.c_NoRow.e, fun _ b hb => rt_kind (te := tVar 2) (kf_NoRow T) (ev_var rfl) fun H4 e4 => k H4 ((O.ex.trans e3).trans e4), fun q => nomatch q⟩⟩
    · have hb := of_decide_eq_false hb
      rcases hs with ⟨h1, h2, rfl⟩ | ⟨hbad, rfl⟩
      · refine Or.inl ⟨t, a, ns, rfl, O.arg hS, h1, by omega, h2, fun v H3 e3 => ?_⟩
        have O := O.mono e3
        dsimp only
        refine RT O ev_c ?_
        exact fun H4 O => O.ret k
      · exact Or.inr ⟨t, a, ns, rfl, O.arg hS, hlen, hbad, fun H3 e3 => ⟨true, T.c_NoRow.e, fun _ b hb => rt_kind (te := tVar 2) (kf_NoRow T) (ev_var rfl) fun H4 e4 => k H4 ((O.ex.trans e3).trans e4), fun q => nomatch q⟩⟩
/-! #### law -/
def sp_law (K : PySem.W.Frag) : Sp := fun vs H Q _ => ∃ (a : Addr) (ns : List Int), vs = [.ref a] ∧ SqL K H a (ns.map V.int) ∧ ns.length ≤ 63 ∧ ∀ H', Q (.bl true) H'
theorem ok_law (T : Bi K mg C) (h_law_row : Has P w K mg base CX0 "_law_row" 2 ["script", "most"] (sp_law_row K)) (h_law_bad_row : Has P w K mg base CX0 "_law_bad_row" 1 ["row", "cell"] (sp_law_bad_row K)) (h_law_cell_at : Has P w K mg base CX0 "_law_cell_at" 1 ["script", "k"] (sp_law_cell_at K)) (h_law_tried : Has P w K mg base CX0 "_law_tried" 5 ["turn", "row"] (sp_law_tried K)) {f : Addr} {fd : FuncData} (F : Fun K "law" "law" s_law f fd) : FnOk P w K mg base CX0 6 f fd ["script"] (sp_law K) := by
  obtain ⟨f_law_row, fd_law_row, G_law_row, g_law_row, kp_law_row, bd_law_row⟩ := h_law_row
  obtain ⟨f_law_bad_row, fd_law_bad_row, G_law_bad_row, g_law_bad_row, kp_law_bad_row, bd_law_bad_row⟩ := h_law_bad_row
  obtain ⟨f_law_cell_at, fd_law_cell_at, G_law_cell_at, g_law_cell_at, kp_law_cell_at, bd_law_cell_at⟩ := h_law_cell_at
  obtain ⟨f_law_tried, fd_law_tried, G_law_tried, g_law_tried, kp_law_tried, bd_law_tried⟩ := h_law_tried
  refine F.ok sc_law (fun vs H Q E h => ?_) (fun cdv A outer s H vs Q E hr h => ?_)
  · obtain ⟨a, ns, rfl, hS, hlen, k⟩ := h; rfl
  · obtain ⟨a, ns, rfl, hS, hlen, k⟩ := h
    have hr_law_row : Room 2 _ := hr.mono (by decide)
    have hr_law_bad_row : Room 1 _ := hr.mono (by decide)
    have hr_law_cell_at : Room 1 _ := hr.mono (by decide)
    have hr_law_tried : Room 5 _ := hr.mono (by decide)
    refine ⟨_, (pss_cons (ps_set (i := 1) sc_law.nd rfl (Or.inl rfl) (pe_call G_law_row hr_law_row (by rfl) g_law_row kp_law_row bd_law_row .nil pass0 (pa_cons (pv 0) (pa_cons pe_int pa_nil))))
        (pss_cons (ps_set (i := 2) sc_law.nd rfl (Or.inl rfl) (pe_call G_law_bad_row hr_law_bad_row (by rfl) g_law_bad_row kp_law_bad_row bd_law_bad_row .nil pass0 (pa_cons (pv 1) (pa_cons (pe_op op_mod (pe_call G_law_cell_at hr_law_cell_at (by rfl) g_law_cell_at kp_law_cell_at bd_law_cell_at .nil pass0 (pa_cons (pv 0) (pa_cons pe_int pa_nil))) (pe_op op_pow pe_int pe_int)) pa_nil))))
        (pss_cons (ps_for PassesOwn.never rfl (pi_range1 rfl T.b_range (pa_cons pe_int pa_nil)) (pg_name (i := 3) sc_law.nd rfl (Or.inl rfl))
         (pss_one (ps_if (PW.pt (pw_or (pt_cmpR op_ne (pe_call G_law_tried hr_law_tried (by rfl) g_law_tried kp_law_tried bd_law_tried .nil pass0 (pa_cons (pv 3) (pa_cons (pe_callTy (r := rListS K) call_listS (by rfl) T.b_list (by decide +kernel) (pa_cons (pv 2) pa_nil)) pa_nil))) pe_str (nomark _)) (pw_or1 (pt_cmpR op_ne (pe_call G_law_tried hr_law_tried (by rfl) g_law_tried kp_law_tried bd_law_tried .nil pass0 (pa_cons (pv 3) (pa_cons (pe_callTy (r := rListS K) call_listS (by rfl) T.b_list (by decide +kernel) (pa_cons (pv 2) pa_nil)) pa_nil))) pe_str (nomark _))))) (pss_one (ps_ret pe_bl)) pss_nil)))
        (pss_cons (ps_for PassesOwn.never rfl (pi_range1 rfl T.b_range (pa_cons pe_int pa_nil)) (pg_name (i := 3) sc_law.nd rfl (Or.inl rfl))
         (pss_one (ps_if (pt_cmpR op_ne (pe_call G_law_tried hr_law_tried (by rfl) g_law_tried kp_law_tried bd_law_tried .nil pass0 (pa_cons (pv 3) (pa_cons (pe_callTy (r := rListS K) call_listS (by rfl) T.b_list (by decide +kernel) (pa_cons (pv 1) pa_nil)) pa_nil))) pe_str (nomark _)) (pss_one (ps_ret pe_bl)) pss_nil)))
        (pss_one (ps_ret pe_bl)))))), ?_⟩
    have O : Own H [] H := .start
    refine qAC O (ea_cons (ev_var rfl) (ea_cons ev_c ea_nil)) fun H1 O => ⟨a, ns, rfl, O.arg hS, fun row hR p H2 hp e h => ?_⟩
    have O := O.new hp e h
    have hl := hR.1
    have hc0 : 0 ≤ gt ns 15 % (10 ^ 24 : Int) := Int.emod_nonneg _ (by decide)
    refine qAC O (ea_cons (ev_var rfl) (ea_cons (ev_op (ec_law_cell_at (ev_var rfl) (O.arg hS) ev_c (by decide)) (ev_op ev_c ev_c (rv_I ⟨by decide, by decide, by decide⟩)) (rv_I (by decide))) ea_nil)) fun H3 O => ⟨p, row, _, rfl, O.get 0 rfl, hR, hc0, fun bad hbl hbad q H4 hq e h => ?_⟩
    have O := O.new hq e h
    refine qFR O (ea_cons ev_c ea_nil) ⟨by decide, by decide⟩ (fun i σ' H' => ∃ (x : Option V), σ' = [some (.ref a), some (.ref p), some (.ref q), x] ∧ Own H [(q, il bad), (p, il row)] H') (fun H5 O => ⟨none, rfl, O⟩) (fun i σ' H' hi hP => ?_) (fun σ' H' hP => ?_)
    · obtain ⟨x, rfl, O⟩ := hP
      refine WH O (et_or (et_test (ev_op (ec_law_triedN "row" (ev_var rfl) (el_list (ev_var rfl) (O.seq 0 rfl)) hbl (.inr ⟨hbad, rfl⟩)) ev_c rv_neS)) fun _ => et_test (ev_op (ec_law_triedN "row" (ev_var rfl) (el_list (ev_var rfl) (O.seq 0 rfl)) hbl (.inr ⟨hbad, rfl⟩)) ev_c rv_neS)) (fun hb H6 O => ?_) (fun hb H6 O => ⟨_, rfl, O⟩)
      simp at hb
    · obtain ⟨x, rfl, O⟩ := hP
      refine qFR O (ea_cons ev_c ea_nil) ⟨by decide, by decide⟩ (fun i σ' H' => ∃ (x : Option V), σ' = [some (.ref a), some (.ref p), some (.ref q), x] ∧ Own H [(q, il bad), (p, il row)] H') (fun H5 O => ⟨_, rfl, O⟩) (fun i σ' H' hi hP => ?_) (fun σ' H' hP => ?_)
      · obtain ⟨x, rfl, O⟩ := hP
        refine WH O (et_test (ev_op (ec_law_triedN "done" (ev_var rfl) (el_list (ev_var rfl) (O.seq 1 rfl)) (by omega) (.inl ⟨hR, hi, rfl⟩)) ev_c rv_neS)) (fun hb H6 O => ?_) (fun hb H6 O => ⟨_, rfl, O⟩)
        simp at hb
      · obtain ⟨x, rfl, O⟩ := hP
        exact RT O ev_c fun H7 _ => k H7
end
theorem all_mk {l : PySem.W.OpenLaw} {w : World} {K : PySem.W.Frag} {h : Heap} {mg : Str → Option Value} {fa : Addr} (X : K.In h) (G : h.Ns mainGlobals mg) (hfa : mg "law" = some (.ref fa))
    {f0 : Addr} {od0 an0 : Option Addr} {sl0 : Array (Option Value)} {oc0 kV0 dc0 pm0 cd0 ct0 : Value}
    (a0 : PySem.W.nsIn K mainGlobals "_law_cell_at" = some (some (.ref f0))) (l0 : K.lookup f0 = some ⟨oc0, od0, .func (PySem.W.fnOf "_law_cell_at" "_law_cell_at" (defArgs s_law_cell_at) (defBody s_law_cell_at) (defScope s_law_cell_at) .none kV0 dc0 pm0 an0 cd0 ct0), sl0⟩) (c0 : PySem.W.codeIn K cd0 "_law_cell_at" = true) (k0 : PySem.W.keepIn K (.ref f0) = true)
    {f1 : Addr} {od1 an1 : Option Addr} {sl1 : Array (Option Value)} {oc1 kV1 dc1 pm1 cd1 ct1 : Value}
    (a1 : PySem.W.nsIn K mainGlobals "_law_next" = some (some (.ref f1))) (l1 : K.lookup f1 = some ⟨oc1, od1, .func (PySem.W.fnOf "_law_next" "_law_next" (defArgs s_law_next) (defBody s_law_next) (defScope s_law_next) .none kV1 dc1 pm1 an1 cd1 ct1), sl1⟩) (c1 : PySem.W.codeIn K cd1 "_law_next" = true) (k1 : PySem.W.keepIn K (.ref f1) = true)
    {f2 : Addr} {od2 an2 : Option Addr} {sl2 : Array (Option Value)} {oc2 kV2 dc2 pm2 cd2 ct2 : Value}
    (a2 : PySem.W.nsIn K mainGlobals "_law_row" = some (some (.ref f2))) (l2 : K.lookup f2 = some ⟨oc2, od2, .func (PySem.W.fnOf "_law_row" "_law_row" (defArgs s_law_row) (defBody s_law_row) (defScope s_law_row) .none kV2 dc2 pm2 an2 cd2 ct2), sl2⟩) (c2 : PySem.W.codeIn K cd2 "_law_row" = true) (k2 : PySem.W.keepIn K (.ref f2) = true)
    {f3 : Addr} {od3 an3 : Option Addr} {sl3 : Array (Option Value)} {oc3 kV3 dc3 pm3 cd3 ct3 : Value}
    (a3 : PySem.W.nsIn K mainGlobals "_law_bad_row" = some (some (.ref f3))) (l3 : K.lookup f3 = some ⟨oc3, od3, .func (PySem.W.fnOf "_law_bad_row" "_law_bad_row" (defArgs s_law_bad_row) (defBody s_law_bad_row) (defScope s_law_bad_row) .none kV3 dc3 pm3 an3 cd3 ct3), sl3⟩) (c3 : PySem.W.codeIn K cd3 "_law_bad_row" = true) (k3 : PySem.W.keepIn K (.ref f3) = true)
    {f4 : Addr} {od4 an4 : Option Addr} {sl4 : Array (Option Value)} {oc4 kV4 dc4 pm4 cd4 ct4 : Value}
    (a4 : PySem.W.nsIn K mainGlobals "asked_row" = some (some (.ref f4))) (l4 : K.lookup f4 = some ⟨oc4, od4, .func (PySem.W.fnOf "asked_row" "asked_row" (defArgs s_asked_row) (defBody s_asked_row) (defScope s_asked_row) .none kV4 dc4 pm4 an4 cd4 ct4), sl4⟩) (c4 : PySem.W.codeIn K cd4 "asked_row" = true) (k4 : PySem.W.keepIn K (.ref f4) = true)
    {f5 : Addr} {od5 an5 : Option Addr} {sl5 : Array (Option Value)} {oc5 kV5 dc5 pm5 cd5 ct5 : Value}
    (a5 : PySem.W.nsIn K mainGlobals "less_behind" = some (some (.ref f5))) (l5 : K.lookup f5 = some ⟨oc5, od5, .func (PySem.W.fnOf "less_behind" "less_behind" (defArgs s_less_behind) (defBody s_less_behind) (defScope s_less_behind) .none kV5 dc5 pm5 an5 cd5 ct5), sl5⟩) (c5 : PySem.W.codeIn K cd5 "less_behind" = true) (k5 : PySem.W.keepIn K (.ref f5) = true)
    {f6 : Addr} {od6 an6 : Option Addr} {sl6 : Array (Option Value)} {oc6 kV6 dc6 pm6 cd6 ct6 : Value}
    (a6 : PySem.W.nsIn K mainGlobals "pairs_out" = some (some (.ref f6))) (l6 : K.lookup f6 = some ⟨oc6, od6, .func (PySem.W.fnOf "pairs_out" "pairs_out" (defArgs s_pairs_out) (defBody s_pairs_out) (defScope s_pairs_out) .none kV6 dc6 pm6 an6 cd6 ct6), sl6⟩) (c6 : PySem.W.codeIn K cd6 "pairs_out" = true) (k6 : PySem.W.keepIn K (.ref f6) = true)
    {f7 : Addr} {od7 an7 : Option Addr} {sl7 : Array (Option Value)} {oc7 kV7 dc7 pm7 cd7 ct7 : Value}
    (a7 : PySem.W.nsIn K mainGlobals "falls" = some (some (.ref f7))) (l7 : K.lookup f7 = some ⟨oc7, od7, .func (PySem.W.fnOf "falls" "falls" (defArgs s_falls) (defBody s_falls) (defScope s_falls) .none kV7 dc7 pm7 an7 cd7 ct7), sl7⟩) (c7 : PySem.W.codeIn K cd7 "falls" = true) (k7 : PySem.W.keepIn K (.ref f7) = true)
    {f8 : Addr} {od8 an8 : Option Addr} {sl8 : Array (Option Value)} {oc8 kV8 dc8 pm8 cd8 ct8 : Value}
    (a8 : PySem.W.nsIn K mainGlobals "fall_sum" = some (some (.ref f8))) (l8 : K.lookup f8 = some ⟨oc8, od8, .func (PySem.W.fnOf "fall_sum" "fall_sum" (defArgs s_fall_sum) (defBody s_fall_sum) (defScope s_fall_sum) .none kV8 dc8 pm8 an8 cd8 ct8), sl8⟩) (c8 : PySem.W.codeIn K cd8 "fall_sum" = true) (k8 : PySem.W.keepIn K (.ref f8) = true)
    {f9 : Addr} {od9 an9 : Option Addr} {sl9 : Array (Option Value)} {oc9 kV9 dc9 pm9 cd9 ct9 : Value}
    (a9 : PySem.W.nsIn K mainGlobals "standing" = some (some (.ref f9))) (l9 : K.lookup f9 = some ⟨oc9, od9, .func (PySem.W.fnOf "standing" "standing" (defArgs s_standing) (defBody s_standing) (defScope s_standing) .none kV9 dc9 pm9 an9 cd9 ct9), sl9⟩) (c9 : PySem.W.codeIn K cd9 "standing" = true) (k9 : PySem.W.keepIn K (.ref f9) = true)
    {f10 : Addr} {od10 an10 : Option Addr} {sl10 : Array (Option Value)} {oc10 kV10 dc10 pm10 cd10 ct10 : Value}
    (a10 : PySem.W.nsIn K mainGlobals "steps" = some (some (.ref f10))) (l10 : K.lookup f10 = some ⟨oc10, od10, .func (PySem.W.fnOf "steps" "steps" (defArgs s_steps) (defBody s_steps) (defScope s_steps) .none kV10 dc10 pm10 an10 cd10 ct10), sl10⟩) (c10 : PySem.W.codeIn K cd10 "steps" = true) (k10 : PySem.W.keepIn K (.ref f10) = true)
    {f11 : Addr} {od11 an11 : Option Addr} {sl11 : Array (Option Value)} {oc11 kV11 dc11 pm11 cd11 ct11 : Value}
    (a11 : PySem.W.nsIn K mainGlobals "swapped" = some (some (.ref f11))) (l11 : K.lookup f11 = some ⟨oc11, od11, .func (PySem.W.fnOf "swapped" "swapped" (defArgs s_swapped) (defBody s_swapped) (defScope s_swapped) .none kV11 dc11 pm11 an11 cd11 ct11), sl11⟩) (c11 : PySem.W.codeIn K cd11 "swapped" = true) (k11 : PySem.W.keepIn K (.ref f11) = true)
    {f12 : Addr} {od12 an12 : Option Addr} {sl12 : Array (Option Value)} {oc12 kV12 dc12 pm12 cd12 ct12 : Value}
    (a12 : PySem.W.nsIn K mainGlobals "code_of" = some (some (.ref f12))) (l12 : K.lookup f12 = some ⟨oc12, od12, .func (PySem.W.fnOf "code_of" "code_of" (defArgs s_code_of) (defBody s_code_of) (defScope s_code_of) .none kV12 dc12 pm12 an12 cd12 ct12), sl12⟩) (c12 : PySem.W.codeIn K cd12 "code_of" = true) (k12 : PySem.W.keepIn K (.ref f12) = true)
    {f13 : Addr} {od13 an13 : Option Addr} {sl13 : Array (Option Value)} {oc13 kV13 dc13 pm13 cd13 ct13 : Value}
    (a13 : PySem.W.nsIn K mainGlobals "_law_first" = some (some (.ref f13))) (l13 : K.lookup f13 = some ⟨oc13, od13, .func (PySem.W.fnOf "_law_first" "_law_first" (defArgs s_law_first) (defBody s_law_first) (defScope s_law_first) .none kV13 dc13 pm13 an13 cd13 ct13), sl13⟩) (c13 : PySem.W.codeIn K cd13 "_law_first" = true) (k13 : PySem.W.keepIn K (.ref f13) = true)
    {f14 : Addr} {od14 an14 : Option Addr} {sl14 : Array (Option Value)} {oc14 kV14 dc14 pm14 cd14 ct14 : Value}
    (a14 : PySem.W.nsIn K mainGlobals "stands" = some (some (.ref f14))) (l14 : K.lookup f14 = some ⟨oc14, od14, .func (PySem.W.fnOf "stands" "stands" (defArgs s_stands) (defBody s_stands) (defScope s_stands) .none kV14 dc14 pm14 an14 cd14 ct14), sl14⟩) (c14 : PySem.W.codeIn K cd14 "stands" = true) (k14 : PySem.W.keepIn K (.ref f14) = true)
    {f15 : Addr} {od15 an15 : Option Addr} {sl15 : Array (Option Value)} {oc15 kV15 dc15 pm15 cd15 ct15 : Value}
    (a15 : PySem.W.nsIn K mainGlobals "pieces_ended" = some (some (.ref f15))) (l15 : K.lookup f15 = some ⟨oc15, od15, .func (PySem.W.fnOf "pieces_ended" "pieces_ended" (defArgs s_pieces_ended) (defBody s_pieces_ended) (defScope s_pieces_ended) .none kV15 dc15 pm15 an15 cd15 ct15), sl15⟩) (c15 : PySem.W.codeIn K cd15 "pieces_ended" = true) (k15 : PySem.W.keepIn K (.ref f15) = true)
    {f16 : Addr} {od16 an16 : Option Addr} {sl16 : Array (Option Value)} {oc16 kV16 dc16 pm16 cd16 ct16 : Value}
    (a16 : PySem.W.nsIn K mainGlobals "turned" = some (some (.ref f16))) (l16 : K.lookup f16 = some ⟨oc16, od16, .func (PySem.W.fnOf "turned" "turned" (defArgs s_turned) (defBody s_turned) (defScope s_turned) .none kV16 dc16 pm16 an16 cd16 ct16), sl16⟩) (c16 : PySem.W.codeIn K cd16 "turned" = true) (k16 : PySem.W.keepIn K (.ref f16) = true)
    {f17 : Addr} {od17 an17 : Option Addr} {sl17 : Array (Option Value)} {oc17 kV17 dc17 pm17 cd17 ct17 : Value}
    (a17 : PySem.W.nsIn K mainGlobals "pieces_begun" = some (some (.ref f17))) (l17 : K.lookup f17 = some ⟨oc17, od17, .func (PySem.W.fnOf "pieces_begun" "pieces_begun" (defArgs s_pieces_begun) (defBody s_pieces_begun) (defScope s_pieces_begun) .none kV17 dc17 pm17 an17 cd17 ct17), sl17⟩) (c17 : PySem.W.codeIn K cd17 "pieces_begun" = true) (k17 : PySem.W.keepIn K (.ref f17) = true)
    {f18 : Addr} {od18 an18 : Option Addr} {sl18 : Array (Option Value)} {oc18 kV18 dc18 pm18 cd18 ct18 : Value}
    (a18 : PySem.W.nsIn K mainGlobals "turned_back" = some (some (.ref f18))) (l18 : K.lookup f18 = some ⟨oc18, od18, .func (PySem.W.fnOf "turned_back" "turned_back" (defArgs s_turned_back) (defBody s_turned_back) (defScope s_turned_back) .none kV18 dc18 pm18 an18 cd18 ct18), sl18⟩) (c18 : PySem.W.codeIn K cd18 "turned_back" = true) (k18 : PySem.W.keepIn K (.ref f18) = true)
    {f19 : Addr} {od19 an19 : Option Addr} {sl19 : Array (Option Value)} {oc19 kV19 dc19 pm19 cd19 ct19 : Value}
    (a19 : PySem.W.nsIn K mainGlobals "shown" = some (some (.ref f19))) (l19 : K.lookup f19 = some ⟨oc19, od19, .func (PySem.W.fnOf "shown" "shown" (defArgs s_shown) (defBody s_shown) (defScope s_shown) .none kV19 dc19 pm19 an19 cd19 ct19), sl19⟩) (c19 : PySem.W.codeIn K cd19 "shown" = true) (k19 : PySem.W.keepIn K (.ref f19) = true)
    {f20 : Addr} {od20 an20 : Option Addr} {sl20 : Array (Option Value)} {oc20 kV20 dc20 pm20 cd20 ct20 : Value}
    (a20 : PySem.W.nsIn K mainGlobals "asked_full" = some (some (.ref f20))) (l20 : K.lookup f20 = some ⟨oc20, od20, .func (PySem.W.fnOf "asked_full" "asked_full" (defArgs s_asked_full) (defBody s_asked_full) (defScope s_asked_full) .none kV20 dc20 pm20 an20 cd20 ct20), sl20⟩) (c20 : PySem.W.codeIn K cd20 "asked_full" = true) (k20 : PySem.W.keepIn K (.ref f20) = true)
    {f21 : Addr} {od21 an21 : Option Addr} {sl21 : Array (Option Value)} {oc21 kV21 dc21 pm21 cd21 ct21 : Value}
    (a21 : PySem.W.nsIn K mainGlobals "inverse" = some (some (.ref f21))) (l21 : K.lookup f21 = some ⟨oc21, od21, .func (PySem.W.fnOf "inverse" "inverse" (defArgs s_inverse) (defBody s_inverse) (defScope s_inverse) .none kV21 dc21 pm21 an21 cd21 ct21), sl21⟩) (c21 : PySem.W.codeIn K cd21 "inverse" = true) (k21 : PySem.W.keepIn K (.ref f21) = true)
    {f22 : Addr} {od22 an22 : Option Addr} {sl22 : Array (Option Value)} {oc22 kV22 dc22 pm22 cd22 ct22 : Value}
    (a22 : PySem.W.nsIn K mainGlobals "rank_of" = some (some (.ref f22))) (l22 : K.lookup f22 = some ⟨oc22, od22, .func (PySem.W.fnOf "rank_of" "rank_of" (defArgs s_rank_of) (defBody s_rank_of) (defScope s_rank_of) .none kV22 dc22 pm22 an22 cd22 ct22), sl22⟩) (c22 : PySem.W.codeIn K cd22 "rank_of" = true) (k22 : PySem.W.keepIn K (.ref f22) = true)
    {f23 : Addr} {od23 an23 : Option Addr} {sl23 : Array (Option Value)} {oc23 kV23 dc23 pm23 cd23 ct23 : Value}
    (a23 : PySem.W.nsIn K mainGlobals "_law_second" = some (some (.ref f23))) (l23 : K.lookup f23 = some ⟨oc23, od23, .func (PySem.W.fnOf "_law_second" "_law_second" (defArgs s_law_second) (defBody s_law_second) (defScope s_law_second) .none kV23 dc23 pm23 an23 cd23 ct23), sl23⟩) (c23 : PySem.W.codeIn K cd23 "_law_second" = true) (k23 : PySem.W.keepIn K (.ref f23) = true)
    {f24 : Addr} {od24 an24 : Option Addr} {sl24 : Array (Option Value)} {oc24 kV24 dc24 pm24 cd24 ct24 : Value}
    (a24 : PySem.W.nsIn K mainGlobals "_law_kind" = some (some (.ref f24))) (l24 : K.lookup f24 = some ⟨oc24, od24, .func (PySem.W.fnOf "_law_kind" "_law_kind" (defArgs s_law_kind) (defBody s_law_kind) (defScope s_law_kind) .none kV24 dc24 pm24 an24 cd24 ct24), sl24⟩) (c24 : PySem.W.codeIn K cd24 "_law_kind" = true) (k24 : PySem.W.keepIn K (.ref f24) = true)
    {f25 : Addr} {od25 an25 : Option Addr} {sl25 : Array (Option Value)} {oc25 kV25 dc25 pm25 cd25 ct25 : Value}
    (a25 : PySem.W.nsIn K mainGlobals "_law_tried" = some (some (.ref f25))) (l25 : K.lookup f25 = some ⟨oc25, od25, .func (PySem.W.fnOf "_law_tried" "_law_tried" (defArgs s_law_tried) (defBody s_law_tried) (defScope s_law_tried) .none kV25 dc25 pm25 an25 cd25 ct25), sl25⟩) (c25 : PySem.W.codeIn K cd25 "_law_tried" = true) (k25 : PySem.W.keepIn K (.ref f25) = true)
    {f26 : Addr} {od26 an26 : Option Addr} {sl26 : Array (Option Value)} {oc26 kV26 dc26 pm26 cd26 ct26 : Value}
    (a26 : PySem.W.nsIn K mainGlobals "law" = some (some (.ref f26))) (l26 : K.lookup f26 = some ⟨oc26, od26, .func (PySem.W.fnOf "law" "law" (defArgs s_law) (defBody s_law) (defScope s_law) .none kV26 dc26 pm26 an26 cd26 ct26), sl26⟩) (c26 : PySem.W.codeIn K cd26 "law" = true) (k26 : PySem.W.keepIn K (.ref f26) = true)
    (z_ValueError : PySem.W.nsIn K mainGlobals "ValueError" = some none)
    (z_isinstance : PySem.W.nsIn K mainGlobals "isinstance" = some none)
    (z_len : PySem.W.nsIn K mainGlobals "len" = some none)
    (z_list : PySem.W.nsIn K mainGlobals "list" = some none)
    (z_min : PySem.W.nsIn K mainGlobals "min" = some none)
    (z_range : PySem.W.nsIn K mainGlobals "range" = some none)
    (z_reversed : PySem.W.nsIn K mainGlobals "reversed" = some none)
    (z_sorted : PySem.W.nsIn K mainGlobals "sorted" = some none)
    (z_str : PySem.W.nsIn K mainGlobals "str" = some none)
    (z_sum : PySem.W.nsIn K mainGlobals "sum" = some none)
    {t_GREATEST : Tok} (y_GREATEST : PySem.W.nsIn K mainGlobals "GREATEST" = some (some (.int 99 t_GREATEST)))
    {t_MOST : Tok} (y_MOST : PySem.W.nsIn K mainGlobals "MOST" = some (some (.int 12 t_MOST)))
    {cl_ShelfError cl_NoRow cl_NoPlace cl_NotFull cl_NoCode cl_NoRank cl_NoAmount cl_NoNote : Addr}
    (g_ShelfError : PySem.W.nsIn K mainGlobals "ShelfError" = some (some (.ref cl_ShelfError)))
    (t_ShelfError : PySem.W.typeIn K (.ref cl_ShelfError) = some (.type "type")) (c3_ShelfError : PySem.W.hasDictIn K cl_ShelfError = true)
    (g_NoRow : PySem.W.nsIn K mainGlobals "NoRow" = some (some (.ref cl_NoRow)))
    (t_NoRow : PySem.W.typeIn K (.ref cl_NoRow) = some (.type "type")) (c3_NoRow : PySem.W.hasDictIn K cl_NoRow = true)
    (g_NoPlace : PySem.W.nsIn K mainGlobals "NoPlace" = some (some (.ref cl_NoPlace)))
    (t_NoPlace : PySem.W.typeIn K (.ref cl_NoPlace) = some (.type "type")) (c3_NoPlace : PySem.W.hasDictIn K cl_NoPlace = true)
    (g_NotFull : PySem.W.nsIn K mainGlobals "NotFull" = some (some (.ref cl_NotFull)))
    (t_NotFull : PySem.W.typeIn K (.ref cl_NotFull) = some (.type "type")) (c3_NotFull : PySem.W.hasDictIn K cl_NotFull = true)
    (g_NoCode : PySem.W.nsIn K mainGlobals "NoCode" = some (some (.ref cl_NoCode)))
    (t_NoCode : PySem.W.typeIn K (.ref cl_NoCode) = some (.type "type")) (c3_NoCode : PySem.W.hasDictIn K cl_NoCode = true)
    (g_NoRank : PySem.W.nsIn K mainGlobals "NoRank" = some (some (.ref cl_NoRank)))
    (t_NoRank : PySem.W.typeIn K (.ref cl_NoRank) = some (.type "type")) (c3_NoRank : PySem.W.hasDictIn K cl_NoRank = true)
    (g_NoAmount : PySem.W.nsIn K mainGlobals "NoAmount" = some (some (.ref cl_NoAmount)))
    (t_NoAmount : PySem.W.typeIn K (.ref cl_NoAmount) = some (.type "type")) (c3_NoAmount : PySem.W.hasDictIn K cl_NoAmount = true)
    (g_NoNote : PySem.W.nsIn K mainGlobals "NoNote" = some (some (.ref cl_NoNote)))
    (t_NoNote : PySem.W.typeIn K (.ref cl_NoNote) = some (.type "type")) (c3_NoNote : PySem.W.hasDictIn K cl_NoNote = true)
    (b_ShelfError : PySem.W.subIn K (.ref cl_ShelfError) (.type "BaseException") = some true)
    (x_NoRow : PySem.W.excIn K cl_NoRow [.type "ValueError", .type "Exception", .type "BaseException", .type "object"] "ValueError.__new__" = true)
    (k_NoRow : PySem.W.keepIn K (.ref cl_NoRow) = true)
    (b_NoRow : PySem.W.subIn K (.ref cl_NoRow) (.type "BaseException") = some true)
    (e_NoRow : PySem.W.subIn K (.ref cl_NoRow) (.ref cl_ShelfError) = some true)
    (v_NoRow : PySem.W.subIn K (.ref cl_NoRow) (.type "ValueError") = some true)
    (c1_NoRow : PySem.W.findIn K (.ref cl_NoRow) "__getattribute__" = some (some (.builtin "BaseException.__getattribute__")))
    (c2_NoRow : PySem.W.findIn K (.ref cl_NoRow) "__getattr__" = some none)
    (c4_NoRow : PySem.W.findIn K (.ref cl_NoRow) "__class__" = some (some (.builtin "object.__class__")))
    (c5_NoRow : PySem.W.mroIn K cl_NoRow (.type "object") = some true)
    (q_NoRow_NoRow : PySem.W.subIn K (.ref cl_NoRow) (.ref cl_NoRow) = some true)
    (q_NoRow_NoPlace : PySem.W.subIn K (.ref cl_NoRow) (.ref cl_NoPlace) = some false)
    (q_NoRow_NotFull : PySem.W.subIn K (.ref cl_NoRow) (.ref cl_NotFull) = some false)
    (q_NoRow_NoCode : PySem.W.subIn K (.ref cl_NoRow) (.ref cl_NoCode) = some false)
    (q_NoRow_NoRank : PySem.W.subIn K (.ref cl_NoRow) (.ref cl_NoRank) = some false)
    (q_NoRow_NoAmount : PySem.W.subIn K (.ref cl_NoRow) (.ref cl_NoAmount) = some false)
    (q_NoRow_NoNote : PySem.W.subIn K (.ref cl_NoRow) (.ref cl_NoNote) = some false)
    (w1 : PySem.W.specialIn K (.builtin "object.__class__") "__get__" = some (some (.builtin "getset_descriptor.__get__"))) (w2 : PySem.W.takesIn K (.builtin "object.__class__") = some true)
    : ∃ fd : FuncData, (∀ (s : Shared) (v : Value), BindsTo s fd ⟨[v], []⟩ [("script", v)]) ∧ ∀ base : Heap, K.In base → base.Ns mainGlobals mg → FnOk l.prog w K mg base CX0 6 fa fd ["script"] (sp_law K) := by
  have e := hfa.symm.trans (PySem.W.mg_of X G a26)
  cases e
  obtain ⟨C, hC⟩ : ∃ C : Nat → Addr, C = fun i => ([cl_ShelfError, cl_NoRow, cl_NoPlace, cl_NotFull, cl_NoCode, cl_NoRank, cl_NoAmount, cl_NoNote] : List Addr).getD i 0 := ⟨_, rfl⟩
  have C_ShelfError : C 0 = cl_ShelfError := by rw [hC]; rfl
  have C_NoRow : C 1 = cl_NoRow := by rw [hC]; rfl
  have C_NoPlace : C 2 = cl_NoPlace := by rw [hC]; rfl
  have C_NotFull : C 3 = cl_NotFull := by rw [hC]; rfl
  have C_NoCode : C 4 = cl_NoCode := by rw [hC]; rfl
  have C_NoRank : C 5 = cl_NoRank := by rw [hC]; rfl
  have C_NoAmount : C 6 = cl_NoAmount := by rw [hC]; rfl
  have C_NoNote : C 7 = cl_NoNote := by rw [hC]; rfl
  have T : Bi K mg C := ⟨PySem.W.mg_none_of X G z_ValueError, PySem.W.mg_none_of X G z_isinstance, PySem.W.mg_none_of X G z_len, PySem.W.mg_none_of X G z_list, PySem.W.mg_none_of X G z_min, PySem.W.mg_none_of X G z_range, PySem.W.mg_none_of X G z_reversed, PySem.W.mg_none_of X G z_sorted, PySem.W.mg_none_of X G z_str, PySem.W.mg_none_of X G z_sum, ⟨_, PySem.W.mg_of X G y_GREATEST⟩, ⟨_, PySem.W.mg_of X G y_MOST⟩, by rw [C_ShelfError]; exact PySem.W.mg_of X G g_ShelfError, by rw [C_NoRow]; exact PySem.W.mg_of X G g_NoRow, by rw [C_NoPlace]; exact PySem.W.mg_of X G g_NoPlace, by rw [C_NotFull]; exact PySem.W.mg_of X G g_NotFull, by rw [C_NoCode]; exact PySem.W.mg_of X G g_NoCode, by rw [C_NoRank]; exact PySem.W.mg_of X G g_NoRank, by rw [C_NoAmount]; exact PySem.W.mg_of X G g_NoAmount, by rw [C_NoNote]; exact PySem.W.mg_of X G g_NoNote, by rw [C_NoRow, C_ShelfError]; exact ⟨PySem.W.mg_of X G g_NoRow, x_NoRow, k_NoRow, b_NoRow, t_NoRow, PySem.W.exm_ref b_ShelfError c3_ShelfError t_ShelfError e_NoRow, ⟨c1_NoRow, c2_NoRow, b_NoRow, c3_NoRow, c4_NoRow, w1, w2, c5_NoRow⟩, kit_ve v_NoRow⟩, by rw [C_NoRow]; exact kit_ref c3_NoRow t_NoRow q_NoRow_NoRow q_NoRow_NoRow, by rw [C_NoRow, C_NoPlace]; exact kit_ref c3_NoPlace t_NoPlace q_NoRow_NoRow q_NoRow_NoPlace, by rw [C_NoRow, C_NotFull]; exact kit_ref c3_NotFull t_NotFull q_NoRow_NoRow q_NoRow_NotFull, by rw [C_NoRow, C_NoCode]; exact kit_ref c3_NoCode t_NoCode q_NoRow_NoRow q_NoRow_NoCode, by rw [C_NoRow, C_NoRank]; exact kit_ref c3_NoRank t_NoRank q_NoRow_NoRow q_NoRow_NoRank, by rw [C_NoRow, C_NoAmount]; exact kit_ref c3_NoAmount t_NoAmount q_NoRow_NoRow q_NoRow_NoAmount, by rw [C_NoRow, C_NoNote]; exact kit_ref c3_NoNote t_NoNote q_NoRow_NoRow q_NoRow_NoNote⟩
  refine ⟨PySem.W.fnOf "law" "law" (defArgs s_law) (defBody s_law) (defScope s_law) .none kV26 dc26 pm26 an26 cd26 ct26, fun s v => .of_eq rfl, fun base _ _ => ?_⟩
  have h_law_cell_at := ok_law_cell_at (P := l.prog) (w := w) (base := base) T ⟨_, _, fun_mk (st := s_law_cell_at) l0 c0 k0, PySem.W.mg_of X G a0⟩
  have h_law_next := ok_law_next (P := l.prog) (w := w) (base := base) T ⟨_, _, fun_mk (st := s_law_next) l1 c1 k1, PySem.W.mg_of X G a1⟩
  have h_law_row := ok_law_row (P := l.prog) (w := w) (base := base) T h_law_cell_at h_law_next ⟨_, _, fun_mk (st := s_law_row) l2 c2 k2, PySem.W.mg_of X G a2⟩
  have h_law_bad_row := ok_law_bad_row (P := l.prog) (w := w) (base := base) T ⟨_, _, fun_mk (st := s_law_bad_row) l3 c3 k3, PySem.W.mg_of X G a3⟩
  have h_asked_row := ok_asked_row (P := l.prog) (w := w) (base := base) T ⟨_, _, fun_mk (st := s_asked_row) l4 c4 k4, PySem.W.mg_of X G a4⟩
  have h_less_behind := ok_less_behind (P := l.prog) (w := w) (base := base) T ⟨_, _, fun_mk (st := s_less_behind) l5 c5 k5, PySem.W.mg_of X G a5⟩
  have h_pairs_out := ok_pairs_out (P := l.prog) (w := w) (base := base) T h_asked_row h_less_behind ⟨_, _, fun_mk (st := s_pairs_out) l6 c6 k6, PySem.W.mg_of X G a6⟩
  have h_falls := ok_falls (P := l.prog) (w := w) (base := base) T h_asked_row ⟨_, _, fun_mk (st := s_falls) l7 c7 k7, PySem.W.mg_of X G a7⟩
  have h_fall_sum := ok_fall_sum (P := l.prog) (w := w) (base := base) T h_falls ⟨_, _, fun_mk (st := s_fall_sum) l8 c8 k8, PySem.W.mg_of X G a8⟩
  have h_standing := ok_standing (P := l.prog) (w := w) (base := base) T h_asked_row ⟨_, _, fun_mk (st := s_standing) l9 c9 k9, PySem.W.mg_of X G a9⟩
  have h_steps := ok_steps (P := l.prog) (w := w) (base := base) T h_asked_row ⟨_, _, fun_mk (st := s_steps) l10 c10 k10, PySem.W.mg_of X G a10⟩
  have h_swapped := ok_swapped (P := l.prog) (w := w) (base := base) T h_asked_row ⟨_, _, fun_mk (st := s_swapped) l11 c11 k11, PySem.W.mg_of X G a11⟩
  have h_code_of := ok_code_of (P := l.prog) (w := w) (base := base) T h_asked_row h_less_behind ⟨_, _, fun_mk (st := s_code_of) l12 c12 k12, PySem.W.mg_of X G a12⟩
  have h_law_first := ok_law_first (P := l.prog) (w := w) (base := base) T h_pairs_out h_falls h_fall_sum h_standing h_steps h_swapped h_code_of ⟨_, _, fun_mk (st := s_law_first) l13 c13 k13, PySem.W.mg_of X G a13⟩
  have h_stands := ok_stands (P := l.prog) (w := w) (base := base) T ⟨_, _, fun_mk (st := s_stands) l14 c14 k14, PySem.W.mg_of X G a14⟩
  have h_pieces_ended := ok_pieces_ended (P := l.prog) (w := w) (base := base) T h_stands ⟨_, _, fun_mk (st := s_pieces_ended) l15 c15 k15, PySem.W.mg_of X G a15⟩
  have h_turned := ok_turned (P := l.prog) (w := w) (base := base) T h_asked_row h_pieces_ended ⟨_, _, fun_mk (st := s_turned) l16 c16 k16, PySem.W.mg_of X G a16⟩
  have h_pieces_begun := ok_pieces_begun (P := l.prog) (w := w) (base := base) T h_stands ⟨_, _, fun_mk (st := s_pieces_begun) l17 c17 k17, PySem.W.mg_of X G a17⟩
  have h_turned_back := ok_turned_back (P := l.prog) (w := w) (base := base) T h_asked_row h_pieces_begun ⟨_, _, fun_mk (st := s_turned_back) l18 c18 k18, PySem.W.mg_of X G a18⟩
  have h_shown := ok_shown (P := l.prog) (w := w) (base := base) T h_asked_row ⟨_, _, fun_mk (st := s_shown) l19 c19 k19, PySem.W.mg_of X G a19⟩
  have h_asked_full := ok_asked_full (P := l.prog) (w := w) (base := base) T h_asked_row ⟨_, _, fun_mk (st := s_asked_full) l20 c20 k20, PySem.W.mg_of X G a20⟩
  have h_inverse := ok_inverse (P := l.prog) (w := w) (base := base) T h_asked_full ⟨_, _, fun_mk (st := s_inverse) l21 c21 k21, PySem.W.mg_of X G a21⟩
  have h_rank_of := ok_rank_of (P := l.prog) (w := w) (base := base) T h_asked_full h_less_behind ⟨_, _, fun_mk (st := s_rank_of) l22 c22 k22, PySem.W.mg_of X G a22⟩
  have h_law_second := ok_law_second (P := l.prog) (w := w) (base := base) T h_turned h_turned_back h_shown h_inverse h_rank_of h_swapped ⟨_, _, fun_mk (st := s_law_second) l23 c23 k23, PySem.W.mg_of X G a23⟩
  have h_law_kind := ok_law_kind (P := l.prog) (w := w) (base := base) T ⟨_, _, fun_mk (st := s_law_kind) l24 c24 k24, PySem.W.mg_of X G a24⟩
  have h_law_tried := ok_law_tried (P := l.prog) (w := w) (base := base) T h_law_first h_law_second h_law_kind ⟨_, _, fun_mk (st := s_law_tried) l25 c25 k25, PySem.W.mg_of X G a25⟩
  exact ok_law T h_law_row h_law_bad_row h_law_cell_at h_law_tried (fun_mk (st := s_law) l26 c26 k26)
end Sh
open PySem PySem.W PyProof.Rows
set_option maxHeartbeats 0 in
theorem PySem.Challenge.cw_shelfway_k06_no_row_holds : PySem.Challenge.rw_shelfway_k06_no_row.Holds := by
  w_on; o_law; k_head; (case hw => w_witness2)
  k_fill
  refine L2.walk_of (l := PySem.Challenge.rw_shelfway_k06_no_row) (n := 63) (k := 6) (x := "script") (CX := fun _ => L2.CX0) (sp := fun w => Sh.sp_law _) rfl (by decide) rfl ⟨rfl, by decide, by decide⟩ (fun w h Y => PySem.W.kIn_of Y) ?F (fun _ _ a ns hl _ hS => ⟨a, ns, rfl, hS, hl, fun _ => rfl⟩) (fun _ _ _ _ _ h => h)
  case F =>
    intro w mg fa h KX G hmg
    refine' Sh.all_mk KX G hmg ?a0 ?l0 ?c0 ?k0 ?a1 ?l1 ?c1 ?k1 ?a2 ?l2 ?c2 ?k2 ?a3 ?l3 ?c3 ?k3 ?a4 ?l4 ?c4 ?k4 ?a5 ?l5 ?c5 ?k5 ?a6 ?l6 ?c6 ?k6 ?a7 ?l7 ?c7 ?k7 ?a8 ?l8 ?c8 ?k8 ?a9 ?l9 ?c9 ?k9 ?a10 ?l10 ?c10 ?k10 ?a11 ?l11 ?c11 ?k11 ?a12 ?l12 ?c12 ?k12 ?a13 ?l13 ?c13 ?k13 ?a14 ?l14 ?c14 ?k14 ?a15 ?l15 ?c15 ?k15 ?a16 ?l16 ?c16 ?k16 ?a17 ?l17 ?c17 ?k17 ?a18 ?l18 ?c18 ?k18 ?a19 ?l19 ?c19 ?k19 ?a20 ?l20 ?c20 ?k20 ?a21 ?l21 ?c21 ?k21 ?a22 ?l22 ?c22 ?k22 ?a23 ?l23 ?c23 ?k23 ?a24 ?l24 ?c24 ?k24 ?a25 ?l25 ?c25 ?k25 ?a26 ?l26 ?c26 ?k26 ?z_ValueError ?z_isinstance ?z_len ?z_list ?z_min ?z_range ?z_reversed ?z_sorted ?z_str ?z_sum ?y_GREATEST ?y_MOST ?g_ShelfError ?t_ShelfError ?c3_ShelfError ?g_NoRow ?t_NoRow ?c3_NoRow ?g_NoPlace ?t_NoPlace ?c3_NoPlace ?g_NotFull ?t_NotFull ?c3_NotFull ?g_NoCode ?t_NoCode ?c3_NoCode ?g_NoRank ?t_NoRank ?c3_NoRank ?g_NoAmount ?t_NoAmount ?c3_NoAmount ?g_NoNote ?t_NoNote ?c3_NoNote ?b_ShelfError ?x_NoRow ?k_NoRow ?b_NoRow ?e_NoRow ?v_NoRow ?c1_NoRow ?c2_NoRow ?c4_NoRow ?c5_NoRow ?q_NoRow_NoRow ?q_NoRow_NoPlace ?q_NoRow_NotFull ?q_NoRow_NoCode ?q_NoRow_NoRank ?q_NoRow_NoAmount ?q_NoRow_NoNote ?w1 ?w2
    (case a0 => k_is); (case l0 => k_is); (case c0 => k_is); (case k0 => k_is); (case a1 => k_is); (case l1 => k_is)
    (case c1 => k_is); (case k1 => k_is); (case a2 => k_is); (case l2 => k_is); (case c2 => k_is); (case k2 => k_is)
    (case a3 => k_is); (case l3 => k_is); (case c3 => k_is); (case k3 => k_is); (case a4 => k_is); (case l4 => k_is)
    (case c4 => k_is); (case k4 => k_is); (case a5 => k_is); (case l5 => k_is); (case c5 => k_is); (case k5 => k_is)
    (case a6 => k_is); (case l6 => k_is); (case c6 => k_is); (case k6 => k_is); (case a7 => k_is); (case l7 => k_is)
    (case c7 => k_is); (case k7 => k_is); (case a8 => k_is); (case l8 => k_is); (case c8 => k_is); (case k8 => k_is)
    (case a9 => k_is); (case l9 => k_is); (case c9 => k_is); (case k9 => k_is); (case a10 => k_is); (case l10 => k_is)
    (case c10 => k_is); (case k10 => k_is); (case a11 => k_is); (case l11 => k_is); (case c11 => k_is); (case k11 => k_is)
    (case a12 => k_is); (case l12 => k_is); (case c12 => k_is); (case k12 => k_is); (case a13 => k_is); (case l13 => k_is)
    (case c13 => k_is); (case k13 => k_is); (case a14 => k_is); (case l14 => k_is); (case c14 => k_is); (case k14 => k_is)
    (case a15 => k_is); (case l15 => k_is); (case c15 => k_is); (case k15 => k_is); (case a16 => k_is); (case l16 => k_is)
    (case c16 => k_is); (case k16 => k_is); (case a17 => k_is); (case l17 => k_is); (case c17 => k_is); (case k17 => k_is)
    (case a18 => k_is); (case l18 => k_is); (case c18 => k_is); (case k18 => k_is); (case a19 => k_is); (case l19 => k_is)
    (case c19 => k_is); (case k19 => k_is); (case a20 => k_is); (case l20 => k_is); (case c20 => k_is); (case k20 => k_is)
    (case a21 => k_is); (case l21 => k_is); (case c21 => k_is); (case k21 => k_is); (case a22 => k_is); (case l22 => k_is)
    (case c22 => k_is); (case k22 => k_is); (case a23 => k_is); (case l23 => k_is); (case c23 => k_is); (case k23 => k_is)
    (case a24 => k_is); (case l24 => k_is); (case c24 => k_is); (case k24 => k_is); (case a25 => k_is); (case l25 => k_is)
    (case c25 => k_is); (case k25 => k_is); (case a26 => k_is); (case l26 => k_is); (case c26 => k_is); (case k26 => k_is)
    (case z_ValueError => k_is); (case z_isinstance => k_is); (case z_len => k_is); (case z_list => k_is); (case z_min => k_is); (case z_range => k_is)
    (case z_reversed => k_is); (case z_sorted => k_is); (case z_str => k_is); (case z_sum => k_is); (case y_GREATEST => k_is); (case y_MOST => k_is)
    (case g_ShelfError => k_is); (case t_ShelfError => k_is); (case c3_ShelfError => k_is); (case g_NoRow => k_is); (case t_NoRow => k_is); (case c3_NoRow => k_is)
    (case g_NoPlace => k_is); (case t_NoPlace => k_is); (case c3_NoPlace => k_is); (case g_NotFull => k_is); (case t_NotFull => k_is); (case c3_NotFull => k_is)
    (case g_NoCode => k_is); (case t_NoCode => k_is); (case c3_NoCode => k_is); (case g_NoRank => k_is); (case t_NoRank => k_is); (case c3_NoRank => k_is)
    (case g_NoAmount => k_is); (case t_NoAmount => k_is); (case c3_NoAmount => k_is); (case g_NoNote => k_is); (case t_NoNote => k_is); (case c3_NoNote => k_is)
    (case b_ShelfError => k_is); (case x_NoRow => k_exc); (case k_NoRow => k_is); (case b_NoRow => k_is); (case e_NoRow => k_is); (case v_NoRow => k_is)
    (case c1_NoRow => k_is); (case c2_NoRow => k_is); (case c4_NoRow => k_is); (case c5_NoRow => k_is); (case q_NoRow_NoRow => first | rfl | k_is); (case q_NoRow_NoPlace => first | rfl | k_is)
    (case q_NoRow_NotFull => first | rfl | k_is); (case q_NoRow_NoCode => first | rfl | k_is); (case q_NoRow_NoRank => first | rfl | k_is); (case q_NoRow_NoAmount => first | rfl | k_is); (case q_NoRow_NoNote => first | rfl | k_is); (case w1 => k_is)
    (case w2 => k_is)
