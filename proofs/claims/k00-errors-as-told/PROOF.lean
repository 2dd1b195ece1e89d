import PyProof.Rows.All
import Wide.All
import OpenK.AllK
import Wide.FinOn
import HandS.ForExc
import HandS.Dict
import HandS.WordsDict
import HandS.Evl
import PySem.Challenge.RW_shapeskept_k00_errors_as_told
import HandS.ExcInit
import HandS.ExcField
import HandS.ExcIs
import HandS.ExcValue
import HandS.HotCalls
import HandS.IsInst
import KE.KExcIs
import HandS.Zip
import HandS.Iter
import HandS.Style
import HandS.EndBits
import HandS.Head0
import HandS.Head1
import HandS.Head2
import HandS.HeadEnd
import HandS.HeadHook1
import HandS.HeadHook2
import HandS.HeadHook3
import HandS.HeadHook4
set_option Elab.async false
set_option linter.all false
set_option maxRecDepth 100000
set_option maxHeartbeats 4000000
namespace Mine
open PySem L2
def top (i : Nat) : Stmt := PySem.Challenge.pw_shapeskept_k00_errors_as_told.main.body.getD i (.Pass ⟨0, 0, 0, 0⟩)
abbrev sPen : Stmt := top 14
abbrev sDraw : Stmt := top 15
abbrev sPick : Stmt := top 16
/-! the pen: a dict of five text keys -/
def kCells : Key := .inr "cells"
def kAt : Key := .inr "at"
def kDig : Key := .inr "digits"
def kCnt : Key := .inr "count"
def kFold : Key := .inr "fold"
def penKV (c : Addr) (at_ dg ct fo : Int) : List (Key × V) := [(kCells, .ref c), (kAt, .int at_), (kDig, .int dg), (kCnt, .int ct), (kFold, .int fo)]
theorem q12 : ¬ kCells = kAt := by decide +kernel
theorem q13 : ¬ kCells = kDig := by decide +kernel
theorem q14 : ¬ kCells = kCnt := by decide +kernel
theorem q15 : ¬ kCells = kFold := by decide +kernel
theorem q23 : ¬ kAt = kDig := by decide +kernel
theorem q24 : ¬ kAt = kCnt := by decide +kernel
theorem q25 : ¬ kAt = kFold := by decide +kernel
theorem q34 : ¬ kDig = kCnt := by decide +kernel
theorem q35 : ¬ kDig = kFold := by decide +kernel
theorem q45 : ¬ kCnt = kFold := by decide +kernel
theorem q32 : ¬ kDig = kAt := fun h => q23 h.symm
theorem q42 : ¬ kCnt = kAt := fun h => q24 h.symm
theorem q52 : ¬ kFold = kAt := fun h => q25 h.symm
theorem q43 : ¬ kCnt = kDig := fun h => q34 h.symm
theorem q53 : ¬ kFold = kDig := fun h => q35 h.symm
theorem q54 : ¬ kFold = kCnt := fun h => q45 h.symm
section
variable {c p : Addr} {a d n f z : Int} {H : Hp}
theorem v_cells : valV (penKV c a d n f) kCells = some (.ref c) := valV_pos rfl
theorem v_at : valV (penKV c a d n f) kAt = some (.int a) := by unfold penKV; rw [valV_neg q12, valV_pos rfl]
theorem v_dig : valV (penKV c a d n f) kDig = some (.int d) := by unfold penKV; rw [valV_neg q13, valV_neg q23, valV_pos rfl]
theorem v_cnt : valV (penKV c a d n f) kCnt = some (.int n) := by unfold penKV; rw [valV_neg q14, valV_neg q24, valV_neg q34, valV_pos rfl]
theorem v_fold : valV (penKV c a d n f) kFold = some (.int f) := by unfold penKV; rw [valV_neg q15, valV_neg q25, valV_neg q35, valV_neg q45, valV_pos rfl]
theorem w_at : putK (penKV c a d n f) kAt (.int z) = penKV c z d n f := by
  simp [putK, penKV, q12, q32, q42, q52]
theorem w_dig : putK (penKV c a d n f) kDig (.int z) = penKV c a z n f := by
  simp [putK, penKV, q13, q23, q43, q53]
theorem w_cnt : putK (penKV c a d n f) kCnt (.int z) = penKV c a d z f := by
  simp [putK, penKV, q14, q24, q34, q54]
theorem w_fold : putK (penKV c a d n f) kFold (.int z) = penKV c a d n z := by
  simp [putK, penKV, q15, q25, q35, q45]
theorem pen_made : mergeK [] (penKV c a d n f) = penKV c a d n f := by
  simp [mergeK, putK, penKV, q12, q13, q14, q15, q23, q24, q25, q34, q35, q45]
theorem g_cells (h : H p = some (.dK (penKV c a d n f))) : DGet H p (.str "cells") (some (.ref c)) := by
  have z := DGet.k (k := kCells) h
  rw [v_cells] at z
  exact z
theorem g_at (h : H p = some (.dK (penKV c a d n f))) : DGet H p (.str "at") (some (.int a)) := by
  have z := DGet.k (k := kAt) h
  rw [v_at] at z
  exact z
theorem g_dig (h : H p = some (.dK (penKV c a d n f))) : DGet H p (.str "digits") (some (.int d)) := by
  have z := DGet.k (k := kDig) h
  rw [v_dig] at z
  exact z
theorem g_cnt (h : H p = some (.dK (penKV c a d n f))) : DGet H p (.str "count") (some (.int n)) := by
  have z := DGet.k (k := kCnt) h
  rw [v_cnt] at z
  exact z
theorem g_fold (h : H p = some (.dK (penKV c a d n f))) : DGet H p (.str "fold") (some (.int f)) := by
  have z := DGet.k (k := kFold) h
  rw [v_fold] at z
  exact z
theorem pen_small : (penKV c a d n f).length < sizeLine := small1000 (show 5 ≤ 1000 by decide)
theorem p_at (h : H p = some (.dK (penKV c a d n f))) : DPut H p (.str "at") (.int z) (upd H p (.dK (penKV c z d n f))) := by
  have y := DPut.k (k := kAt) (v := .int z) h pen_small
  rw [w_at] at y
  exact y
theorem p_dig (h : H p = some (.dK (penKV c a d n f))) : DPut H p (.str "digits") (.int z) (upd H p (.dK (penKV c a z n f))) := by
  have y := DPut.k (k := kDig) (v := .int z) h pen_small
  rw [w_dig] at y
  exact y
theorem p_cnt (h : H p = some (.dK (penKV c a d n f))) : DPut H p (.str "count") (.int z) (upd H p (.dK (penKV c a d z f))) := by
  have y := DPut.k (k := kCnt) (v := .int z) h pen_small
  rw [w_cnt] at y
  exact y
theorem p_fold (h : H p = some (.dK (penKV c a d n f))) : DPut H p (.str "fold") (.int z) (upd H p (.dK (penKV c a d n z))) := by
  have y := DPut.k (k := kFold) (v := .int z) h pen_small
  rw [w_fold] at y
  exact y
end
/-- a pen stands at p -/
def PenAt (H : Hp) (p : Addr) : Prop := ∃ (c : Addr) (ns : List Int) (i : Nat) (dg ct fo : Int),
  H p = some (.dK (penKV c i dg ct fo)) ∧ H c = some (.lst (ns.map V.int)) ∧ ns.length ≤ 1000
/-- all else stands -/
def But (p : Addr) (H H' : Hp) : Prop := ∀ b o, b ≠ p → H b = some o → H' b = some o
theorem But.refl {p : Addr} {H : Hp} : But p H H := fun _ _ _ h => h
theorem But.trans {p : Addr} {H H1 H2 : Hp} (a : But p H H1) (b : But p H1 H2) : But p H H2 := fun c o n h => b c o n (a c o n h)
theorem But.put {p : Addr} {H H' : Hp} {o : HO} (a : But p H H') : But p H (upd H' p o) := fun c u n h => by
  rw [upd_ne n]
  exact a c u n h
theorem But.new {p q : Addr} {H H' : Hp} {o : HO} (a : But p H H') (hq : H' q = none) : But p H (upd H' q o) := fun c u n h => by
  have z := a c u n h
  rw [upd_ne (ne_of_none z hq)]
  exact z
def spPen (K : PySem.W.Frag) : Sp := fun vs H Q _ => ∃ (l : Addr) (ns : List Int), vs = [.ref l] ∧ SqL K H l (ns.map V.int) ∧ ns.length ≤ 1000 ∧
  ∀ p H', H p = none → Same H H' → PenAt H' p → Q (.ref p) H'
def spDraw : Sp := fun vs H Q _ => ∃ (p : Addr) (m : Int), vs = [.ref p, .int m] ∧ 0 < m ∧ m < 1073741824 ∧ PenAt H p ∧
  ∀ r H', 0 ≤ r → r < m → But p H H' → PenAt H' p → Q (.int r) H'
def spPick (K : PySem.W.Frag) : Sp := fun vs H Q _ => ∃ (p l : Addr) (xs : List V), vs = [.ref p, .ref l] ∧ l ≠ p ∧ SqL K H l xs ∧ 0 < xs.length ∧ xs.length < 1073741824 ∧ PenAt H p ∧
  ∀ v H', v ∈ xs → But p H H' → PenAt H' p → Q v H'
section
variable {P : Program} {w : World} {K : PySem.W.Frag} {mg : Str → Option Value} {base : Heap}
theorem scPen : FnScope ["script", "fold", "cell"] ["script"] (defScope sPen) := ⟨rfl, rfl, rfl, by decide +kernel, rfl, by decide +kernel, by decide +kernel⟩
theorem ok_pen {f : Addr} {fd : FuncData} (F : Fun K "_law_pen" "_law_pen" sPen f fd) (mI : mg "int" = none) (mL : mg "list" = none) : FnOk P w K mg base CX0 1 f fd ["script"] (spPen K) := by
  refine F.ok scPen (fun vs H Q E h => ?_) (fun cdv A outer s H vs Q E hr h => ?_)
  · obtain ⟨l, ns, rfl, _⟩ := h
    rfl
  · obtain ⟨l, ns, rfl, hS, hlen, k⟩ := h
    refine ⟨_, pss_cons (ps_set (i := 1) scPen.nd rfl (Or.inl rfl) pe_int)
      (pss_cons (ps_for PassesOwn.never rfl (pi_list (pv 0)) (pg_name (i := 2) scPen.nd rfl (Or.inl rfl))
        (pss_one (ps_set (i := 1) scPen.nd rfl (Or.inl rfl) (pe_op op_mod (pe_callTy call_int1 rfl mI PyProof.Rows.boot_int (pa_cons (pe_op op_add (pe_op op_mul (pv 1) pe_int) (pv 2)) pa_nil)) pe_int))))
      (pss_one (ps_ret (pe_disp (pps_cons pe_str (pe_callTy call_list_of rfl mL PyProof.Rows.boot_list (pa_cons (pv 0) pa_nil)) (pps_cons pe_str pe_int (pps_cons pe_str pe_int (pps_cons pe_str pe_int (pps_cons pe_str (pv 1) pps_nil))))) (by rfl) (by rfl) (fun z => by cases z) (by decide))))), ?_⟩
    refine ⟨_, rfl, l, rfl, ⟨_, hS⟩, for_list (K := K) (a := l) (xs := ns.map V.int) (fun i σ H' => H' = H ∧ ∃ (z : Int) (v : Option V), σ = [some (.ref l), some (.int z), v]) ⟨rfl, 0, none, rfl⟩
      (fun i σ H' _ ⟨e, _⟩ => by rw [e]; exact hS) ?_ ?_⟩
    · rintro i y σ H' hi ⟨rfl, z, v, rfl⟩
      obtain ⟨n, hn, rfl⟩ : ∃ n, ns[i]? = some n ∧ y = V.int n := by
        rw [List.getElem?_map] at hi
        cases e : ns[i]? with
        | none => rw [e] at hi; cases hi
        | some n => rw [e] at hi; exact ⟨n, rfl, (Option.some.inj hi).symm⟩
      exact ⟨_, rfl, z, 47, rfl, rfl, Or.inr ⟨by decide, by decide⟩, _, rfl, _, n, rfl, rfl, Or.inl ⟨_, rfl, _, _, rfl, rfl, (by decide : (0 : Int) < 1000000007), rfl, _, _, rfl⟩⟩
    · rintro σ H' ⟨rfl, z, v, rfl⟩
      intro p hp
      have npl : l ≠ p ∨ True := Or.inr trivial
      refine ⟨_, rfl, l, ns.map V.int, rfl, Or.inl (Same.seq (H := H') (H' := upd H' p (.dK [])) (fun b o e => by rw [upd_ne (ne_of_none e hp)]; exact e) hS), fun c hc => ?_⟩
      have npc : p ≠ c := fun q => by rw [← q, upd_same] at hc; cases hc
      have hc0 : H' c = none := by rw [upd_ne (Ne.symm npc)] at hc; exact hc
      refine ⟨_, rfl, by rw [upd_ne npc, upd_same], penKV c 0 0 0 z, rfl, (by decide : 5 ≤ 15), ?_⟩
      rw [pen_made]
      refine k p _ hp (fun b o e => ?_) ⟨c, ns, 0, 0, 0, z, upd_same, ?_, hlen⟩
      · rw [upd_ne (ne_of_none e hp), upd_ne (ne_of_none e hc0), upd_ne (ne_of_none e hp)]
        exact e
      · rw [upd_ne (Ne.symm npc), upd_same]
end
end Mine

set_option Elab.async false
set_option linter.all false
set_option maxRecDepth 100000
set_option maxHeartbeats 4000000
namespace Mine
open PySem L2
section
variable {P : Program} {w : World} {K : PySem.W.Frag} {mg : Str → Option Value} {base : Heap}
theorem But.trackedL {p c : Addr} {H : Hp} {xs : List V} {kvs : List (Key × V)} (h1 : H p = some (.dK kvs)) (h2 : H c = some (.lst xs)) : c ≠ p := ne_of h2 h1 (fun z => by cases z)
theorem scDraw : FnScope ["pen", "many", "cell", "digit", "blend"] ["pen", "many"] (defScope sDraw) := ⟨rfl, rfl, rfl, by decide +kernel, rfl, by decide +kernel, by decide +kernel⟩
theorem ok_draw {f : Addr} {fd : FuncData} (F : Fun K "_law_draw" "_law_draw" sDraw f fd) (mI : mg "int" = none) (mL : mg "len" = none) : FnOk P w K mg base CX0 1 f fd ["pen", "many"] spDraw := by
  refine F.ok scDraw (fun vs H Q E h => ?_) (fun cdv A outer s H vs Q E hr h => ?_)
  · obtain ⟨p, m, rfl, _⟩ := h
    rfl
  · obtain ⟨p, m, rfl, hm, hm2, ⟨c, ns, i, dg, ct, fo, hP, hC, hlen⟩, k⟩ := h
    have hu := hu_of hr
    have ncp : c ≠ p := ne_of hC hP (fun z => by cases z)
    refine ⟨_, pss_cons (ps_dput hu (pv 0) pe_str (pe_op op_add (pe_dget hu (pv 0) pe_str fun _ _ => rfl) pe_int) rfl)
      (Evl.pss_cut (ps_if (PW.pt (pw_and (pt_cmpR op_eq (pe_dget hu (pv 0) pe_str fun _ _ => rfl) pe_int (nomark _))
            (pw_and1 (pt_cmpR op_lt (pe_dget hu (pv 0) pe_str fun _ _ => rfl) (pe_callB call_len_seq rfl mL PySem.boot_len (pa_cons (pe_dget hu (pv 0) pe_str fun _ _ => rfl) pa_nil)) (nomark _)))))
          (pss_cons (ps_set (i := 2) scDraw.nd rfl (Or.inl rfl) (pe_ix ix_seq (pe_dget hu (pv 0) pe_str fun _ _ => rfl) (pe_dget hu (pv 0) pe_str fun _ _ => rfl) fun _ _ => rfl))
          (pss_cons (ps_dput hu (pv 0) pe_str (pe_op op_add (pe_dget hu (pv 0) pe_str fun _ _ => rfl) pe_int) rfl)
          (pss_one (ps_if (pt_cmpR op_ge (pv 2) (pe_op op_pow pe_int pe_int) (nomark _))
            (pss_one (ps_dput hu (pv 0) pe_str (pe_op op_sub (pv 2) (pe_op op_pow pe_int pe_int)) rfl))
            (pss_one (ps_dput hu (pv 0) pe_str (pe_op op_mod (pe_callTy call_int1 rfl mI PyProof.Rows.boot_int (pa_cons (pe_op op_add (pe_op op_mul (pe_dget hu (pv 0) pe_str fun _ _ => rfl) pe_int) (pv 2)) pa_nil)) pe_int) rfl))))))
          pss_nil)
      (pss_cons (ps_if (pt_cmpR op_gt (pe_dget hu (pv 0) pe_str fun _ _ => rfl) pe_int (nomark _))
          (pss_cons (ps_set (i := 3) scDraw.nd rfl (Or.inl rfl) (pe_op op_mod (pe_callTy call_int1 rfl mI PyProof.Rows.boot_int (pa_cons (pe_dget hu (pv 0) pe_str fun _ _ => rfl) pa_nil)) (pv 1)))
          (pss_cons (ps_dput hu (pv 0) pe_str (pe_op op_fdiv (pe_dget hu (pv 0) pe_str fun _ _ => rfl) (pv 1)) rfl)
          (pss_one (ps_ret (pv 3)))))
          pss_nil)
      (pss_cons (ps_set (i := 4) scDraw.nd rfl (Or.inl rfl) (pe_op op_mod (pe_callTy call_int1 rfl mI PyProof.Rows.boot_int (pa_cons (pe_op op_add (pe_op op_add (pe_op op_mul (pe_dget hu (pv 0) pe_str fun _ _ => rfl) pe_int) (pe_op op_mul (pe_dget hu (pv 0) pe_str fun _ _ => rfl) pe_int)) pe_int) pa_nil)) pe_int))
      (pss_cons (ps_set (i := 4) scDraw.nd rfl (Or.inl rfl) (pe_op op_mod (pe_callTy call_int1 rfl mI PyProof.Rows.boot_int (pa_cons (pe_op op_add (pe_op op_add (pe_op op_mul (pv 4) (pv 4)) (pe_op op_mul pe_int (pv 4))) (pe_dget hu (pv 0) pe_str fun _ _ => rfl)) pa_nil)) pe_int))
      (pss_cons (ps_dput hu (pv 0) pe_str (pe_op op_mod (pe_callTy call_int1 rfl mI PyProof.Rows.boot_int (pa_cons (pe_op op_add (pe_op op_mul (pv 4) pe_int) pe_int) pa_nil)) pe_int) rfl)
      (pss_one (ps_ret (pe_op op_mod (pe_callTy call_int1 rfl mI PyProof.Rows.boot_int (pa_cons (pe_op op_fdiv (pv 4) pe_int) pa_nil)) (pv 1))))))))), ?_⟩
    -- the count
    refine ⟨_, rfl, p, _, rfl, g_cnt hP, _, _, rfl, rfl, ?_⟩
    refine ⟨_, rfl, p, _, rfl, p_cnt hP, ?_⟩
    refine ⟨fun σ H' => ∃ v : Option V, σ = [some (.ref p), some (.int m), v, none, none] ∧ But p H H' ∧ PenAt H' p, ?_, ?_⟩
    · -- the next cell
      have e0 : upd H p (.dK (penKV c i dg (ct + 1) fo)) p = some (.dK (penKV c i dg (ct + 1) fo)) := upd_same
      have c0 : upd H p (.dK (penKV c i dg (ct + 1) fo)) c = some (.lst (ns.map V.int)) := by rw [upd_ne ncp]; exact hC
      have b0 : But p H (upd H p (.dK (penKV c i dg (ct + 1) fo))) := But.put But.refl
      refine ⟨_, rfl, p, _, rfl, g_dig e0, rfl, _, rfl, ?_⟩
      refine ite2 (fun _ => ?_) (fun _ => ?_)
      · refine ⟨_, rfl, p, _, rfl, g_at e0, _, rfl, p, _, rfl, g_cells e0, c, ns.map V.int, rfl, Or.inl (SqL.of c0), _, _, rfl, rfl, _, rfl, ?_⟩
        refine ite2 (fun hl => ?_) (fun _ => ?_)
        · have hl' : i < ns.length := by
            have z : ((i : Nat) : Int) < (((ns.map V.int).length : Nat) : Int) := of_decide_eq_true hl
            rw [List.length_map] at z
            omega
          refine ⟨_, rfl, p, _, rfl, g_cells e0, _, rfl, p, _, rfl, g_at e0, Or.inl ⟨c, _, _, .int (ns[i]), rfl, rfl, SqL.of c0, ?_, ?_⟩⟩
          · refine atI_nat ?_
            rw [List.getElem?_map, List.getElem?_eq_getElem hl']
            rfl
          refine ⟨_, rfl, p, _, rfl, g_at e0, _, _, rfl, rfl, ?_⟩
          refine ⟨_, rfl, p, _, rfl, p_at e0, ?_⟩
          rw [upd_upd]
          have e1 : upd H p (.dK (penKV c ((i : Nat) + 1 : Int) dg (ct + 1) fo)) p = some (.dK (penKV c ((i : Nat) + 1 : Int) dg (ct + 1) fo)) := upd_same
          refine ⟨_, rfl, 10, 18, rfl, rfl, ⟨by decide, by decide, by decide⟩, _, _, rfl, rfl, _, rfl, ?_⟩
          refine ite2 (fun _ => ?_) (fun _ => ?_)
          · refine ⟨_, rfl, 10, 18, rfl, rfl, ⟨by decide, by decide, by decide⟩, _, _, rfl, rfl, ?_⟩
            refine ⟨_, rfl, p, _, rfl, p_dig e1, ?_⟩
            rw [upd_upd]
            refine ⟨_, rfl, But.put But.refl, c, ns, i + 1, _, _, _, upd_same, ?_, hlen⟩
            rw [upd_ne ncp]
            exact hC
          · refine ⟨_, rfl, p, _, rfl, g_fold e1, _, 69069, rfl, rfl, Or.inr ⟨by decide, by decide⟩, _, rfl, _, _, rfl, rfl, Or.inl ⟨_, rfl, _, 2147483587, rfl, rfl, (by decide : (0 : Int) < 2147483587), ?_⟩⟩
            refine ⟨_, rfl, p, _, rfl, p_fold e1, ?_⟩
            rw [upd_upd]
            refine ⟨_, rfl, But.put But.refl, c, ns, i + 1, _, _, _, upd_same, ?_, hlen⟩
            rw [upd_ne ncp]
            exact hC
        · exact ⟨_, rfl, b0, c, ns, i, _, _, _, e0, c0, hlen⟩
      · exact ⟨_, rfl, b0, c, ns, i, _, _, _, e0, c0, hlen⟩
    · rintro σ H1 ⟨v, rfl, b1, c, ns, i, dg, ct, fo, hP, hC, hlen⟩
      have ncp : c ≠ p := ne_of hC hP (fun z => by cases z)
      have stay : ∀ d n z, PenAt (upd H1 p (.dK (penKV c i d n z))) p := fun d n z => ⟨c, ns, i, d, n, z, upd_same, by rw [upd_ne ncp]; exact hC, hlen⟩
      refine ⟨_, rfl, p, _, rfl, g_dig hP, _, _, rfl, rfl, _, rfl, ?_⟩
      refine ite2 (fun _ => ?_) (fun _ => ?_)
      · refine ⟨_, rfl, p, _, rfl, g_dig hP, Or.inl ⟨_, rfl, _, rfl, _, _, rfl, rfl, hm, ?_⟩⟩
        refine ⟨_, rfl, p, _, rfl, g_dig hP, _, rfl, _, _, rfl, rfl, ⟨hm, hm2⟩, ?_⟩
        refine ⟨_, rfl, p, _, rfl, p_dig hP, ?_⟩
        exact ⟨_, rfl, k _ _ (Int.emod_nonneg _ (by omega)) (Int.emod_lt_of_pos _ hm) b1.put (stay _ _ _)⟩
      · refine ⟨_, rfl, p, _, rfl, g_fold hP, _, 48271, rfl, rfl, Or.inr ⟨by decide, by decide⟩, _, rfl, p, _, rfl, g_cnt hP, _, 7919, rfl, rfl, Or.inr ⟨by decide, by decide⟩, _, _, rfl, rfl, _, 13, rfl, rfl, Or.inl ⟨_, rfl, _, 2147483647, rfl, rfl, (by decide : (0 : Int) < 2147483647), ?_⟩⟩
        obtain ⟨z, hz⟩ : ∃ z, (fo * 48271 + ct * 7919 + 13) % 2147483647 = z := ⟨_, rfl⟩
        have z0 : 0 ≤ z := by rw [← hz]; exact Int.emod_nonneg _ (by decide)
        have z1 : z < 2147483647 := by rw [← hz]; exact Int.emod_lt_of_pos _ (by decide)
        refine ⟨_, rfl, _, rfl, z, z, congrArg V.int hz, congrArg V.int hz, Or.inr ⟨by omega, by omega⟩, _, rfl, 31, z, rfl, congrArg V.int hz, Or.inl ⟨by decide, by decide⟩, _, _, rfl, rfl, _, rfl, p, _, rfl, g_cnt hP, _, _, rfl, rfl, Or.inl ⟨_, rfl, _, 2147483629, rfl, rfl, (by decide : (0 : Int) < 2147483629), ?_⟩⟩
        refine ⟨_, rfl, _, 16807, rfl, rfl, Or.inr ⟨by decide, by decide⟩, _, 7, rfl, rfl, Or.inl ⟨_, rfl, _, 2147483647, rfl, rfl, (by decide : (0 : Int) < 2147483647), ?_⟩⟩
        refine ⟨_, rfl, p, _, rfl, p_fold hP, ?_⟩
        refine ⟨_, rfl, _, 64, rfl, rfl, ⟨by decide, by decide⟩, Or.inl ⟨_, rfl, _, rfl, _, _, rfl, rfl, hm, ?_⟩⟩
        exact k _ _ (Int.emod_nonneg _ (by omega)) (Int.emod_lt_of_pos _ hm) b1.put (stay _ _ _)
theorem scPick : FnScope ["pen", "some"] ["pen", "some"] (defScope sPick) := ⟨rfl, rfl, rfl, by decide +kernel, rfl, by decide +kernel, by decide +kernel⟩
theorem sqL_but {p l : Addr} {H H' : Hp} {xs : List V} (b : But p H H') (n : l ≠ p) (h : SqL K H l xs) : SqL K H' l xs := by
  rcases h with (h | ⟨o, h⟩) | h
  · exact .inl (.inl (b _ _ n h))
  · exact .inl (.inr ⟨o, b _ _ n h⟩)
  · exact .inr h
theorem ok_pick {f fD : Addr} {fd fdD : FuncData} (F : Fun K "_law_pick" "_law_pick" sPick f fd) (mL : mg "len" = none) (mD : mg "_law_draw" = some (.ref fD)) (kD : PySem.W.keepIn K (.ref fD) = true) (bD : Binds K fdD ["pen", "many"] [])
    (GD : FnOk P w K mg base CX0 1 fD fdD ["pen", "many"] spDraw) : FnOk P w K mg base CX0 2 f fd ["pen", "some"] (spPick K) := by
  refine F.ok scPick (fun vs H Q E h => ?_) (fun cdv A outer s H vs Q E hr h => ?_)
  · obtain ⟨p, l, xs, rfl, _⟩ := h
    rfl
  · obtain ⟨p, l, xs, rfl, nlp, hS, h0, h1, hP, k⟩ := h
    refine ⟨_, pss_one (ps_ret (pe_ix ix_seq (pv 1) (pe_call GD hr rfl mD kD bD .nil pass0 (pa_cons (pv 0) (pa_cons (pe_callB call_len_seq rfl mL PySem.boot_len (pa_cons (pv 1) pa_nil)) pa_nil))) fun _ _ => rfl)), ?_⟩
    refine ⟨_, rfl, _, rfl, _, rfl, l, xs, rfl, Or.inl hS, p, _, rfl, by omega, by omega, hP, fun r H' r0 r1 b hP' => ?_⟩
    obtain ⟨j, rfl⟩ : ∃ j : Nat, r = (j : Int) := ⟨r.toNat, by omega⟩
    have hj : j < xs.length := by omega
    exact Or.inl ⟨l, xs, _, xs[j], rfl, rfl, sqL_but b nlp hS, atI_nat (List.getElem?_eq_getElem hj), k _ _ (List.getElem_mem hj) b hP'⟩
end
end Mine

set_option Elab.async false
set_option linter.all false
set_option maxRecDepth 100000
set_option maxHeartbeats 4000000
/-! own contracts: FnG (no repr is running around), FnP (called in an except suite, the exception handed in); own errors -/
namespace Mine
open PySem L2 L2H PySem.Spec PyProof.Rows

/-! ### defs under which no repr runs -/
structure FnG (P : Program) (w : World) (K : PySem.W.Frag) (mg : Str → Option Value) (base : Heap) (CX : CXT) (k : Nat) (f : Addr) (fd : FuncData) (ps : List Str) (sp : Sp) : Prop where
  len : ∀ vs H Q E, sp vs H Q E → vs.length = ps.length
  run : ∀ (A : Around) (outer : List Env) (s : Shared) (H : Hp) (args : Args) (us : List Value) (vs : List V) (Q : VK) (E : XK), Room k A → A.guards = some [] → Env0 P w K mg base A outer s H → BindsTo s fd args (ps.zip us) → Vals vs us →
    sp vs H Q E → codeAny (model P w) A (.call (.ref f) args) (CR CX outer P w H s Q E) s
section
variable {P : Program} {w : World} {K : PySem.W.Frag} {mg : Str → Option Value} {base : Heap} {CX : CXT} {k : Nat} {f : Addr} {fd : FuncData} {ps N : List Str} {sp : Sp}
theorem FnG.of (F : FnOk P w K mg base CX k f fd ps sp) : FnG P w K mg base CX k f fd ps sp := ⟨F.len, fun A outer s H args us vs Q E hr _ => F.run A outer s H args us vs Q E hr⟩
theorem kinds_of {scope : Scope} {us : List Value} {n : Nat} (S : FnScope N ps scope) : ∀ y ∈ ps.zip us, scope.names.lookup y.1 = some .local ∨ (scope.names.lookup y.1 = some .cell ∧ ((cellsFrom n scope.names []).lookup y.1).isSome = true) := by
  intro y hy
  obtain ⟨a, b⟩ := y
  refine (S.par a (List.of_mem_zip hy).1).imp id fun q => ⟨q, ?_⟩
  exact PySem.W.cellsFrom_some _ _ _ (Or.inl q)
def backOf : Flow → Value
  | .ret v => v
  | _ => .none
/-- how a body's end is a call's end -/
theorem end_of {X : Cx} {outer : List Env} {H : Hp} {s s' : Shared} {Q : VK} {E : XK} {fl : Flow} (h0 : X.s_0 = s) (h1 : X.H_0 = H) (h2 : X.outer = outer) (h3 : X.ex = []) (h : SP X [] { nx := fun _ H' => Q .non H', rt := Q } fl s') :
    CR CX outer X.prog X.w H s Q E (.ok (.ret (backOf fl))) s' := by
  subst h0 h1 h2
  have key : ∀ {σ' : L2.St} {H' : Hp} {v : V} {u : Value}, Inv X [] σ' H' s' → RelV v u → Q v H' → CE X.outer X.prog X.w X.H_0 X.s_0 Q u s' := fun {σ' H' v u} J r q => by
    refine ⟨v, H', J.os, J.bare, ?_, J.hok, r, q⟩
    have z := J.base
    rw [h3] at z
    exact z
  cases fl with
  | next =>
    obtain ⟨σ', H', J, q⟩ := h
    exact key (v := .non) J rfl q
  | ret u =>
    obtain ⟨v, σ', H', J, r, q⟩ := h
    exact key J r q
  | brk =>
    obtain ⟨_, _, _, q⟩ := h
    exact q.elim
  | cont =>
    obtain ⟨_, _, _, q⟩ := h
    exact q.elim
theorem FnG.body {x qual : Str} {st : Stmt} (F : Fun K x qual st f fd) (S : FnScope N ps (defScope st)) (len : ∀ vs H Q E, sp vs H Q E → vs.length = ps.length)
    (hbody : ∀ (cdv : Value) (A : Around) (outer : List Env) (s : Shared) (H : Hp) (vs : List V) (Q : VK) (E : XK), Room k (A.deeper (envOfC qual (defScope st) s.heap.objs.size f cdv)) → A.guards = some [] → sp vs H Q E →
      ∃ t, PSs (cxOf CX P w K mg base N qual (defScope st) f cdv A outer s H E) (defBody st) t ∧ t { nx := fun _ H' => Q .non H', rt := Q } (start N vs) H) : FnG P w K mg base CX (k + 1) f fd ps sp := by
  obtain ⟨oc, od, kV, doc, pm, an, cdv, ct, osl, rfl, lk, hcd⟩ := F.ex
  refine ⟨len, fun A outer s H args us vs Q E hr hg e0 hb r hsp => ?_⟩
  have KX : K.In s.heap := e0.mod.kin.keeps fun b o e => (e0.bs b o e).1
  refine codeAny_call_function hr.depth (KX _ _ lk) rfl S.co S.gen rfl (PySem.W.codeRec_of KX hcd) (hb _ _ _ _ (wpAny_newFunctionEnv_cells S.kind (kinds_of S) fun env he s1 x => ?_))
  subst he
  refine ⟨(e0.mod.nolimit.keeps fun b o e => (e0.bs b o e).1).keeps x.toInCall.keep, codeAny_func ?_⟩
  obtain ⟨t, ht, hq⟩ := hbody cdv A outer s H vs Q E (hr.deeper _) hg hsp
  exact wpAny_mono (ht.run [] s1 (start N vs) H _ (inv_start S hr.hd e0 (len _ _ _ _ hsp) r x) hq) (fun fl s' hs => by
    have z := end_of (CX := CX) (E := E) (s := s) (H := H) (outer := outer) rfl rfl rfl rfl hs
    cases fl <;> exact z) fun e s' hs => hs
end
section
variable {X : Cx} {CX : CXT} {k : Nat} {f : Addr} {fd : FuncData} {ps : List Str} {sp : Sp} {E : L2.St → XK} {x : Str} {q pos : Pos} {e : Expr} {es : List Expr} {t : TA}
theorem call_end {pins : List (Addr × Obj)} {σ : L2.St} {H : Hp} {s : Shared} {Q : VK} {r : Result} {s' : Shared} (hx : PassesAt CX X σ (E σ)) (I : Inv X pins σ H s) (hq : CR CX X.stack X.prog X.w H s Q (E σ) r s') :
    (match r with | .ok (.ret v) => EP X pins σ Q v s' | .error er => X.xe er s' | _ => False) := by
  cases r with
  | error er => exact hx pins H s er s' I hq
  | ok fl =>
    cases fl with
    | ret u => exact I.after hq
    | next => exact hq.elim
    | brk => exact hq.elim
    | cont => exact hq.elim
theorem pe_callG (F : FnG X.prog X.w X.K X.mg X.base CX k f fd ps sp) (hr : Room k X.A) (hgd : X.A.guards = some []) (hg : Gl X x) (hm : X.mg x = some (.ref f)) (hk : PySem.W.keepIn X.K (.ref f) = true) (hb : Binds X.K fd ps []) (hx : ∀ σ, PassesAt CX X σ (E σ))
    (ha : PA X (e :: es) t) (hdb : (x == ("__debug__" : Str)) = false := by decide) (he : starEach (e :: es) X.env = (false, eval e X.env) :: starEach es X.env := by rfl) (hpl : (backTo pos (starEach es X.env)).any (·.1) = false := by rfl) :
    PE X (.Call (.Name x q) (e :: es) [] pos) (tCallS sp E t) := by
  refine ⟨fun pins s σ H Q I h => wpAny_Call_Name_kw (ld_glob I hg hm (PySem.W.callWith_K (h₀ := X.base) I.ok.mod.kin hk (thn (ha.run pos pins s σ H _ I h) fun us s1 hh => ?_) he hpl) hdb)⟩
  obtain ⟨vs, H1, I1, r, q⟩ := hh
  have b := hb s1 us I1.kIn (by rw [List.append_nil, ← r.length]; exact F.len _ _ _ _ q)
  rw [List.append_nil] at b
  refine ⟨I1.kIn, wpAny_call (codeAny_mono (F.run X.A X.stack s1 H1 ⟨us, []⟩ us vs Q (E σ) hr hgd I1.env0 b r q) fun r s' hq => ?_)⟩
  have z := call_end (hx σ) I1 hq
  cases r with
  | error er => exact z
  | ok fl => cases fl <;> exact z
end

/-! ### defs called in an except suite with the exception as an argument -/
abbrev SpE := Addr → Value → Option Addr → Sp
/-- what is known of the handled exception's object -/
def HeldE (cls : Value) (d : Option Addr) (o : Obj) : Prop := Zc cls d o ∧ ∃ vs, o.data = .fields vs
structure FnP (P : Program) (w : World) (K : PySem.W.Frag) (mg : Str → Option Value) (base : Heap) (k : Nat) (f : Addr) (fd : FuncData) (ps : List Str) (sp : SpE) : Prop where
  len : ∀ a c d vs H Q E, sp a c d vs H Q E → vs.length = ps.length
  run : ∀ (p : Addr × Obj) (c : Value) (d : Option Addr) (A : Around) (outer : List Env) (s : Shared) (H : Hp) (args : Args) (us : List Value) (vs : List V) (Q : VK) (E : XK), HeldE c d p.2 → RoomH k A → PinOk outer H s p → Env0 P w K mg base A outer s H →
    BindsTo s fd args (ps.zip us) → Vals vs us → sp p.1 c d vs H Q E → codeAny (model P w) A (.call (.ref f) args) (CR CX0 outer P w H s Q E) s
section
variable {P : Program} {w : World} {K : PySem.W.Frag} {mg : Str → Option Value} {base : Heap} {k : Nat} {f : Addr} {fd : FuncData} {ps N : List Str} {sp : SpE}
theorem FnP.body {x qual : Str} {st : Stmt} (F : Fun K x qual st f fd) (S : FnScope N ps (defScope st)) (len : ∀ a c d vs H Q E, sp a c d vs H Q E → vs.length = ps.length)
    (hbody : ∀ (p : Addr × Obj) (c : Value) (d : Option Addr) (cdv : Value) (A : Around) (outer : List Env) (s : Shared) (H : Hp) (vs : List V) (Q : VK) (E : XK), HeldE c d p.2 → RoomH k (A.deeper (envOfC qual (defScope st) s.heap.objs.size f cdv)) → sp p.1 c d vs H Q E →
      ∃ t, PSs (cxH CX0 P w K mg base N qual (defScope st) f cdv A outer s H E p) (defBody st) t ∧ t { nx := fun _ H' => Q .non H', rt := Q } (L2.start N vs) H) : FnP P w K mg base (k + 1) f fd ps sp := by
  obtain ⟨oc, od, kV, doc, pm, an, cdv, ct, osl, rfl, lk, hcd⟩ := F.ex
  refine ⟨len, fun p c d A outer s H args us vs Q E hp hr hpin e0 hb r hsp => ?_⟩
  have KX : K.In s.heap := e0.mod.kin.keeps fun b o e => (e0.bs b o e).1
  refine codeAny_call_function hr.depth (KX _ _ lk) rfl S.co S.gen rfl (PySem.W.codeRec_of KX hcd) (hb _ _ _ _ (wpAny_newFunctionEnv_cells S.kind (kinds_of S) fun env he s1 x => ?_))
  subst he
  refine ⟨(e0.mod.nolimit.keeps fun b o e => (e0.bs b o e).1).keeps x.toInCall.keep, codeAny_func ?_⟩
  obtain ⟨t, ht, hq⟩ := hbody p c d cdv A outer s H vs Q E hp (hr.deeper _) hsp
  exact wpAny_mono (ht.run [] s1 (L2.start N vs) H _ (inv_startH S hpin e0 (len _ _ _ _ _ _ _ hsp) r x) hq) (fun fl s' hs => by
    have z := end_of (CX := CX0) (E := E) (s := s) (H := H) (outer := outer) rfl rfl rfl rfl hs
    cases fl <;> exact z) fun e s' hs => hs
end
def tCallP (sp : Sp) (t : TA) : TE := fun σ H Q => t σ H fun vs H1 => sp vs H1 Q E0
section
variable {X : Cx} {k : Nat} {f : Addr} {fd : FuncData} {ps : List Str} {sp : SpE} {x : Str} {q pos : Pos} {e : Expr} {es : List Expr} {t : TA} {p : Addr × Obj} {c : Value} {d : Option Addr}
theorem pe_callP (F : FnP X.prog X.w X.K X.mg X.base k f fd ps sp) (hp : p ∈ X.pn) (hh : HeldE c d p.2) (hr : RoomH k X.A) (hg : Gl X x) (hm : X.mg x = some (.ref f)) (hk : PySem.W.keepIn X.K (.ref f) = true) (hb : Binds X.K fd ps [])
    (ha : PA X (e :: es) t) (hdb : (x == ("__debug__" : Str)) = false := by decide) (he : starEach (e :: es) X.env = (false, eval e X.env) :: starEach es X.env := by rfl) (hpl : (backTo pos (starEach es X.env)).any (·.1) = false := by rfl) :
    PE X (.Call (.Name x q) (e :: es) [] pos) (tCallP (sp p.1 c d) t) := by
  refine ⟨fun pins s σ H Q I h => wpAny_Call_Name_kw (ld_glob I hg hm (PySem.W.callWith_K (h₀ := X.base) I.ok.mod.kin hk (thn (ha.run pos pins s σ H _ I h) fun us s1 hh => ?_) he hpl) hdb)⟩
  obtain ⟨vs, H1, I1, r, q⟩ := hh
  have b := hb s1 us I1.kIn (by rw [List.append_nil, ← r.length]; exact F.len _ _ _ _ _ _ _ q)
  rw [List.append_nil] at b
  have P1 := I1.pin p (List.mem_append_left _ hp)
  have hpin : PinOk X.stack H1 s1 p := ⟨P1.1, P1.2.1, fun hm => (List.mem_cons.mp (I1.stkSub p.1 hm)).elim P1.2.2.1 P1.2.2.2.1, P1.2.2.2.2⟩
  refine ⟨I1.kIn, wpAny_call (codeAny_mono (F.run p c d X.A X.stack s1 H1 ⟨us, []⟩ us vs Q E0 hh hr hpin I1.env0 b r q) fun r s' hq => ?_)⟩
  have z := call_end (E := fun _ => E0) (fun _ _ _ _ _ _ h => h.elim) I1 hq
  cases r with
  | error er => exact z
  | ok fl => cases fl <;> exact z
end
end Mine

set_option Elab.async false
set_option linter.all false
set_option maxRecDepth 100000
set_option maxHeartbeats 4000000
/-! own errors: the base class's __init__ called by name; made with fields, made without; asked for their class; their fields read where they are handed on -/
namespace Mine
open PySem L2 L2H PySem.Spec PyProof.Rows

/-- what the written part says of the base class, at S -/
structure BaseE (K : PySem.W.Frag) (mg : Str → Option Value) (S : Addr) : Prop where
  gS : mg "ShapeError" = some (.ref S)
  rd : PySem.W.readsIn K S (.type "type") = true
  ga : PySem.W.specialIn K (.ref S) "__getattribute__" = some (some (.builtin "type.__getattribute__"))
  fi : PySem.W.findCls K (.ref S) (.type "type") "__init__" = some (.val (.builtin "ValueError.__init__"))
  hn : PySem.W.specialIn K (.builtin "object.__class__") "__get__" = some (some (.builtin "getset_descriptor.__get__"))
  tk : PySem.W.takesIn K (.builtin "object.__class__") = some true
/-- .. of an error class x, at C, its __init__ at fI -/
structure ErrE (K : PySem.W.Frag) (mg : Str → Option Value) (S : Addr) (x : Str) (C fI : Addr) : Prop where
  gC : mg x = some (.ref C)
  ox : OexC K C
  iC : PySem.W.findIn K (.ref C) "__init__" = some (some (.ref fI))
  tI : PySem.W.typeIn K (.ref fI) = some (.type "function")
  xf : XfC K C
  cl : (PySem.W.clsIn K C).isSome = true
  hc : PySem.W.findIn K (.ref C) "__class__" = some (some (.builtin "object.__class__"))
  ob : PySem.W.mroIn K C (.type "object") = some true
  ve : PySem.W.kitOne K (.ref C) (.type "ValueError") = some true
  sh : PySem.W.exmOne K (.ref C) (.ref S) = some true
section
variable {X : Cx} {S C fI : Addr} {x : Str} {e o : Expr} {es : List Expr} {te : TE} {ta : TA} {p p1 p2 pos : Pos} {k : Nat} {fd : FuncData} {ps : List Str} {sp : Sp}
/-- ShapeError.__init__(self, ..) -/
theorem pe_shinit {pl : Sem Bool} (hg : Gl X "ShapeError") (B : BaseE X.K X.mg S) (ha : PA X (e :: es) ta)
    (hc : eval (.Call (.Attribute (.Name "ShapeError" p1) "__init__" p2) (e :: es) [] pos) X.env = (do
      let bv ← eval (.Name "ShapeError" p1) X.env
      standAt p2.atName
      let (g, first) ← holding [bv] (getMethod bv "__init__" pl)
      callWith pos g first (backTo pos (starEach (e :: es) X.env)) (backToKw pos (keywordEach [] X.env))) := by rfl)
    (he : starEach (e :: es) X.env = (false, eval e X.env) :: starEach es X.env := by rfl) (hpl : (backTo pos (starEach es X.env)).any (·.1) = false := by rfl) :
    PE X (.Call (.Attribute (.Name "ShapeError" p1) "__init__" p2) (e :: es) [] pos) (tVeI X.K ta) := by
  refine ⟨fun pins s σ H Q I h => PySem.W.methodCall_KW (ld_glob I hg B.gS ?_) hc⟩
  refine PySem.W.method_cls I.kIn B.ga (PySem.W.cls_value I.kIn B.rd B.fi (by decide +kernel) ?_)
  show wpAny _ _ (callWith pos (Value.builtin "ValueError.__init__") [] (backTo pos (starEach (e :: es) X.env)) []) _ _ _
  refine PyProof.Rows.callWith_method1 (thn (ha.run pos pins _ σ H _ (I.tok _) h) fun us s1 hh => ?_) he hpl
  obtain ⟨vs, H1, I1, r1, a, C, ws, rfl, hl, T, ea, q⟩ := hh
  cases r1 with
  | @cons _ u0 _ ur ra rw' =>
    cases (show u0 = Value.ref a from ra)
    have hlen : ur.length ≤ sizeLine := by
      have z := rw'.length
      rw [sizeLine_eq]
      omega
    exact oinit_ok T I1 ea hlen fun s' J => ⟨.non, H1, J, rfl, q⟩
/-- a new error that is made without a field: NothingToUndo() -/
def tMk0 (X : Cx) (C : Addr) (sp : Sp) : L2.St → Hp → XK → Prop := fun σ H Q => ∀ a, H a = none → Fr0 X.H_0 a ∧ sp [.ref a] (upd H a (exo a C none)) (fun v H2 => v = .non ∧ H2 a = some (exo a C none) ∧ Q (.ref C) none (delH H2 a)) E0
theorem pmk_err0 (T : OexC X.K C) (iC : PySem.W.findIn X.K (.ref C) "__init__" = some (some (.ref fI))) (tI : PySem.W.typeIn X.K (.ref fI) = some (.type "function")) (hx : X.ex = [])
    (F1 : FnOk X.prog X.w X.K X.mg X.base CX0 k fI fd ps sp) (hr : Room (k + 1) X.A) (hb : Binds X.K fd ps []) (hg : Gl X x) (hm : X.mg x = some (.ref C)) (hdb : (x == ("__debug__" : Str)) = false := by decide) :
    PMk X (.Call (.Name x p) [] [] pos) (tMk0 X C sp) := by
  intro pins s σ H Q I h
  obtain ⟨nm, q, N, bs, bm, sn, sub, ab, col, dd, k0, k1, k2, k3, k5, hC, hbm⟩ := T.cls
  refine wpAny_Call_Name_kw (ld_glob I hg hm (PySem.W.callWith_K0 I.kIn T.kC ?_) hdb)
  show wpAny _ _ (call (.ref C) []) _ _ _
  obtain ⟨hp, g, dr, tk, os⟩ := s
  have hsz : hp.objs.size ≤ hp.objs.size + 1 := Nat.le_succ _
  have hn : H (hp.objs.size + 1) = none := I.hok.fresh hsz
  obtain ⟨h0, hq⟩ := h (hp.objs.size + 1) hn
  have kk : ∀ b u, hp.get? b = some u → ((hp.push (PySem.W.kdv_tup [])).push (PySem.HandSPX.excO C hp.objs.size)).get? b = some u := fun b u z => Heap.get?_push_of_some _ (Heap.get?_push_of_some _ z)
  have hget : ((hp.push (PySem.W.kdv_tup [])).push (PySem.HandSPX.excO C hp.objs.size)).get? (hp.objs.size + 1) = some (PySem.HandSPX.excO C hp.objs.size) := by heap_get
  have I2 : Inv X pins σ (upd H (hp.objs.size + 1) (exo (hp.objs.size + 1) C none)) ⟨(hp.push (PySem.W.kdv_tup [])).push (PySem.HandSPX.excO C hp.objs.size), g, dr, tk, os⟩ :=
    I.laid (t' := tk) (o := exo (hp.objs.size + 1) C none) (h' := (hp.push (PySem.W.kdv_tup [])).push (PySem.HandSPX.excO C hp.objs.size)) kk hsz (exo_ok hget)
  have hl : ([Value.ref (hp.objs.size + 1)] ++ []).length = ps.length := by
    have z := F1.len _ _ _ _ hq
    exact z
  have r2 : Vals [V.ref (hp.objs.size + 1)] [Value.ref (hp.objs.size + 1)] := .cons rfl .nil
  refine wpAny_call (PySem.HandSPX.call_own F.excBase_ValueError (fun Y => PySem.HandSPX.refsVE_contains Y bm hbm) (I.kIn _ _ hC) (PySem.W.looks_findIn I.kIn iC) (fun self => PySem.W.bind_fn I.kIn self tI) (by show 0 ≤ sizeLine; exact Nat.zero_le _)
    (codeAny_mono (F1.run _ X.stack _ _ ⟨[Value.ref (hp.objs.size + 1)], []⟩ ([Value.ref (hp.objs.size + 1)] ++ []) _ _ _ (hr.make C [] []) (I2.env0.make C [] []) (hb _ [Value.ref (hp.objs.size + 1)] I2.kIn hl) r2 hq) fun r s' hq' => ?_))
  cases r with
  | error er => exact hq'.elim
  | ok fl =>
    cases fl with
    | next => exact hq'.elim
    | brk => exact hq'.elim
    | cont => exact hq'.elim
    | ret u =>
      obtain ⟨v, H3, J, rv, ev, ea, q3⟩ := I2.after hq'
      subst ev
      obtain ⟨t1, ho⟩ := exo_at J.hok ea
      obtain ⟨G, gs, ga, J2⟩ := J.untrack ea h0 hx
      exact ⟨rv, hp.objs.size + 1, _, _, { s' with heap := G }, delH H3 (hp.objs.size + 1), .ref C, none, rfl, J2, gs, ga, ho, ⟨rfl, rfl⟩, rfl, rfl, delH_same, rfl, J.bare, raises_own T.exC T.tyC, q3⟩
end

/-! ### the promise of an own __init__ -/
def spInit (C : Addr) (fs : List Str) : Sp := fun vs H Q _ => ∃ (a : Addr) (ws : List V), vs = .ref a :: ws ∧ ws.length = fs.length ∧ H a = some (exo a C none) ∧ (fs = [] → Q .non H) ∧
  (fs ≠ [] → ∀ (dx : Addr) (H' : Hp), H dx = none → dx ≠ a → H' a = some (exo a C (some dx)) → H' dx = some (exd dx (fs.zip ws).reverse) → (∀ b, b ≠ a → b ≠ dx → H' b = H b) → Q .non H')
/-- an error with fields is made -/
theorem mk_fields {C : Addr} {fs : List Str} {ws : List V} {ta : TA} {σ : L2.St} {H : Hp} {Q : XK} (hf : fs ≠ []) (hl : ws.length = fs.length) (h9 : fs.length ≤ 9) (ha : ∀ R : List V → Hp → Prop, R ws H → ta σ H R)
    (hq : ∀ d H', H d = none → H' d = some (.xd (fs.zip ws).reverse) → (∀ b, b ≠ d → H' b = H b) → Q (.ref C) (some d) H') : tMkO C (spInit C fs) [] ta σ H Q := by
  refine ha _ ⟨by omega, fun a na => ?_⟩
  refine ⟨a, ws, by rw [List.append_nil], hl, upd_same, fun z => absurd z hf, fun _ dx H' n1 n2 h1 h2 h3 => ⟨rfl, dx, _, h1, h2, ?_, ?_⟩⟩
  · rw [upd_ne n2] at n1
    exact n1
  · rw [upd_ne n2] at n1
    refine hq dx _ n1 upd_same fun b nb => ?_
    rw [upd_ne nb]
    by_cases ba : b = a
    · rw [ba, del_same, na]
    · rw [del_ne ba, h3 b ba nb, upd_ne ba]
/-- .. without -/
theorem mk_none {X : Cx} {C : Addr} {σ : L2.St} {H : Hp} {Q : XK} (h0 : ∀ a, H a = none → Fr0 X.H_0 a) (hq : Q (.ref C) none H) : tMk0 X C (spInit C []) σ H Q := by
  intro a na
  refine ⟨h0 a na, a, [], rfl, rfl, upd_same, fun _ => ⟨rfl, upd_same, ?_⟩, fun z => absurd rfl z⟩
  rw [delH_new na]
  exact hq

/-! ### isinstance and fields of the exception that is handed on -/
/-- the error at a: its class at C, its fields fs -/
def ErrAt (K : PySem.W.Frag) (mg : Str → Option Value) (S : Addr) (c : Value) (d : Option Addr) (H : Hp) (x : Str) (C fI : Addr) (fs : List (Str × V)) : Prop :=
  ErrE K mg S x C fI ∧ BaseE K mg S ∧ c = .ref C ∧ ((d = none ∧ fs = []) ∨ ∃ dd, d = some dd ∧ H dd = some (.xd fs))
def rIsP (K : PySem.W.Frag) (mg : Str → Option Value) (a : Addr) (c : Value) (d : Option Addr) : List V → Hp → VK → Prop := fun xs H Q => ∃ (S : Addr) (x : Str) (C fI : Addr) (fs : List (Str × V)) (t : V) (cv : Value) (b : Bool),
  xs = [.ref a, t] ∧ ErrAt K mg S c d H x C fI fs ∧ ClsV t cv ∧ PySem.W.kitOne K (.ref C) cv = some b ∧ Q (.bl b) H
theorem inst_of {X : Cx} {pins : List (Addr × Obj)} {σ : L2.St} {H : Hp} {s : Shared} {p : Addr × Obj} {C : Addr} {d : Option Addr} {fs : List (Str × V)} (I : Inv X pins σ H s) (hp : p ∈ X.pn) (hh : HeldE (.ref C) d p.2)
    (hd : (d = none ∧ fs = []) ∨ ∃ dd, d = some dd ∧ H dd = some (.xd fs)) : ∃ od, PySem.W.InstAt s.heap p.1 p.2 C od := by
  obtain ⟨hget, _⟩ := I.pin p (List.mem_append_left _ hp)
  obtain ⟨⟨hc, hdd⟩, vs, hv⟩ := hh
  have hno : PySem.W.notCls p.2 = true := by
    unfold PySem.W.notCls
    rw [hv]
  rcases hd with ⟨rfl, _⟩ | ⟨dd, rfl, ha⟩
  · exact ⟨none, hget, hc, hno, by rw [hdd]; trivial⟩
  · have hx : ObjOk X.prog X.w H s.heap dd (.xd fs) := I.hok dd _ ha
    obtain ⟨mA, ⟨od, es, ep, ho, _⟩, _⟩ := hx
    exact ⟨some od, hget, hc, hno, by rw [hdd]; exact ho⟩
theorem call_isP {X : Cx} {p : Addr × Obj} {c : Value} {d : Option Addr} (hp : p ∈ X.pn) (hh : HeldE c d p.2) : CallR X (.builtin "isinstance") (rIsP X.K X.mg p.1 c d) := by
  intro pins s σ H xs us Q I r h
  obtain ⟨S, x, C, fI, fs, t, cv, b, rfl, ⟨E1, B, rfl, hd⟩, kt, e, q⟩ := h
  obtain ⟨u1, u2, rfl, r1, r2⟩ := vals2 r
  cases (show u1 = Value.ref p.1 from r1)
  cases kt.eq r2
  obtain ⟨od, J⟩ := inst_of I hp hh hd
  exact PySem.W.kia_one (PySem.W.kitx_exc (od := od) (ox := p.2) E1.cl E1.xf.ga E1.xf.gg E1.xf.exC E1.hc B.hn B.tk E1.ob) I.kIn J e (fun z => nomatch z) fun tk => ⟨.bl b, H, I.tok tk, rfl, q⟩
def tXfP (K : PySem.W.Frag) (mg : Str → Option Value) (a : Addr) (c : Value) (d : Option Addr) (n : Str) (te : TE) : TE := fun σ H Q => te σ H fun z H1 => z = .ref a ∧ ∃ (S : Addr) (x : Str) (C fI : Addr) (fs : List (Str × V)) (v : V),
  ErrAt K mg S c d H1 x C fI fs ∧ PySem.W.findIn K (.ref C) n = some none ∧ fs.lookup n = some v ∧ Q v H1
theorem pe_xfP {X : Cx} {p : Addr × Obj} {c : Value} {d : Option Addr} {e : Expr} {te : TE} {pos : Pos} {n : Str} (hp : p ∈ X.pn) (hh : HeldE c d p.2) (he : PE X e te) (hb : attributeBase e n X.env (eval e X.env) = eval e X.env := by rfl) :
    PE X (.Attribute e n pos) (tXfP X.K X.mg p.1 c d n te) := by
  refine ⟨fun pins s σ H Q I h => attr_of hb (thn (he.run pins s σ H _ I h) fun u s1 hh1 => ?_)⟩
  obtain ⟨z, H1, I1, rz, ez, S, x, C, fI, fs, v, ⟨E1, B, rfl, hd⟩, hno, l, q⟩ := hh1
  subst ez
  cases (show u = Value.ref p.1 from rz)
  obtain ⟨hget, _⟩ := I1.pin p (List.mem_append_left _ hp)
  obtain ⟨⟨hc, hdd⟩, vs, hv⟩ := hh
  rcases hd with ⟨_, rfl⟩ | ⟨dd, rfl, ha⟩
  · cases l
  · have hx : ObjOk X.prog X.w H1 s1.heap dd (.xd fs) := I1.hok dd _ ha
    obtain ⟨mA, hns, hr⟩ := hx
    obtain ⟨od, ho, hl⟩ := lookIn_ns hns
    obtain ⟨u2, hu, ru⟩ := RelO.some_of (v := v) (o := mA n) (by rw [← l]; exact hr n)
    have J : PySem.W.InstAt s1.heap p.1 p.2 C (some od) := ⟨hget, hc, by unfold PySem.W.notCls; rw [hv], by rw [hdd]; exact ho⟩
    exact HandSPX.exc_get I1.kIn J E1.xf.ga E1.xf.gg E1.xf.exC (PySem.W.findObj_own E1.xf.hdC hno rfl (by rw [hl, hu])) (handed_of ru) ⟨v, H1, I1.tok _, ru, q⟩
end Mine

set_option Elab.async false
set_option linter.all false
set_option maxRecDepth 100000
set_option maxHeartbeats 4000000
/-! each error class's own __init__ -/
namespace Mine
open PySem L2 L2H PySem.Spec PyProof.Rows
section
variable {P : Program} {w : World} {K : PySem.W.Frag} {mg : Str → Option Value} {base : Heap}
theorem sc_BadText : FnScope ["self", "line", "word"] ["self", "line", "word"] (defScope (inClass (top 2) 0)) := ⟨rfl, rfl, rfl, by decide +kernel, rfl, by decide +kernel, by decide +kernel⟩
theorem ok_BadText {fI S C : Addr} {fd : FuncData} (F : Fun K "__init__" "BadText.__init__" (inClass (top 2) 0) fI fd) (B : BaseE K mg S) (E1 : ErrE K mg S "BadText" C fI) (n1 : PySem.W.findIn K (.ref C) "line" = some none) (n2 : PySem.W.findIn K (.ref C) "word" = some none) :
    FnOk P w K mg base CX0 1 fI fd ["self", "line", "word"] (spInit C ["line", "word"]) := by
  refine F.ok sc_BadText (fun vs H Q E h => ?_) (fun cdv A outer s H vs Q E hr h => ?_)
  · obtain ⟨a, ws, rfl, hl, _⟩ := h
    exact congrArg (· + 1) hl
  · obtain ⟨a, ws, rfl, hl, ha, k0, k1⟩ := h
    match ws, hl with
    | [y1, y2], _ =>
    refine ⟨_, pss_cons (ps_expr (pe_shinit rfl B (pa_cons (pv 0) (pa_cons pe_str pa_nil)))) (pss_cons (ps_ost (pv 0) (pv 1)) (pss_one (ps_ost (pv 0) (pv 2)))), ?_⟩
    refine ⟨_, rfl, a, C, _, rfl, (by show 1 ≤ 1000; decide), E1.ox, ha, ?_⟩
    refine ⟨_, rfl, _, rfl, a, C, rfl, E1.ox, n1, Or.inl ⟨ha, fun dx h1 h2 => ?_⟩⟩
    have ha0 : ∀ o, upd (upd H dx o) a (exo a C (some dx)) a = some (exo a C (some dx)) := fun o => upd_same
    have hd0 : ∀ o, upd (upd H dx o) a (exo a C (some dx)) dx = some o := fun o => by rw [upd_ne h2, upd_same]
    refine ⟨_, rfl, _, rfl, a, C, rfl, E1.ox, n2, Or.inr ⟨dx, _, ha0 _, hd0 _, (by show 1 ≤ 900; decide), ?_⟩⟩
    exact k1 (by simp) dx _ h1 h2 (by rw [upd_ne (Ne.symm h2)]; exact ha0 _) upd_same fun b nb nd => by rw [upd_ne nd, upd_ne nb, upd_ne nd]
theorem sc_BadName : FnScope ["self", "name"] ["self", "name"] (defScope (inClass (top 3) 0)) := ⟨rfl, rfl, rfl, by decide +kernel, rfl, by decide +kernel, by decide +kernel⟩
theorem ok_BadName {fI S C : Addr} {fd : FuncData} (F : Fun K "__init__" "BadName.__init__" (inClass (top 3) 0) fI fd) (B : BaseE K mg S) (E1 : ErrE K mg S "BadName" C fI) (n1 : PySem.W.findIn K (.ref C) "name" = some none) :
    FnOk P w K mg base CX0 1 fI fd ["self", "name"] (spInit C ["name"]) := by
  refine F.ok sc_BadName (fun vs H Q E h => ?_) (fun cdv A outer s H vs Q E hr h => ?_)
  · obtain ⟨a, ws, rfl, hl, _⟩ := h
    exact congrArg (· + 1) hl
  · obtain ⟨a, ws, rfl, hl, ha, k0, k1⟩ := h
    match ws, hl with
    | [y1], _ =>
    refine ⟨_, pss_cons (ps_expr (pe_shinit rfl B (pa_cons (pv 0) (pa_cons pe_str pa_nil)))) (pss_one (ps_ost (pv 0) (pv 1))), ?_⟩
    refine ⟨_, rfl, a, C, _, rfl, (by show 1 ≤ 1000; decide), E1.ox, ha, ?_⟩
    refine ⟨_, rfl, _, rfl, a, C, rfl, E1.ox, n1, Or.inl ⟨ha, fun dx h1 h2 => ?_⟩⟩
    have ha0 : ∀ o, upd (upd H dx o) a (exo a C (some dx)) a = some (exo a C (some dx)) := fun o => upd_same
    have hd0 : ∀ o, upd (upd H dx o) a (exo a C (some dx)) dx = some o := fun o => by rw [upd_ne h2, upd_same]
    exact k1 (by simp) dx _ h1 h2 (ha0 _) (hd0 _) fun b nb nd => by rw [upd_ne nb, upd_ne nd]
theorem sc_BadNumber : FnScope ["self", "what", "number"] ["self", "what", "number"] (defScope (inClass (top 4) 0)) := ⟨rfl, rfl, rfl, by decide +kernel, rfl, by decide +kernel, by decide +kernel⟩
theorem ok_BadNumber {fI S C : Addr} {fd : FuncData} (F : Fun K "__init__" "BadNumber.__init__" (inClass (top 4) 0) fI fd) (B : BaseE K mg S) (E1 : ErrE K mg S "BadNumber" C fI) (n1 : PySem.W.findIn K (.ref C) "what" = some none) (n2 : PySem.W.findIn K (.ref C) "number" = some none) :
    FnOk P w K mg base CX0 1 fI fd ["self", "what", "number"] (spInit C ["what", "number"]) := by
  refine F.ok sc_BadNumber (fun vs H Q E h => ?_) (fun cdv A outer s H vs Q E hr h => ?_)
  · obtain ⟨a, ws, rfl, hl, _⟩ := h
    exact congrArg (· + 1) hl
  · obtain ⟨a, ws, rfl, hl, ha, k0, k1⟩ := h
    match ws, hl with
    | [y1, y2], _ =>
    refine ⟨_, pss_cons (ps_expr (pe_shinit rfl B (pa_cons (pv 0) (pa_cons pe_str pa_nil)))) (pss_cons (ps_ost (pv 0) (pv 1)) (pss_one (ps_ost (pv 0) (pv 2)))), ?_⟩
    refine ⟨_, rfl, a, C, _, rfl, (by show 1 ≤ 1000; decide), E1.ox, ha, ?_⟩
    refine ⟨_, rfl, _, rfl, a, C, rfl, E1.ox, n1, Or.inl ⟨ha, fun dx h1 h2 => ?_⟩⟩
    have ha0 : ∀ o, upd (upd H dx o) a (exo a C (some dx)) a = some (exo a C (some dx)) := fun o => upd_same
    have hd0 : ∀ o, upd (upd H dx o) a (exo a C (some dx)) dx = some o := fun o => by rw [upd_ne h2, upd_same]
    refine ⟨_, rfl, _, rfl, a, C, rfl, E1.ox, n2, Or.inr ⟨dx, _, ha0 _, hd0 _, (by show 1 ≤ 900; decide), ?_⟩⟩
    exact k1 (by simp) dx _ h1 h2 (by rw [upd_ne (Ne.symm h2)]; exact ha0 _) upd_same fun b nb nd => by rw [upd_ne nd, upd_ne nb, upd_ne nd]
theorem sc_BadRow : FnScope ["self", "what", "row"] ["self", "what", "row"] (defScope (inClass (top 5) 0)) := ⟨rfl, rfl, rfl, by decide +kernel, rfl, by decide +kernel, by decide +kernel⟩
theorem ok_BadRow {fI S C : Addr} {fd : FuncData} (F : Fun K "__init__" "BadRow.__init__" (inClass (top 5) 0) fI fd) (B : BaseE K mg S) (E1 : ErrE K mg S "BadRow" C fI) (n1 : PySem.W.findIn K (.ref C) "what" = some none) (n2 : PySem.W.findIn K (.ref C) "row" = some none) :
    FnOk P w K mg base CX0 1 fI fd ["self", "what", "row"] (spInit C ["what", "row"]) := by
  refine F.ok sc_BadRow (fun vs H Q E h => ?_) (fun cdv A outer s H vs Q E hr h => ?_)
  · obtain ⟨a, ws, rfl, hl, _⟩ := h
    exact congrArg (· + 1) hl
  · obtain ⟨a, ws, rfl, hl, ha, k0, k1⟩ := h
    match ws, hl with
    | [y1, y2], _ =>
    refine ⟨_, pss_cons (ps_expr (pe_shinit rfl B (pa_cons (pv 0) (pa_cons pe_str pa_nil)))) (pss_cons (ps_ost (pv 0) (pv 1)) (pss_one (ps_ost (pv 0) (pv 2)))), ?_⟩
    refine ⟨_, rfl, a, C, _, rfl, (by show 1 ≤ 1000; decide), E1.ox, ha, ?_⟩
    refine ⟨_, rfl, _, rfl, a, C, rfl, E1.ox, n1, Or.inl ⟨ha, fun dx h1 h2 => ?_⟩⟩
    have ha0 : ∀ o, upd (upd H dx o) a (exo a C (some dx)) a = some (exo a C (some dx)) := fun o => upd_same
    have hd0 : ∀ o, upd (upd H dx o) a (exo a C (some dx)) dx = some o := fun o => by rw [upd_ne h2, upd_same]
    refine ⟨_, rfl, _, rfl, a, C, rfl, E1.ox, n2, Or.inr ⟨dx, _, ha0 _, hd0 _, (by show 1 ≤ 900; decide), ?_⟩⟩
    exact k1 (by simp) dx _ h1 h2 (by rw [upd_ne (Ne.symm h2)]; exact ha0 _) upd_same fun b nb nd => by rw [upd_ne nd, upd_ne nb, upd_ne nd]
theorem sc_NoName : FnScope ["self", "name"] ["self", "name"] (defScope (inClass (top 6) 0)) := ⟨rfl, rfl, rfl, by decide +kernel, rfl, by decide +kernel, by decide +kernel⟩
theorem ok_NoName {fI S C : Addr} {fd : FuncData} (F : Fun K "__init__" "NoName.__init__" (inClass (top 6) 0) fI fd) (B : BaseE K mg S) (E1 : ErrE K mg S "NoName" C fI) (n1 : PySem.W.findIn K (.ref C) "name" = some none) :
    FnOk P w K mg base CX0 1 fI fd ["self", "name"] (spInit C ["name"]) := by
  refine F.ok sc_NoName (fun vs H Q E h => ?_) (fun cdv A outer s H vs Q E hr h => ?_)
  · obtain ⟨a, ws, rfl, hl, _⟩ := h
    exact congrArg (· + 1) hl
  · obtain ⟨a, ws, rfl, hl, ha, k0, k1⟩ := h
    match ws, hl with
    | [y1], _ =>
    refine ⟨_, pss_cons (ps_expr (pe_shinit rfl B (pa_cons (pv 0) (pa_cons pe_str pa_nil)))) (pss_one (ps_ost (pv 0) (pv 1))), ?_⟩
    refine ⟨_, rfl, a, C, _, rfl, (by show 1 ≤ 1000; decide), E1.ox, ha, ?_⟩
    refine ⟨_, rfl, _, rfl, a, C, rfl, E1.ox, n1, Or.inl ⟨ha, fun dx h1 h2 => ?_⟩⟩
    have ha0 : ∀ o, upd (upd H dx o) a (exo a C (some dx)) a = some (exo a C (some dx)) := fun o => upd_same
    have hd0 : ∀ o, upd (upd H dx o) a (exo a C (some dx)) dx = some o := fun o => by rw [upd_ne h2, upd_same]
    exact k1 (by simp) dx _ h1 h2 (ha0 _) (hd0 _) fun b nb nd => by rw [upd_ne nb, upd_ne nd]
theorem sc_TakenName : FnScope ["self", "name"] ["self", "name"] (defScope (inClass (top 7) 0)) := ⟨rfl, rfl, rfl, by decide +kernel, rfl, by decide +kernel, by decide +kernel⟩
theorem ok_TakenName {fI S C : Addr} {fd : FuncData} (F : Fun K "__init__" "TakenName.__init__" (inClass (top 7) 0) fI fd) (B : BaseE K mg S) (E1 : ErrE K mg S "TakenName" C fI) (n1 : PySem.W.findIn K (.ref C) "name" = some none) :
    FnOk P w K mg base CX0 1 fI fd ["self", "name"] (spInit C ["name"]) := by
  refine F.ok sc_TakenName (fun vs H Q E h => ?_) (fun cdv A outer s H vs Q E hr h => ?_)
  · obtain ⟨a, ws, rfl, hl, _⟩ := h
    exact congrArg (· + 1) hl
  · obtain ⟨a, ws, rfl, hl, ha, k0, k1⟩ := h
    match ws, hl with
    | [y1], _ =>
    refine ⟨_, pss_cons (ps_expr (pe_shinit rfl B (pa_cons (pv 0) (pa_cons pe_str pa_nil)))) (pss_one (ps_ost (pv 0) (pv 1))), ?_⟩
    refine ⟨_, rfl, a, C, _, rfl, (by show 1 ≤ 1000; decide), E1.ox, ha, ?_⟩
    refine ⟨_, rfl, _, rfl, a, C, rfl, E1.ox, n1, Or.inl ⟨ha, fun dx h1 h2 => ?_⟩⟩
    have ha0 : ∀ o, upd (upd H dx o) a (exo a C (some dx)) a = some (exo a C (some dx)) := fun o => upd_same
    have hd0 : ∀ o, upd (upd H dx o) a (exo a C (some dx)) dx = some o := fun o => by rw [upd_ne h2, upd_same]
    exact k1 (by simp) dx _ h1 h2 (ha0 _) (hd0 _) fun b nb nd => by rw [upd_ne nb, upd_ne nd]
theorem sc_Unlike : FnScope ["self", "what"] ["self", "what"] (defScope (inClass (top 8) 0)) := ⟨rfl, rfl, rfl, by decide +kernel, rfl, by decide +kernel, by decide +kernel⟩
theorem ok_Unlike {fI S C : Addr} {fd : FuncData} (F : Fun K "__init__" "Unlike.__init__" (inClass (top 8) 0) fI fd) (B : BaseE K mg S) (E1 : ErrE K mg S "Unlike" C fI) (n1 : PySem.W.findIn K (.ref C) "what" = some none) :
    FnOk P w K mg base CX0 1 fI fd ["self", "what"] (spInit C ["what"]) := by
  refine F.ok sc_Unlike (fun vs H Q E h => ?_) (fun cdv A outer s H vs Q E hr h => ?_)
  · obtain ⟨a, ws, rfl, hl, _⟩ := h
    exact congrArg (· + 1) hl
  · obtain ⟨a, ws, rfl, hl, ha, k0, k1⟩ := h
    match ws, hl with
    | [y1], _ =>
    refine ⟨_, pss_cons (ps_expr (pe_shinit rfl B (pa_cons (pv 0) (pa_cons pe_str pa_nil)))) (pss_one (ps_ost (pv 0) (pv 1))), ?_⟩
    refine ⟨_, rfl, a, C, _, rfl, (by show 1 ≤ 1000; decide), E1.ox, ha, ?_⟩
    refine ⟨_, rfl, _, rfl, a, C, rfl, E1.ox, n1, Or.inl ⟨ha, fun dx h1 h2 => ?_⟩⟩
    have ha0 : ∀ o, upd (upd H dx o) a (exo a C (some dx)) a = some (exo a C (some dx)) := fun o => upd_same
    have hd0 : ∀ o, upd (upd H dx o) a (exo a C (some dx)) dx = some o := fun o => by rw [upd_ne h2, upd_same]
    exact k1 (by simp) dx _ h1 h2 (ha0 _) (hd0 _) fun b nb nd => by rw [upd_ne nb, upd_ne nd]
theorem sc_TooMany : FnScope ["self", "what", "many", "limit"] ["self", "what", "many", "limit"] (defScope (inClass (top 9) 0)) := ⟨rfl, rfl, rfl, by decide +kernel, rfl, by decide +kernel, by decide +kernel⟩
theorem ok_TooMany {fI S C : Addr} {fd : FuncData} (F : Fun K "__init__" "TooMany.__init__" (inClass (top 9) 0) fI fd) (B : BaseE K mg S) (E1 : ErrE K mg S "TooMany" C fI) (n1 : PySem.W.findIn K (.ref C) "what" = some none) (n2 : PySem.W.findIn K (.ref C) "many" = some none) (n3 : PySem.W.findIn K (.ref C) "limit" = some none) :
    FnOk P w K mg base CX0 1 fI fd ["self", "what", "many", "limit"] (spInit C ["what", "many", "limit"]) := by
  refine F.ok sc_TooMany (fun vs H Q E h => ?_) (fun cdv A outer s H vs Q E hr h => ?_)
  · obtain ⟨a, ws, rfl, hl, _⟩ := h
    exact congrArg (· + 1) hl
  · obtain ⟨a, ws, rfl, hl, ha, k0, k1⟩ := h
    match ws, hl with
    | [y1, y2, y3], _ =>
    refine ⟨_, pss_cons (ps_expr (pe_shinit rfl B (pa_cons (pv 0) (pa_cons pe_str pa_nil)))) (pss_cons (ps_ost (pv 0) (pv 1)) (pss_cons (ps_ost (pv 0) (pv 2)) (pss_one (ps_ost (pv 0) (pv 3))))), ?_⟩
    refine ⟨_, rfl, a, C, _, rfl, (by show 1 ≤ 1000; decide), E1.ox, ha, ?_⟩
    refine ⟨_, rfl, _, rfl, a, C, rfl, E1.ox, n1, Or.inl ⟨ha, fun dx h1 h2 => ?_⟩⟩
    have ha0 : ∀ o, upd (upd H dx o) a (exo a C (some dx)) a = some (exo a C (some dx)) := fun o => upd_same
    have hd0 : ∀ o, upd (upd H dx o) a (exo a C (some dx)) dx = some o := fun o => by rw [upd_ne h2, upd_same]
    refine ⟨_, rfl, _, rfl, a, C, rfl, E1.ox, n2, Or.inr ⟨dx, _, ha0 _, hd0 _, (by show 1 ≤ 900; decide), ?_⟩⟩
    refine ⟨_, rfl, _, rfl, a, C, rfl, E1.ox, n3, Or.inr ⟨dx, _, (by rw [upd_ne (Ne.symm h2)]; exact ha0 _), upd_same, (by show 2 ≤ 900; decide), ?_⟩⟩
    exact k1 (by simp) dx _ h1 h2 (by rw [upd_ne (Ne.symm h2), upd_ne (Ne.symm h2)]; exact ha0 _) upd_same fun b nb nd => by rw [upd_ne nd, upd_ne nd, upd_ne nb, upd_ne nd]
theorem sc_NotKept : FnScope ["self", "promise", "witness"] ["self", "promise", "witness"] (defScope (inClass (top 10) 0)) := ⟨rfl, rfl, rfl, by decide +kernel, rfl, by decide +kernel, by decide +kernel⟩
theorem ok_NotKept {fI S C : Addr} {fd : FuncData} (F : Fun K "__init__" "NotKept.__init__" (inClass (top 10) 0) fI fd) (B : BaseE K mg S) (E1 : ErrE K mg S "NotKept" C fI) (n1 : PySem.W.findIn K (.ref C) "promise" = some none) (n2 : PySem.W.findIn K (.ref C) "witness" = some none) :
    FnOk P w K mg base CX0 1 fI fd ["self", "promise", "witness"] (spInit C ["promise", "witness"]) := by
  refine F.ok sc_NotKept (fun vs H Q E h => ?_) (fun cdv A outer s H vs Q E hr h => ?_)
  · obtain ⟨a, ws, rfl, hl, _⟩ := h
    exact congrArg (· + 1) hl
  · obtain ⟨a, ws, rfl, hl, ha, k0, k1⟩ := h
    match ws, hl with
    | [y1, y2], _ =>
    refine ⟨_, pss_cons (ps_expr (pe_shinit rfl B (pa_cons (pv 0) (pa_cons pe_str pa_nil)))) (pss_cons (ps_ost (pv 0) (pv 1)) (pss_one (ps_ost (pv 0) (pv 2)))), ?_⟩
    refine ⟨_, rfl, a, C, _, rfl, (by show 1 ≤ 1000; decide), E1.ox, ha, ?_⟩
    refine ⟨_, rfl, _, rfl, a, C, rfl, E1.ox, n1, Or.inl ⟨ha, fun dx h1 h2 => ?_⟩⟩
    have ha0 : ∀ o, upd (upd H dx o) a (exo a C (some dx)) a = some (exo a C (some dx)) := fun o => upd_same
    have hd0 : ∀ o, upd (upd H dx o) a (exo a C (some dx)) dx = some o := fun o => by rw [upd_ne h2, upd_same]
    refine ⟨_, rfl, _, rfl, a, C, rfl, E1.ox, n2, Or.inr ⟨dx, _, ha0 _, hd0 _, (by show 1 ≤ 900; decide), ?_⟩⟩
    exact k1 (by simp) dx _ h1 h2 (by rw [upd_ne (Ne.symm h2)]; exact ha0 _) upd_same fun b nb nd => by rw [upd_ne nd, upd_ne nb, upd_ne nd]
theorem sc_NothingToUndo : FnScope ["self"] ["self"] (defScope (inClass (top 11) 0)) := ⟨rfl, rfl, rfl, by decide +kernel, rfl, by decide +kernel, by decide +kernel⟩
theorem ok_NothingToUndo {fI S C : Addr} {fd : FuncData} (F : Fun K "__init__" "NothingToUndo.__init__" (inClass (top 11) 0) fI fd) (B : BaseE K mg S) (E1 : ErrE K mg S "NothingToUndo" C fI)  :
    FnOk P w K mg base CX0 1 fI fd ["self"] (spInit C []) := by
  refine F.ok sc_NothingToUndo (fun vs H Q E h => ?_) (fun cdv A outer s H vs Q E hr h => ?_)
  · obtain ⟨a, ws, rfl, hl, _⟩ := h
    exact congrArg (· + 1) hl
  · obtain ⟨a, ws, rfl, hl, ha, k0, k1⟩ := h
    match ws, hl with
    | [], _ =>
    refine ⟨_, pss_one (ps_expr (pe_shinit rfl B (pa_cons (pv 0) (pa_cons pe_str pa_nil)))), ?_⟩
    refine ⟨_, rfl, a, C, _, rfl, (by show 1 ≤ 1000; decide), E1.ox, ha, ?_⟩
    exact k0 rfl
theorem sc_NothingToRedo : FnScope ["self"] ["self"] (defScope (inClass (top 12) 0)) := ⟨rfl, rfl, rfl, by decide +kernel, rfl, by decide +kernel, by decide +kernel⟩
theorem ok_NothingToRedo {fI S C : Addr} {fd : FuncData} (F : Fun K "__init__" "NothingToRedo.__init__" (inClass (top 12) 0) fI fd) (B : BaseE K mg S) (E1 : ErrE K mg S "NothingToRedo" C fI)  :
    FnOk P w K mg base CX0 1 fI fd ["self"] (spInit C []) := by
  refine F.ok sc_NothingToRedo (fun vs H Q E h => ?_) (fun cdv A outer s H vs Q E hr h => ?_)
  · obtain ⟨a, ws, rfl, hl, _⟩ := h
    exact congrArg (· + 1) hl
  · obtain ⟨a, ws, rfl, hl, ha, k0, k1⟩ := h
    match ws, hl with
    | [], _ =>
    refine ⟨_, pss_one (ps_expr (pe_shinit rfl B (pa_cons (pv 0) (pa_cons pe_str pa_nil)))), ?_⟩
    refine ⟨_, rfl, a, C, _, rfl, (by show 1 ≤ 1000; decide), E1.ox, ha, ?_⟩
    exact k0 rfl
end
end Mine

set_option Elab.async false
set_option linter.all false
set_option maxRecDepth 100000
set_option maxHeartbeats 4000000
namespace Mine
open PySem L2 L2H PySem.Spec PyProof.Rows
abbrev sVal : Stmt := top 17
abbrev sCls : Stmt := top 18
abbrev sMore : Stmt := top 19
abbrev sFall : Stmt := top 20
abbrev sOther : Stmt := top 21
abbrev sFields : Stmt := top 22
abbrev sOne : Stmt := top 23
abbrev sLaw : Stmt := top 24
/-! the eleven errors by number -/
def errN : Nat → Str
  | 0 => "BadText" | 1 => "BadName" | 2 => "BadNumber" | 3 => "BadRow" | 4 => "NoName" | 5 => "TakenName" | 6 => "Unlike" | 7 => "TooMany" | 8 => "NotKept" | 9 => "NothingToUndo" | _ => "NothingToRedo"
def errF : Nat → List Str
  | 0 => ["line", "word"] | 1 => ["name"] | 2 => ["what", "number"] | 3 => ["what", "row"] | 4 => ["name"] | 5 => ["name"] | 6 => ["what"] | 7 => ["what", "many", "limit"] | 8 => ["promise", "witness"] | _ => []
/-- what stands of the error number i -/
structure ErrI (P : Program) (w : World) (K : PySem.W.Frag) (mg : Str → Option Value) (base : Heap) (S : Addr) (i : Nat) (C fI : Addr) : Prop where
  er : ErrE K mg S (errN i) C fI
  noa : ∀ f ∈ errF i, PySem.W.findIn K (.ref C) f = some none
  fn : ∃ fd, FnOk P w K mg base CX0 1 fI fd ("self" :: errF i) (spInit C (errF i)) ∧ Binds K fd ("self" :: errF i) []
structure Errs (P : Program) (w : World) (K : PySem.W.Frag) (mg : Str → Option Value) (base : Heap) (S : Addr) (Cs fs : Nat → Addr) : Prop where
  bs : BaseE K mg S
  ei : ∀ i, i < 11 → ErrI P w K mg base S i (Cs i) (fs i)
  kit : ∀ i j, i < 11 → j < 11 → PySem.W.kitOne K (.ref (Cs i)) (.ref (Cs j)) = some (decide (i = j))
/-- the error's own dict -/
def ErrD (d : Option Addr) (H : Hp) (fs : List Str) (vs : List V) : Prop := (fs = [] ∧ d = none) ∨ ∃ dd, d = some dd ∧ H dd = some (.xd (fs.zip vs).reverse)
def spFall (Cs : Nat → Addr) (lo hi : Nat) : Sp := fun vs H _ E => ∃ (k : Nat) (a b c : V), vs = [.int k, a, b, c] ∧ lo ≤ k ∧ k < hi ∧ ∀ d H', Same H H' → ErrD d H' (errF k) [a, b, c] → E (.ref (Cs k)) d H'
theorem keyEq {k n : Nat} (h : decide (V.int (k : Int) = V.int (n : Int)) = true) : k = n := by
  have z := of_decide_eq_true h
  injection z with z
  omega
theorem keyNe {k n : Nat} (h : ¬ decide (V.int (k : Int) = V.int (n : Int)) = true) : k ≠ n := fun e => h (by rw [e]; exact decide_eq_true rfl)
theorem red_same {d : Addr} {H H' : Hp} (n : H d = none) (k : ∀ b, b ≠ d → H' b = H b) : Same H H' := fun b o e => by
  rw [k b (ne_of_none e n)]
  exact e
section
variable {P : Program} {w : World} {K : PySem.W.Frag} {mg : Str → Option Value} {base : Heap} {S : Addr} {Cs fIs : Nat → Addr}
theorem scOther : FnScope ["kind", "one", "two", "three"] ["kind", "one", "two", "three"] (defScope sOther) := ⟨rfl, rfl, rfl, by decide +kernel, rfl, by decide +kernel, by decide +kernel⟩
theorem ok_other {f : Addr} {fd : FuncData} (F : Fun K "_law_other_fall" "_law_other_fall" sOther f fd) (T : Errs P w K mg base S Cs fIs) : FnOk P w K mg base (L2.CX P w) 3 f fd ["kind", "one", "two", "three"] (spFall Cs 6 11) := by
  refine F.okX scOther (fun vs H Q E h => ?_) (fun cdv A outer s H vs Q E hr h => ?_)
  · obtain ⟨k, a, b, c, rfl, _⟩ := h
    rfl
  · obtain ⟨k, a, b, c, rfl, k1, k2, kE⟩ := h
    obtain ⟨e6, _, d6, G6, b6⟩ := T.ei 6 (by decide)
    obtain ⟨e7, _, d7, G7, b7⟩ := T.ei 7 (by decide)
    obtain ⟨e8, _, d8, G8, b8⟩ := T.ei 8 (by decide)
    obtain ⟨e9, _, d9, G9, b9⟩ := T.ei 9 (by decide)
    obtain ⟨e10, _, d10, G10, b10⟩ := T.ei 10 (by decide)
    refine ⟨_, pss_cons (ps_if (pt_cmpR op_eq (pv 0) pe_int (nomark _)) (pss_one (ps_raise (W := fun cls d _ H => E cls d H) rfl (takes_of rfl rfl rfl rfl) (pmk_oex e6.ox e6.iC e6.tI G6 hr b6 .nil pass0 rfl e6.gC (pa_cons (pv 1) pa_nil)))) pss_nil)
      (pss_cons (ps_if (pt_cmpR op_eq (pv 0) pe_int (nomark _)) (pss_one (ps_raise (W := fun cls d _ H => E cls d H) rfl (takes_of rfl rfl rfl rfl) (pmk_oex e7.ox e7.iC e7.tI G7 hr b7 .nil pass0 rfl e7.gC (pa_cons (pv 1) (pa_cons (pv 2) (pa_cons (pv 3) pa_nil)))))) pss_nil)
      (pss_cons (ps_if (pt_cmpR op_eq (pv 0) pe_int (nomark _)) (pss_one (ps_raise (W := fun cls d _ H => E cls d H) rfl (takes_of rfl rfl rfl rfl) (pmk_oex e8.ox e8.iC e8.tI G8 hr b8 .nil pass0 rfl e8.gC (pa_cons (pv 1) (pa_cons (pv 2) pa_nil))))) pss_nil)
      (pss_cons (ps_if (pt_cmpR op_eq (pv 0) pe_int (nomark _)) (pss_one (ps_raise (W := fun cls d _ H => E cls d H) rfl (takes_of rfl rfl rfl rfl) (pmk_err0 e9.ox e9.iC e9.tI rfl G9 hr b9 rfl e9.gC))) pss_nil)
      (pss_one (ps_raise (W := fun cls d _ H => E cls d H) rfl (takes_of rfl rfl rfl rfl) (pmk_err0 e10.ox e10.iC e10.tI rfl G10 hr b10 rfl e10.gC)))))), ?_⟩
    refine ⟨_, rfl, rfl, _, rfl, ?_⟩
    refine ite2 (fun h => ?_) (fun h => ?_)
    · cases keyEq (n := 6) h
      exact mk_fields (fs := ["what"]) (ws := [a]) (by simp) rfl (by decide) (fun R r => ⟨_, rfl, r⟩) fun d H' n h hk => kE (some d) H' (red_same n hk) (Or.inr ⟨d, rfl, h⟩)
    have n6 := keyNe (n := 6) h
    refine ⟨_, rfl, rfl, _, rfl, ?_⟩
    refine ite2 (fun h => ?_) (fun h => ?_)
    · cases keyEq (n := 7) h
      exact mk_fields (fs := ["what", "many", "limit"]) (ws := [a, b, c]) (by simp) rfl (by decide) (fun R r => ⟨_, rfl, _, rfl, _, rfl, r⟩) fun d H' n h hk => kE (some d) H' (red_same n hk) (Or.inr ⟨d, rfl, h⟩)
    have n7 := keyNe (n := 7) h
    refine ⟨_, rfl, rfl, _, rfl, ?_⟩
    refine ite2 (fun h => ?_) (fun h => ?_)
    · cases keyEq (n := 8) h
      exact mk_fields (fs := ["promise", "witness"]) (ws := [a, b]) (by simp) rfl (by decide) (fun R r => ⟨_, rfl, _, rfl, r⟩) fun d H' n h hk => kE (some d) H' (red_same n hk) (Or.inr ⟨d, rfl, h⟩)
    have n8 := keyNe (n := 8) h
    refine ⟨_, rfl, rfl, _, rfl, ?_⟩
    refine ite2 (fun h => ?_) (fun h => ?_)
    · cases keyEq (n := 9) h
      exact mk_none (σ := []) (fun a na => fr0_none na) (kE none H (Same.refl H) (Or.inl ⟨rfl, rfl⟩))
    have n9 := keyNe (n := 9) h
    obtain rfl : k = 10 := by omega
    exact mk_none (σ := []) (fun a na => fr0_none na) (kE none H (Same.refl H) (Or.inl ⟨rfl, rfl⟩))
theorem scFall : FnScope ["kind", "one", "two", "three"] ["kind", "one", "two", "three"] (defScope sFall) := ⟨rfl, rfl, rfl, by decide +kernel, rfl, by decide +kernel, by decide +kernel⟩
theorem ok_fall {f fO : Addr} {fd fdO : FuncData} (F : Fun K "_law_fall" "_law_fall" sFall f fd) (T : Errs P w K mg base S Cs fIs) (mO : mg "_law_other_fall" = some (.ref fO)) (kO : PySem.W.keepIn K (.ref fO) = true)
    (bO : Binds K fdO ["kind", "one", "two", "three"] []) (GO : FnOk P w K mg base (L2.CX P w) 3 fO fdO ["kind", "one", "two", "three"] (spFall Cs 6 11)) : FnOk P w K mg base (L2.CX P w) 4 f fd ["kind", "one", "two", "three"] (spFall Cs 0 11) := by
  refine F.okX scFall (fun vs H Q E h => ?_) (fun cdv A outer s H vs Q E hr h => ?_)
  · obtain ⟨k, a, b, c, rfl, _⟩ := h
    rfl
  · obtain ⟨k, a, b, c, rfl, k1, k2, kE⟩ := h
    have hr2 : Room 2 _ := hr.mono (by decide)
    obtain ⟨e0, _, d0, G0, b0⟩ := T.ei 0 (by decide)
    obtain ⟨e1, _, d1, G1, b1⟩ := T.ei 1 (by decide)
    obtain ⟨e2, _, d2, G2, b2⟩ := T.ei 2 (by decide)
    obtain ⟨e3, _, d3, G3, b3⟩ := T.ei 3 (by decide)
    obtain ⟨e4, _, d4, G4, b4⟩ := T.ei 4 (by decide)
    obtain ⟨e5, _, d5, G5, b5⟩ := T.ei 5 (by decide)
    refine ⟨_, pss_cons (ps_if (pt_cmpR op_eq (pv 0) pe_int (nomark _)) (pss_one (ps_raise (W := fun cls d _ H => E cls d H) rfl (takes_of rfl rfl rfl rfl) (pmk_oex e0.ox e0.iC e0.tI G0 hr2 b0 .nil pass0 rfl e0.gC (pa_cons (pv 1) (pa_cons (pv 2) pa_nil))))) pss_nil)
      (pss_cons (ps_if (pt_cmpR op_eq (pv 0) pe_int (nomark _)) (pss_one (ps_raise (W := fun cls d _ H => E cls d H) rfl (takes_of rfl rfl rfl rfl) (pmk_oex e1.ox e1.iC e1.tI G1 hr2 b1 .nil pass0 rfl e1.gC (pa_cons (pv 1) pa_nil)))) pss_nil)
      (pss_cons (ps_if (pt_cmpR op_eq (pv 0) pe_int (nomark _)) (pss_one (ps_raise (W := fun cls d _ H => E cls d H) rfl (takes_of rfl rfl rfl rfl) (pmk_oex e2.ox e2.iC e2.tI G2 hr2 b2 .nil pass0 rfl e2.gC (pa_cons (pv 1) (pa_cons (pv 2) pa_nil))))) pss_nil)
      (pss_cons (ps_if (pt_cmpR op_eq (pv 0) pe_int (nomark _)) (pss_one (ps_raise (W := fun cls d _ H => E cls d H) rfl (takes_of rfl rfl rfl rfl) (pmk_oex e3.ox e3.iC e3.tI G3 hr2 b3 .nil pass0 rfl e3.gC (pa_cons (pv 1) (pa_cons (pv 2) pa_nil))))) pss_nil)
      (pss_cons (ps_if (pt_cmpR op_eq (pv 0) pe_int (nomark _)) (pss_one (ps_raise (W := fun cls d _ H => E cls d H) rfl (takes_of rfl rfl rfl rfl) (pmk_oex e4.ox e4.iC e4.tI G4 hr2 b4 .nil pass0 rfl e4.gC (pa_cons (pv 1) pa_nil)))) pss_nil)
      (pss_cons (ps_if (pt_cmpR op_eq (pv 0) pe_int (nomark _)) (pss_one (ps_raise (W := fun cls d _ H => E cls d H) rfl (takes_of rfl rfl rfl rfl) (pmk_oex e5.ox e5.iC e5.tI G5 hr2 b5 .nil pass0 rfl e5.gC (pa_cons (pv 1) pa_nil)))) pss_nil)
      (pss_one (ps_expr (pe_callS GO hr rfl mO kO bO (fun σ => passAt (W := fun cls d _ H => E cls d H) (takes_of rfl rfl rfl rfl) σ) (pa_cons (pv 0) (pa_cons (pv 1) (pa_cons (pv 2) (pa_cons (pv 3) pa_nil)))))))))))), ?_⟩
    refine ⟨_, rfl, rfl, _, rfl, ?_⟩
    refine ite2 (fun h => ?_) (fun h => ?_)
    · cases keyEq (n := 0) h
      exact mk_fields (fs := ["line", "word"]) (ws := [a, b]) (by simp) rfl (by decide) (fun R r => ⟨_, rfl, _, rfl, r⟩) fun d H' n h hk => kE (some d) H' (red_same n hk) (Or.inr ⟨d, rfl, h⟩)
    have n0 := keyNe (n := 0) h
    refine ⟨_, rfl, rfl, _, rfl, ?_⟩
    refine ite2 (fun h => ?_) (fun h => ?_)
    · cases keyEq (n := 1) h
      exact mk_fields (fs := ["name"]) (ws := [a]) (by simp) rfl (by decide) (fun R r => ⟨_, rfl, r⟩) fun d H' n h hk => kE (some d) H' (red_same n hk) (Or.inr ⟨d, rfl, h⟩)
    have n1 := keyNe (n := 1) h
    refine ⟨_, rfl, rfl, _, rfl, ?_⟩
    refine ite2 (fun h => ?_) (fun h => ?_)
    · cases keyEq (n := 2) h
      exact mk_fields (fs := ["what", "number"]) (ws := [a, b]) (by simp) rfl (by decide) (fun R r => ⟨_, rfl, _, rfl, r⟩) fun d H' n h hk => kE (some d) H' (red_same n hk) (Or.inr ⟨d, rfl, h⟩)
    have n2 := keyNe (n := 2) h
    refine ⟨_, rfl, rfl, _, rfl, ?_⟩
    refine ite2 (fun h => ?_) (fun h => ?_)
    · cases keyEq (n := 3) h
      exact mk_fields (fs := ["what", "row"]) (ws := [a, b]) (by simp) rfl (by decide) (fun R r => ⟨_, rfl, _, rfl, r⟩) fun d H' n h hk => kE (some d) H' (red_same n hk) (Or.inr ⟨d, rfl, h⟩)
    have n3 := keyNe (n := 3) h
    refine ⟨_, rfl, rfl, _, rfl, ?_⟩
    refine ite2 (fun h => ?_) (fun h => ?_)
    · cases keyEq (n := 4) h
      exact mk_fields (fs := ["name"]) (ws := [a]) (by simp) rfl (by decide) (fun R r => ⟨_, rfl, r⟩) fun d H' n h hk => kE (some d) H' (red_same n hk) (Or.inr ⟨d, rfl, h⟩)
    have n4 := keyNe (n := 4) h
    refine ⟨_, rfl, rfl, _, rfl, ?_⟩
    refine ite2 (fun h => ?_) (fun h => ?_)
    · cases keyEq (n := 5) h
      exact mk_fields (fs := ["name"]) (ws := [a]) (by simp) rfl (by decide) (fun R r => ⟨_, rfl, r⟩) fun d H' n h hk => kE (some d) H' (red_same n hk) (Or.inr ⟨d, rfl, h⟩)
    have n5 := keyNe (n := 5) h
    exact ⟨_, rfl, _, rfl, _, rfl, _, rfl, k, a, b, c, rfl, by omega, k2, kE⟩
end
end Mine

set_option Elab.async false
set_option linter.all false
set_option maxRecDepth 100000
set_option maxHeartbeats 4000000
namespace Mine
open PySem L2 L2H PySem.Spec PyProof.Rows
def fnd (lo k i : Nat) : List V := if lo ≤ k ∧ k < i then [.str (errN k)] else []
theorem fnd_yes {lo k i : Nat} (h : lo ≤ i) (e : k = i) : fnd lo k (i + 1) = fnd lo k i ++ [.str (errN i)] := by
  subst e
  unfold fnd
  rw [if_pos ⟨h, by omega⟩, if_neg (by omega)]
  rfl
theorem fnd_no {lo k i : Nat} (e : ¬ k = i) : fnd lo k (i + 1) = fnd lo k i := by
  unfold fnd
  by_cases c : lo ≤ k ∧ k < i
  · rw [if_pos c, if_pos ⟨c.1, by omega⟩]
  · rw [if_neg c, if_neg (by omega)]
theorem fnd_len {lo k i : Nat} : (fnd lo k i).length ≤ 1 := by
  unfold fnd
  split
  · exact Nat.le_refl 1
  · exact Nat.zero_le 1
theorem fnd_small {lo k i : Nat} : (fnd lo k i).length < sizeLine := Nat.lt_of_le_of_lt fnd_len (by decide)
theorem fnd_start {lo k : Nat} : fnd lo k lo = [] := by
  unfold fnd
  rw [if_neg (by omega)]
theorem fnd_all {k : Nat} (h : k < 11) : fnd 0 k 6 ++ fnd 6 k 11 = [.str (errN k)] := by
  unfold fnd
  by_cases c : k < 6
  · rw [if_pos ⟨by omega, c⟩, if_neg (by omega)]
    rfl
  · rw [if_neg (by omega), if_pos ⟨by omega, h⟩]
    rfl
theorem errAt_ex {K : PySem.W.Frag} {mg : Str → Option Value} {S C fI : Addr} {c : Value} {d : Option Addr} {H H' : Hp} {x : Str} {fs : List (Str × V)} (h : ErrAt K mg S c d H x C fI fs) (e : Same H H') : ErrAt K mg S c d H' x C fI fs := by
  obtain ⟨a, b, hc, hd⟩ := h
  refine ⟨a, b, hc, ?_⟩
  rcases hd with hd | ⟨dd, h1, h2⟩
  · exact Or.inl hd
  · exact Or.inr ⟨dd, h1, e _ _ h2⟩
theorem same_new {H H' : Hp} {p : Addr} {o : HO} (e : Same H H') (h : H' p = none) : Same H (upd H' p o) := fun b u z => by
  have y := e b u z
  rw [upd_ne (ne_of_none y h)]
  exact y
theorem same_mut {H H' : Hp} {p : Addr} {o : HO} (e : Same H H') (h : H p = none) : Same H (upd H' p o) := fun b u z => by
  rw [upd_ne (ne_of_none z h)]
  exact e b u z
theorem errAt_new {K : PySem.W.Frag} {mg : Str → Option Value} {S C fI p : Addr} {c : Value} {d : Option Addr} {H : Hp} {x : Str} {fs : List (Str × V)} {o : HO} (h : ErrAt K mg S c d H x C fI fs) (n : H p = none) : ErrAt K mg S c d (upd H p o) x C fI fs := errAt_ex h (same_new (Same.refl H) n)
/-- the error number k is at hand -/
def spMore (K : PySem.W.Frag) (mg : Str → Option Value) (S : Addr) (Cs fIs : Nat → Addr) (lo hi : Nat) : SpE := fun a c d vs H Q _ => ∃ (k : Nat) (fs : List (Str × V)), vs = [.ref a] ∧ k < 11 ∧ ErrAt K mg S c d H (errN k) (Cs k) (fIs k) fs ∧
  ∀ p H', H p = none → H' p = some (.lst (fnd lo k hi)) → Same H H' → Q (.ref p) H'
section
variable {P : Program} {w : World} {K : PySem.W.Frag} {mg : Str → Option Value} {base : Heap} {S : Addr} {Cs fIs : Nat → Addr}
theorem scMore : FnScope ["e", "found"] ["e"] (defScope sMore) := ⟨rfl, rfl, rfl, by decide +kernel, rfl, by decide +kernel, by decide +kernel⟩
theorem ok_more {f : Addr} {fd : FuncData} (F : Fun K "_law_more_kinds" "_law_more_kinds" sMore f fd) (T : Errs P w K mg base S Cs fIs) (mI : mg "isinstance" = none) : FnP P w K mg base 1 f fd ["e"] (spMore K mg S Cs fIs 6 11) := by
  refine FnP.body F scMore (fun a c d vs H Q E h => ?_) (fun p c d cdv A outer s H vs Q E hh hr h => ?_)
  · obtain ⟨k, fs, rfl, _⟩ := h
    rfl
  · obtain ⟨a, oe⟩ := p
    obtain ⟨k, fs, rfl, hk, hE, kQ⟩ := h
    have e6 := T.ei 6 (by decide)
    have e7 := T.ei 7 (by decide)
    have e8 := T.ei 8 (by decide)
    have e9 := T.ei 9 (by decide)
    have e10 := T.ei 10 (by decide)
    have hp : (a, oe) ∈ (cxH CX0 P w K mg base ["e", "found"] "_law_more_kinds" (defScope sMore) f cdv A outer s H E (a, oe)).pn := List.mem_cons_self
    refine ⟨_, pss_cons (ps_set (i := 1) scMore.nd rfl (Or.inl rfl) (pe_lst pa_nil))
      (Evl.pss_cut (ps_if (pt_val (pe_callB (call_isP hp hh) rfl mI PyProof.Rows.boot_isinstance (pa_cons (pv 0) (pa_cons (pe_glob (v := .ref (Cs 6)) rfl e6.er.gC rfl) pa_nil)))) (pss_one (ps_expr (pe_bm PySem.F.plainAttrs_list PySem.F.slot_list_append PySem.F.type_list_append mt_append (pv 1) (pa_cons pe_str pa_nil)))) pss_nil)
      (Evl.pss_cut (ps_if (pt_val (pe_callB (call_isP hp hh) rfl mI PyProof.Rows.boot_isinstance (pa_cons (pv 0) (pa_cons (pe_glob (v := .ref (Cs 7)) rfl e7.er.gC rfl) pa_nil)))) (pss_one (ps_expr (pe_bm PySem.F.plainAttrs_list PySem.F.slot_list_append PySem.F.type_list_append mt_append (pv 1) (pa_cons pe_str pa_nil)))) pss_nil)
      (Evl.pss_cut (ps_if (pt_val (pe_callB (call_isP hp hh) rfl mI PyProof.Rows.boot_isinstance (pa_cons (pv 0) (pa_cons (pe_glob (v := .ref (Cs 8)) rfl e8.er.gC rfl) pa_nil)))) (pss_one (ps_expr (pe_bm PySem.F.plainAttrs_list PySem.F.slot_list_append PySem.F.type_list_append mt_append (pv 1) (pa_cons pe_str pa_nil)))) pss_nil)
      (Evl.pss_cut (ps_if (pt_val (pe_callB (call_isP hp hh) rfl mI PyProof.Rows.boot_isinstance (pa_cons (pv 0) (pa_cons (pe_glob (v := .ref (Cs 9)) rfl e9.er.gC rfl) pa_nil)))) (pss_one (ps_expr (pe_bm PySem.F.plainAttrs_list PySem.F.slot_list_append PySem.F.type_list_append mt_append (pv 1) (pa_cons pe_str pa_nil)))) pss_nil)
      (Evl.pss_cut (ps_if (pt_val (pe_callB (call_isP hp hh) rfl mI PyProof.Rows.boot_isinstance (pa_cons (pv 0) (pa_cons (pe_glob (v := .ref (Cs 10)) rfl e10.er.gC rfl) pa_nil)))) (pss_one (ps_expr (pe_bm PySem.F.plainAttrs_list PySem.F.slot_list_append PySem.F.type_list_append mt_append (pv 1) (pa_cons pe_str pa_nil)))) pss_nil)
      (pss_one (ps_ret (pv 1)))))))), ?_⟩
    refine ⟨Nat.zero_le _, fun l hl => ?_⟩
    have eL : upd H l (.lst []) = upd H l (.lst (fnd 6 k 6)) := by rw [fnd_start]
    show Evl.tCut _ _ _ _ (upd H l (.lst []))
    rw [eL]
    refine ⟨fun σ' H' => σ' = [some (.ref a), some (.ref l)] ∧ H' = upd H l (.lst (fnd 6 k (6 + 1))), ?_, ?_⟩
    · refine ⟨_, rfl, S, errN k, Cs k, fIs k, fs, .ref (Cs 6), .ref (Cs 6), decide (k = 6), rfl, errAt_new hE hl, ClsV.own _, T.kit k 6 hk (by decide), _, rfl, ?_⟩
      refine ite2 (fun z => ?_) (fun z => ?_)
      · refine ⟨_, rfl, .inl ⟨rfl, _, SqL.of upd_same⟩, l, _, _, rfl, rfl, upd_same, fnd_small, rfl, ?_⟩
        rw [upd_upd, fnd_yes (by decide) (of_decide_eq_true z)]
        rfl
      · exact ⟨rfl, by rw [fnd_no (fun e => z (decide_eq_true e))]⟩
    rintro σ' H' ⟨rfl, rfl⟩
    refine ⟨fun σ' H' => σ' = [some (.ref a), some (.ref l)] ∧ H' = upd H l (.lst (fnd 6 k (7 + 1))), ?_, ?_⟩
    · refine ⟨_, rfl, S, errN k, Cs k, fIs k, fs, .ref (Cs 7), .ref (Cs 7), decide (k = 7), rfl, errAt_new hE hl, ClsV.own _, T.kit k 7 hk (by decide), _, rfl, ?_⟩
      refine ite2 (fun z => ?_) (fun z => ?_)
      · refine ⟨_, rfl, .inl ⟨rfl, _, SqL.of upd_same⟩, l, _, _, rfl, rfl, upd_same, fnd_small, rfl, ?_⟩
        rw [upd_upd, fnd_yes (by decide) (of_decide_eq_true z)]
        rfl
      · exact ⟨rfl, by rw [fnd_no (fun e => z (decide_eq_true e))]⟩
    rintro σ' H' ⟨rfl, rfl⟩
    refine ⟨fun σ' H' => σ' = [some (.ref a), some (.ref l)] ∧ H' = upd H l (.lst (fnd 6 k (8 + 1))), ?_, ?_⟩
    · refine ⟨_, rfl, S, errN k, Cs k, fIs k, fs, .ref (Cs 8), .ref (Cs 8), decide (k = 8), rfl, errAt_new hE hl, ClsV.own _, T.kit k 8 hk (by decide), _, rfl, ?_⟩
      refine ite2 (fun z => ?_) (fun z => ?_)
      · refine ⟨_, rfl, .inl ⟨rfl, _, SqL.of upd_same⟩, l, _, _, rfl, rfl, upd_same, fnd_small, rfl, ?_⟩
        rw [upd_upd, fnd_yes (by decide) (of_decide_eq_true z)]
        rfl
      · exact ⟨rfl, by rw [fnd_no (fun e => z (decide_eq_true e))]⟩
    rintro σ' H' ⟨rfl, rfl⟩
    refine ⟨fun σ' H' => σ' = [some (.ref a), some (.ref l)] ∧ H' = upd H l (.lst (fnd 6 k (9 + 1))), ?_, ?_⟩
    · refine ⟨_, rfl, S, errN k, Cs k, fIs k, fs, .ref (Cs 9), .ref (Cs 9), decide (k = 9), rfl, errAt_new hE hl, ClsV.own _, T.kit k 9 hk (by decide), _, rfl, ?_⟩
      refine ite2 (fun z => ?_) (fun z => ?_)
      · refine ⟨_, rfl, .inl ⟨rfl, _, SqL.of upd_same⟩, l, _, _, rfl, rfl, upd_same, fnd_small, rfl, ?_⟩
        rw [upd_upd, fnd_yes (by decide) (of_decide_eq_true z)]
        rfl
      · exact ⟨rfl, by rw [fnd_no (fun e => z (decide_eq_true e))]⟩
    rintro σ' H' ⟨rfl, rfl⟩
    refine ⟨fun σ' H' => σ' = [some (.ref a), some (.ref l)] ∧ H' = upd H l (.lst (fnd 6 k (10 + 1))), ?_, ?_⟩
    · refine ⟨_, rfl, S, errN k, Cs k, fIs k, fs, .ref (Cs 10), .ref (Cs 10), decide (k = 10), rfl, errAt_new hE hl, ClsV.own _, T.kit k 10 hk (by decide), _, rfl, ?_⟩
      refine ite2 (fun z => ?_) (fun z => ?_)
      · refine ⟨_, rfl, .inl ⟨rfl, _, SqL.of upd_same⟩, l, _, _, rfl, rfl, upd_same, fnd_small, rfl, ?_⟩
        rw [upd_upd, fnd_yes (by decide) (of_decide_eq_true z)]
        rfl
      · exact ⟨rfl, by rw [fnd_no (fun e => z (decide_eq_true e))]⟩
    rintro σ' H' ⟨rfl, rfl⟩
    exact ⟨_, rfl, kQ l _ hl upd_same (same_new (Same.refl H) hl)⟩
def spCls (K : PySem.W.Frag) (mg : Str → Option Value) (S : Addr) (Cs fIs : Nat → Addr) : SpE := fun a c d vs H Q _ => ∃ (k : Nat) (fs : List (Str × V)), vs = [.ref a] ∧ k < 11 ∧ ErrAt K mg S c d H (errN k) (Cs k) (fIs k) fs ∧
  ∀ p H', H p = none → H' p = some (.lst [.str (errN k)]) → Same H H' → Q (.ref p) H'
theorem scCls : FnScope ["e", "found"] ["e"] (defScope sCls) := ⟨rfl, rfl, rfl, by decide +kernel, rfl, by decide +kernel, by decide +kernel⟩
theorem ok_cls {f fM : Addr} {fd fdM : FuncData} (F : Fun K "_law_classes" "_law_classes" sCls f fd) (T : Errs P w K mg base S Cs fIs) (mI : mg "isinstance" = none) (mM : mg "_law_more_kinds" = some (.ref fM)) (kM : PySem.W.keepIn K (.ref fM) = true) (bM : Binds K fdM ["e"] [])
    (GM : FnP P w K mg base 1 fM fdM ["e"] (spMore K mg S Cs fIs 6 11)) : FnP P w K mg base 2 f fd ["e"] (spCls K mg S Cs fIs) := by
  refine FnP.body F scCls (fun a c d vs H Q E h => ?_) (fun p c d cdv A outer s H vs Q E hh hr h => ?_)
  · obtain ⟨k, fs, rfl, _⟩ := h
    rfl
  · obtain ⟨a, oe⟩ := p
    obtain ⟨k, fs, rfl, hk, hE, kQ⟩ := h
    have e0 := T.ei 0 (by decide)
    have e1 := T.ei 1 (by decide)
    have e2 := T.ei 2 (by decide)
    have e3 := T.ei 3 (by decide)
    have e4 := T.ei 4 (by decide)
    have e5 := T.ei 5 (by decide)
    have hp : (a, oe) ∈ (cxH CX0 P w K mg base ["e", "found"] "_law_classes" (defScope sCls) f cdv A outer s H E (a, oe)).pn := List.mem_cons_self
    refine ⟨_, pss_cons (ps_set (i := 1) scCls.nd rfl (Or.inl rfl) (pe_lst pa_nil))
      (Evl.pss_cut (ps_if (pt_val (pe_callB (call_isP hp hh) rfl mI PyProof.Rows.boot_isinstance (pa_cons (pv 0) (pa_cons (pe_glob (v := .ref (Cs 0)) rfl e0.er.gC rfl) pa_nil)))) (pss_one (ps_expr (pe_bm PySem.F.plainAttrs_list PySem.F.slot_list_append PySem.F.type_list_append mt_append (pv 1) (pa_cons pe_str pa_nil)))) pss_nil)
      (Evl.pss_cut (ps_if (pt_val (pe_callB (call_isP hp hh) rfl mI PyProof.Rows.boot_isinstance (pa_cons (pv 0) (pa_cons (pe_glob (v := .ref (Cs 1)) rfl e1.er.gC rfl) pa_nil)))) (pss_one (ps_expr (pe_bm PySem.F.plainAttrs_list PySem.F.slot_list_append PySem.F.type_list_append mt_append (pv 1) (pa_cons pe_str pa_nil)))) pss_nil)
      (Evl.pss_cut (ps_if (pt_val (pe_callB (call_isP hp hh) rfl mI PyProof.Rows.boot_isinstance (pa_cons (pv 0) (pa_cons (pe_glob (v := .ref (Cs 2)) rfl e2.er.gC rfl) pa_nil)))) (pss_one (ps_expr (pe_bm PySem.F.plainAttrs_list PySem.F.slot_list_append PySem.F.type_list_append mt_append (pv 1) (pa_cons pe_str pa_nil)))) pss_nil)
      (Evl.pss_cut (ps_if (pt_val (pe_callB (call_isP hp hh) rfl mI PyProof.Rows.boot_isinstance (pa_cons (pv 0) (pa_cons (pe_glob (v := .ref (Cs 3)) rfl e3.er.gC rfl) pa_nil)))) (pss_one (ps_expr (pe_bm PySem.F.plainAttrs_list PySem.F.slot_list_append PySem.F.type_list_append mt_append (pv 1) (pa_cons pe_str pa_nil)))) pss_nil)
      (Evl.pss_cut (ps_if (pt_val (pe_callB (call_isP hp hh) rfl mI PyProof.Rows.boot_isinstance (pa_cons (pv 0) (pa_cons (pe_glob (v := .ref (Cs 4)) rfl e4.er.gC rfl) pa_nil)))) (pss_one (ps_expr (pe_bm PySem.F.plainAttrs_list PySem.F.slot_list_append PySem.F.type_list_append mt_append (pv 1) (pa_cons pe_str pa_nil)))) pss_nil)
      (Evl.pss_cut (ps_if (pt_val (pe_callB (call_isP hp hh) rfl mI PyProof.Rows.boot_isinstance (pa_cons (pv 0) (pa_cons (pe_glob (v := .ref (Cs 5)) rfl e5.er.gC rfl) pa_nil)))) (pss_one (ps_expr (pe_bm PySem.F.plainAttrs_list PySem.F.slot_list_append PySem.F.type_list_append mt_append (pv 1) (pa_cons pe_str pa_nil)))) pss_nil)
      (pss_one (ps_ret (pe_op op_cat (pv 1) (pe_callP GM hp hh hr rfl mM kM bM (pa_cons (pv 0) pa_nil))))))))))), ?_⟩
    refine ⟨Nat.zero_le _, fun l hl => ?_⟩
    have eL : upd H l (.lst []) = upd H l (.lst (fnd 0 k 0)) := by rw [fnd_start]
    show Evl.tCut _ _ _ _ (upd H l (.lst []))
    rw [eL]
    refine ⟨fun σ' H' => σ' = [some (.ref a), some (.ref l)] ∧ H' = upd H l (.lst (fnd 0 k (0 + 1))), ?_, ?_⟩
    · refine ⟨_, rfl, S, errN k, Cs k, fIs k, fs, .ref (Cs 0), .ref (Cs 0), decide (k = 0), rfl, errAt_new hE hl, ClsV.own _, T.kit k 0 hk (by decide), _, rfl, ?_⟩
      refine ite2 (fun z => ?_) (fun z => ?_)
      · refine ⟨_, rfl, .inl ⟨rfl, _, SqL.of upd_same⟩, l, _, _, rfl, rfl, upd_same, fnd_small, rfl, ?_⟩
        rw [upd_upd, fnd_yes (by decide) (of_decide_eq_true z)]
        rfl
      · exact ⟨rfl, by rw [fnd_no (fun e => z (decide_eq_true e))]⟩
    rintro σ' H' ⟨rfl, rfl⟩
    refine ⟨fun σ' H' => σ' = [some (.ref a), some (.ref l)] ∧ H' = upd H l (.lst (fnd 0 k (1 + 1))), ?_, ?_⟩
    · refine ⟨_, rfl, S, errN k, Cs k, fIs k, fs, .ref (Cs 1), .ref (Cs 1), decide (k = 1), rfl, errAt_new hE hl, ClsV.own _, T.kit k 1 hk (by decide), _, rfl, ?_⟩
      refine ite2 (fun z => ?_) (fun z => ?_)
      · refine ⟨_, rfl, .inl ⟨rfl, _, SqL.of upd_same⟩, l, _, _, rfl, rfl, upd_same, fnd_small, rfl, ?_⟩
        rw [upd_upd, fnd_yes (by decide) (of_decide_eq_true z)]
        rfl
      · exact ⟨rfl, by rw [fnd_no (fun e => z (decide_eq_true e))]⟩
    rintro σ' H' ⟨rfl, rfl⟩
    refine ⟨fun σ' H' => σ' = [some (.ref a), some (.ref l)] ∧ H' = upd H l (.lst (fnd 0 k (2 + 1))), ?_, ?_⟩
    · refine ⟨_, rfl, S, errN k, Cs k, fIs k, fs, .ref (Cs 2), .ref (Cs 2), decide (k = 2), rfl, errAt_new hE hl, ClsV.own _, T.kit k 2 hk (by decide), _, rfl, ?_⟩
      refine ite2 (fun z => ?_) (fun z => ?_)
      · refine ⟨_, rfl, .inl ⟨rfl, _, SqL.of upd_same⟩, l, _, _, rfl, rfl, upd_same, fnd_small, rfl, ?_⟩
        rw [upd_upd, fnd_yes (by decide) (of_decide_eq_true z)]
        rfl
      · exact ⟨rfl, by rw [fnd_no (fun e => z (decide_eq_true e))]⟩
    rintro σ' H' ⟨rfl, rfl⟩
    refine ⟨fun σ' H' => σ' = [some (.ref a), some (.ref l)] ∧ H' = upd H l (.lst (fnd 0 k (3 + 1))), ?_, ?_⟩
    · refine ⟨_, rfl, S, errN k, Cs k, fIs k, fs, .ref (Cs 3), .ref (Cs 3), decide (k = 3), rfl, errAt_new hE hl, ClsV.own _, T.kit k 3 hk (by decide), _, rfl, ?_⟩
      refine ite2 (fun z => ?_) (fun z => ?_)
      · refine ⟨_, rfl, .inl ⟨rfl, _, SqL.of upd_same⟩, l, _, _, rfl, rfl, upd_same, fnd_small, rfl, ?_⟩
        rw [upd_upd, fnd_yes (by decide) (of_decide_eq_true z)]
        rfl
      · exact ⟨rfl, by rw [fnd_no (fun e => z (decide_eq_true e))]⟩
    rintro σ' H' ⟨rfl, rfl⟩
    refine ⟨fun σ' H' => σ' = [some (.ref a), some (.ref l)] ∧ H' = upd H l (.lst (fnd 0 k (4 + 1))), ?_, ?_⟩
    · refine ⟨_, rfl, S, errN k, Cs k, fIs k, fs, .ref (Cs 4), .ref (Cs 4), decide (k = 4), rfl, errAt_new hE hl, ClsV.own _, T.kit k 4 hk (by decide), _, rfl, ?_⟩
      refine ite2 (fun z => ?_) (fun z => ?_)
      · refine ⟨_, rfl, .inl ⟨rfl, _, SqL.of upd_same⟩, l, _, _, rfl, rfl, upd_same, fnd_small, rfl, ?_⟩
        rw [upd_upd, fnd_yes (by decide) (of_decide_eq_true z)]
        rfl
      · exact ⟨rfl, by rw [fnd_no (fun e => z (decide_eq_true e))]⟩
    rintro σ' H' ⟨rfl, rfl⟩
    refine ⟨fun σ' H' => σ' = [some (.ref a), some (.ref l)] ∧ H' = upd H l (.lst (fnd 0 k (5 + 1))), ?_, ?_⟩
    · refine ⟨_, rfl, S, errN k, Cs k, fIs k, fs, .ref (Cs 5), .ref (Cs 5), decide (k = 5), rfl, errAt_new hE hl, ClsV.own _, T.kit k 5 hk (by decide), _, rfl, ?_⟩
      refine ite2 (fun z => ?_) (fun z => ?_)
      · refine ⟨_, rfl, .inl ⟨rfl, _, SqL.of upd_same⟩, l, _, _, rfl, rfl, upd_same, fnd_small, rfl, ?_⟩
        rw [upd_upd, fnd_yes (by decide) (of_decide_eq_true z)]
        rfl
      · exact ⟨rfl, by rw [fnd_no (fun e => z (decide_eq_true e))]⟩
    rintro σ' H' ⟨rfl, rfl⟩
    refine ⟨_, rfl, _, rfl, k, fs, rfl, hk, errAt_new hE hl, fun m H' hm h1 h2 => ?_⟩
    have hl' : H' l = some (.lst (fnd 0 k 6)) := h2 l _ upd_same
    refine ⟨l, m, _, _, rfl, rfl, hl', h1, Nat.le_trans (Nat.add_le_add fnd_len fnd_len) (by decide), fun q hq => ?_⟩
    have hq0 : H q = none := by
      cases z : H q with
      | none => rfl
      | some o =>
        have y := h2 q o (same_new (Same.refl H) hl q o z)
        rw [hq] at y
        cases y
    refine kQ q _ hq0 (by rw [upd_same, fnd_all hk]) (same_new (fun b o e => h2 b o (same_new (Same.refl H) hl b o e)) hq)
end
end Mine

set_option Elab.async false
set_option linter.all false
set_option maxRecDepth 100000
set_option maxHeartbeats 4000000
namespace Mine
open PySem L2 L2H PySem.Spec PyProof.Rows
theorem in_of {k : Nat} {ns : List Nat} : ((if false = true then !inV (V.int (k : Int)) (ns.map fun (n : Nat) => V.int (n : Int)) else inV (V.int (k : Int)) (ns.map fun (n : Nat) => V.int (n : Int))) = true) ↔ k ∈ ns := by
  rw [if_neg Bool.false_ne_true]
  unfold inV
  rw [List.any_eq_true]
  constructor
  · rintro ⟨v, hv, e⟩
    obtain ⟨n, hn, rfl⟩ := List.mem_map.mp hv
    have z : decide ((n : Int) = (k : Int)) = true := e
    have z2 := of_decide_eq_true z
    have : n = k := by omega
    exact this ▸ hn
  · intro h
    exact ⟨V.int (k : Int), List.mem_map.mpr ⟨k, h, rfl⟩, decide_eq_true (p := (k : Int) = (k : Int)) rfl⟩
theorem fresh_of {H H' : Hp} {l : Addr} (e : Same H H') (h : H' l = none) : H l = none := e.free h
def takeF (k : Nat) (y1 y2 y3 : V) : List V := [y1, y2, y3].take (errF k).length
def spFields (K : PySem.W.Frag) (mg : Str → Option Value) (S : Addr) (Cs fIs : Nat → Addr) : SpE := fun a c d vs H Q _ => ∃ (k : Nat) (y1 y2 y3 : V), vs = [.int k, .ref a] ∧ k < 11 ∧ ErrAt K mg S c d H (errN k) (Cs k) (fIs k) ((errF k).zip [y1, y2, y3]).reverse ∧
  ∀ p H', H p = none → H' p = some (.lst (takeF k y1 y2 y3)) → Same H H' → Q (.ref p) H'
section
variable {P : Program} {w : World} {K : PySem.W.Frag} {mg : Str → Option Value} {base : Heap} {S : Addr} {Cs fIs : Nat → Addr}
theorem scFields : FnScope ["kind", "e"] ["kind", "e"] (defScope sFields) := ⟨rfl, rfl, rfl, by decide +kernel, rfl, by decide +kernel, by decide +kernel⟩
theorem ok_fields {f : Addr} {fd : FuncData} (F : Fun K "_law_fields" "_law_fields" sFields f fd) (T : Errs P w K mg base S Cs fIs) : FnP P w K mg base 1 f fd ["kind", "e"] (spFields K mg S Cs fIs) := by
  refine FnP.body F scFields (fun a c d vs H Q E h => ?_) (fun p c d cdv A outer s H vs Q E hh hr h => ?_)
  · obtain ⟨k, y1, y2, y3, rfl, _⟩ := h
    rfl
  · obtain ⟨a, oe⟩ := p
    obtain ⟨k, y1, y2, y3, rfl, hk, hE, kQ⟩ := h
    have hp : (a, oe) ∈ (cxH CX0 P w K mg base ["kind", "e"] "_law_fields" (defScope sFields) f cdv A outer s H E (a, oe)).pn := List.mem_cons_self
    refine ⟨_, pss_cons (ps_if (pt_cmpR op_in_seq (pv 0) (pe_tup (pa_cons pe_int pa_nil)) (by rfl)) (pss_one (ps_ret (pe_lst (pa_cons (pe_xfP hp hh (pv 1)) (pa_cons (pe_xfP hp hh (pv 1)) pa_nil))))) pss_nil)
      (pss_cons (ps_if (pt_cmpR op_in_seq (pv 0) (pe_tup (pa_cons pe_int (pa_cons pe_int (pa_cons pe_int pa_nil)))) (by rfl)) (pss_one (ps_ret (pe_lst (pa_cons (pe_xfP hp hh (pv 1)) pa_nil)))) pss_nil)
      (pss_cons (ps_if (pt_cmpR op_in_seq (pv 0) (pe_tup (pa_cons pe_int pa_nil)) (by rfl)) (pss_one (ps_ret (pe_lst (pa_cons (pe_xfP hp hh (pv 1)) (pa_cons (pe_xfP hp hh (pv 1)) pa_nil))))) pss_nil)
      (pss_cons (ps_if (pt_cmpR op_in_seq (pv 0) (pe_tup (pa_cons pe_int pa_nil)) (by rfl)) (pss_one (ps_ret (pe_lst (pa_cons (pe_xfP hp hh (pv 1)) (pa_cons (pe_xfP hp hh (pv 1)) pa_nil))))) pss_nil)
      (pss_cons (ps_if (pt_cmpR op_in_seq (pv 0) (pe_tup (pa_cons pe_int pa_nil)) (by rfl)) (pss_one (ps_ret (pe_lst (pa_cons (pe_xfP hp hh (pv 1)) pa_nil)))) pss_nil)
      (pss_cons (ps_if (pt_cmpR op_in_seq (pv 0) (pe_tup (pa_cons pe_int pa_nil)) (by rfl)) (pss_one (ps_ret (pe_lst (pa_cons (pe_xfP hp hh (pv 1)) (pa_cons (pe_xfP hp hh (pv 1)) (pa_cons (pe_xfP hp hh (pv 1)) pa_nil)))))) pss_nil)
      (pss_cons (ps_if (pt_cmpR op_in_seq (pv 0) (pe_tup (pa_cons pe_int pa_nil)) (by rfl)) (pss_one (ps_ret (pe_lst (pa_cons (pe_xfP hp hh (pv 1)) (pa_cons (pe_xfP hp hh (pv 1)) pa_nil))))) pss_nil)
      (pss_one (ps_ret (pe_lst pa_nil))))))))), ?_⟩
    refine ⟨_, rfl, (by show 1 ≤ sizeLine; decide), fun t0 ht => ⟨t0, [V.int 0], rfl, Or.inr (SqT.of upd_same), rfl, rfl, _, rfl, ?_⟩⟩
    have e0 := same_new (Same.refl H) (o := .tup [V.int 0]) ht
    refine ite2 (fun z => ?_) (fun z => ?_)
    · have hz : k ∈ ([0] : List Nat) := in_of.mp z
      simp only [List.mem_cons, List.not_mem_nil, or_false] at hz
      subst hz
      exact ⟨_, rfl, rfl, S, _, _, _, _, y1, errAt_ex hE e0, (T.ei _ (by decide)).noa "line" (by decide +kernel), (show List.lookup ("line" : Str) [("word", y2), ("line", y1)] = some y1 by rw [lookup_put, if_neg (by decide +kernel), lookup_put, if_pos rfl]), ⟨_, rfl, rfl, S, _, _, _, _, y2, errAt_ex hE e0, (T.ei _ (by decide)).noa "word" (by decide +kernel), (show List.lookup ("word" : Str) [("word", y2), ("line", y1)] = some y2 by rw [lookup_put, if_pos rfl]), ⟨by show 2 ≤ sizeLine; decide, fun l hl => kQ l _ (fresh_of e0 hl) upd_same (same_new e0 hl)⟩⟩⟩
    have m0 : ¬ k ∈ ([0] : List Nat) := fun y => z (in_of.mpr y)
    refine ⟨_, rfl, (by show 3 ≤ sizeLine; decide), fun t1 ht => ⟨t1, [V.int 1, V.int 4, V.int 5], rfl, Or.inr (SqT.of upd_same), rfl, rfl, _, rfl, ?_⟩⟩
    have e1 := same_new (e0) (o := .tup [V.int 1, V.int 4, V.int 5]) ht
    refine ite2 (fun z => ?_) (fun z => ?_)
    · have hz : k ∈ ([1, 4, 5] : List Nat) := in_of.mp z
      simp only [List.mem_cons, List.not_mem_nil, or_false] at hz
      rcases hz with rfl | rfl | rfl
      all_goals
        exact ⟨_, rfl, rfl, S, _, _, _, _, y1, errAt_ex hE e1, (T.ei _ (by decide)).noa "name" (by decide +kernel), (show List.lookup ("name" : Str) [("name", y1)] = some y1 by rw [lookup_put, if_pos rfl]), ⟨by show 1 ≤ sizeLine; decide, fun l hl => kQ l _ (fresh_of e1 hl) upd_same (same_new e1 hl)⟩⟩
    have m1 : ¬ k ∈ ([1, 4, 5] : List Nat) := fun y => z (in_of.mpr y)
    refine ⟨_, rfl, (by show 1 ≤ sizeLine; decide), fun t2 ht => ⟨t2, [V.int 2], rfl, Or.inr (SqT.of upd_same), rfl, rfl, _, rfl, ?_⟩⟩
    have e2 := same_new (e1) (o := .tup [V.int 2]) ht
    refine ite2 (fun z => ?_) (fun z => ?_)
    · have hz : k ∈ ([2] : List Nat) := in_of.mp z
      simp only [List.mem_cons, List.not_mem_nil, or_false] at hz
      subst hz
      exact ⟨_, rfl, rfl, S, _, _, _, _, y1, errAt_ex hE e2, (T.ei _ (by decide)).noa "what" (by decide +kernel), (show List.lookup ("what" : Str) [("number", y2), ("what", y1)] = some y1 by rw [lookup_put, if_neg (by decide +kernel), lookup_put, if_pos rfl]), ⟨_, rfl, rfl, S, _, _, _, _, y2, errAt_ex hE e2, (T.ei _ (by decide)).noa "number" (by decide +kernel), (show List.lookup ("number" : Str) [("number", y2), ("what", y1)] = some y2 by rw [lookup_put, if_pos rfl]), ⟨by show 2 ≤ sizeLine; decide, fun l hl => kQ l _ (fresh_of e2 hl) upd_same (same_new e2 hl)⟩⟩⟩
    have m2 : ¬ k ∈ ([2] : List Nat) := fun y => z (in_of.mpr y)
    refine ⟨_, rfl, (by show 1 ≤ sizeLine; decide), fun t3 ht => ⟨t3, [V.int 3], rfl, Or.inr (SqT.of upd_same), rfl, rfl, _, rfl, ?_⟩⟩
    have e3 := same_new (e2) (o := .tup [V.int 3]) ht
    refine ite2 (fun z => ?_) (fun z => ?_)
    · have hz : k ∈ ([3] : List Nat) := in_of.mp z
      simp only [List.mem_cons, List.not_mem_nil, or_false] at hz
      subst hz
      exact ⟨_, rfl, rfl, S, _, _, _, _, y1, errAt_ex hE e3, (T.ei _ (by decide)).noa "what" (by decide +kernel), (show List.lookup ("what" : Str) [("row", y2), ("what", y1)] = some y1 by rw [lookup_put, if_neg (by decide +kernel), lookup_put, if_pos rfl]), ⟨_, rfl, rfl, S, _, _, _, _, y2, errAt_ex hE e3, (T.ei _ (by decide)).noa "row" (by decide +kernel), (show List.lookup ("row" : Str) [("row", y2), ("what", y1)] = some y2 by rw [lookup_put, if_pos rfl]), ⟨by show 2 ≤ sizeLine; decide, fun l hl => kQ l _ (fresh_of e3 hl) upd_same (same_new e3 hl)⟩⟩⟩
    have m3 : ¬ k ∈ ([3] : List Nat) := fun y => z (in_of.mpr y)
    refine ⟨_, rfl, (by show 1 ≤ sizeLine; decide), fun t4 ht => ⟨t4, [V.int 6], rfl, Or.inr (SqT.of upd_same), rfl, rfl, _, rfl, ?_⟩⟩
    have e4 := same_new (e3) (o := .tup [V.int 6]) ht
    refine ite2 (fun z => ?_) (fun z => ?_)
    · have hz : k ∈ ([6] : List Nat) := in_of.mp z
      simp only [List.mem_cons, List.not_mem_nil, or_false] at hz
      subst hz
      exact ⟨_, rfl, rfl, S, _, _, _, _, y1, errAt_ex hE e4, (T.ei _ (by decide)).noa "what" (by decide +kernel), (show List.lookup ("what" : Str) [("what", y1)] = some y1 by rw [lookup_put, if_pos rfl]), ⟨by show 1 ≤ sizeLine; decide, fun l hl => kQ l _ (fresh_of e4 hl) upd_same (same_new e4 hl)⟩⟩
    have m4 : ¬ k ∈ ([6] : List Nat) := fun y => z (in_of.mpr y)
    refine ⟨_, rfl, (by show 1 ≤ sizeLine; decide), fun t5 ht => ⟨t5, [V.int 7], rfl, Or.inr (SqT.of upd_same), rfl, rfl, _, rfl, ?_⟩⟩
    have e5 := same_new (e4) (o := .tup [V.int 7]) ht
    refine ite2 (fun z => ?_) (fun z => ?_)
    · have hz : k ∈ ([7] : List Nat) := in_of.mp z
      simp only [List.mem_cons, List.not_mem_nil, or_false] at hz
      subst hz
      exact ⟨_, rfl, rfl, S, _, _, _, _, y1, errAt_ex hE e5, (T.ei _ (by decide)).noa "what" (by decide +kernel), (show List.lookup ("what" : Str) [("limit", y3), ("many", y2), ("what", y1)] = some y1 by rw [lookup_put, if_neg (by decide +kernel), lookup_put, if_neg (by decide +kernel), lookup_put, if_pos rfl]), ⟨_, rfl, rfl, S, _, _, _, _, y2, errAt_ex hE e5, (T.ei _ (by decide)).noa "many" (by decide +kernel), (show List.lookup ("many" : Str) [("limit", y3), ("many", y2), ("what", y1)] = some y2 by rw [lookup_put, if_neg (by decide +kernel), lookup_put, if_pos rfl]), ⟨_, rfl, rfl, S, _, _, _, _, y3, errAt_ex hE e5, (T.ei _ (by decide)).noa "limit" (by decide +kernel), (show List.lookup ("limit" : Str) [("limit", y3), ("many", y2), ("what", y1)] = some y3 by rw [lookup_put, if_pos rfl]), ⟨by show 3 ≤ sizeLine; decide, fun l hl => kQ l _ (fresh_of e5 hl) upd_same (same_new e5 hl)⟩⟩⟩⟩
    have m5 : ¬ k ∈ ([7] : List Nat) := fun y => z (in_of.mpr y)
    refine ⟨_, rfl, (by show 1 ≤ sizeLine; decide), fun t6 ht => ⟨t6, [V.int 8], rfl, Or.inr (SqT.of upd_same), rfl, rfl, _, rfl, ?_⟩⟩
    have e6 := same_new (e5) (o := .tup [V.int 8]) ht
    refine ite2 (fun z => ?_) (fun z => ?_)
    · have hz : k ∈ ([8] : List Nat) := in_of.mp z
      simp only [List.mem_cons, List.not_mem_nil, or_false] at hz
      subst hz
      exact ⟨_, rfl, rfl, S, _, _, _, _, y1, errAt_ex hE e6, (T.ei _ (by decide)).noa "promise" (by decide +kernel), (show List.lookup ("promise" : Str) [("witness", y2), ("promise", y1)] = some y1 by rw [lookup_put, if_neg (by decide +kernel), lookup_put, if_pos rfl]), ⟨_, rfl, rfl, S, _, _, _, _, y2, errAt_ex hE e6, (T.ei _ (by decide)).noa "witness" (by decide +kernel), (show List.lookup ("witness" : Str) [("witness", y2), ("promise", y1)] = some y2 by rw [lookup_put, if_pos rfl]), ⟨by show 2 ≤ sizeLine; decide, fun l hl => kQ l _ (fresh_of e6 hl) upd_same (same_new e6 hl)⟩⟩⟩
    have m6 : ¬ k ∈ ([8] : List Nat) := fun y => z (in_of.mpr y)
    simp only [List.mem_cons, List.not_mem_nil, or_false, not_or] at m0 m1 m2 m3 m4 m5 m6
    have h9 : k = 9 ∨ k = 10 := by omega
    rcases h9 with rfl | rfl
    all_goals
      exact ⟨by show 0 ≤ sizeLine; decide, fun l hl => kQ l _ (fresh_of e6 hl) upd_same (same_new e6 hl)⟩
end
end Mine

set_option Elab.async false
set_option linter.all false
set_option maxRecDepth 100000
set_option maxHeartbeats 4000000
namespace Mine
open PySem L2 L2H PySem.Spec PyProof.Rows
/-- _law_one: the class's name, the fields -/
def spOne : Sp := fun vs H Q _ => ∃ (k : Nat) (y1 y2 y3 : V), vs = [.int k, y1, y2, y3] ∧ k < 11 ∧
  ∀ t l1 l2 H', Same H H' → H' t = some (.tup [.ref l1, .ref l2]) → H' l1 = some (.lst [.str (errN k)]) → H' l2 = some (.lst (takeF k y1 y2 y3)) → Q (.ref t) H'
def t_suite (K : PySem.W.Frag) (mg : Str → Option Value) (S : Addr) (Cs fIs : Nat → Addr) : Addr → Value → Option Addr → TS := fun a cls d =>
  tIfS (tB (tCB (rIsP K mg a cls d) (tCons (tVar 5) (tCons (tC (.ty "ValueError")) tNil))))
    (tAsg (tTup (tCons (tCallP (spCls K mg S Cs fIs a cls d) (tCons (tVar 5) tNil)) (tCons (tCallP (spFields K mg S Cs fIs a cls d) (tCons (tVar 0) (tCons (tVar 5) tNil))) tNil))) (gName 4)) tNext
section
variable {P : Program} {w : World} {K : PySem.W.Frag} {mg : Str → Option Value} {base : Heap} {S : Addr} {Cs fIs : Nat → Addr}
theorem scOne : FnScope ["kind", "one", "two", "three", "found", "e"] ["kind", "one", "two", "three"] (defScope sOne) := ⟨rfl, rfl, rfl, by decide +kernel, rfl, by decide +kernel, by decide +kernel⟩
theorem ok_one {f fF fC fE : Addr} {fd fdF fdC fdE : FuncData} (F : Fun K "_law_one" "_law_one" sOne f fd) (T : Errs P w K mg base S Cs fIs) (mI : mg "isinstance" = none) (mV : mg "ValueError" = none)
    (mF : mg "_law_fall" = some (.ref fF)) (kF : PySem.W.keepIn K (.ref fF) = true) (bF : Binds K fdF ["kind", "one", "two", "three"] []) (GF : FnOk P w K mg base (L2.CX P w) 4 fF fdF ["kind", "one", "two", "three"] (spFall Cs 0 11))
    (mC : mg "_law_classes" = some (.ref fC)) (kC : PySem.W.keepIn K (.ref fC) = true) (bC : Binds K fdC ["e"] []) (GC : FnP P w K mg base 2 fC fdC ["e"] (spCls K mg S Cs fIs))
    (mE : mg "_law_fields" = some (.ref fE)) (kE : PySem.W.keepIn K (.ref fE) = true) (bE : Binds K fdE ["kind", "e"] []) (GE : FnP P w K mg base 1 fE fdE ["kind", "e"] (spFields K mg S Cs fIs)) :
    FnOk P w K mg base CX0 5 f fd ["kind", "one", "two", "three"] spOne := by
  refine F.ok scOne (fun vs H Q E h => ?_) (fun cdv A outer s H vs Q E hr h => ?_)
  · obtain ⟨k, a, b, c, rfl, _⟩ := h
    rfl
  · obtain ⟨k, y1, y2, y3, rfl, hk, kQ⟩ := h
    have rH : ∀ j, j ≤ 4 → ∀ v : Option Value, RoomH j ((A.deeper (envOfC "_law_one" (defScope sOne) s.heap.objs.size f cdv)).mark v) := fun j hj v => by
      have z := (roomH_of hr).mono hj
      exact ⟨z.dp, z.un⟩
    refine ⟨_, pss_cons (ps_set (i := 4) scOne.nd rfl (Or.inl rfl) pe_non)
      (pss_cons (ps_try_as (i := 5) (tb := fun W => tDrop (tCallS (spFall Cs 0 11) (WE W) (tCons (tVar 0) (tCons (tVar 1) (tCons (tVar 2) (tCons (tVar 3) tNil)))))) (ts := t_suite K mg S Cs fIs) (Wout := fun _ _ _ _ => False) rfl rfl scOne.nd rfl rfl ⟨rfl, by decide, Or.inl T.bs.gS⟩ takes0
          (fun W pn xe tk _ => pss_one (ps_expr (by exact (pe_callS GF hr rfl mF kF bF (fun σ => passAt tk σ) (by exact (pa_cons (pv 0) (pa_cons (pv 1) (pa_cons (pv 2) (pa_cons (pv 3) pa_nil)))))))))
          (fun a oe cls d pn hz hf => pss_one (ps_if (pt_val (pe_callB (call_isP (p := (a, oe)) List.mem_cons_self ⟨hz, hf⟩) rfl mI PyProof.Rows.boot_isinstance (by exact (pa_cons (pv 5) (pa_cons (pe_bltn (v := .ty "ValueError") rfl mV PyProof.Rows.Boot.«ValueError» rfl) pa_nil)))))
            (pss_one (ps_set (i := 4) scOne.nd rfl (Or.inl rfl) (by exact (pe_tup (pa_cons (pe_callP (p := (a, oe)) GC List.mem_cons_self ⟨hz, hf⟩ (rH 2 (by decide) _) rfl mC kC bC (pa_cons (pv 5) pa_nil))
              (pa_cons (pe_callP (p := (a, oe)) GE List.mem_cons_self ⟨hz, hf⟩ (rH 1 (by decide) _) rfl mE kE bE (pa_cons (pv 0) (pa_cons (pv 5) pa_nil))) pa_nil))))))
            pss_nil)))
      (pss_one (ps_ret (pv 4)))), ?_⟩
    refine ⟨_, rfl, _, rfl, _, rfl, _, rfl, k, y1, y2, y3, rfl, Nat.zero_le _, hk, fun d H1 s1 hd => ?_⟩
    refine ⟨true, (T.ei k hk).er.sh, fun _ a na => ?_, fun q => Bool.noConfusion q⟩
    have hE : ErrAt K mg S (.ref (Cs k)) d H1 (errN k) (Cs k) (fIs k) ((errF k).zip [y1, y2, y3]).reverse := by
      refine ⟨(T.ei k hk).er, T.bs, rfl, ?_⟩
      rcases hd with ⟨h1, h2⟩ | ⟨dd, h1, h2⟩
      · exact Or.inl ⟨h2, by rw [h1]; rfl⟩
      · exact Or.inr ⟨dd, h1, h2⟩
    refine ⟨_, rfl, S, errN k, Cs k, fIs k, _, .ty "ValueError", .type "ValueError", true, rfl, hE, ClsV.ty _, (T.ei k hk).er.ve, _, rfl, ?_⟩
    refine iteT ?_
    refine ⟨_, rfl, k, _, rfl, hk, hE, fun l1 H2 n1 h1 s2 => ?_⟩
    refine ⟨_, rfl, _, rfl, k, y1, y2, y3, rfl, hk, errAt_ex hE s2, fun l2 H3 n2 h2 s3 => ⟨by show 2 ≤ sizeLine; decide, fun t nt => ?_⟩⟩
    refine ⟨_, rfl, kQ t l1 l2 _ (same_new (s1.trans (s2.trans s3)) nt) upd_same ?_ ?_⟩
    · rw [upd_ne (ne_of_none (s3 _ _ h1) nt)]
      exact s3 _ _ h1
    · rw [upd_ne (ne_of_none h2 nt)]
      exact h2
end
/-! ### the drawn values -/
def later (n : Nat) : List V := List.replicate n (.str "later")
/-- what _law_value gives -/
inductive Good (m : Nat) (H : Hp) : V → Prop where
  | non : Good m H .non
  | bl (b : Bool) : Good m H (.bl b)
  | int (i : Int) (h : i = 0 ∨ i = -1 ∨ i = 10 ^ 40) : Good m H (.int i)
  | sx : Good m H (.str "x")
  | se : Good m H (.str "")
  | lst (a l : Addr) (n : Int) (j : Nat) (hn : n.natAbs < 10 ^ 12) (hj : j ≤ m) (h1 : H a = some (.lst (.int n :: .ref l :: later j))) (h2 : H l = some (.lst [])) : Good m H (.ref a)
  | tup (a l : Addr) (n : Int) (hn : n.natAbs < 10 ^ 12) (h1 : H a = some (.tup [.str "a", .ref l])) (h2 : H l = some (.tup [.int n])) : Good m H (.ref a)
  | dct (a : Addr) (h1 : H a = some (.dK [(.inr "k", .int 1)])) : Good m H (.ref a)
def spValue : Sp := fun vs H Q _ => ∃ (p : Addr), vs = [.ref p] ∧ PenAt H p ∧ ∀ v H', But p H H' → PenAt H' p → Good 0 H' v → (∀ a, v = .ref a → a ≠ p) → Q v H'
end Mine

set_option Elab.async false
set_option linter.all false
set_option maxRecDepth 100000
set_option maxHeartbeats 4000000
namespace Mine
open PySem L2 L2H PySem.Spec PyProof.Rows
/-! ### repr of data -/
inductive Dq (K : PySem.W.Frag) (H : Hp) : V → PyData → Prop
  | flat {v : V} {d : PyData} (h : Dp K H v d) (hd : d.hasDict = false) : Dq K H v d
  | one {a : Addr} {k : Str} {i : Int} (h : H a = some (.dK [(.inr k, .int i)])) : Dq K H (.ref a) (.dict [(.str k, .int i)])
theorem one_reads {X : Cx} {pins : List (Addr × Obj)} {σ : L2.St} {H : Hp} {s : Shared} {a : Addr} {k : Str} {i : Int} (I : Inv X pins σ H s) (h : H a = some (.dK [(.inr k, .int i)])) :
    ∃ as, Reads s.heap (.ref a) (.dict [(.str k, .int i)]) as ∧ sysModules ∉ as := by
  obtain ⟨_, hs, vs, kv, o, es, ep, ho, hx, hd, _, hp, _⟩ := (show ObjOk X.prog X.w H s.heap a (.dK [(.inr k, .int i)]) from I.hok a _ h)
  have hne : ¬ sysModules = a := fun z => by
    rw [z, beq_self_eq_true] at hs
    cases hs
  cases kv with
  | @cons _ b0 _ _ r0 rt =>
    cases rt
    obtain ⟨kk, vv⟩ := b0
    obtain ⟨e1, ⟨t, e2⟩⟩ := r0
    dsimp only at e1 e2
    subst e1 e2
    generalize hl : es.toList = l at hp
    cases hp with
    | cons hk hv ht =>
      cases ht
      rename_i e
      dsimp only at hk hv
      have hk2 : keyIs (Sum.inr k) e.key = true := hk
      rcases keyIs_shape hk2 with ⟨_, _, z, _⟩ | ⟨x, u, z, ek⟩
      · cases z
      · cases z
        have r : Reads s.heap (.ref a) (.dict [(.str k, .int i)]) (a :: ([] ++ []) ++ ([] ++ [])) := by
          refine Reads.dict ho hx.1 hd ?_ ?_
          · rw [hl]
            show ReadsAll s.heap [e.key] [.str k] _
            rw [ek]
            exact ReadsAll.cons (Reads.str _ _) ReadsAll.nil
          · rw [hl]
            show ReadsAll s.heap [e.val] [.int i] _
            rw [hv]
            exact ReadsAll.cons (Reads.int _ _) ReadsAll.nil
        refine ⟨_, r, ?_⟩
        simpa using hne
def rRepr (K : PySem.W.Frag) : List V → Hp → VK → Prop := fun xs H Q => ∃ v d, xs = [v] ∧ Dq K H v d ∧ d.showable = true ∧ d.shown.length ≤ sizeLine ∧ d.depth ≤ 32 ∧ Q (.str d.shown) H
theorem call_reprD {X : Cx} (hg : X.A.guards = some []) (hu : X.A.units + 64 < cLine) : CallR X (.builtin "repr") (rRepr X.K) := by
  intro pins s σ H xs us Q I r h
  obtain ⟨v, d, rfl, hd, hs, hz, hdep, q⟩ := h
  obtain ⟨u, rfl, ru⟩ := vals1 r
  have ends : ∀ h' (t : Tok) tk, (∀ b o, s.heap.get? b = some o → h'.get? b = some o) → EP X pins σ Q (.str d.shown t) { s with heap := h', toks := tk } := fun h' t tk k => ⟨.str d.shown, H, I.kept k, ⟨t, rfl⟩, q⟩
  have byRef : ∀ {a : Addr} {as : List Addr}, Reads s.heap (.ref a) d as → (d.hasDict = true → sysModules ∉ as) → wpAny (model X.prog X.w) X.A (call (.builtin "repr") [.ref a]) (EP X pins σ Q) X.xe s := fun r hm =>
    repr_of_reads' r hs hm hg (by omega) (fun _ _ e => e) (fun h' t tk k => ends h' t tk k) hz
  cases hd with
  | one h =>
    cases ru
    obtain ⟨as, hr, hm⟩ := one_reads I h
    exact byRef hr fun _ => hm
  | flat h hf =>
    obtain ⟨as, hr⟩ := Dp.reads I d v u h ru
    cases h with
    | non => cases ru; exact P.repr_of_none (ends s.heap _ _ fun _ _ e => e)
    | bl b => cases ru; exact P.repr_of_bool (ends s.heap _ _ fun _ _ e => e)
    | int i => obtain ⟨t, rfl⟩ := ru; exact P.repr_of_int (by simpa [PyData.showable] using hs) (ends s.heap _ _ fun _ _ e => e)
    | str x => obtain ⟨t, rfl⟩ := ru; exact P.repr_of_str (ends s.heap _ _ fun _ _ e => e) hz
    | lst h1 h2 => cases ru; exact byRef hr fun z => by rw [hf] at z; cases z
    | tup h1 h2 => cases ru; exact byRef hr fun z => by rw [hf] at z; cases z
end Mine

set_option Elab.async false
set_option linter.all false
set_option maxRecDepth 100000
set_option maxHeartbeats 4000000
namespace Mine
open PySem L2 L2H PySem.Spec PyProof.Rows
def NotPen (o : HO) : Prop := ∀ (c : Addr) (a d n f : Int), o ≠ .dK (penKV c a d n f)
theorem npL {xs : List V} : NotPen (.lst xs) := fun _ _ _ _ _ z => by cases z
theorem npT {xs : List V} : NotPen (.tup xs) := fun _ _ _ _ _ z => by cases z
theorem npD {k : Key} {v : V} : NotPen (.dK [(k, v)]) := fun _ _ _ _ _ z => by
  injection z with z
  have y := congrArg List.length z
  simp [penKV] at y
theorem But.np {p : Addr} {H H' : Hp} (hP : PenAt H p) (k : But p H H') : ∀ b o, H b = some o → NotPen o → H' b = some o := fun b o h n => by
  obtain ⟨c, ns, i, dg, ct, fo, hp, _⟩ := hP
  refine k b o (fun e => ?_) h
  rw [e, hp] at h
  exact n _ _ _ _ _ (Option.some.inj h).symm
theorem Good.keep {m : Nat} {H H' : Hp} {v : V} (g : Good m H v) (k : ∀ b o, H b = some o → NotPen o → H' b = some o) : Good m H' v := by
  cases g with
  | non => exact .non
  | bl b => exact .bl b
  | int i h => exact .int i h
  | sx => exact .sx
  | se => exact .se
  | lst a l n j hn hj h1 h2 => exact .lst a l n j hn hj (k _ _ h1 npL) (k _ _ h2 npL)
  | tup a l n hn h1 h2 => exact .tup a l n hn (k _ _ h1 npT) (k _ _ h2 npT)
  | dct a h1 => exact .dct a (k _ _ h1 npD)
theorem Good.same {m : Nat} {H H' : Hp} {v : V} (g : Good m H v) (k : Same H H') : Good m H' v := g.keep fun b o h _ => k b o h
theorem Good.more {m n : Nat} {H : Hp} {v : V} (g : Good m H v) (h : m ≤ n) : Good n H v := by
  cases g with
  | non => exact .non
  | bl b => exact .bl b
  | int i h => exact .int i h
  | sx => exact .sx
  | se => exact .se
  | lst a l n j hn hj h1 h2 => exact .lst a l n j hn (Nat.le_trans hj h) h1 h2
  | tup a l n hn h1 h2 => exact .tup a l n hn h1 h2
  | dct a h1 => exact .dct a h1
/-- "later" put behind one's list -/
theorem good_later {m j : Nat} {H : Hp} {a l : Addr} {n : Int} {v : V} (g : Good m H v) (hj : j ≤ m) (h1 : H a = some (.lst (.int n :: .ref l :: later j))) :
    Good (m + 1) (upd H a (.lst (.int n :: .ref l :: later (j + 1)))) v := by
  have ne : ∀ {b : Addr} {o : HO}, H b = some o → o ≠ .lst (.int n :: .ref l :: later j) → upd H a (.lst (.int n :: .ref l :: later (j + 1))) b = some o := fun {b o} hb hne => by
    rw [upd_ne (fun e => by rw [e, h1] at hb; exact hne (Option.some.inj hb).symm)]
    exact hb
  cases g with
  | non => exact .non
  | bl b => exact .bl b
  | int i h => exact .int i h
  | sx => exact .sx
  | se => exact .se
  | lst a' l' n' j' hn hj' g1 g2 =>
    have g2' := ne g2 (fun z => by cases z)
    by_cases e : a' = a
    · subst e
      rw [h1] at g1
      injection g1 with g1
      injection g1 with g1
      injection g1 with g3 g4
      injection g4 with g5 g6
      injection g3 with g3
      injection g5 with g5
      subst g3 g5
      exact .lst a' l n (j + 1) hn (by omega) upd_same g2'
    · exact .lst a' l' n' j' hn (by omega) (by rw [upd_ne e]; exact g1) g2'
  | tup a' l' n' hn g1 g2 => exact .tup a' l' n' hn (ne g1 (fun z => by cases z)) (ne g2 (fun z => by cases z))
  | dct a' g1 => exact .dct a' (ne g1 (fun z => by cases z))
theorem later_app (n : Int) (l : Addr) (j : Nat) : (V.int n :: V.ref l :: later j) ++ [V.str "later"] = V.int n :: V.ref l :: later (j + 1) := by
  unfold later
  rw [List.replicate_succ']
  rfl
theorem pen_new {H : Hp} {p q : Addr} {o : HO} (h : PenAt H p) (n : H q = none) : PenAt (upd H q o) p := by
  obtain ⟨c, ns, i, dg, ct, fo, hp, hc, hl⟩ := h
  exact ⟨c, ns, i, dg, ct, fo, by rw [upd_ne (ne_of_none hp n)]; exact hp, by rw [upd_ne (ne_of_none hc n)]; exact hc, hl⟩
theorem pen_ne {H : Hp} {p q : Addr} (h : PenAt H p) (n : H q = none) : q ≠ p := by
  obtain ⟨c, ns, i, dg, ct, fo, hp, _⟩ := h
  exact fun e => ne_of_none hp n e.symm
section
variable {P : Program} {w : World} {K : PySem.W.Frag} {mg : Str → Option Value} {base : Heap}
theorem scVal : FnScope ["pen", "way"] ["pen"] (defScope sVal) := ⟨rfl, rfl, rfl, by decide +kernel, rfl, by decide +kernel, by decide +kernel⟩
theorem ok_value {f fD fP : Addr} {fd fdD fdP : FuncData} (F : Fun K "_law_value" "_law_value" sVal f fd) (mD : mg "_law_draw" = some (.ref fD)) (kD : PySem.W.keepIn K (.ref fD) = true) (bD : Binds K fdD ["pen", "many"] [])
    (GD : FnOk P w K mg base CX0 1 fD fdD ["pen", "many"] spDraw) (mP : mg "_law_pick" = some (.ref fP)) (kP : PySem.W.keepIn K (.ref fP) = true) (bP : Binds K fdP ["pen", "some"] []) (GP : FnOk P w K mg base CX0 2 fP fdP ["pen", "some"] (spPick K)) :
    FnOk P w K mg base CX0 3 f fd ["pen"] spValue := by
  refine F.ok scVal (fun vs H Q E h => ?_) (fun cdv A outer s H vs Q E hr h => ?_)
  · obtain ⟨p, rfl, _⟩ := h
    rfl
  · obtain ⟨p, rfl, hP, k⟩ := h
    have hr1 : Room 1 _ := hr.mono (by decide)
    refine ⟨_, pss_cons (ps_set (i := 1) scVal.nd rfl (Or.inl rfl) (pe_call GD hr1 rfl mD kD bD .nil pass0 (pa_cons (pv 0) (pa_cons pe_int pa_nil))))
      (pss_cons (ps_if (pt_cmpR op_eq (pv 1) pe_int (nomark _)) (pss_one (ps_ret (pe_lst (pa_cons (pe_call GD hr1 rfl mD kD bD .nil pass0 (pa_cons (pv 0) (pa_cons pe_int pa_nil))) (pa_cons (pe_lst pa_nil) pa_nil))))) pss_nil)
      (pss_cons (ps_if (pt_cmpR op_eq (pv 1) pe_int (nomark _)) (pss_one (ps_ret (pe_tup (pa_cons pe_str (pa_cons (pe_tup (pa_cons (pe_call GD hr1 rfl mD kD bD .nil pass0 (pa_cons (pv 0) (pa_cons (pe_op op_pow pe_int pe_int) pa_nil))) pa_nil)) pa_nil))))) pss_nil)
      (pss_one (ps_ret (pe_call GP hr rfl mP kP bP .nil pass0 (pa_cons (pv 0) (pa_cons (pe_lst (pa_cons pe_non (pa_cons pe_bl (pa_cons pe_bl (pa_cons pe_int (pa_cons (pe_un un_neg pe_int) (pa_cons pe_str (pa_cons pe_str (pa_cons (pe_op op_pow pe_int pe_int)
        (pa_cons (pe_disp (pps_cons pe_str pe_int pps_nil) (by rfl) (by rfl) (fun z => by cases z) (by decide)) pa_nil)))))))))) pa_nil))))))), ?_⟩
    refine ⟨_, rfl, p, 8, rfl, by decide, by decide, hP, fun r H1 r0 r1 b1 hP1 => ?_⟩
    refine ⟨_, rfl, rfl, _, rfl, ?_⟩
    refine ite2 (fun _ => ?_) (fun _ => ?_)
    · refine ⟨_, rfl, p, 100, rfl, by decide, by decide, hP1, fun n H2 n0 n1 b2 hP2 => ?_⟩
      refine ⟨Nat.zero_le _, fun l hl => ⟨by show 2 ≤ sizeLine; decide, fun a ha => ?_⟩⟩
      have nal : l ≠ a := fun e => by rw [← e, upd_same] at ha; cases ha
      exact k (.ref a) _ (((b1.trans b2).new hl).new ha) (pen_new (pen_new hP2 hl) ha) (.lst a l n 0 (by omega) (Nat.le_refl 0) upd_same (by rw [upd_ne nal, upd_same])) fun q e => by
        injection e with e
        rw [← e]
        exact pen_ne (pen_new hP2 hl) ha
    · refine ⟨_, rfl, rfl, _, rfl, ?_⟩
      refine ite2 (fun _ => ?_) (fun _ => ?_)
      · refine ⟨_, rfl, 10, 6, rfl, rfl, ⟨by decide, by decide, by decide⟩, p, 10 ^ 6, rfl, by decide, by decide, hP1, fun n H2 n0 n1 b2 hP2 => ?_⟩
        refine ⟨by show 1 ≤ sizeLine; decide, fun l hl => ⟨by show 2 ≤ sizeLine; decide, fun a ha => ?_⟩⟩
        have nal : l ≠ a := fun e => by rw [← e, upd_same] at ha; cases ha
        exact k (.ref a) _ (((b1.trans b2).new hl).new ha) (pen_new (pen_new hP2 hl) ha) (.tup a l n (by omega) upd_same (by rw [upd_ne nal, upd_same])) fun q e => by
          injection e with e
          rw [← e]
          exact pen_ne (pen_new hP2 hl) ha
      · refine ⟨_, rfl, 1, rfl, 10, 40, rfl, rfl, ⟨by decide, by decide, by decide⟩, fun d hd => ⟨upd_same, [(.inr "k", .int 1)], rfl, by decide, ?_⟩⟩
        refine ⟨by show 9 ≤ sizeLine; decide, fun l hl => ?_⟩
        have hd1 : H1 d = none := hd
        have hl1 : (upd (upd H1 d (.dK [])) d (.dK [(.inr "k", .int 1)])) l = none := hl
        have ndl : d ≠ l := fun e => by rw [← e, upd_same] at hl1; cases hl1
        rw [upd_upd] at hl1
        have hP2 : PenAt (upd H1 d (.dK [(.inr "k", .int 1)])) p := pen_new hP1 hd1
        have b2 : But p H (upd H1 d (.dK [(.inr "k", .int 1)])) := b1.new hd1
        refine ⟨p, l, [.non, .bl true, .bl false, .int 0, .int (-1), .str "x", .str "", .int (10 ^ 40), .ref d], rfl, pen_ne hP2 hl1, SqL.of upd_same, (by show 0 < 9; decide), (by show 9 < 1073741824; decide), ?_, fun v H3 hv b3 hP3 => ?_⟩
        · show PenAt (upd (upd (upd H1 d (.dK [])) d (.dK [(.inr "k", .int 1)])) l _) p
          rw [upd_upd]
          exact pen_new hP2 hl1
        · have b3' : But p (upd (upd H1 d (.dK [(.inr "k", .int 1)])) l (.lst [.non, .bl true, .bl false, .int 0, .int (-1), .str "x", .str "", .int (10 ^ 40), .ref d])) H3 := fun b o nb h => b3 b o nb (by
            show upd (upd (upd H1 d (.dK [])) d (.dK [(.inr "k", .int 1)])) l _ b = some o
            rw [upd_upd]
            exact h)
          have hdd : H3 d = some (.dK [(.inr "k", .int 1)]) := b3' d _ (pen_ne hP1 hd1) (by rw [upd_ne ndl, upd_same])
          have hb : But p H H3 := (b2.new hl1).trans b3'
          have fl : ∀ v, (∀ a, v ≠ .ref a) → Good 0 H3 v → Q v H3 := fun v nv g => k v H3 hb hP3 g fun a e => absurd e (nv a)
          simp only [List.mem_cons, List.not_mem_nil, or_false] at hv
          rcases hv with rfl | rfl | rfl | rfl | rfl | rfl | rfl | rfl | rfl
          · exact fl _ (fun _ z => by cases z) .non
          · exact fl _ (fun _ z => by cases z) (.bl _)
          · exact fl _ (fun _ z => by cases z) (.bl _)
          · exact fl _ (fun _ z => by cases z) (.int 0 (Or.inl rfl))
          · exact fl _ (fun _ z => by cases z) (.int (-1) (Or.inr (Or.inl rfl)))
          · exact fl _ (fun _ z => by cases z) .sx
          · exact fl _ (fun _ z => by cases z) .se
          · exact fl _ (fun _ z => by cases z) (.int (10 ^ 40) (Or.inr (Or.inr rfl)))
          · exact k _ H3 hb hP3 (.dct d hdd) fun a e => by
              injection e with e
              rw [← e]
              exact pen_ne hP1 hd1
end
end Mine

set_option Elab.async false
set_option linter.all false
set_option maxRecDepth 100000
set_option maxHeartbeats 4000000
namespace Mine
open PySem L2 L2H PySem.Spec PyProof.Rows
theorem upto11 {P : Nat → Prop} (h0 : P 0) (h1 : P 1) (h2 : P 2) (h3 : P 3) (h4 : P 4) (h5 : P 5) (h6 : P 6) (h7 : P 7) (h8 : P 8) (h9 : P 9) (h10 : P 10) : ∀ i, i < 11 → P i := fun i hi => by
  match i, hi with
  | 0, _ => exact h0
  | 1, _ => exact h1
  | 2, _ => exact h2
  | 3, _ => exact h3
  | 4, _ => exact h4
  | 5, _ => exact h5
  | 6, _ => exact h6
  | 7, _ => exact h7
  | 8, _ => exact h8
  | 9, _ => exact h9
  | 10, _ => exact h10
/-! ### what a good value shows -/
theorem short13 {n : Int} (h : n.natAbs < 10 ^ 12) : (PyData.shown (.int n)).length ≤ 13 := PyData.shown_int_le h
theorem log12 {n : Int} (h : n.natAbs < 10 ^ 12) : n.natAbs.log2 < 40 := PySem.Flt.log2_lt_of (by decide) (Nat.lt_of_lt_of_le h (by decide))
theorem fits_by {d : PyData} (h1 : d.leavesShort 13 = true) (h2 : d.weight ≤ 1000) : d.shown.length ≤ sizeLine := by
  have z := PyData.shown_le 13 (by decide) d h1
  rw [sizeLine_eq]
  omega
theorem weight12 {n : Int} (h : n.natAbs < 10 ^ 12) : PyData.weight (.int n) ≤ 40 := by
  simp only [PyData.weight]
  have z := log12 h
  split <;> omega
def lat : PyData := .str "later"
theorem lat_ok : PyData.leavesShort 13 lat = true ∧ PyData.weight lat = 5 ∧ PyData.showable lat = true ∧ PyData.hasDict lat = false ∧ PyData.depth lat = 0 := by decide +kernel
theorem dp_later {K : PySem.W.Frag} {H : Hp} : ∀ j : Nat, DpAll K H (later j) (List.replicate j lat)
  | 0 => .nil
  | j + 1 => by
    show DpAll K H (V.str "later" :: later j) (lat :: List.replicate j lat)
    exact .cons (.str _) (dp_later j)
theorem lats : ∀ j : Nat, PyData.leavesShortAll 13 (List.replicate j lat) = true ∧ PyData.weightAll (List.replicate j lat) = 6 * j ∧ PyData.showableAll (List.replicate j lat) = true ∧ PyData.hasDictAll (List.replicate j lat) = false ∧ PyData.depthAll (List.replicate j lat) = 0
  | 0 => ⟨rfl, rfl, rfl, rfl, rfl⟩
  | j + 1 => by
    obtain ⟨a, b, c, d, e⟩ := lats j
    obtain ⟨a', b', c', d', e'⟩ := lat_ok
    rw [List.replicate_succ]
    refine ⟨?_, ?_, ?_, ?_, ?_⟩
    · simp only [PyData.leavesShortAll, a, a']; rfl
    · simp only [PyData.weightAll, b, b']; omega
    · simp only [PyData.showableAll, c, c']; rfl
    · simp only [PyData.hasDictAll, d, d']; rfl
    · simp only [PyData.depthAll, e, e']; rfl
theorem good_shows {K : PySem.W.Frag} {m : Nat} {H : Hp} {v : V} (g : Good m H v) (hm : m ≤ 20) : ∃ d, Dq K H v d ∧ d.showable = true ∧ d.shown.length ≤ sizeLine ∧ d.depth ≤ 32 := by
  cases g with
  | non => exact ⟨_, .flat .non rfl, rfl, by decide +kernel, by decide⟩
  | bl b => exact ⟨_, .flat (.bl b) rfl, rfl, by cases b <;> decide +kernel, by cases b <;> decide⟩
  | int i h => rcases h with rfl | rfl | rfl <;> exact ⟨_, .flat (.int _) rfl, by decide +kernel, by decide +kernel, by decide +kernel⟩
  | sx => exact ⟨_, .flat (.str _) rfl, rfl, by decide +kernel, by decide⟩
  | se => exact ⟨_, .flat (.str _) rfl, rfl, by decide +kernel, by decide⟩
  | lst a l n j hn hj h1 h2 =>
    obtain ⟨q1, q2, q3, q4, q5⟩ := lats j
    have s13 := short13 hn
    have w40 := weight12 hn
    have l40 := log12 hn
    refine ⟨.list (.int n :: .list [] :: List.replicate j lat), .flat (.lst (SqL.of h1) (.cons (.int n) (.cons (.lst (SqL.of h2) .nil) (dp_later j)))) ?_, ?_, fits_by ?_ ?_, ?_⟩
    · simp only [PyData.hasDict, PyData.hasDictAll, q4]; rfl
    · simp only [PyData.showable, PyData.showableAll, q3, Bool.and_true, Bool.true_and, decide_eq_true_eq]; omega
    · simp only [PyData.leavesShort, PyData.leavesShortAll, q1, Bool.and_true, decide_eq_true_eq]; exact s13
    · have e : PyData.weight (.list (.int n :: .list [] :: List.replicate j lat)) = PyData.weight (.int n) + 1 + (0 + 1 + PyData.weightAll (List.replicate j lat)) := by
        simp only [PyData.weight, PyData.weightAll]
      rw [e, q2]
      omega
    · simp only [PyData.depth, PyData.depthAll, q5]; decide
  | tup a l n hn h1 h2 =>
    have s13 := short13 hn
    have w40 := weight12 hn
    have l40 := log12 hn
    refine ⟨.tuple [.str "a", .tuple [.int n]], .flat (.tup (SqT.of h1) (.cons (.str _) (.cons (.tup (SqT.of h2) (.cons (.int n) .nil)) .nil))) rfl, ?_, fits_by ?_ ?_, ?_⟩
    · simp only [PyData.showable, PyData.showableAll, Bool.and_true, Bool.true_and, decide_eq_true_eq]; omega
    · have e : PyData.leavesShort 13 (.str "a") = true := by decide +kernel
      simp only [PyData.leavesShort, PyData.leavesShortAll, Bool.and_true, decide_eq_true_eq] at e ⊢
      rw [e]
      exact decide_eq_true s13
    · have e : PyData.weight (.str "a") = 1 := by decide +kernel
      have e2 : PyData.weight (.tuple [.str "a", .tuple [.int n]]) = PyData.weight (.str "a") + 1 + (PyData.weight (.int n) + 1 + 0 + 1 + 0) := by
        simp only [PyData.weight, PyData.weightAll]
      rw [e2, e]
      omega
    · simp only [PyData.depth, PyData.depthAll]; decide
  | dct a h1 => exact ⟨_, .one h1, by decide +kernel, by decide +kernel, by decide +kernel⟩
/-- the value behind the turn's first statement: a list gets "later", all else stays -/
theorem good_kind {K : PySem.W.Frag} {m : Nat} {H : Hp} {v : V} (g : Good m H v) : (∃ t, TyX K H v t ∧ PySem.W.kitOne K t (.type "list") = some false) ∨ ∃ (a l : Addr) (n : Int) (j : Nat), v = .ref a ∧ j ≤ m ∧ H a = some (.lst (.int n :: .ref l :: later j)) ∧ H l = some (.lst []) := by
  cases g with
  | non => exact Or.inl ⟨_, .base .non, kit_ty (by decide +kernel)⟩
  | bl b => exact Or.inl ⟨_, .base (.bl b), kit_ty (by decide +kernel)⟩
  | int i h => exact Or.inl ⟨_, .base (.int i), kit_ty (by decide +kernel)⟩
  | sx => exact Or.inl ⟨_, .base (.str _), kit_ty (by decide +kernel)⟩
  | se => exact Or.inl ⟨_, .base (.str _), kit_ty (by decide +kernel)⟩
  | lst a l n j hn hj h1 h2 => exact Or.inr ⟨a, l, n, j, rfl, hj, h1, h2⟩
  | tup a l n hn h1 h2 => exact Or.inl ⟨_, .base (.tup h1), kit_ty (by decide +kernel)⟩
  | dct a h1 => exact Or.inl ⟨_, .base (.dK h1), kit_ty (by decide +kernel)⟩
/-! ### the law's tables -/
def namesV : List V := [.str "BadText", .str "BadName", .str "BadNumber", .str "BadRow", .str "NoName", .str "TakenName"] ++ [.str "Unlike", .str "TooMany", .str "NotKept", .str "NothingToUndo", .str "NothingToRedo"]
def sizesV : List V := [.int 2, .int 1, .int 2, .int 2, .int 1, .int 1, .int 1, .int 3, .int 2, .int 0, .int 0]
theorem names_at : ∀ i, i < 11 → namesV[i]? = some (.str (errN i)) := by
  apply upto11 <;> rfl
theorem sizes_at : ∀ i, i < 11 → sizesV[i]? = some (.int ((errF i).length : Int)) := by
  apply upto11 <;> rfl
theorem cut_at (a b c : V) : ∀ i, i < 11 → cutV [a, b, c] none (some ((errF i).length : Int)) = takeF i a b c := by
  apply upto11 <;> rfl
theorem take_in {i : Nat} {a b c x : V} (h : x ∈ takeF i a b c) : x = a ∨ x = b ∨ x = c := by
  have z := List.mem_of_mem_take h
  simpa using z
theorem take_len (a b c : V) (i : Nat) : (takeF i a b c).length ≤ 3 := by
  unfold takeF
  rw [List.length_take]
  exact Nat.min_le_right _ _
theorem name_shaped : ∀ i, i < 11 → SeqAt.shaped (.list [.str (errN i)]) = true := by
  apply upto11 <;> decide +kernel
theorem eqv_one (x : Str) : PyData.eqv (.list [.str x]) (.list [.str x]) = true := by
  simp [PyData.eqv, PyData.eqvAll]
end Mine

set_option Elab.async false
set_option linter.all false
set_option maxRecDepth 100000
set_option maxHeartbeats 4000000
namespace Mine
open PySem L2 L2H PySem.Spec PyProof.Rows
def spLaw (K : PySem.W.Frag) : Sp := fun vs H Q _ => ∃ (a : Addr) (ns : List Int), vs = [.ref a] ∧ SqL K H a (ns.map V.int) ∧ ns.length ≤ 63 ∧ ∀ H', Q (.bl true) H'
/-- what stands between two turns -/
structure Tab (H : Hp) (p nm sz : Addr) : Prop where
  pen : PenAt H p
  nms : H nm = some (.lst namesV)
  szs : H sz = some (.lst sizesV)
theorem Tab.but {H H' : Hp} {p nm sz : Addr} (t : Tab H p nm sz) (b : But p H H') (hp : PenAt H' p) : Tab H' p nm sz := ⟨hp, b.np t.pen _ _ t.nms npL, b.np t.pen _ _ t.szs npL⟩
theorem Tab.same {H H' : Hp} {p nm sz : Addr} (t : Tab H p nm sz) (b : Same H H') : Tab H' p nm sz := by
  obtain ⟨⟨c, ns, i, dg, ct, fo, hp, hc, hl⟩, h1, h2⟩ := t
  exact ⟨⟨c, ns, i, dg, ct, fo, b _ _ hp, b _ _ hc, hl⟩, b _ _ h1, b _ _ h2⟩
/-- the lists that are walked together -/
structure Two (H : Hp) (l2 dl : Addr) (xs : List V) : Prop where
  a : H l2 = some (.lst xs)
  b : H dl = some (.lst xs)
/-- a one that is written to is neither of these -/
theorem lst_ne {H : Hp} {a b : Addr} {xs ys : List V} (h1 : H a = some (.lst xs)) (h2 : H b = some (.lst ys)) (h : xs ≠ ys) : b ≠ a := fun e => by
  rw [e, h1] at h2
  injection h2 with h2
  injection h2 with h2
  exact h h2
theorem ref_in {n : Int} {l : Addr} {j : Nat} : V.int n :: V.ref l :: later j ≠ namesV := fun z => by
  injection z with z _
  cases z
theorem ref_in2 {n : Int} {l : Addr} {j : Nat} : V.int n :: V.ref l :: later j ≠ sizesV := fun z => by
  injection z with _ z
  injection z with z _
  cases z
theorem ref_in3 {n : Int} {l : Addr} {j : Nat} {ns : List Int} : V.int n :: V.ref l :: later j ≠ ns.map V.int := fun z => by
  match ns, z with
  | [], z => cases z
  | [_], z => cases z
  | a :: b :: r, z =>
    injection z with _ z
    injection z with z _
    cases z
section
variable {P : Program} {w : World} {K : PySem.W.Frag} {mg : Str → Option Value} {base : Heap}
theorem scLaw : FnScope ["script", "pen", "names", "sizes", "kind", "one", "two", "three", "told", "due", "field", "value"] ["script"] (defScope sLaw) := ⟨rfl, rfl, rfl, by decide +kernel, rfl, by decide +kernel, by decide +kernel⟩
theorem ok_law {f fP fV fO : Addr} {fd fdP fdV fdO : FuncData} (F : Fun K "law" "law" sLaw f fd)
    (mI : mg "isinstance" = none) (mL : mg "list" = none) (mN : mg "len" = none) (mR : mg "range" = none) (mZ : mg "zip" = none) (mRp : mg "repr" = none)
    (mP : mg "_law_pen" = some (.ref fP)) (kP : PySem.W.keepIn K (.ref fP) = true) (bP : Binds K fdP ["script"] []) (GP : FnOk P w K mg base CX0 1 fP fdP ["script"] (spPen K))
    (mV : mg "_law_value" = some (.ref fV)) (kV : PySem.W.keepIn K (.ref fV) = true) (bV : Binds K fdV ["pen"] []) (GV : FnOk P w K mg base CX0 3 fV fdV ["pen"] spValue)
    (mO : mg "_law_one" = some (.ref fO)) (kO : PySem.W.keepIn K (.ref fO) = true) (bO : Binds K fdO ["kind", "one", "two", "three"] []) (GO : FnOk P w K mg base CX0 5 fO fdO ["kind", "one", "two", "three"] spOne) :
    FnG P w K mg base CX0 6 f fd ["script"] (spLaw K) := by
  refine FnG.body F scLaw (fun vs H Q E h => ?_) (fun cdv A outer s H vs Q E hr hgd h => ?_)
  · obtain ⟨a, ns, rfl, _⟩ := h
    rfl
  · obtain ⟨a, ns, rfl, hS, hlen, k⟩ := h
    have hu := hu_of hr
    have hu64 := hr.units
    have hr1 : Room 1 _ := hr.mono (by decide)
    have hr3 : Room 3 _ := hr.mono (by decide)
    refine ⟨_, PSs.nox (pss_cons (ps_set (i := 1) scLaw.nd rfl (Or.inl rfl) (pe_call GP hr1 rfl mP kP bP .nil pass0 (pa_cons (pv 0) pa_nil)))
      (pss_cons (ps_set (i := 2) scLaw.nd rfl (Or.inl rfl) (pe_lst (pa_cons pe_str (pa_cons pe_str (pa_cons pe_str (pa_cons pe_str (pa_cons pe_str (pa_cons pe_str pa_nil))))))))
      (pss_cons (ps_set (i := 2) scLaw.nd rfl (Or.inl rfl) (pe_op op_cat (pv 2) (pe_lst (pa_cons pe_str (pa_cons pe_str (pa_cons pe_str (pa_cons pe_str (pa_cons pe_str pa_nil))))))))
      (pss_cons (ps_set (i := 3) scLaw.nd rfl (Or.inl rfl) (pe_lst (pa_cons pe_int (pa_cons pe_int (pa_cons pe_int (pa_cons pe_int (pa_cons pe_int (pa_cons pe_int (pa_cons pe_int (pa_cons pe_int (pa_cons pe_int (pa_cons pe_int (pa_cons pe_int pa_nil)))))))))))))
      (pss_cons (ps_for PassesOwn.never rfl (pi_range1 rfl mR (pa_cons pe_int pa_nil)) (pg_name (i := 4) scLaw.nd rfl (Or.inl rfl)) (pss_cons (ps_par3 (i := 5) (j := 6) (l := 7) rfl scLaw.nd rfl rfl rfl (by decide) (by decide) (by decide) rfl rfl rfl (pa_cons (pe_call GV hr3 rfl mV kV bV .nil pass0 (pa_cons (pv 1) pa_nil)) (pa_cons (pe_call GV hr3 rfl mV kV bV .nil pass0 (pa_cons (pv 1) pa_nil)) (pa_cons (pe_call GV hr3 rfl mV kV bV .nil pass0 (pa_cons (pv 1) pa_nil)) pa_nil))) (by rfl))
      (pss_cons (ps_set (i := 8) scLaw.nd rfl (Or.inl rfl) (pe_call GO hr rfl mO kO bO .nil pass0 (pa_cons (pv 4) (pa_cons (pv 5) (pa_cons (pv 6) (pa_cons (pv 7) pa_nil))))))
      (pss_cons (ps_if (PW.pt (pw_or (pt_cmpR op_isN (pv 8) pe_non (nomark _)) (pw_or1 (pt_cmpR (op_neD hu64) (pe_ix ix_seq (pv 8) pe_int fun _ _ => rfl) (pe_lst (pa_cons (pe_ix ix_seq (pv 2) (pv 4) fun _ _ => rfl) pa_nil)) (nomark _))))) (pss_one (ps_ret pe_bl)) pss_nil)
      (pss_cons (ps_set (i := 9) scLaw.nd rfl (Or.inl rfl) (pe_slice sl_list (pe_lst (pa_cons (pv 5) (pa_cons (pv 6) (pa_cons (pv 7) pa_nil)))) po_none (po_some (pe_ix ix_seq (pv 3) (pv 4) fun _ _ => rfl))))
      (pss_cons (ps_if (pt_cmpR op_ne (pe_callB call_len_seq rfl mN PySem.boot_len (pa_cons (pe_ix ix_seq (pv 8) pe_int fun _ _ => rfl) pa_nil)) (pe_callB call_len_seq rfl mN PySem.boot_len (pa_cons (pv 9) pa_nil)) (nomark _)) (pss_one (ps_ret pe_bl)) pss_nil)
      (pss_one (ps_for PassesOwn.never rfl (pi_zip (by rfl) mZ (pa_cons (pe_ix ix_seq (pv 8) pe_int fun _ _ => rfl) (pa_cons (pv 9) pa_nil))) (pg_tup rfl (pgs_cons (pg_name (i := 10) scLaw.nd rfl (Or.inl rfl)) (pgs_cons (pg_name (i := 11) scLaw.nd rfl (Or.inl rfl)) pgs_nil))) (Evl.pss_cut (ps_if (pt_val (pe_callB call_isi rfl mI PyProof.Rows.boot_isinstance (pa_cons (pv 11) (pa_cons (pe_bltn (v := .ty "list") rfl mL PyProof.Rows.boot_list rfl) pa_nil)))) (pss_one (ps_expr (pe_bm PySem.F.plainAttrs_list PySem.F.slot_list_append PySem.F.type_list_append mt_append (pv 11) (pa_cons pe_str pa_nil)))) pss_nil) (pss_one (ps_if (pt_cmpR op_ne (pe_callB (call_reprD hgd hu64) rfl mRp PyProof.Rows.boot_repr (pa_cons (pv 10) pa_nil)) (pe_callB (call_reprD hgd hu64) rfl mRp PyProof.Rows.boot_repr (pa_cons (pv 11) pa_nil)) (nomark _)) (pss_one (ps_ret pe_bl)) pss_nil)))))))))))
      (pss_one (ps_ret pe_bl))))))), ?_⟩
    -- the tables
    refine ⟨_, rfl, a, ns, rfl, hS, by omega, fun p H1 hp s1 hP => ?_⟩
    refine ⟨by show 6 ≤ sizeLine; decide, fun n1 hn1 => ?_⟩
    refine ⟨_, rfl, by show 5 ≤ sizeLine; decide, fun n2 hn2 => ?_⟩
    have n12 : n1 ≠ n2 := fun e => by rw [← e, upd_same] at hn2; cases hn2
    refine ⟨n1, n2, _, _, rfl, rfl, by rw [upd_ne n12, upd_same], upd_same, by show 11 ≤ sizeLine; decide, fun nm hnm => ?_⟩
    refine ⟨by show 11 ≤ sizeLine; decide, fun sz hsz => ?_⟩
    have hn20 : H1 n2 = none := by
      rw [upd_ne (Ne.symm n12)] at hn2
      exact hn2
    have t1 := pen_new (o := .lst [.str "BadText", .str "BadName", .str "BadNumber", .str "BadRow", .str "NoName", .str "TakenName"]) hP hn1
    have t2 := pen_new (o := .lst [.str "Unlike", .str "TooMany", .str "NotKept", .str "NothingToUndo", .str "NothingToRedo"]) t1 hn2
    have t3 := pen_new (o := .lst namesV) t2 hnm
    have t4 := pen_new (o := .lst sizesV) t3 hsz
    have nsm : nm ≠ sz := fun e => by rw [← e, upd_same] at hsz; cases hsz
    -- the turns
    refine ⟨11, rfl, by decide, by decide, for_range (lo := 0) (n := 11) (fun i σ H' => ∃ x4 x5 x6 x7 x8 x9 x10 x11 : Option V, σ = [some (.ref a), some (.ref p), some (.ref nm), some (.ref sz), x4, x5, x6, x7, x8, x9, x10, x11] ∧ Tab H' p nm sz)
      ⟨none, none, none, none, none, none, none, none, rfl, t4, by rw [upd_ne nsm, upd_same]; rfl, upd_same⟩ ?_ ?_⟩
    · rintro i σ H2 hi ⟨x4, x5, x6, x7, x8, x9, x10, x11, rfl, T⟩
      rw [Int.zero_add]
      -- three values
      refine ⟨_, rfl, p, rfl, T.pen, fun v1 H3 b3 hP3 g1 _ => ?_⟩
      have T3 := T.but b3 hP3
      refine ⟨_, rfl, p, rfl, hP3, fun v2 H4 b4 hP4 g2 _ => ?_⟩
      have T4 := T3.but b4 hP4
      have g1 := g1.keep (b4.np hP3)
      refine ⟨_, rfl, p, rfl, hP4, fun v3 H5 b5 hP5 g3 _ => ?_⟩
      have T5 := T4.but b5 hP5
      have g1 := g1.keep (b5.np hP4)
      have g2 := g2.keep (b5.np hP4)
      refine ⟨v1, v2, v3, rfl, ?_⟩
      -- told
      refine ⟨_, rfl, _, rfl, _, rfl, _, rfl, i, v1, v2, v3, rfl, hi, fun t l1 l2 H6 s6 ht h1 h2 => ?_⟩
      have T6 := T5.same s6
      have g1 := g1.same s6
      have g2 := g2.same s6
      have g3 := g3.same s6
      refine ⟨_, rfl, rfl, _, rfl, ?_⟩
      refine ite2 (fun z => by have y := of_decide_eq_true z; cases y) (fun _ => ?_)
      refine ⟨_, rfl, Or.inr (Or.inl ⟨t, _, 0, .ref l1, rfl, rfl, SqT.of ht, rfl, ?_⟩)⟩
      refine ⟨_, rfl, _, rfl, Or.inl ⟨nm, namesV, _, _, rfl, rfl, SqL.of T6.nms, atI_nat (names_at i hi), by show 1 ≤ sizeLine; decide, fun q hq => ?_⟩⟩
      have s7 := same_new (Same.refl H6) (o := .lst [V.str (errN i)]) hq
      refine ⟨.list [.str (errN i)], .list [.str (errN i)], Dp.lst (SqL.of (s7 _ _ h1)) (.cons (.str _) .nil), Dp.lst (SqL.of upd_same) (.cons (.str _) .nil), name_shaped i hi, name_shaped i hi, _, rfl, ?_⟩
      rw [eqv_one]
      refine iteF ?_
      have T7 := T6.same s7
      have g1 := g1.same s7
      have g2 := g2.same s7
      have g3 := g3.same s7
      have ht := s7 _ _ ht
      have h2 := s7 _ _ h2
      -- due
      refine ⟨_, rfl, _, rfl, _, rfl, by show 3 ≤ sizeLine; decide, fun q3 hq3 => ?_⟩
      have s8 := same_new (Same.refl _) (o := .lst [v1, v2, v3]) hq3
      have T8 := T7.same s8
      refine ⟨_, rfl, _, rfl, Or.inl ⟨sz, sizesV, _, _, rfl, rfl, SqL.of T8.szs, atI_nat (sizes_at i hi), _, rfl, q3, _, rfl, SqL.of upd_same, fun dl hdl => ?_⟩⟩
      rw [cut_at v1 v2 v3 i hi]
      have s9 := same_new s8 (o := .lst (takeF i v1 v2 v3)) hdl
      have T9 := T7.same s9
      have g1 := g1.same s9
      have g2 := g2.same s9
      have g3 := g3.same s9
      have ht := s9 _ _ ht
      have h2 := s9 _ _ h2
      -- as many
      refine ⟨_, rfl, Or.inr (Or.inl ⟨t, _, 1, .ref l2, rfl, rfl, SqT.of ht, rfl, l2, _, rfl, Or.inl (SqL.of h2), _, rfl, dl, _, rfl, Or.inl (SqL.of upd_same), rfl, _, rfl, ?_⟩)⟩
      refine iteNS rfl ?_
      -- field by field
      refine ⟨_, rfl, Or.inr (Or.inl ⟨t, _, 1, .ref l2, rfl, rfl, SqT.of ht, rfl, ?_⟩)⟩
      refine ⟨_, rfl, l2, dl, takeF i v1 v2 v3, takeF i v1 v2 v3, rfl, SqL.of h2, SqL.of upd_same, ?_⟩
      have tl := take_len v1 v2 v3 i
      refine RZ.for_zipL (K := K) (a := l2) (b := dl) (xs := takeF i v1 v2 v3) (ys := takeF i v1 v2 v3) rfl (fun j σ' H' => ∃ y10 y11 : Option V, σ' = [some (.ref a), some (.ref p), some (.ref nm), some (.ref sz), some (.int (i : Int)), some v1, some v2, some v3, some (.ref t), some (.ref dl), y10, y11] ∧
        Tab H' p nm sz ∧ Two H' l2 dl (takeF i v1 v2 v3) ∧ Good j H' v1 ∧ Good j H' v2 ∧ Good j H' v3) ⟨x10, x11, rfl, T9, ⟨h2, upd_same⟩, g1, g2, g3⟩ (fun j σ' H' ⟨_, _, _, _, W, _⟩ => ⟨SqL.of W.a, SqL.of W.b⟩) ?_ ?_
      · rintro j x y TT σ' H8 hx hy ⟨y10, y11, rfl, T10, W, g1, g2, g3⟩ hTT
        have exy : x = y := Option.some.inj (hx.symm.trans hy)
        subst exy
        have hj : j < 3 := by
          have z := (List.getElem?_eq_some_iff.mp hx).1
          omega
        have gx : Good j H8 x := by
          rcases take_in (List.mem_of_getElem? hx) with e | e | e
          · rw [e]; exact g1
          · rw [e]; exact g2
          · rw [e]; exact g3
        have s10 := same_new (Same.refl H8) (o := .tup [x, x]) hTT
        refine ⟨TT, [x, x], rfl, SqT.of upd_same, rfl, x, [x], rfl, x, [], rfl, rfl, ?_⟩
        refine ⟨fun σ2 H9 => σ2 = [some (.ref a), some (.ref p), some (.ref nm), some (.ref sz), some (.int (i : Int)), some v1, some v2, some v3, some (.ref t), some (.ref dl), some x, some x] ∧
          Tab H9 p nm sz ∧ Two H9 l2 dl (takeF i v1 v2 v3) ∧ Good (j + 1) H9 v1 ∧ Good (j + 1) H9 v2 ∧ Good (j + 1) H9 v3 ∧ Good (j + 1) H9 x, ?_, ?_⟩
        · have T10 := T10.same s10
          have W : Two _ l2 dl (takeF i v1 v2 v3) := ⟨s10 _ _ W.a, s10 _ _ W.b⟩
          have g1 := g1.same s10
          have g2 := g2.same s10
          have g3 := g3.same s10
          have gx := gx.same s10
          rcases good_kind (K := K) gx with ⟨ty, h3, h4⟩ | ⟨la, ll, n, jj, rfl, hjj, h3, h5⟩
          · refine ⟨_, rfl, _, .ty "list", ty, .type "list", false, rfl, ClsV.ty "list", h3, h4, _, rfl, ?_⟩
            refine iteF ?_
            exact ⟨rfl, T10, W, g1.more (by omega), g2.more (by omega), g3.more (by omega), gx.more (by omega)⟩
          · refine ⟨_, rfl, _, .ty "list", .type "list", .type "list", true, rfl, ClsV.ty "list", .base (.lst h3), rfl, _, rfl, ?_⟩
            refine iteT ?_
            have e2 : (V.int n :: V.ref ll :: later jj).length < sizeLine := by
              have z : (later jj).length = jj := List.length_replicate
              show (later jj).length + 1 + 1 < sizeLine
              rw [z, sizeLine_eq]
              omega
            refine ⟨_, rfl, .inl ⟨rfl, _, SqL.of h3⟩, la, _, _, rfl, rfl, h3, e2, rfl, ?_⟩
            rw [later_app]
            have hxt : ∀ {b : Addr}, (upd H8 TT (.tup [V.ref la, V.ref la])) b = some (.lst (takeF i v1 v2 v3)) → b ≠ la := fun {b} hb e => by
              -- the list itself holds no such pair: its items are one, two, three
              rw [e, h3] at hb
              injection hb with hb
              injection hb with hb
              have z3 : V.ref la ∈ takeF i v1 v2 v3 := List.mem_of_getElem? hx
              rw [← hb] at z3
              rcases List.mem_cons.mp z3 with z | z3
              · cases z
              rcases List.mem_cons.mp z3 with z | z3
              · injection z with z
                rw [← z, h3] at h5
                injection h5 with h5
                injection h5 with h5
                cases h5
              · have z := List.eq_of_mem_replicate z3
                cases z
            have np : ∀ {b : Addr} {o : HO}, (upd H8 TT (.tup [V.ref la, V.ref la])) b = some o → (∀ xs, o ≠ .lst xs) → upd (upd H8 TT (.tup [V.ref la, V.ref la])) la (.lst (.int n :: .ref ll :: later (jj + 1))) b = some o := fun {b o} hb hne => by
              rw [upd_ne (fun e => by rw [e, h3] at hb; exact hne _ (Option.some.inj hb).symm)]
              exact hb
            obtain ⟨⟨c, ns2, i2, dg, ct, fo, hp2, hc2, hl2⟩, hnm2, hsz2⟩ := T10
            refine ⟨⟨⟨c, ns2, i2, dg, ct, fo, np hp2 (fun _ z => by cases z), ?_, hl2⟩, ?_, ?_⟩, ⟨?_, ?_⟩, good_later g1 hjj h3, good_later g2 hjj h3, good_later g3 hjj h3, good_later gx hjj h3⟩
            · rw [upd_ne (lst_ne h3 hc2 ref_in3)]; exact hc2
            · rw [upd_ne (lst_ne h3 hnm2 ref_in)]; exact hnm2
            · rw [upd_ne (lst_ne h3 hsz2 ref_in2)]; exact hsz2
            · rw [upd_ne (hxt W.a)]; exact W.a
            · rw [upd_ne (hxt W.b)]; exact W.b
        · rintro σ2 H9 ⟨rfl, T11, W, g1, g2, g3, gx⟩
          obtain ⟨d, hd, hs, hz, hdp⟩ := good_shows (K := K) gx (by omega)
          refine ⟨_, rfl, x, d, rfl, hd, hs, hz, hdp, _, rfl, x, d, rfl, hd, hs, hz, hdp, rfl, _, rfl, ?_⟩
          refine iteNS rfl ?_
          exact ⟨_, _, rfl, T11, W, g1, g2, g3⟩
      · rintro σ' H' ⟨y10, y11, rfl, T10, W, _⟩
        exact ⟨_, _, _, _, _, _, _, _, rfl, T10⟩
    · rintro σ H' ⟨x4, x5, x6, x7, x8, x9, x10, x11, rfl, T⟩
      exact k H'
end
end Mine

set_option Elab.async false
set_option linter.all false
set_option maxRecDepth 100000
set_option maxHeartbeats 4000000
namespace Mine
open PySem L2 PySem.Spec PyProof.Rows
/-! ### the law's own call: at its caller no repr is running -/
section
variable {P : Program} {w : World} {K : PySem.W.Frag} {mg mb : Str → Option Value} {k : Nat} {fa a : Addr} {fd : FuncData} {x : Str} {sp : Sp} {s1 : Shared} {vs : List Value} {ns : List Int}
/-- the abstract heap at the law's entry: the script alone, unless it stands in the written part -/
theorem entry_heap (KX : K.In s1.heap) (ha : s1.heap.get? a = some { cls := .type "list", data := .seq vs.toArray }) (hi : IntsAre vs ns) (hl : ns.length ≤ sizeLine) :
    ∃ H : Hp, Only H ∧ SqL K H a (ns.map V.int) ∧ HOk P w H s1.heap ∧ (∀ b, H b ≠ none → b = a) ∧ (H a ≠ none → K.lookup a = none) := by
  have rv := vals_ints hi
  cases hk : K.lookup a with
  | some o =>
    have e := KX a o hk
    rw [ha] at e
    cases e
    refine ⟨fun _ => none, fun _ => Or.inl rfl, Or.inr ⟨_, vs.toArray, _, hk, rfl, rfl, rfl, ?_, by simpa using rv⟩, fun b u z => ?_, fun b z => absurd rfl z, fun z => absurd rfl z⟩
    · rw [List.size_toArray, hi.length]
      exact hl
    · exact nomatch (show (none : Option HO) = some u from z)
  | none =>
    let so : Obj := { cls := .type "list", data := .seq vs.toArray }
    refine ⟨fun b => if b = a then some (.frz so (.lst (ns.map V.int))) else none, fun b => ?_, Or.inl (Or.inr ⟨so, if_pos rfl⟩), fun b u z => ?_, fun b z => ?_, fun _ => rfl⟩
    · by_cases e : b = a
      · exact Or.inr ⟨_, _, if_pos e⟩
      · exact Or.inl (if_neg e)
    · by_cases e : b = a
      · cases (if_pos e).symm.trans z
        rw [e]
        exact ⟨ha, by rw [List.length_map]; exact hl, vs, _, rv, ha⟩
      · cases (if_neg e).symm.trans z
    · by_cases e : b = a
      · exact e
      · exact absurd (if_neg e) z
theorem law_callG (KX : K.In s1.heap) (hns : s1.heap.Ns mainGlobals mg) (hb : s1.heap.Ns builtinsNs mb) (hbb : ∀ x : Str, x ≠ "__name__" → mb x = bootBuiltins x) (hlim : s1.heap.NoLimit) (hg : s1.gens = #[])
    (ha : s1.heap.get? a = some { cls := .type "list", data := .seq vs.toArray }) (hi : IntsAre vs ns) (hl : ns.length ≤ sizeLine) (hr : Room k callerA)
    (F : ∀ base : Heap, K.In base → base.Ns mainGlobals mg → FnG P w K mg base CX0 k fa fd [x] sp) (hbind : ∀ (s : Shared) (u : Value), BindsTo s fd ⟨[u], []⟩ [(x, u)])
    (hsp : ∀ H : Hp, Only H → SqL K H a (ns.map V.int) → sp [.ref a] H (fun v _ => v = .bl true) E0) :
    codeAny (model P w) callerA (.call (.ref fa) ⟨[.ref a], []⟩) (fun r s' => r = .ok (.ret (.bool true)) ∧ OldK s1.heap s'.heap ∧ s'.os = s1.os ∧ AllBare s'.gens) s1 := by
  obtain ⟨H, hO, hS, hok, hA, hK⟩ := entry_heap (P := P) (w := w) KX ha hi hl
  -- what is not tracked stands in the ground
  have gnd : ∀ {b : Addr} {o : Obj}, s1.heap.get? b = some o → (b = a → H a = none) → (hidT s1.heap H).get? b = some o := fun {b o} e n => hidT_get e (by
    cases q : H b with
    | none => rfl
    | some u =>
      have eb : b = a := hA b (by rw [q]; exact fun z => nomatch z)
      rw [eb] at q
      rw [n eb] at q
      cases q)
  have ns_ : ∀ {b : Addr} {m : Str → Option Value}, s1.heap.Ns b m → (hidT s1.heap H).Ns b m := fun {b m} hn => by
    obtain ⟨o, es, ep, e, d, r⟩ := hn
    refine ⟨o, es, ep, gnd e (fun eb => ?_), d, r⟩
    rw [eb, ha] at e
    cases e
    cases d
  have hKb : K.In (hidT s1.heap H) := fun b o e => gnd (KX b o e) fun eb => by
    rw [eb] at e
    cases q : H a with
    | none => rfl
    | some u =>
      rw [hK (by rw [q]; exact fun z => nomatch z)] at e
      cases e
  have hM : Mod K mg (hidT s1.heap H) := ⟨hKb, ns_ hns, ⟨mb, ns_ hb, hbb⟩, by
    obtain ⟨mc, h1, h2⟩ := hlim
    exact ⟨mc, ns_ h1, h2⟩⟩
  have e0 : Env0 P w K mg (hidT s1.heap H) callerA [] s1 H := ⟨rfl, hM, fun b o e => of_hidT e, Nat.le_of_eq (hidT_size _ _), trivial, (fun b z => absurd (show b ∈ ([] : List Addr) from z) List.not_mem_nil), hok, AllBare.of_eq hg⟩
  refine codeAny_mono ((F _ hKb (ns_ hns)).run callerA [] s1 H ⟨[.ref a], []⟩ [.ref a] [.ref a] _ E0 hr rfl e0 (hbind s1 (.ref a)) (.cons rfl .nil) (hsp H hO hS)) fun r s' h => ?_
  cases r with
  | error e => exact h.elim
  | ok fl =>
    cases fl with
    | next => exact h.elim
    | brk => exact h.elim
    | cont => exact h.elim
    | ret u =>
      obtain ⟨v, H', os, bare, un, hok', r', q⟩ := h
      cases (show v = .bl true from q)
      cases (show u = Value.bool true from r')
      refine ⟨rfl, OldK.of_keep fun b o e => ?_, os, bare⟩
      rcases hO b with z | ⟨ob, xs, z⟩
      · exact un.keep b o e z (fun y => absurd (show b ∈ ([] : List Addr) from y) List.not_mem_nil) List.not_mem_nil
      · obtain ⟨e1, _⟩ := hok b _ z
        obtain ⟨e2, _⟩ := hok' b _ (un.frzs b ob _ z)
        exact e2.trans (e1.symm.trans e)
/-- the end of such a law over a head that a Hook has read -/
theorem walk_G {l : PySem.W.OpenLaw} {n : Nat} {q : Program} {loose : List Str} {XP : (Str → Option Value) → Heap → Prop} {YP : World → Heap → Prop} {d : DefRec} (hn : l.most = some n) (hn2 : n ≤ sizeLine) (hdf : d.params.defaults = []) (hr : Room k callerA)
    (F : ∀ (w : World) (mg : Str → Option Value) (fa : Addr) (h : Heap), YP w h → h.Ns mainGlobals mg → mg d.name = some (.ref fa) → ∃ (K : PySem.W.Frag) (fd : FuncData) (sp : Sp), K.In h ∧ (∀ (s : Shared) (u : Value), BindsTo s fd ⟨[u], []⟩ [(x, u)]) ∧
      (∀ (H : Hp) (a : Addr) (ns : List Int), ns.length ≤ n → Only H → SqL K H a (ns.map V.int) → sp [.ref a] H (fun v _ => v = .bl true) E0) ∧ ∀ base : Heap, K.In base → base.Ns mainGlobals mg → FnG l.prog w K mg base CX0 k fa fd [x] sp) :
    PySem.W.WalkO q loose XP YP l.row.toRowW d [] (fun f vs => PySem.call f vs) := by
  refine Att.attach_callB hn hdf fun w s₀ s1 mg mb fa o pm cd doc a vs ns G Y _ _ _ hmg hobj hints hlen _ hg => ?_
  obtain ⟨K, fd, sp, KX, hb, hsp, hF⟩ := F w mg fa _ Y G.T.g hmg
  exact law_callG KX G.T.g G.T.b G.T.builtins G.T.nolimit hg hobj hints (Nat.le_trans hlen hn2) hr hF hb fun H hO hS => hsp H a ns hlen hO hS
end
end Mine

set_option Elab.async false
set_option linter.all false
set_option maxRecDepth 100000
set_option maxHeartbeats 0
namespace Mine
open PySem L2 PySem.Spec PyProof.Rows He
/-! ### what is asked of the written part, as one Bool -/
def oexB (K : PySem.W.Frag) (C : Addr) : Bool := match K.lookup C with
  | some ⟨.type t, _, .cls cd, sl⟩ => t == "type" && (match cd.mro, sl.toList with
    | .ref D :: bm, [_, _, _, _, some (.builtin n), _] => D == C && (n == "ValueError.__new__" && (!cd.hasDel && (cd.hasDict && PySem.HandSPX.refsVE bm)))
    | _, _ => false)
  | _ => false
theorem oexB_ok {K : PySem.W.Frag} {C : Addr} (h : oexB K C = true) : ∃ nm q N bs bm sn sub ab col dd k0 k1 k2 k3 k5, K.lookup C = some (excClassObj nm q C N bs bm true sn sub ab col dd k0 k1 k2 k3 k5 "ValueError.__new__") ∧ PySem.HandSPX.refsVE bm = true := by
  unfold oexB at h
  split at h
  · rename_i t dd cd sl ho
    obtain ⟨h1, h2⟩ := ba h
    split at h2
    · rename_i D bm k0 k1 k2 k3 n k5 hm hs
      obtain ⟨h3, h4⟩ := ba h2
      obtain ⟨h5, h6⟩ := ba h4
      obtain ⟨h7, h8⟩ := ba h6
      obtain ⟨h9, h10⟩ := ba h8
      obtain ⟨nm, bs, mro, ns, qn, hd, sn, sub, ab, col, del⟩ := cd
      dsimp only at hm h7 h9
      have e1 : t = "type" := beq_iff_eq.mp h1
      have e2 : D = C := beq_iff_eq.mp h3
      have e3 : n = "ValueError.__new__" := beq_iff_eq.mp h5
      have e4 : del = false := by simpa using h7
      subst hm e1 e2 e3 e4 h9
      have hsl : sl = #[k0, k1, k2, k3, some (.builtin "ValueError.__new__"), k5] := by
        obtain ⟨l⟩ := sl
        exact congrArg Array.mk hs
      subst hsl
      exact ⟨_, _, _, _, _, _, _, _, _, _, _, _, _, _, _, ho, h10⟩
    · cases h2
  · cases h
def nmB (K : PySem.W.Frag) (x : Str) : Bool := decide (PySem.W.nsIn K mainGlobals x = some (some (.ref (ga K x))))
def fcB : Option PySem.W.CFound → Bool
  | some (.val (.builtin i)) => i == "ValueError.__init__"
  | _ => false
theorem fcB_ok : ∀ {o : Option PySem.W.CFound}, fcB o = true → o = some (.val (.builtin "ValueError.__init__"))
  | some (.val (.builtin i)), h => by
    have e : i = "ValueError.__init__" := beq_iff_eq.mp h
    rw [e]
def baseB (K : PySem.W.Frag) (S : Addr) : Bool := nmB K "ShapeError" && (PySem.W.readsIn K S (.type "type") && (decide (PySem.W.specialIn K (.ref S) "__getattribute__" = some (some (.builtin "type.__getattribute__"))) &&
  (fcB (PySem.W.findCls K (.ref S) (.type "type") "__init__") && (decide (PySem.W.specialIn K (.builtin "object.__class__") "__get__" = some (some (.builtin "getset_descriptor.__get__"))) && decide (PySem.W.takesIn K (.builtin "object.__class__") = some true)))))
def clsB (K : PySem.W.Frag) (S : Addr) (x : Str) (C fI : Addr) : Bool := nmB K x && (oexB K C && (decide (PySem.W.findIn K (.ref C) "__setattr__" = some (some (.builtin "object.__setattr__"))) && (decide (PySem.W.subIn K (.ref C) (.type "BaseException") = some true) &&
  (decide (PySem.W.typeIn K (.ref C) = some (.type "type")) && (PySem.W.keepIn K (.ref C) && (decide (PySem.W.findIn K (.ref C) "__init__" = some (some (.ref fI))) && (decide (PySem.W.typeIn K (.ref fI) = some (.type "function")) && (xfB K C &&
  ((PySem.W.clsIn K C).isSome && (decide (PySem.W.findIn K (.ref C) "__class__" = some (some (.builtin "object.__class__"))) && (decide (PySem.W.mroIn K C (.type "object") = some true) && (decide (PySem.W.kitOne K (.ref C) (.type "ValueError") = some true) &&
  decide (PySem.W.exmOne K (.ref C) (.ref S) = some true)))))))))))))
def noB (K : PySem.W.Frag) (C : Addr) (fs : List Str) : Bool := fs.all fun f => decide (PySem.W.findIn K (.ref C) f = some none)
def kitB2 (K : PySem.W.Frag) (Cs : Nat → Addr) (i : Nat) : Bool := (List.range 11).all fun j => decide (PySem.W.kitOne K (.ref (Cs i)) (.ref (Cs j)) = some (decide (i = j)))
abbrev eC (K : PySem.W.Frag) (i : Nat) : Addr := ga K (errN i)
abbrev eI (K : PySem.W.Frag) (i : Nat) : Addr := ma K (ga K (errN i)) "__init__"
def exB (K : PySem.W.Frag) : Bool := baseB K (ga K "ShapeError") && (List.range 11).all fun i => clsB K (ga K "ShapeError") (errN i) (eC K i) (eI K i) && (noB K (eC K i) (errF i) && kitB2 K (eC K) i)
section
variable {K : PySem.W.Frag} {h : Heap} {mg : Str → Option Value}
theorem baseB_ok (X : K.In h) (G : h.Ns mainGlobals mg) (b : baseB K (ga K "ShapeError") = true) : BaseE K mg (ga K "ShapeError") := by
  obtain ⟨h1, b⟩ := ba b
  obtain ⟨h2, b⟩ := ba b
  obtain ⟨h3, b⟩ := ba b
  obtain ⟨h4, b⟩ := ba b
  obtain ⟨h5, h6⟩ := ba b
  exact ⟨PySem.W.mg_of X G (of_decide_eq_true h1), h2, of_decide_eq_true h3, fcB_ok h4, of_decide_eq_true h5, of_decide_eq_true h6⟩
theorem clsB_ok (X : K.In h) (G : h.Ns mainGlobals mg) {S fI : Addr} {x : Str} (b : clsB K S x (ga K x) fI = true) : ErrE K mg S x (ga K x) fI := by
  obtain ⟨h1, b⟩ := ba b
  obtain ⟨h2, b⟩ := ba b
  obtain ⟨h3, b⟩ := ba b
  obtain ⟨h4, b⟩ := ba b
  obtain ⟨h5, b⟩ := ba b
  obtain ⟨h6, b⟩ := ba b
  obtain ⟨h7, b⟩ := ba b
  obtain ⟨h8, b⟩ := ba b
  obtain ⟨h9, b⟩ := ba b
  obtain ⟨h10, b⟩ := ba b
  obtain ⟨h11, b⟩ := ba b
  obtain ⟨h12, b⟩ := ba b
  obtain ⟨h13, h14⟩ := ba b
  exact ⟨PySem.W.mg_of X G (of_decide_eq_true h1), ⟨oexB_ok h2, of_decide_eq_true h3, of_decide_eq_true h4, of_decide_eq_true h5, h6⟩, of_decide_eq_true h7, of_decide_eq_true h8, xfB_ok h9, h10, of_decide_eq_true h11, of_decide_eq_true h12, of_decide_eq_true h13, of_decide_eq_true h14⟩
end
theorem fun_of {K : PySem.W.Frag} {x qual : Str} {st : Stmt} {f : Addr} {fd : FuncData} (F : FunD K x qual (defArgs st) (defBody st) (defScope st) [] [] f fd) : Fun K x qual st f fd := by
  obtain ⟨⟨oc, od, dV, kV, doc, pm, an, cdv, ct, osl, rfl, lk, hc, hD, hK⟩, kp⟩ := F
  rcases hD with ⟨_, rfl⟩ | ⟨z, _⟩
  · exact ⟨⟨oc, od, kV, doc, pm, an, cdv, ct, osl, rfl, lk, hc⟩, kp⟩
  · exact absurd rfl z
/-! ### the head: what is looked at, the run -/
def fn : List He.DefD := [
  ⟨("BadText", some "__init__"), "__init__", "BadText.__init__", defArgs (inClass (top 2) 0), defBody (inClass (top 2) 0), defScope (inClass (top 2) 0), [], []⟩,
  ⟨("BadName", some "__init__"), "__init__", "BadName.__init__", defArgs (inClass (top 3) 0), defBody (inClass (top 3) 0), defScope (inClass (top 3) 0), [], []⟩,
  ⟨("BadNumber", some "__init__"), "__init__", "BadNumber.__init__", defArgs (inClass (top 4) 0), defBody (inClass (top 4) 0), defScope (inClass (top 4) 0), [], []⟩,
  ⟨("BadRow", some "__init__"), "__init__", "BadRow.__init__", defArgs (inClass (top 5) 0), defBody (inClass (top 5) 0), defScope (inClass (top 5) 0), [], []⟩,
  ⟨("NoName", some "__init__"), "__init__", "NoName.__init__", defArgs (inClass (top 6) 0), defBody (inClass (top 6) 0), defScope (inClass (top 6) 0), [], []⟩,
  ⟨("TakenName", some "__init__"), "__init__", "TakenName.__init__", defArgs (inClass (top 7) 0), defBody (inClass (top 7) 0), defScope (inClass (top 7) 0), [], []⟩,
  ⟨("Unlike", some "__init__"), "__init__", "Unlike.__init__", defArgs (inClass (top 8) 0), defBody (inClass (top 8) 0), defScope (inClass (top 8) 0), [], []⟩,
  ⟨("TooMany", some "__init__"), "__init__", "TooMany.__init__", defArgs (inClass (top 9) 0), defBody (inClass (top 9) 0), defScope (inClass (top 9) 0), [], []⟩,
  ⟨("NotKept", some "__init__"), "__init__", "NotKept.__init__", defArgs (inClass (top 10) 0), defBody (inClass (top 10) 0), defScope (inClass (top 10) 0), [], []⟩,
  ⟨("NothingToUndo", some "__init__"), "__init__", "NothingToUndo.__init__", defArgs (inClass (top 11) 0), defBody (inClass (top 11) 0), defScope (inClass (top 11) 0), [], []⟩,
  ⟨("NothingToRedo", some "__init__"), "__init__", "NothingToRedo.__init__", defArgs (inClass (top 12) 0), defBody (inClass (top 12) 0), defScope (inClass (top 12) 0), [], []⟩,
  ⟨("_law_pen", none), "_law_pen", "_law_pen", defArgs sPen, defBody sPen, defScope sPen, [], []⟩,
  ⟨("_law_draw", none), "_law_draw", "_law_draw", defArgs sDraw, defBody sDraw, defScope sDraw, [], []⟩,
  ⟨("_law_pick", none), "_law_pick", "_law_pick", defArgs sPick, defBody sPick, defScope sPick, [], []⟩,
  ⟨("_law_value", none), "_law_value", "_law_value", defArgs sVal, defBody sVal, defScope sVal, [], []⟩,
  ⟨("_law_classes", none), "_law_classes", "_law_classes", defArgs sCls, defBody sCls, defScope sCls, [], []⟩,
  ⟨("_law_more_kinds", none), "_law_more_kinds", "_law_more_kinds", defArgs sMore, defBody sMore, defScope sMore, [], []⟩,
  ⟨("_law_fall", none), "_law_fall", "_law_fall", defArgs sFall, defBody sFall, defScope sFall, [], []⟩,
  ⟨("_law_other_fall", none), "_law_other_fall", "_law_other_fall", defArgs sOther, defBody sOther, defScope sOther, [], []⟩,
  ⟨("_law_fields", none), "_law_fields", "_law_fields", defArgs sFields, defBody sFields, defScope sFields, [], []⟩,
  ⟨("_law_one", none), "_law_one", "_law_one", defArgs sOne, defBody sOne, defScope sOne, [], []⟩,
  ⟨("law", none), "law", "law", defArgs sLaw, defBody sLaw, defScope sLaw, [], []⟩]
def fa : List He.Fa := [.glo "_law_pen", .glo "_law_draw", .glo "_law_pick", .glo "_law_value", .glo "_law_classes", .glo "_law_more_kinds", .glo "_law_fall", .glo "_law_other_fall", .glo "_law_fields", .glo "_law_one", .glo "law", .free "int", .free "list", .free "len", .free "isinstance", .free "ValueError", .free "range", .free "zip", .free "repr"]
abbrev R : PySem.W.OpenRow := PySem.W.OpenLaw.row PySem.Challenge.rw_shapeskept_k00_errors_as_told
/-- the written part: what the module's names reach, and the table of statics (a class's own attribute is read) -/
def kf (g : Addr → Option Obj) : PySem.W.Frag := He.frT g (PySem.cStatics :: He.asD g 6)
def obG (g : Addr → Option Obj) : He.AlX := (He.obsT fa fn [] (kf g), exB (kf g))
structure Says (w : World) (K : PySem.W.Frag) : Prop where
  t : He.SaysT fa fn [] w K
  more : exB K = true
def hk : PySem.W.Hook where
  α := He.AlX
  obs := fun s => obG s.heap.get?
  val := fun w => (He.valT fn [] w, true)
  says := fun w h => ∃ K : PySem.W.Frag, K.In h ∧ Says w K
  of := fun _ _ e => ⟨_, He.frT_in, congrArg (fun z : He.AlX => z.1) e, congrArg (fun z : He.AlX => z.2) e⟩
  keeps := fun _ _ _ ⟨_, hK, c⟩ k => ⟨_, PySem.W.Frag.In.keeps hK k, c⟩
def ob (s : PySem.W.SharedT) : He.AlX := obG (HandSHeadRun.getT s)
theorem ob_eq (s : PySem.W.SharedT) : ob s = hk.obs s.abs := by
  have e : HandSHeadRun.getT s = s.abs.heap.get? := funext (HandSHeadRun.getT_eq s)
  unfold ob
  rw [e]
  rfl
def lo : List Str := ["ShapeError", "BadText", "BadName", "BadNumber", "BadRow", "NoName", "TakenName", "Unlike", "TooMany", "NotKept", "NothingToUndo", "NothingToRedo", "_law_pen", "_law_draw", "_law_pick", "_law_value", "_law_classes", "_law_more_kinds", "_law_fall", "_law_other_fall", "_law_fields", "_law_one"]
theorem run (w : World) : HandSHeadRun.RunEq R (PySem.W.view R.prog [24]) hk ob 4000 lo w := by
  intro os
  kernel_rfl
section
variable {P : Program} {w : World} {K : PySem.W.Frag} {h : Heap} {mg : Str → Option Value} {f : Addr}
theorem facts (X : K.In h) (G : h.Ns mainGlobals mg) (hfa : mg ("law" : Str) = some (.ref f)) (c : Says w K) :
    ∃ fd : FuncData, (∀ (s : Shared) (v : Value), BindsTo s fd ⟨[v], []⟩ [("script", v)]) ∧ ∀ base : Heap, K.In base → base.Ns mainGlobals mg → FnG P w K mg base CX0 6 f fd ["script"] (spLaw K) := by
  obtain ⟨hB, hE⟩ := ba c.more
  have B := baseB_ok X G hB
  have cs : ∀ i, i < 11 → clsB K (ga K "ShapeError") (errN i) (eC K i) (eI K i) = true ∧ noB K (eC K i) (errF i) = true ∧ kitB2 K (eC K) i = true := fun i hi => by
    have z := List.all_eq_true.mp hE i (List.mem_range.mpr hi)
    obtain ⟨z1, z2⟩ := ba z
    exact ⟨z1, ba z2⟩
  have E1 : ∀ i, i < 11 → ErrE K mg (ga K "ShapeError") (errN i) (eC K i) (eI K i) := fun i hi => clsB_ok X G (cs i hi).1
  have N1 : ∀ i, i < 11 → ∀ g ∈ errF i, PySem.W.findIn K (.ref (eC K i)) g = some none := fun i hi g hg => of_decide_eq_true (List.all_eq_true.mp (cs i hi).2.1 g hg)
  have K1 : ∀ i j, i < 11 → j < 11 → PySem.W.kitOne K (.ref (eC K i)) (.ref (eC K j)) = some (decide (i = j)) := fun i j hi hj => of_decide_eq_true (List.all_eq_true.mp (cs i hi).2.2 j (List.mem_range.mpr hj))
  obtain ⟨d0, F0⟩ := c.t.d.def_ 0 (d := fn[0]) rfl
  have F0 := fun_of (st := inClass (top 2) 0) F0
  obtain ⟨d1, F1⟩ := c.t.d.def_ 1 (d := fn[1]) rfl
  have F1 := fun_of (st := inClass (top 3) 0) F1
  obtain ⟨d2, F2⟩ := c.t.d.def_ 2 (d := fn[2]) rfl
  have F2 := fun_of (st := inClass (top 4) 0) F2
  obtain ⟨d3, F3⟩ := c.t.d.def_ 3 (d := fn[3]) rfl
  have F3 := fun_of (st := inClass (top 5) 0) F3
  obtain ⟨d4, F4⟩ := c.t.d.def_ 4 (d := fn[4]) rfl
  have F4 := fun_of (st := inClass (top 6) 0) F4
  obtain ⟨d5, F5⟩ := c.t.d.def_ 5 (d := fn[5]) rfl
  have F5 := fun_of (st := inClass (top 7) 0) F5
  obtain ⟨d6, F6⟩ := c.t.d.def_ 6 (d := fn[6]) rfl
  have F6 := fun_of (st := inClass (top 8) 0) F6
  obtain ⟨d7, F7⟩ := c.t.d.def_ 7 (d := fn[7]) rfl
  have F7 := fun_of (st := inClass (top 9) 0) F7
  obtain ⟨d8, F8⟩ := c.t.d.def_ 8 (d := fn[8]) rfl
  have F8 := fun_of (st := inClass (top 10) 0) F8
  obtain ⟨d9, F9⟩ := c.t.d.def_ 9 (d := fn[9]) rfl
  have F9 := fun_of (st := inClass (top 11) 0) F9
  obtain ⟨d10, F10⟩ := c.t.d.def_ 10 (d := fn[10]) rfl
  have F10 := fun_of (st := inClass (top 12) 0) F10
  obtain ⟨d11, F11⟩ := c.t.d.def_ 11 (d := fn[11]) rfl
  have F11 := fun_of (st := sPen) F11
  have m11 := He.glo_ok X G (c.t.d.fact 0 (f := .glo "_law_pen") rfl)
  obtain ⟨d12, F12⟩ := c.t.d.def_ 12 (d := fn[12]) rfl
  have F12 := fun_of (st := sDraw) F12
  have m12 := He.glo_ok X G (c.t.d.fact 1 (f := .glo "_law_draw") rfl)
  obtain ⟨d13, F13⟩ := c.t.d.def_ 13 (d := fn[13]) rfl
  have F13 := fun_of (st := sPick) F13
  have m13 := He.glo_ok X G (c.t.d.fact 2 (f := .glo "_law_pick") rfl)
  obtain ⟨d14, F14⟩ := c.t.d.def_ 14 (d := fn[14]) rfl
  have F14 := fun_of (st := sVal) F14
  have m14 := He.glo_ok X G (c.t.d.fact 3 (f := .glo "_law_value") rfl)
  obtain ⟨d15, F15⟩ := c.t.d.def_ 15 (d := fn[15]) rfl
  have F15 := fun_of (st := sCls) F15
  have m15 := He.glo_ok X G (c.t.d.fact 4 (f := .glo "_law_classes") rfl)
  obtain ⟨d16, F16⟩ := c.t.d.def_ 16 (d := fn[16]) rfl
  have F16 := fun_of (st := sMore) F16
  have m16 := He.glo_ok X G (c.t.d.fact 5 (f := .glo "_law_more_kinds") rfl)
  obtain ⟨d17, F17⟩ := c.t.d.def_ 17 (d := fn[17]) rfl
  have F17 := fun_of (st := sFall) F17
  have m17 := He.glo_ok X G (c.t.d.fact 6 (f := .glo "_law_fall") rfl)
  obtain ⟨d18, F18⟩ := c.t.d.def_ 18 (d := fn[18]) rfl
  have F18 := fun_of (st := sOther) F18
  have m18 := He.glo_ok X G (c.t.d.fact 7 (f := .glo "_law_other_fall") rfl)
  obtain ⟨d19, F19⟩ := c.t.d.def_ 19 (d := fn[19]) rfl
  have F19 := fun_of (st := sFields) F19
  have m19 := He.glo_ok X G (c.t.d.fact 8 (f := .glo "_law_fields") rfl)
  obtain ⟨d20, F20⟩ := c.t.d.def_ 20 (d := fn[20]) rfl
  have F20 := fun_of (st := sOne) F20
  have m20 := He.glo_ok X G (c.t.d.fact 9 (f := .glo "_law_one") rfl)
  obtain ⟨d21, F21⟩ := c.t.d.def_ 21 (d := fn[21]) rfl
  have F21 := fun_of (st := sLaw) F21
  have m21 := He.glo_ok X G (c.t.d.fact 10 (f := .glo "law") rfl)
  have zint := He.free_ok X G (c.t.d.fact 11 (f := .free "int") rfl)
  have zlist := He.free_ok X G (c.t.d.fact 12 (f := .free "list") rfl)
  have zlen := He.free_ok X G (c.t.d.fact 13 (f := .free "len") rfl)
  have zisinstance := He.free_ok X G (c.t.d.fact 14 (f := .free "isinstance") rfl)
  have zValueError := He.free_ok X G (c.t.d.fact 15 (f := .free "ValueError") rfl)
  have zrange := He.free_ok X G (c.t.d.fact 16 (f := .free "range") rfl)
  have zzip := He.free_ok X G (c.t.d.fact 17 (f := .free "zip") rfl)
  have zrepr := He.free_ok X G (c.t.d.fact 18 (f := .free "repr") rfl)
  have b11 := F11.binds (ps := ["script"]) fun _ _ _ _ _ _ us hl => match us, hl with | [_], _ => rfl
  have b12 := F12.binds (ps := ["pen", "many"]) fun _ _ _ _ _ _ us hl => match us, hl with | [_, _], _ => rfl
  have b13 := F13.binds (ps := ["pen", "some"]) fun _ _ _ _ _ _ us hl => match us, hl with | [_, _], _ => rfl
  have b14 := F14.binds (ps := ["pen"]) fun _ _ _ _ _ _ us hl => match us, hl with | [_], _ => rfl
  have b15 := F15.binds (ps := ["e"]) fun _ _ _ _ _ _ us hl => match us, hl with | [_], _ => rfl
  have b16 := F16.binds (ps := ["e"]) fun _ _ _ _ _ _ us hl => match us, hl with | [_], _ => rfl
  have b17 := F17.binds (ps := ["kind", "one", "two", "three"]) fun _ _ _ _ _ _ us hl => match us, hl with | [_, _, _, _], _ => rfl
  have b18 := F18.binds (ps := ["kind", "one", "two", "three"]) fun _ _ _ _ _ _ us hl => match us, hl with | [_, _, _, _], _ => rfl
  have b19 := F19.binds (ps := ["kind", "e"]) fun _ _ _ _ _ _ us hl => match us, hl with | [_, _], _ => rfl
  have b20 := F20.binds (ps := ["kind", "one", "two", "three"]) fun _ _ _ _ _ _ us hl => match us, hl with | [_, _, _, _], _ => rfl
  have b21 := F21.binds (ps := ["script"]) fun _ _ _ _ _ _ us hl => match us, hl with | [_], _ => rfl
  have b0 := F0.binds (ps := "self" :: errF 0) fun _ _ _ _ _ _ us hl => match us, hl with | [_, _, _], _ => rfl
  have b1 := F1.binds (ps := "self" :: errF 1) fun _ _ _ _ _ _ us hl => match us, hl with | [_, _], _ => rfl
  have b2 := F2.binds (ps := "self" :: errF 2) fun _ _ _ _ _ _ us hl => match us, hl with | [_, _, _], _ => rfl
  have b3 := F3.binds (ps := "self" :: errF 3) fun _ _ _ _ _ _ us hl => match us, hl with | [_, _, _], _ => rfl
  have b4 := F4.binds (ps := "self" :: errF 4) fun _ _ _ _ _ _ us hl => match us, hl with | [_, _], _ => rfl
  have b5 := F5.binds (ps := "self" :: errF 5) fun _ _ _ _ _ _ us hl => match us, hl with | [_, _], _ => rfl
  have b6 := F6.binds (ps := "self" :: errF 6) fun _ _ _ _ _ _ us hl => match us, hl with | [_, _], _ => rfl
  have b7 := F7.binds (ps := "self" :: errF 7) fun _ _ _ _ _ _ us hl => match us, hl with | [_, _, _, _], _ => rfl
  have b8 := F8.binds (ps := "self" :: errF 8) fun _ _ _ _ _ _ us hl => match us, hl with | [_, _, _], _ => rfl
  have b9 := F9.binds (ps := "self" :: errF 9) fun _ _ _ _ _ _ us hl => match us, hl with | [_], _ => rfl
  have b10 := F10.binds (ps := "self" :: errF 10) fun _ _ _ _ _ _ us hl => match us, hl with | [_], _ => rfl
  have e := hfa.symm.trans m21
  cases e
  refine ⟨d21, fun s v => ?_, fun base _ _ => ?_⟩
  · obtain ⟨oc, od, kV, doc, pm, an, cdv, ct, osl, rfl, _⟩ := F21.ex
    exact .of_eq rfl
  have T : Errs P w K mg base (ga K "ShapeError") (eC K) (eI K) := by
    refine ⟨B, ?_, K1⟩
    apply upto11
    · exact ⟨E1 0 (by decide), N1 0 (by decide), d0, ok_BadText F0 B (E1 0 (by decide)) (N1 0 (by decide) "line" (by decide +kernel)) (N1 0 (by decide) "word" (by decide +kernel)), b0⟩
    · exact ⟨E1 1 (by decide), N1 1 (by decide), d1, ok_BadName F1 B (E1 1 (by decide)) (N1 1 (by decide) "name" (by decide +kernel)), b1⟩
    · exact ⟨E1 2 (by decide), N1 2 (by decide), d2, ok_BadNumber F2 B (E1 2 (by decide)) (N1 2 (by decide) "what" (by decide +kernel)) (N1 2 (by decide) "number" (by decide +kernel)), b2⟩
    · exact ⟨E1 3 (by decide), N1 3 (by decide), d3, ok_BadRow F3 B (E1 3 (by decide)) (N1 3 (by decide) "what" (by decide +kernel)) (N1 3 (by decide) "row" (by decide +kernel)), b3⟩
    · exact ⟨E1 4 (by decide), N1 4 (by decide), d4, ok_NoName F4 B (E1 4 (by decide)) (N1 4 (by decide) "name" (by decide +kernel)), b4⟩
    · exact ⟨E1 5 (by decide), N1 5 (by decide), d5, ok_TakenName F5 B (E1 5 (by decide)) (N1 5 (by decide) "name" (by decide +kernel)), b5⟩
    · exact ⟨E1 6 (by decide), N1 6 (by decide), d6, ok_Unlike F6 B (E1 6 (by decide)) (N1 6 (by decide) "what" (by decide +kernel)), b6⟩
    · exact ⟨E1 7 (by decide), N1 7 (by decide), d7, ok_TooMany F7 B (E1 7 (by decide)) (N1 7 (by decide) "what" (by decide +kernel)) (N1 7 (by decide) "many" (by decide +kernel)) (N1 7 (by decide) "limit" (by decide +kernel)), b7⟩
    · exact ⟨E1 8 (by decide), N1 8 (by decide), d8, ok_NotKept F8 B (E1 8 (by decide)) (N1 8 (by decide) "promise" (by decide +kernel)) (N1 8 (by decide) "witness" (by decide +kernel)), b8⟩
    · exact ⟨E1 9 (by decide), N1 9 (by decide), d9, ok_NothingToUndo F9 B (E1 9 (by decide)) , b9⟩
    · exact ⟨E1 10 (by decide), N1 10 (by decide), d10, ok_NothingToRedo F10 B (E1 10 (by decide)) , b10⟩
  have GD : FnOk P w K mg base CX0 1 _ d12 ["pen", "many"] spDraw := ok_draw F12 zint zlen
  have GK : FnOk P w K mg base CX0 2 _ d13 ["pen", "some"] (spPick K) := ok_pick F13 zlen m12 F12.kp b12 GD
  have GV := ok_value F14 m12 F12.kp b12 GD m13 F13.kp b13 GK
  have GM := ok_more F16 T zisinstance
  have GC := ok_cls F15 T zisinstance m16 F16.kp b16 GM
  have GO := ok_other F18 T
  have GF := ok_fall F17 T m18 F18.kp b18 GO
  have GE := ok_fields F19 T
  have G1 := ok_one F20 T zisinstance zValueError m17 F17.kp b17 GF m15 F15.kp b15 GC m19 F19.kp b19 GE
  exact ok_law F21 zisinstance zlist zlen zrange zzip zrepr m11 F11.kp b11 (ok_pen F11 zint zlist) m14 F14.kp b14 GV m20 F20.kp b20 G1
end
end Mine
open PySem PySem.W PySem.Calls PyProof.Rows
theorem PySem.Challenge.cw_shapeskept_k00_errors_as_told_holds : PySem.Challenge.rw_shapeskept_k00_errors_as_told.Holds := by
  w_on; o_law
  refine HandSHeadRun.head_any (r := Mine.R) (q := view Mine.R.prog [24]) (H := Mine.hk) (ob := Mine.ob) (M := 4000) (loose := Mine.lo) (d := HandSHeadRun.topDef Mine.R.prog 24) (kwd := []) Mine.ob_eq
    (by kernel_rfl) (fun s => by kernel_rfl) Mine.run (by kernel_rfl) (by kernel_rfl) (by kernel_rfl) (by rfl) (by first | assumption | decide +kernel) (by decide +kernel) ⟨rfl, rfl, rfl, rfl, rfl, by decide +kernel⟩ ?hw ?hc
  case hw => w_witness2
  case hc =>
    refine Mine.walk_G (l := PySem.Challenge.rw_shapeskept_k00_errors_as_told) (n := 63) (k := 6) (x := "script") rfl (by decide) (by kernel_rfl) ⟨rfl, by decide, by decide⟩ ?F
    intro w mg fa h Y G hmg0
    obtain ⟨K, KX, c⟩ := Y
    have hmg : mg ("law" : PySem.Str) = some (.ref fa) := by
      have e : (HandSHeadRun.topDef Mine.R.prog 24).name = ("law" : PySem.Str) := by kernel_rfl
      rw [← e]
      exact hmg0
    obtain ⟨fd, hb, hF⟩ := Mine.facts (P := Mine.R.prog) (w := w) KX G hmg c
    exact ⟨K, fd, Mine.spLaw K, KX, hb, fun H a ns hl _ hS => ⟨a, ns, rfl, hS, hl, fun _ => rfl⟩, hF⟩
#print axioms PySem.Challenge.cw_shapeskept_k00_errors_as_told_holds
