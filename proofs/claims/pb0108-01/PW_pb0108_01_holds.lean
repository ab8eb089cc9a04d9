import PyProof.Rows.All
import Wide.All
import OpenK.AllK
import Wide.FinOn
import Wide.BytesRules
import PyProof.Rows.EqMixed
import KE.KxDecode
import Lean
import PySem.Challenge.RW_pb0108_01
set_option Elab.async false
set_option maxRecDepth 100000
set_option maxHeartbeats 8000000
set_option linter.unusedVariables false
set_option linter.unusedSimpArgs false
set_option genInjectivity false
set_option genSizeOf false
namespace Mine
section sTop0
open PySem PySem.W PyProof.Rows
noncomputable abbrev PG : Program := RowW.prog (OpenRow.toRowW (OpenLaw.row PySem.Challenge.rw_pb0108_01))
noncomputable def VW : Program := { PG with main := { PG.main with body := (((PG.main.body.eraseIdx 28).eraseIdx 22).eraseIdx 14).eraseIdx 0 } }
local macro_rules | `(tactic| o_law) => `(tactic| refine holds_law (by decide +kernel) fun said => ?_)
local macro_rules | `(tactic| o_head $H) => do
  let hw := Lean.mkIdent `hw
  `(tactic| ((refine holds_open (q := VW) (loose := [PySem.Str.ofString "GitError", PySem.Str.ofString "read_pkts", PySem.Str.ofString "FetchRequest"]) (Xt := fun s => xlAt VW [] s && recOk (RowW.records (OpenRow.toRowW (OpenLaw.row PySem.Challenge.rw_pb0108_01))) s) (XP := XL VW []) (Yf := Hook.obs $H) (Ya := Hook.val $H) (YP := Hook.says $H) (N := 4014) ?hl (Hook.of $H) (Hook.keeps $H) (fun s e => xl_of s (Bool.and_eq_true_iff.mp e).1) XL.keeps (by rfl) (by rfl) (by rfl) (fun s e => recFacts_of (Bool.and_eq_true_iff.mp e).2) (by rfl) (by assumption) (by decide +kernel) ⟨rfl, rfl, rfl, rfl, rfl, by decide +kernel⟩ ?$hw ?hc); (case hl => exact fun w => by kernel_rfl)))
open_top hd for PySem.Challenge.rw_pb0108_01
end sTop0

theorem zset0 : True := by
  (k_with "R0" => (refine stop ?_))
  (k_with "R1" => (k_dflt (first | ((repeat (first | exact List.Mem.head _ | refine List.Mem.tail _ ?_)); done) | (simp; done))))
  (k_with "R2" => (refine wpAny_call ?_; k_dflt (refine' code_defK ?k1_q ?k2_q ?k3_q ?k4_q ?k5_q ?kA_q ?kF_q ?kK_q ?k6_q ?k7_q ?k8_q ?k9_q ?kB_q ?_ ?c2_q ?c3_q ?c4_q ?c5_q; (case kA_q => exact rfl); (case kF_q => exact rfl); (case kK_q => assumption); (case k1_q => k_asm); (case k2_q => k_asm); (case k3_q => k_asm); (case k4_q => k_asm); (case k5_q => k_asm); (case k6_q => k_is); (case k7_q => k_is); (case k8_q => ktr_room); (case k9_q => first | exact BindsTo.of_eq rfl | (refine' binds_K (Frag.In.keeps (by assumption) (Fr.keep (by assumption))) rfl ?o9_q ?s9_q ?a9_q ?b9_q; (case o9_q => k_is); (case s9_q => exact rfl); (case a9_q => exact rfl); (case b9_q => exact rfl))); (case c5_q => decide); (case kB_q => exact locs rfl); (case c2_q => exact rfl); (case c3_q => exact rfl); (case c4_q => exact rfl); k_whole; intro g' L' h' tk' FG' F' N' B' X' T' kG'; (try dsimp only); (try k_lift B'))))
  (k_with "R3" => (k_here; refine stop ?_))
  (k_with "R4" => (((fail_if_success (k_extra "NC2")); (first | (k_extra "NC1") | (fail_if_success (k_extra "NC0")))); (k_here; refine stop ?_)))
  (k_with "R5" => (((fail_if_success (k_extra "NC2")); (first | (k_extra "NC1") | (fail_if_success (k_extra "NC0")))); (refine stop ?_)))
  (k_with "R6" => (((fail_if_success (k_extra "NC2")); (first | (k_extra "NC1") | (fail_if_success (k_extra "NC0")))); (k_here; k_dflt (first
  | (refine LCg.CompSrc.ledger (by rfl) (by k_asm) (by k_asm) (by k_mem) (by first | size_fits | exact Nat.le_of_ble_eq_true rfl) ?_; intro g')
  | (refine LCg.CompSrc.base (by rfl) (by k_asm) (by k_asm) (by assumption) (by first | size_fits | exact Nat.le_of_ble_eq_true rfl) ?_; intro g')
  | (refine LCg.CompSrc.range (by rfl) (by k_asm) (by k_asm) (by assumption) (by first | decide | rfl) (by first | rfl | decide) (by first | size_fits | exact Nat.le_of_ble_eq_true rfl) ?_; intro g')))))
  (k_with "R7" => (k_here; (refine chr_of_range (by omega) (by omega) ?_)))
  (k_with "R8" => (k_here; (refine P.ord_of_char ?_)))
  (k_with "R9" => (with_reducible rename _ ∧ _ => z9; have z8 := z9.1; have z7 := z9.2; clear z9; first | assumption | exact Ne.symm (by assumption) | exact Nat.ne_of_lt (by assumption) | exact Nat.ne_of_gt (by assumption) | walk_at "cj"))
  (k_with "R10" => (repeat ((with_reducible rename _ ∧ _ => z9); have z8 := z9.1; have z7 := z9.2; clear z9)))
  (k_with "R11" => (first | assumption | exact Ne.symm (by assumption) | exact ne_new (by with_reducible assumption) (by walk_at "mem map") | exact new_ne (by with_reducible assumption) (by walk_at "mem map") | exact Nat.ne_of_lt (by assumption) | exact Nat.ne_of_gt (by assumption) | walk_at "cj"))
  (k_with "R12" => (exact OwnOff.ne (by assumption) (by walk_at "mem map")))
  (k_with "R13" => (first | (exact Nat.le_of_ble_eq_true rfl) | (simp only [List.size_toArray, Array.size_push, List.length_append, List.length_cons, List.length_nil, sizeLine_eq]; omega)))
  (k_with "R14" => (k_here; simp only [List.cons_append, List.nil_append]))
  (k_with "R15" => (k_here; k_dflt (refine Raise_bad (by rfl) ?_)))
  (k_with "R16" => (k_here; k_dflt (refine' call_bad ?k1_q ?k2_q ?k3_q ?k4_q ?kK_q ?kd_q ?ku_q ?_; (case k1_q => k_asm); (case k2_q => k_asm); (case k3_q => k_asm); (case k4_q => k_asm); (case kK_q => first | exact rfl | assumption); (case kd_q => ktr_room); (case ku_q => ktr_units); k_whole; intro e' t' h' tk' M'; (obtain ⟨d', he'⟩ := MadeBad.there M'); (try dsimp only); (try k_fold))))
  (k_with "R17" => (refine' ⟨_, _, _, rfl, ?kX_q, ?ke_q, ?_⟩; (case ke_q => assumption); (case kX_q => exact Frag.In.keeps (Frag.In.keeps (by k_asm) (Fr.keep (by k_asm))) (MadeBad.keep (by assumption)))))
  (k_with "R18" => (k_here; k_dflt (first
  | (refine' leave_bad ?k1_q ?k2_q ?k3_q ?_; (case k2_q => assumption); (case k1_q => assumption); (case k3_q => assumption); k_whole; intro h' R' U'; (try dsimp only))
  | (refine' leave_way ?k1_q ?k2_q ?_; (case k2_q => assumption); (case k1_q => assumption); k_whole; intro h' R' U'; (try dsimp only)))))
  (k_with "R19" => (((fail_if_success (k_extra "NC2")); (first | (k_extra "NC1") | (fail_if_success (k_extra "NC0")))); (k_here; (with_reducible show wpAny _ _ (subscriptTail _ _ (Value.str _ _) (Value.int _ _)) _ _ _); refine stop ?_)))
  (k_with "R20" => (first | (refine ite_tfill_J ?_) | (refine ite_ffill_J ?_) | (k_whole; first | (refine ite_pos (by with_reducible assumption) ?_) | (refine ite_neg (by with_reducible assumption) ?_) | (refine ite_isFalse (by with_reducible assumption) ?_) | (refine ite_pos (by k_dec) ?_) | (refine ite_neg (by k_dec) ?_))))
  (k_with "R21" => (first | (refine' room1 ?e_q ?h_q; (case h_q => assumption); (case e_q => decide)) | (refine' room0 ?e_q ?h_q; (case h_q => assumption); (case e_q => decide)) | (refine' roomz ?h_q; (case h_q => assumption))))
  (k_with "R22" => (first | (refine' room0 ?e_q ?h_q; (case h_q => assumption); (case e_q => decide)) | (refine' room1 ?e_q ?h_q; (case h_q => assumption); (case e_q => decide)) | (refine' roomz ?h_q; (case h_q => assumption)) | (refine' room2 ?e_q ?h_q; (case h_q => assumption); (case e_q => decide))))
  (k_with "R23" => (k_here; k_dflt (refine ListComp_W (F₀ := by k_asm) (by with_unfolding_all rfl) (by decide) (by rfl) (by decide) (by rfl) ?_)))
  (k_with "R24" => (k_here; k_dflt (refine Assign_ListComp_W (F₀ := by k_asm) (by rfl) (by with_unfolding_all rfl) (by with_unfolding_all rfl) (by decide) (by rfl) (by decide) (by rfl) (by rfl) (by rfl) ?_)))
  (k_with "R25" => (k_here; k_dflt (refine' Spec.useP (hex_of _ _ _ ?h1_q) ?k1_q ?k2_q ?k3_q ?k4_q ?k5_q ?kK_q ?kd_q ?ku_q ?_ ?kE_q; (case k1_q => k_asm); (case k2_q => k_asm); (case k3_q => k_asm); (case k4_q => k_asm); (case k5_q => k_asm); (case kK_q => first | exact rfl | assumption); (case kd_q => ktr_room); (case ku_q => ktr_units); (case kE_q => exact fun h => h.elim); (case h1_q => assumption); k_whole; intro t' h' tk' F' N' e'; (try dsimp only); (try k_fold))))
  (k_with "R26" => (k_here; k_dflt (refine' Spec.useP (octets_of _ _ _ ?h1_q ?h2_q) ?k1_q ?k2_q ?k3_q ?k4_q ?k5_q ?kK_q ?kd_q ?ku_q ?_ ?kE_q; (case k1_q => k_asm); (case k2_q => k_asm); (case k3_q => k_asm); (case k4_q => k_asm); (case k5_q => k_asm); (case kK_q => first | exact rfl | assumption); (case kd_q => ktr_room); (case ku_q => ktr_units); (case kE_q => exact fun h => h.elim); (case h1_q => (rw [hexL_length]; omega)); (case h2_q => exact bytesOf_hex _); k_whole; intro t' h' tk' F' N' e'; (try dsimp only); (try k_fold))))
  (k_with "R27" => (k_here; (with_reducible show wpAny _ _ (subscriptTail _ (PySem.Expr.Slice _ _ none _) (Value.bytes _ _) (Value.ref _)) _ _ _); (with_reducible rename Fr _ _ _ _ => F'); (with_reducible rename News _ _ _ _ => N'); (refine slice_L (s := ⟨_, _, _, _, _⟩) F' N' (by first | exact .none | exact .int _ _) (by first | exact .none | exact .int _ _) (by omega) ?_); intro _ _ _ F' N'))
  (k_with "R28" => (k_here; (with_reducible show wpAny _ _ (binaryOp Operator.Add (Value.bytes (List.toArray _) _) (Value.bytes (List.toArray _) _)) _ _ _); k_dflt (refine' bytes_add_K ?z_q ?e_q ?_; (case z_q => first | kby_size | (simp only [List.size_toArray, List.length_append, List.length_cons, List.length_nil]; omega)); (case e_q => first | (simp only [List.cons_append, List.nil_append]; done) | (simp only [List.cons_append, List.nil_append]; exact rfl) | exact rfl); k_whole); intro _ _))
  (k_with "R29" => (k_here; (rename Fr _ _ _ _ => lF'); (with_unfolding_all refine' For_invVF lF' ?k1_q ?k2_q ?_; (case k1_q => exact rfl); (case k2_q => exact rfl); k_whole)))
  (k_with "R30" => (first | exact OwnOff.ne (by assumption) (by walk_at "mem map") | exact Off.neD_J (by assumption) (by walk_at "mem map") | exact (Off.neD_J (by assumption) (by walk_at "mem map")).symm))
  (k_with "R31" => (first | assumption | exact ne_new (by with_reducible assumption) (by walk_at "mem map") | exact new_ne (by with_reducible assumption) (by walk_at "mem map") | exact Off.neD_J (by assumption) (by walk_at "mem map") | exact (Off.neD_J (by assumption) (by walk_at "mem map")).symm | (exact Ne.symm (Off.neD_J (by assumption) (by walk_at "mem map"))) | exact Nat.ne_of_lt (by assumption) | exact Nat.ne_of_gt (by assumption) | walk_at "cj"))
  (k_with "R32" => (k_here; k_dflt (refine len_strOf (by omega) ?_)))
  (k_with "R33" => (k_here; k_dflt (refine' Spec.useP (hex_digit _ _ _ ?h1_q) ?k1_q ?k2_q ?k3_q ?k4_q ?k5_q ?kK_q ?kd_q ?ku_q ?_ ?kE_q; (case k1_q => k_asm); (case k2_q => k_asm); (case k3_q => k_asm); (case k4_q => k_asm); (case k5_q => k_asm); (case kK_q => first | exact rfl | assumption); (case kd_q => ktr_room); (case ku_q => ktr_units); (case kE_q => exact fun h => h.elim); (case h1_q => exact plain_at (by assumption) (by omega)); k_whole; intro t' h' tk' F' N' e'; (try dsimp only); (try k_fold))))
  (k_with "R34" => (k_here; k_dflt (refine' Spec.use0 (is_plain _ _ _ _ _ ?h1_q) ?k1_q ?k2_q ?k3_q ?k4_q ?k5_q ?kK_q ?kd_q ?ku_q ?_ ?kE_q; (case k1_q => k_asm); (case k2_q => k_asm); (case k3_q => k_asm); (case k4_q => k_asm); (case k5_q => k_asm); (case kK_q => first | exact rfl | assumption); (case kd_q => ktr_room); (case ku_q => ktr_units); (case kE_q => exact fun h => h.elim); (case h1_q => omega); k_whole; intro v' h' tk' n' ok' F' N' o' e'; (obtain ⟨e1', e2'⟩ := ok') <;> (subst e1'; (try subst e2'); (try have q1' := o' _ List.mem_cons_self); (try have q2' := o' _ (List.mem_cons_of_mem _ List.mem_cons_self)); (try dsimp only [List.nil_append] at q1'); (try dsimp only [List.nil_append] at q2'); (try dsimp only [List.nil_append, List.cons_append] at N'); (try dsimp only); (try k_fold)))))
  (k_with "R35" => (k_here; k_dflt (refine' Spec.useP (text_of _ _ _ ?h1_q) ?k1_q ?k2_q ?k3_q ?k4_q ?k5_q ?kK_q ?kd_q ?ku_q ?_ ?kE_q; (case k1_q => k_asm); (case k2_q => k_asm); (case k3_q => k_asm); (case k4_q => k_asm); (case k5_q => k_asm); (case kK_q => first | exact rfl | assumption); (case kd_q => ktr_room); (case ku_q => ktr_units); (case kE_q => exact fun h => h.elim); (case h1_q => omega); k_whole; intro t' h' tk' F' N' e'; (try dsimp only); (try k_fold))))
  (k_with "R36" => (k_here; k_dflt (refine' Spec.useP (octets_of_hex _ _ _ _ ?h1_q ?h2_q ?h3_q) ?k1_q ?k2_q ?k3_q ?k4_q ?k5_q ?kK_q ?kd_q ?ku_q ?_ ?kE_q; (case k1_q => k_asm); (case k2_q => k_asm); (case k3_q => k_asm); (case k4_q => k_asm); (case k5_q => k_asm); (case kK_q => first | exact rfl | assumption); (case kd_q => ktr_room); (case ku_q => ktr_units); (case kE_q => exact fun h => h.elim); (case h1_q => assumption); (case h2_q => omega); (case h3_q => assumption); k_whole; intro t' h' tk' F' N' e'; (try dsimp only); (try k_fold))))
  (k_with "R37" => (k_here; k_dflt (refine' Spec.useP1 (wire_id _ _ _ _ _ ?h1_q ?h2_q) ?k1_q ?k2_q ?k3_q ?k4_q ?k5_q ?kK_q ?kd_q ?ku_q ?_ ?_; (case k1_q => k_asm); (case k2_q => k_asm); (case k3_q => k_asm); (case k4_q => k_asm); (case k5_q => k_asm); (case kK_q => first | exact rfl | assumption); (case kd_q => ktr_room); (case ku_q => ktr_units); (case h1_q => (unfold sliceL; rw [List.length_take, List.length_drop]; omega)); (case h2_q => omega); rotate_left; (intro hb' e' t' vs' h' tk' R' U'; have W' := OnWay.mk ⟨_, _, [], (by k_asm), News.nil, R', U'⟩; clear R' U'; (try dsimp only)); rotate_right; ((intro hpl' t' h' tk' F' N' e'; (try dsimp only); (try k_fold))))))
  (k_with "R38" => (k_here; k_dflt (refine' Spec.use0 (number_by _ _ _ _ ?h1_q) ?k1_q ?k2_q ?k3_q ?k4_q ?k5_q ?kK_q ?kd_q ?ku_q ?_ ?kE_q; (case k1_q => k_asm); (case k2_q => k_asm); (case k3_q => k_asm); (case k4_q => k_asm); (case k5_q => k_asm); (case kK_q => first | exact rfl | assumption); (case kd_q => ktr_room); (case ku_q => ktr_units); (case kE_q => exact fun h => h.elim); (case h1_q => omega); k_whole; intro v' h' tk' n' ok' F' N' o' e'; (obtain ⟨e1', hnm'⟩ := ok') <;> (subst e1'; (try subst e2'); (try have q1' := o' _ List.mem_cons_self); (try have q2' := o' _ (List.mem_cons_of_mem _ List.mem_cons_self)); (try dsimp only [List.nil_append] at q1'); (try dsimp only [List.nil_append] at q2'); (try dsimp only [List.nil_append, List.cons_append] at N'); (try dsimp only); (try k_fold)))))
  (k_with "R39" => (k_here; k_dflt (refine' Spec.useP (fig _ _ _ ?h1_q) ?k1_q ?k2_q ?k3_q ?k4_q ?k5_q ?kK_q ?kd_q ?ku_q ?_ ?kE_q; (case k1_q => k_asm); (case k2_q => k_asm); (case k3_q => k_asm); (case k4_q => k_asm); (case k5_q => k_asm); (case kK_q => first | exact rfl | assumption); (case kd_q => ktr_room); (case ku_q => ktr_units); (case kE_q => exact fun h => h.elim); (case h1_q => exact plainC_out (by assumption)); k_whole; intro t' h' tk' F' N' e'; (try dsimp only); (try k_fold))))
  (k_with "R40" => (k_here; (refine eq_bytes_int ?_)))
  (k_with "R41" => (k_here; (refine ne_bytes_int ?_)))
  (k_with "R42" => (repeat (first | exact sub_nil_J | refine sub_cons_J (by first | k_mem | exact List.mem_cons_self | exact List.mem_cons_of_mem _ List.mem_cons_self | exact List.mem_cons_of_mem _ (List.mem_cons_of_mem _ List.mem_cons_self) | exact List.mem_cons_of_mem _ (List.mem_cons_of_mem _ (List.mem_cons_of_mem _ List.mem_cons_self))) ?_)))
  (k_with "R43" => (dsimp only [WhlPost]; (try ((with_reducible show WhlRest _ _ _ _ _ _ _ _ _ _ _); refine stop ?_))))
  (k_with "R44" => (first | (refine WhlIf.yes (decide_eq_true (by simp only [List.size_toArray]; omega)) ?_) | (refine WhlIf.no (decide_eq_false (by simp only [List.size_toArray]; omega)) ?_) | ((refine WhlIf.split ?_ ?_) <;> intro _)))
  (k_with "R45" => (k_here; k_dflt (refine' Spec.use0 (line_flush _ _ _ _ _ _ _ ?h1_q ?h2_q ?h3_q) ?k1_q ?k2_q ?k3_q ?k4_q ?k5_q ?kK_q ?kd_q ?ku_q ?_ ?kE_q; (case k1_q => k_asm); (case k2_q => k_asm); (case k3_q => k_asm); (case k4_q => k_asm); (case k5_q => k_asm); (case kK_q => first | exact rfl | assumption); (case kd_q => ktr_room); (case ku_q => ktr_units); (case kE_q => exact fun h => h.elim); (case h1_q => assumption); (case h2_q => assumption); (case h3_q => assumption); k_whole; intro v' h' tk' n' ok' F' N' o' e'; (obtain ⟨D', t1', t2', e1', e2'⟩ := ok') <;> (subst e1'; (try subst e2'); (try have q1' := o' _ List.mem_cons_self); (try have q2' := o' _ (List.mem_cons_of_mem _ List.mem_cons_self)); (try dsimp only [List.nil_append] at q1'); (try dsimp only [List.nil_append] at q2'); (try dsimp only [List.nil_append, List.cons_append] at N'); (try dsimp only); (try k_fold)))))
  (k_with "R46" => (k_here; k_dflt (refine' Spec.use0 (line_row _ _ _ _ _ _ _ _ ?h1_q ?h2_q ?h3_q ?h4_q) ?k1_q ?k2_q ?k3_q ?k4_q ?k5_q ?kK_q ?kd_q ?ku_q ?_ ?kE_q; (case k1_q => k_asm); (case k2_q => k_asm); (case k3_q => k_asm); (case k4_q => k_asm); (case k5_q => k_asm); (case kK_q => first | exact rfl | assumption); (case kd_q => ktr_room); (case ku_q => ktr_units); (case kE_q => exact fun h => h.elim); (case h1_q => assumption); (case h2_q => assumption); (case h3_q => assumption); (case h4_q => assumption); k_whole; intro v' h' tk' n' ok' F' N' o' e'; (obtain ⟨D', t1', t2', e1', e2'⟩ := ok') <;> (subst e1'; (try subst e2'); (try have q1' := o' _ List.mem_cons_self); (try have q2' := o' _ (List.mem_cons_of_mem _ List.mem_cons_self)); (try dsimp only [List.nil_append] at q1'); (try dsimp only [List.nil_append] at q2'); (try dsimp only [List.nil_append, List.cons_append] at N'); (try dsimp only); (try k_fold)))))
  (k_with "R47" => (k_dflt (refine' code_defH ?k1_q ?k2_q ?k3_q ?k4_q ?k5_q ?kA_q ?kF_q ?kK_q ?k6_q ?k7_q ?k8_q ?k9_q ?kB_q ?_ ?c2_q ?c3_q ?c4_q ?c5_q; (case kA_q => exact rfl); (case kF_q => exact rfl); (case kK_q => first | exact rfl | assumption); (case k1_q => k_asm); (case k2_q => k_asm); (case k3_q => k_asm); (case k4_q => k_asm); (case k5_q => k_asm); (case k6_q => k_is); (case k7_q => k_is); (case k8_q => ktr_room); (case k9_q => first | exact BindsTo.of_eq rfl | (refine' binds_K (Frag.In.keeps (by assumption) (Fr.keep (by assumption))) rfl ?o9_q ?s9_q ?a9_q ?b9_q; (case o9_q => k_is); (case s9_q => exact rfl); (case a9_q => exact rfl); (case b9_q => exact rfl))); (case c5_q => decide); (case kB_q => exact locs rfl); (case c2_q => exact rfl); (case c3_q => exact rfl); (case c4_q => exact rfl); k_whole; intro g' L' h' FG' m9 ev9 ak9 F' N' B' X' T' kG'; (try dsimp only); (try k_lift B'); (try k_fold))))
  (k_with "R48" => (k_here; k_dflt (refine' call_cls ?k1_q ?k2_q ?k3_q ?k4_q ?k5_q ?k6_q ?_; (case k1_q => k_asm); (case k2_q => k_asm); (case k3_q => k_asm); (case k4_q => k_is); (case k5_q => k_is); (case k6_q => k_is); k_whole; intro x' d' h' F' N' l1 l2; (try k_lt l1); (try k_lt2 l2); (try k_sweep)); walk_at "my code"))
  (k_with "R49" => (first | exact ne_new (by with_reducible assumption) (by walk_at "mem map") | exact new_ne (by with_reducible assumption) (by walk_at "mem map") | assumption | exact Ne.symm (by assumption) | exact Off.neD_J (by assumption) (by walk_at "mem map") | exact (Off.neD_J (by assumption) (by walk_at "mem map")).symm | exact Nat.ne_of_lt (by assumption) | exact Nat.ne_of_gt (by assumption) | walk_at "cj"))
  (k_with "R50" => (k_here; (with_reducible refine find_method ?_)))
  (k_with "R51" => (k_here; (show wpAny _ _ (call (Value.builtin "bytes.find") [Value.bytes _ _, Value.bytes _ _]) _ _ _); (refine find_B _ (by first | assumption | (simp only [List.size_toArray, List.length_cons, List.length_nil]; omega)) (by assumption) ?_)))
  (k_with "R52" => (k_here; (refine eq_known (by assumption) ?_)))
  (k_with "R53" => (k_here; k_dflt (refine' Spec.useP (text_of _ _ _ _ _ ?h1_q) ?k1_q ?k2_q ?k3_q ?k4_q ?k5_q ?kK_q ?kd_q ?ku_q ?_ ?kE_q; (case k1_q => k_asm); (case k2_q => k_asm); (case k3_q => k_asm); (case k4_q => k_asm); (case k5_q => k_asm); (case kK_q => first | exact rfl | assumption); (case kd_q => ktr_room); (case ku_q => ktr_units); (case kE_q => exact fun h => h.elim); (case h1_q => omega); k_whole; intro t' h' tk' F' N' e'; (try dsimp only); (try k_fold))))
  (k_with "R54" => (k_here; k_dflt (refine' Spec.useP1 (wire_id _ _ _ _ _ ?h1_q ?h2_q) ?k1_q ?k2_q ?k3_q ?k4_q ?k5_q ?kK_q ?kd_q ?ku_q ?_ ?_; (case k1_q => k_asm); (case k2_q => k_asm); (case k3_q => k_asm); (case k4_q => k_asm); (case k5_q => k_asm); (case kK_q => first | exact rfl | assumption); (case kd_q => ktr_room); (case ku_q => ktr_units); (case h1_q => assumption); (case h2_q => omega); rotate_left; (intro hb' e' t' vs' h' tk' R' U'; have W' := OnWay.mk ⟨_, _, [], (by k_asm), News.nil, R', U'⟩; clear R' U'; (try dsimp only)); rotate_right; ((intro hpl' t' h' tk' F' N' e'; (try dsimp only); (try k_fold))))))
  (k_with "R55" => (k_here; k_dflt (refine' set_dict ?k1_q ?k2_q ?k3_q ?k4_q ?k5_q ?k6_q ?k7_q ?k8_q ?k9_q ?k10_q ?k11_q ?k12_q ?k13_q ?_; (case k1_q => k_asm); (case k2_q => k_asm); (case k3_q => k_asm); (case k4_q => k_inst); (case k5_q => exact rfl); (case k6_q => k_is); (case k7_q => k_is); (case k8_q => k_is); (case k9_q => k_is); (case k10_q => exact rfl); (case k11_q => exact (rfl : _ = (([ent _ "wants" _ _, ent _ "words" _ _, ent _ "shallow" _ _, ent _ "depth" _ _, ent _ "since" _ _, ent _ "talk" _ _, ent _ "is_done" _ _] : List DictEntry), _))); (case k12_q => k_upd); (case k13_q => exact Nat.le_of_ble_eq_true rfl); k_whole; intro h' F' N'; (try k_sweep))))
  (k_with "R56" => (k_here; k_dflt (refine' Spec.use0 (number_of _ _ _ ?h1_q) ?k1_q ?k2_q ?k3_q ?k4_q ?k5_q ?kK_q ?kd_q ?ku_q ?_ ?kE_q; (case k1_q => k_asm); (case k2_q => k_asm); (case k3_q => k_asm); (case k4_q => k_asm); (case k5_q => k_asm); (case kK_q => first | exact rfl | assumption); (case kd_q => ktr_room); (case ku_q => ktr_units); (case kE_q => exact fun h => h.elim); (case h1_q => assumption); k_whole; intro v' h' tk' n' ok' F' N' o' e'; (obtain ⟨e1', ⟨n2', t', hnn', e2'⟩ | ⟨hnn', e2'⟩⟩ := ok') <;> (subst e1'; (try subst e2'); (try have q1' := o' _ List.mem_cons_self); (try have q2' := o' _ (List.mem_cons_of_mem _ List.mem_cons_self)); (try dsimp only [List.nil_append] at q1'); (try dsimp only [List.nil_append] at q2'); (try dsimp only [List.nil_append, List.cons_append] at N'); (try dsimp only); (try k_fold)))))
  (k_with "R57" => (k_here; walk_at "split"; simp only [List.cons_append, List.nil_append]; (with_reducible show wpAny _ _ (call (Value.builtin _) [Value.ref _, Value.ref _]) _ _ _); k_dflt (refine' kxn_extend ?F_q ?N_q ?b_q ?e_q ?U_q ?d_q ?z_q ?y_q ?_; (case F_q => k_asm); (case N_q => k_asm); (case b_q => k_mem); (case e_q => exact rfl); (case U_q => k_upd); (case d_q => exact no_long (by assumption)); (case z_q => exact ext_z (by assumption)); (case y_q => exact ext_y (by assumption))); intro h' F' N'; (try dsimp only at N'); (try k_sweep)))
  (k_with "R58" => (k_here; k_dflt (refine' Spec.useP (text_of_as _ _ _ ?h1_q _ ?h2_q) ?k1_q ?k2_q ?k3_q ?k4_q ?k5_q ?kK_q ?kd_q ?ku_q ?_ ?kE_q; (case k1_q => k_asm); (case k2_q => k_asm); (case k3_q => k_asm); (case k4_q => k_asm); (case k5_q => k_asm); (case kK_q => first | exact rfl | assumption); (case kd_q => ktr_room); (case ku_q => ktr_units); (case kE_q => exact fun h => h.elim); (case h1_q => assumption); (case h2_q => assumption); k_whole; intro t' h' tk' F' N' e'; (try dsimp only); (try k_fold))))
  (k_with "R59" => (k_here; (with_reducible show wpAny _ _ (call (Value.builtin "len") [Value.ref _]) _ _ _); k_dflt (refine' kun_lenL ?k1_q ?k2_q ?k3_q ?_; (case k1_q => exact News.isList (by k_asm) (by k_mem)); (case k2_q => exact rfl); (case k3_q => (simp only [List.size_toArray, Array.size_push]; omega)); k_whole)))
  (k_with "R60" => (k_here; (with_reducible show wpAny _ _ (subscriptTail _ _ (Value.str _ _) (Value.int _ _)) _ _ _); refine stop ?_))
  (k_with "R61" => (k_here; simp only [List.cons_append, List.nil_append]; (with_reducible show wpAny _ _ (call (Value.builtin "str.split") _) _ _ _); (refine KSpl.split1 (by k_asm) (by k_asm) (by decide) ?_ (by assumption)); (intro D' l' h' k' e' a' F' N' l1); (try k_lt l1)))
  (k_with "R62" => (k_here; (refine ne_known (by assumption) ?_)))
  (k_with "R63" => (first | assumption | exact Ap.h (by assumption) | exact Ap.s (by assumption) | exact Ne.symm (by assumption) | exact Off.neD_J (by assumption) (by simp) | exact (Off.neD_J (by assumption) (by simp)).symm))
  (k_with "R64" => ((rename Fr _ _ _ _ => lF9); (rename News _ _ _ _ => lN9); revert lF9 lN9; (repeat (rename Fr _ _ _ _ => z9; clear z9)); (repeat (rename News _ _ _ _ => z9; clear z9)); (repeat (rename InElt _ _ => z9; clear z9)); (repeat ((with_reducible rename _ ∧ _ => z9); have z8 := z9.1; have z7 := z9.2; clear z9)); (repeat (rename @Ne Nat _ _ => z9; have z6 := Ap.mk z9; clear z9)); intro lF9 lN9))
  (k_with "R65" => (k_here; k_dflt (refine' Spec.useP (text_of _ _ _ ?h1_q) ?k1_q ?k2_q ?k3_q ?k4_q ?k5_q ?kK_q ?kd_q ?ku_q ?_ ?kE_q; (case k1_q => k_asm); (case k2_q => k_asm); (case k3_q => k_asm); (case k4_q => k_asm); (case k5_q => k_asm); (case kK_q => first | exact rfl | assumption); (case kd_q => ktr_room); (case ku_q => ktr_units); (case kE_q => exact fun h => h.elim); (case h1_q => assumption); k_whole; intro t' h' tk' F' N' e'; (try dsimp only); (try k_fold))))
  (k_with "R66" => (first | exact ne_new (by with_reducible assumption) (by walk_at "mem map") | exact new_ne (by with_reducible assumption) (by walk_at "mem map") | assumption | exact Ap.h (by assumption) | exact Ap.s (by assumption) | exact Ne.symm (by assumption) | exact Off.neD_J (by assumption) (by walk_at "mem map") | exact (Off.neD_J (by assumption) (by walk_at "mem map")).symm | exact Nat.ne_of_lt (by assumption) | exact Nat.ne_of_gt (by assumption) | walk_at "cj"))
  (k_with "R67" => ((rename Fr _ _ _ _ => lF9); (rename News _ _ _ _ => lN9); revert lF9 lN9; (repeat (rename Fr _ _ _ _ => z9; clear z9)); (repeat (rename News _ _ _ _ => z9; clear z9)); (repeat (rename InElt _ _ => z9; clear z9)); (repeat ((with_reducible rename _ ∧ _ => z9); have z8 := z9.1; have z7 := z9.2; clear z9)); (repeat ((with_reducible rename @Ne Nat _ _ => z9); have z6 := Ap.mk z9; clear z9)); intro lF9 lN9))
  (k_with "R68" => (k_here; k_dflt (refine' eq_nil_no ?k1_q ?k2_q ?k3_q ?k4_q ?_; (case k1_q => exact News.isList (by k_asm) (by k_mem)); (case k2_q => exact News.isList (by k_asm) (by k_mem)); (case k3_q => ktr_units); (case k4_q => (simp; done)))))
  (k_with "R69" => (k_here; k_dflt (first | (refine' eq_nil_no ?k1_q ?k2_q ?k3_q ?k4_q ?_; (case k1_q => exact News.isList (by k_asm) (by k_mem)); (case k2_q => exact News.isList (by k_asm) (by k_mem)); (case k3_q => ktr_units); (case k4_q => (simp; done))) | (refine' eq_nil ?k1_q ?k2_q ?k3_q ?_; (case k1_q => exact News.isList (by k_asm) (by k_mem)); (case k2_q => exact News.isList (by k_asm) (by k_mem)); (case k3_q => ktr_units)))))
  (k_with "R70" => (k_here; (refine lt_known (by assumption) ?_)))
  (k_with "R71" => (first | (refine WhlIf.yes (by rfl) ?_) | (refine WhlIf.no (by rfl) ?_) | (refine WhlIf.yes (by assumption) ?_) | (refine WhlIf.no (by assumption) ?_) | ((refine WhlIf.split ?_ ?_) <;> intro _)))
  (k_with "R72" => (first | exact handed_opt (by assumption) | (simp only [handedIn]; done) | decide +kernel | rfl))
  (k_with "R73" => (k_here; (refine isnot_opt (by assumption) (by assumption) ?_)))
  (k_with "R74" => (k_here; (with_reducible show wpAny _ _ (subscriptTail _ _ (Value.ref _) (Value.int _ _)) _ _ _); k_dflt (refine item_last (News.isList (by k_asm) (by k_mem)) (by rfl) ?_)))
  (k_with "R75" => (k_here; (with_reducible show wpAny _ _ (call (Value.ref 192) _) _ _ _); refine stop ?_))
  (k_with "R76" => (k_here; (fail_if_success (rename Mark9 => zz9)); refine stop ?_))
  (k_with "R77" => (k_here; (with_reducible show wpAny _ _ (call (Value.builtin "len") [Value.ref _]) _ _ _); k_dflt (refine' kun_lenL ?k1_q ?k2_q ?k3_q ?_; (case k1_q => exact News.isList (by k_asm) (by k_mem)); (case k2_q => exact rfl); (case k3_q => (simp only [List.concat_eq_append, List.size_toArray, Array.size_push, List.length_append, List.length_cons, List.length_nil]; omega)); k_whole)))
  (k_with "R78" => (k_here; k_dflt (refine' Spec.useP (wire_rowB _ _ _ ?h1_q) ?k1_q ?k2_q ?k3_q ?k4_q ?k5_q ?kK_q ?kd_q ?ku_q ?_ ?kE_q; (case k1_q => k_asm); (case k2_q => k_asm); (case k3_q => k_asm); (case k4_q => k_asm); (case k5_q => k_asm); (case kK_q => first | exact rfl | assumption); (case kd_q => ktr_room); (case ku_q => ktr_units); (case kE_q => exact fun h => h.elim); (case h1_q => assumption); k_whole; intro t' h' tk' F' N' e'; (try dsimp only); (try k_fold))))
  (k_with "R79" => (k_here; k_dflt (refine' Spec.use0 (wire_told _ _ _ _ _ _ ?h1_q ?h2_q) ?k1_q ?k2_q ?k3_q ?k4_q ?k5_q ?kK_q ?kd_q ?ku_q ?_ ?_; (case k1_q => k_asm); (case k2_q => k_asm); (case k3_q => k_asm); (case k4_q => k_asm); (case k5_q => k_asm); (case kK_q => first | exact rfl | assumption); (case kd_q => ktr_room); (case ku_q => ktr_units); (case h1_q => assumption); (case h2_q => assumption); rotate_left; (intro hb' e' t' vs' h' tk' R' U'; have W' := OnWay.mk ⟨_, _, [], (by k_asm), News.nil, R', U'⟩; clear R' U'; (try dsimp only)); rotate_right; ((intro v' h' tk' n' ok' F' N' o' e'; (obtain ⟨e1', ⟨hh', hpl', t', e2'⟩ | ⟨hh', e2'⟩⟩ := ok') <;> (subst e1'; (try subst e2'); (try have q1' := o' _ List.mem_cons_self); (try have q2' := o' _ (List.mem_cons_of_mem _ List.mem_cons_self)); (try dsimp only [List.nil_append] at q1'); (try dsimp only [List.nil_append] at q2'); (try dsimp only [List.nil_append, List.cons_append] at N'); (try dsimp only); (try k_fold)))))))
  (k_with "R80" => (k_here; (with_reducible show wpAny _ _ (setAttr (Value.ref _) _ (Value.bool _)) _ _ _); (fail_if_success (rename List.Nodup _ => z9)); refine stop ?_))
  (k_with "R81" => (k_here; (with_reducible show wpAny _ _ (call (Value.ref 205) _) _ _ _); refine stop ?_))
  (k_with "R82" => (k_here; (with_reducible show wpAny _ _ (call (Value.ref 140) _) _ _ _); refine stop ?_))
  (k_with "R83" => (k_here; k_dflt (refine' Spec.use0 (read_pktsN _ _ _ _ ?h1_q ?h2_q) ?k1_q ?k2_q ?k3_q ?k4_q ?k5_q ?kK_q ?kd_q ?ku_q ?_ ?kE_q; (case k1_q => k_asm); (case k2_q => k_asm); (case k3_q => k_asm); (case k4_q => k_asm); (case k5_q => k_asm); (case kK_q => first | exact rfl | assumption); (case kd_q => ktr_room); (case ku_q => ktr_units); (case kE_q => exact fun h => h.elim); (case h1_q => assumption); (case h2_q => assumption); k_whole; intro v' h' tk' n' ok' F' N' o' e'; (obtain ⟨D', T', us', nn', t2', tb', hTD', e1', e2'⟩ := ok') <;> (subst e1'; (try subst e2'); (try have q1' := o' _ List.mem_cons_self); (try have q2' := o' _ (List.mem_cons_of_mem _ List.mem_cons_self)); (try dsimp only [List.nil_append] at q1'); (try dsimp only [List.nil_append] at q2'); (try dsimp only [List.nil_append, List.cons_append] at N'); (try dsimp only); (try k_fold)))))
  (k_with "R84" => (k_here; k_dflt (refine' eq_nil_kn ?k1_q ?k2_q ?k3_q ?k4_q ?_; (case k1_q => exact News.isList (by k_asm) (by k_mem)); (case k2_q => exact News.isList (by k_asm) (by k_mem)); (case k3_q => ktr_units); (case k4_q => assumption))))
  (k_with "R85" => (k_here; (with_reducible show wpAny _ _ (binaryOp Operator.Add (Value.str _ _) (Value.str _ _)) _ _ _); k_dflt (refine' add_S ?k1_q ?k2_q ?_; (case k1_q => first | assumption | exact Nat.le_of_ble_eq_true rfl); (case k2_q => first | assumption | exact Nat.le_of_ble_eq_true rfl)); intro _ _))
  (k_with "R86" => (k_here; (with_reducible show wpAny _ _ (call (Value.type "str") [Value.int _ _]) _ _ _); k_dflt (refine str_dec (by assumption) (by assumption) ?_)))
  (k_with "R87" => (k_here; (with_reducible refine join_method ?_)))
  (k_with "R88" => (k_here; simp only [List.cons_append, List.nil_append]; k_dflt (refine' join_B ?k1_q ?k2_q ?k3_q ?_; (case k1_q => exact News.isList (by k_asm) (by k_mem)); (case k2_q => assumption); (case k3_q => assumption)); intro _ _))
  (k_with "R89" => (k_here; k_dflt (refine' Spec.useP (octets_txt _ _ _ _ ?h1_q ?h2_q) ?k1_q ?k2_q ?k3_q ?k4_q ?k5_q ?kK_q ?kd_q ?ku_q ?_ ?kE_q; (case k1_q => k_asm); (case k2_q => k_asm); (case k3_q => k_asm); (case k4_q => k_asm); (case k5_q => k_asm); (case kK_q => first | exact rfl | assumption); (case kd_q => ktr_room); (case ku_q => ktr_units); (case kE_q => exact fun h => h.elim); (case h1_q => assumption); (case h2_q => omega); k_whole; intro t' h' tk' F' N' e'; (try dsimp only); (try k_fold))))
  (k_with "R90" => (k_here; k_dflt (refine' Spec.useP (octets_nat _ _ _ ?h1_q) ?k1_q ?k2_q ?k3_q ?k4_q ?k5_q ?kK_q ?kd_q ?ku_q ?_ ?kE_q; (case k1_q => k_asm); (case k2_q => k_asm); (case k3_q => k_asm); (case k4_q => k_asm); (case k5_q => k_asm); (case kK_q => first | exact rfl | assumption); (case kd_q => ktr_room); (case ku_q => ktr_units); (case kE_q => exact fun h => h.elim); (case h1_q => omega); k_whole; intro t' h' tk' F' N' e'; (try dsimp only); (try k_fold))))
  (k_with "R91" => (k_here; k_dflt (refine' Spec.useP (pktB _ _ _ ?h1_q) ?k1_q ?k2_q ?k3_q ?k4_q ?k5_q ?kK_q ?kd_q ?ku_q ?_ ?kE_q; (case k1_q => k_asm); (case k2_q => k_asm); (case k3_q => k_asm); (case k4_q => k_asm); (case k5_q => k_asm); (case kK_q => first | exact rfl | assumption); (case kd_q => ktr_room); (case ku_q => ktr_units); (case kE_q => exact fun h => h.elim); (case h1_q => ((try simp only [List.length_append, List.length_cons, List.length_nil]); omega)); k_whole; intro t' h' tk' F' N' e'; (try dsimp only); (try k_fold))))
  (k_with "R92" => (k_here; k_dflt (refine' Spec.useP (pkt0 _ _) ?k1_q ?k2_q ?k3_q ?k4_q ?k5_q ?kK_q ?kd_q ?ku_q ?_ ?kE_q; (case k1_q => k_asm); (case k2_q => k_asm); (case k3_q => k_asm); (case k4_q => k_asm); (case k5_q => k_asm); (case kK_q => first | exact rfl | assumption); (case kd_q => ktr_room); (case ku_q => ktr_units); (case kE_q => exact fun h => h.elim); k_whole; intro t' h' tk' F' N' e'; (try dsimp only); (try k_fold))))
  (k_with "R93" => (k_here; k_dflt (refine' Spec.useP (wire_hex _ _ _ ?h1_q) ?k1_q ?k2_q ?k3_q ?k4_q ?k5_q ?kK_q ?kd_q ?ku_q ?_ ?kE_q; (case k1_q => k_asm); (case k2_q => k_asm); (case k3_q => k_asm); (case k4_q => k_asm); (case k5_q => k_asm); (case kK_q => first | exact rfl | assumption); (case kd_q => ktr_room); (case ku_q => ktr_units); (case kE_q => exact fun h => h.elim); (case h1_q => assumption); k_whole; intro t' h' tk' F' N' e'; (try dsimp only); (try k_fold))))
  (k_with "R94" => (refine wpAny_call ?_; k_dflt (refine' code_cellsG ?k1_q ?k2_q ?k3_q ?k4_q ?k5_q ?kA_q ?kF_q ?kK_q ?k6_q ?k7_q ?k8_q ?k9_q ?kB_q ?kD_q ?_ ?c2_q ?c3_q ?c4_q; (case kA_q => exact rfl); (case kF_q => exact rfl); (case kK_q => assumption); (case k1_q => k_asm); (case k2_q => k_asm); (case k3_q => k_asm); (case k4_q => k_asm); (case k5_q => k_asm); (case k6_q => k_is); (case k7_q => k_is); (case k8_q => ktr_room); (case k9_q => first | exact BindsTo.of_eq rfl | (refine' binds_K (Frag.In.keeps (by assumption) (Fr.keep (by assumption))) rfl ?o9_q ?s9_q ?a9_q ?b9_q; (case o9_q => k_is); (case s9_q => exact rfl); (case a9_q => exact rfl); (case b9_q => exact rfl))); (case kB_q => exact rfl); (case kD_q => decide +kernel); (case c2_q => exact rfl); (case c3_q => exact rfl); (case c4_q => exact rfl); k_whole; intro g' L' h' tk' cells' FG' F' N' Y' B' X' T' l1 kG'; (try k_lt l1); k_cells Y'; (try dsimp only [List.cons_append, List.nil_append] at N'); (try dsimp only); (try k_lift B'))))
  (k_with "R95" => (first | exact ne_new (by with_reducible assumption) (by walk_at "mem map") | exact new_ne (by with_reducible assumption) (by walk_at "mem map") | exact ne_new1 (by with_reducible assumption) (by walk_at "mem map") | exact new1_ne (by with_reducible assumption) (by walk_at "mem map") | exact ne_new2 (by with_reducible assumption) (by walk_at "mem map") | exact new2_ne (by with_reducible assumption) (by walk_at "mem map")))
  (k_with "R96" => (k_here; (with_reducible show wpAny _ _ (call (Value.builtin "len") [Value.str (strOf _) _]) _ _ _); (refine len_S (by omega) ?_)))
  (k_with "R97" => (k_here; k_dflt (refine ListComp_Tp (F₀ := by k_asm) (by with_unfolding_all rfl) (by decide) (by rfl) (by decide) (by rfl) ?_)))
  (k_with "R98" => (k_here; k_dflt (refine' Spec.useP (law_octets_txt _ _ _ _ ?h1_q ?h2_q) ?k1_q ?k2_q ?k3_q ?k4_q ?k5_q ?kK_q ?kd_q ?ku_q ?_ ?kE_q; (case k1_q => k_asm); (case k2_q => k_asm); (case k3_q => k_asm); (case k4_q => k_asm); (case k5_q => k_asm); (case kK_q => first | exact rfl | assumption); (case kd_q => ktr_room); (case ku_q => ktr_units); (case kE_q => exact fun h => h.elim); (case h1_q => assumption); (case h2_q => (rw [List.length_append]; omega)); k_whole; intro t' h' tk' F' N' e'; (try dsimp only); (try k_fold))))
  (k_with "R99" => (k_here; k_dflt (refine' ne_nil_kn ?k1_q ?k2_q ?k3_q ?k4_q ?_; (case k1_q => exact News.isList (by k_asm) (by k_mem)); (case k2_q => exact News.isList (by k_asm) (by k_mem)); (case k3_q => ktr_units); (case k4_q => assumption))))
  (k_with "R100" => (k_here; simp only [List.cons_append, List.nil_append]; k_dflt (refine' pop_0 ?F_q ?N_q ?U_q ?z_q ?_; (case F_q => k_asm); (case N_q => k_asm); (case U_q => k_upd); (case z_q => (rw [List.length_cons]; omega))); intro h' F' N'; (try dsimp only [List.nil_append, List.cons_append] at N')))
  (k_with "R101" => (refine wpAny_call ?_; k_dflt (refine' enterT ?k1_q ?k2_q ?k3_q ?k5_q ?kA_q ?k6_q ?k7_q ?k8_q ?k9_q ?kB_q ?_ ?kK_q ?c2_q ?c3_q ?c4_q ?c5_q; (case kA_q => exact rfl); (case kK_q => assumption); (case k1_q => k_asm); (case k2_q => k_asm); (case k3_q => k_asm); (case k5_q => k_asm); (case k6_q => k_is); (case k7_q => k_is); (case k8_q => ktr_room); (case k9_q => first | exact BindsTo.of_eq rfl | (refine' binds_K (Frag.In.keeps (by assumption) (Fr.keep (by assumption))) rfl ?o9_q ?s9_q ?a9_q ?b9_q; (case o9_q => k_is); (case s9_q => exact rfl); (case a9_q => exact rfl); (case b9_q => exact rfl))); (case c5_q => decide); (case kB_q => exact locs rfl); (case c2_q => exact rfl); (case c3_q => exact rfl); (case c4_q => exact rfl); k_whole; intro g' L' h' eg' FG' F' B' X' T' D'; have N' : News g' L' h' [] := News.nil; (try dsimp only); (try k_lift B'); (try k_fold))))
  (k_with "R102" => (k_here; k_dflt (refine wpAny_Try_except ?_)))
  (k_with "R103" => (k_here; (with_reducible show wpAny _ _ (call (Value.type _) [Value.ref _]) _ _ _); k_dflt (refine' copy_L ?k1_q ?k2_q ?k3_q ?z_q ?_; (case k1_q => k_asm); (case k2_q => k_asm); (case k3_q => k_mem); (case z_q => omega)); intro D' c' h' F' N' l1; (try k_lt l1); (try k_sweep)))
  (k_with "R104" => (first | assumption | (simp only [handedIn]; done) | decide +kernel | rfl))
  (k_with "R105" => (k_here; k_dflt (refine' use_read ?h0_q ?h1_q ?h2_q ?h3_q ?h4_q ?h5_q ?h6_q ?h7_q ?h8_q ?k1_q ?k2_q ?k3_q ?k4_q ?k5_q ?kK_q ?kd_q ?ku_q ?kR_q ?kE_q; (case h0_q => assumption); (case h1_q => assumption); (case h2_q => assumption); (case h3_q => assumption); (case h4_q => assumption); (case h5_q => assumption); (case h6_q => assumption); (case h7_q => assumption); (case h8_q => assumption); (case k1_q => k_asm); (case k2_q => k_asm); (case k3_q => k_asm); (case k4_q => k_asm); (case k5_q => k_asm); (case kK_q => first | exact rfl | assumption); (case kd_q => ktr_room); (case ku_q => ktr_units); (case' kE_q => (intro hb' e' t' vs' h' tk' R' U'; have W' := OnWay.mk ⟨_, _, [], (by k_asm), News.nil, R', U'⟩; clear R' U'; (try dsimp only))); (case' kR_q => (intro x' st' tk9' done' d' lw' lo' ls' lt' ta' tb' tc' td' te' tf' tg' nd' nw' no' ns' nt' dv' sv' uw' uo' us' ut' h' tk' hrd' hha' hhb' hl1' hl2' hl3' hl4' hnd' hR' hO' hS' hD' hN' hT' F' N'; (try dsimp only); (try k_fold))))))
  (k_with "R106" => (k_here; k_dflt (refine' Spec.use0 (read_noneB _ _ _ _ _ _ ?h1_q ?h2_q) ?k1_q ?k2_q ?k3_q ?k4_q ?k5_q ?kK_q ?kd_q ?ku_q ?_ ?_; (case k1_q => k_asm); (case k2_q => k_asm); (case k3_q => k_asm); (case k4_q => k_asm); (case k5_q => k_asm); (case kK_q => first | exact rfl | assumption); (case kd_q => ktr_room); (case ku_q => ktr_units); (case h1_q => assumption); (case h2_q => assumption); rotate_left; (intro hb' e' t' vs' h' tk' R' U'; have W' := OnWay.mk ⟨_, _, [], (by k_asm), News.nil, R', U'⟩; clear R' U'; (try dsimp only)); rotate_right; ((intro v' h' tk' n' ok' F' N' o' e'; (obtain ⟨hfal', e1', e2'⟩ := ok') <;> (subst e1'; (try subst e2'); (try have q1' := o' _ List.mem_cons_self); (try have q2' := o' _ (List.mem_cons_of_mem _ List.mem_cons_self)); (try dsimp only [List.nil_append] at q1'); (try dsimp only [List.nil_append] at q2'); (try dsimp only [List.nil_append, List.cons_append] at N'); (try dsimp only); (try k_fold)))))))
  (k_with "R107" => (k_dflt (refine LCg.CompEnd.intro (by k_asm) (by k_asm) _ (fun p hp => hp) (by assumption) (by first | exact .inr ⟨_, by k_mem, rfl, _, rfl⟩ | exact ⟨_, _, by k_mem, rfl, rfl⟩ | trivial) ⟨rfl, ?_⟩)))
  (k_with "R108" => (k_here; (with_reducible show wpAny _ _ (binaryOp Operator.Add (Value.str _ _) (Value.str _ _)) _ _ _); (with_reducible refine' add_S ?k1_q ?k2_q ?_); k_dflt ((case k1_q => first | assumption | exact Nat.le_of_ble_eq_true rfl); (case k2_q => first | assumption | exact Nat.le_of_ble_eq_true rfl)); intro _ _))
  (k_with "R109" => (k_here; (with_reducible show wpAny _ _ (binaryOp _ (Value.ref _) (Value.ref _)) _ _ _); k_dflt (refine' cat_L ?F_q ?N_q ?a_q ?b_q ?z_q ?_; (case F_q => k_asm); (case N_q => k_asm); (case a_q => k_mem); (case b_q => k_mem); (case z_q => ((try simp only [List.length_append, List.length_cons, List.length_nil]); omega))); intro D' h' F' N' l1; (try k_lt l1); (try k_sweep)))
  (k_with "R110" => (k_here; (with_reducible show wpAny _ _ (subscriptTail _ _ (Value.ref _) (Value.int _ _)) _ _ _); k_dflt (refine item_at (News.isList (by k_asm) (by k_mem)) (by omega) (by omega) (by rfl) ?_)))
  (k_with "R111" => (k_here; k_dflt (refine LCg.ListComp_U (F₀ := by k_asm) (by with_unfolding_all rfl) (by decide) (by rfl) (by decide) (by rfl) ?_)))
  (k_with "R112" => (k_here; k_dflt (refine' Spec.useP (law_hexB _ _ _ ?h1_q) ?k1_q ?k2_q ?k3_q ?k4_q ?k5_q ?kK_q ?kd_q ?ku_q ?_ ?kE_q; (case k1_q => k_asm); (case k2_q => k_asm); (case k3_q => k_asm); (case k4_q => k_asm); (case k5_q => k_asm); (case kK_q => first | exact rfl | assumption); (case kd_q => ktr_room); (case ku_q => ktr_units); (case kE_q => exact fun h => h.elim); (case h1_q => assumption); k_whole; intro t' h' tk' F' N' e'; (try dsimp only); (try k_fold))))
  (k_with "R113" => (first | exact ne_new (by with_reducible assumption) (by walk_at "mem map") | exact new_ne (by with_reducible assumption) (by walk_at "mem map") | assumption | exact Ap.h (by assumption) | exact Ap.s (by assumption) | exact Nat.ne_of_lt (by assumption) | exact Nat.ne_of_gt (by assumption) | exact Ne.symm (by assumption) | exact Off.neD_J (by assumption) (by walk_at "mem map") | exact (Off.neD_J (by assumption) (by walk_at "mem map")).symm | exact Nat.ne_of_lt (by assumption) | exact Nat.ne_of_gt (by assumption) | walk_at "cj"))
  (k_with "R114" => (first | exact Del.head _ | exact Del.tail (by walk_at "del")))
  (k_with "R115" => (first | (with_reducible refine wpAny_Assign_Subscript ?_ ?_; rotate_left; with_unfolding_all rfl) | (refine wpAny_Assign_Name ?_)))
  (k_with "R116" => (walk_at "tidy"; (repeat ((with_reducible rename Kept _ _ _ _ => z9); clear z9)); (repeat ((with_reducible rename IsRange _ _ _ _ _ _ _ _ => z9); clear z9)); (repeat ((with_reducible rename ∀ (_ : Addr) (_ : Obj), _ → _ => z9); clear z9))))
  (k_with "R117" => (k_here; (with_reducible show wpAny _ _ (binaryOp _ (Value.ref _) (Value.ref _)) _ _ _); k_dflt (refine' cat_L ?F_q ?N_q ?a_q ?b_q ?z_q ?_; (case F_q => k_asm); (case N_q => k_asm); (case a_q => k_mem); (case b_q => k_mem); (case z_q => ((try simp only [List.length_append, List.length_cons, List.length_nil]); omega))); intro D' h' F' N' l1; (try k_lt l1)))
  (k_with "R118" => (k_here; (with_reducible show wpAny _ _ (call (Value.type _) [Value.ref _]) _ _ _); k_dflt (refine' copy_L ?k1_q ?k2_q ?k3_q ?z_q ?_; (case k1_q => k_asm); (case k2_q => k_asm); (case k3_q => k_mem); (case z_q => omega)); intro D' c' h' F' N' l1; (try k_lt l1)))
  (k_with "R119" => ((with_reducible rename Fr _ _ _ _ => lF9); (with_reducible rename News _ _ _ _ => lN9); revert lF9 lN9; (repeat ((with_reducible rename Fr _ _ _ _ => z9); clear z9)); (repeat ((with_reducible rename News _ _ _ _ => z9); clear z9)); (repeat ((with_reducible rename InElt _ _ => z9); clear z9)); (repeat ((with_reducible rename _ ∧ _ => z9); have z8 := z9.1; have z7 := z9.2; clear z9)); (repeat ((with_reducible rename @Ne Nat _ _ => z9); have z6 := Ap.mk z9; clear z9)); intro lF9 lN9))
  (k_with "R120" => (first | assumption | exact sep_nil | exact sep_cons (by k_ne) (by walk_at "sep")))
  (k_with "R121" => (k_here; (with_reducible show wpAny _ _ (call (Value.ref 221) _) _ _ _); walk_at "tidy"; k_dflt (refine' use_draw ?hD_q ?h1_q ?h2_q ?hne_q ?k1_q ?k2_q ?k3_q ?k4_q ?k5_q ?kK_q ?kd_q ?ku_q ?D1_q ?D2_q ?s1_q ?s2_q ?_; (case hD_q => assumption); (case h1_q => decide); (case h2_q => decide); (case hne_q => k_ne); (case k1_q => k_asm); (case k2_q => k_asm); (case k3_q => k_asm); (case k4_q => k_asm); (case k5_q => k_asm); (case kK_q => first | exact rfl | assumption); (case kd_q => ktr_room); (case ku_q => ktr_units); (case D1_q => walk_at "del"); (case D2_q => walk_at "del"); (case s1_q => walk_at "sep"); (case s2_q => walk_at "sep"); k_whole; intro r' t' h' tk' mx' tm' o' us' ns' nn' hr0' hr1' hD' F' N' hsa' hsb'; (try dsimp only); (try k_fold))))
  (k_with "R122" => (k_here; (with_reducible show wpAny _ _ (setItem (Value.ref _) (Value.str (PySem.Str.ofString "wants") _) _) _ _ _); k_dflt (refine' set_w ?yF_q ?yN_q ?yU_q ?yd_q sto1 ?yz_q ?_; (case yF_q => k_asm); (case yN_q => k_asm); (case yd_q => k_asm); (case yU_q => k_updF); (case yz_q => exact Nat.le_of_ble_eq_true rfl)); intro h' o' F' N' hd'; (try dsimp only at N')))
  (k_with "R123" => (k_here; (with_reducible show wpAny _ _ (setItem (Value.ref _) (Value.str (PySem.Str.ofString "words") _) _) _ _ _); k_dflt (refine' set_w ?yF_q ?yN_q ?yU_q ?yd_q sto2 ?yz_q ?_; (case yF_q => k_asm); (case yN_q => k_asm); (case yd_q => k_asm); (case yU_q => k_updF); (case yz_q => exact Nat.le_of_ble_eq_true rfl)); intro h' o' F' N' hd'; (try dsimp only at N')))
  (k_with "R124" => (k_here; (with_reducible show wpAny _ _ (setItem (Value.ref _) (Value.str (PySem.Str.ofString "shallow") _) _) _ _ _); k_dflt (refine' set_w ?yF_q ?yN_q ?yU_q ?yd_q sto3 ?yz_q ?_; (case yF_q => k_asm); (case yN_q => k_asm); (case yd_q => k_asm); (case yU_q => k_updF); (case yz_q => exact Nat.le_of_ble_eq_true rfl)); intro h' o' F' N' hd'; (try dsimp only at N')))
  (k_with "R125" => (k_here; (with_reducible show wpAny _ _ (setItem (Value.ref _) (Value.str (PySem.Str.ofString "depth") _) _) _ _ _); k_dflt (refine' set_w ?yF_q ?yN_q ?yU_q ?yd_q sto4 ?yz_q ?_; (case yF_q => k_asm); (case yN_q => k_asm); (case yd_q => k_asm); (case yU_q => k_updF); (case yz_q => exact Nat.le_of_ble_eq_true rfl)); intro h' o' F' N' hd'; (try dsimp only at N')))
  (k_with "R126" => (k_here; (with_reducible show wpAny _ _ (setItem (Value.ref _) (Value.str (PySem.Str.ofString "since") _) _) _ _ _); k_dflt (refine' set_w ?yF_q ?yN_q ?yU_q ?yd_q sto5 ?yz_q ?_; (case yF_q => k_asm); (case yN_q => k_asm); (case yd_q => k_asm); (case yU_q => k_updF); (case yz_q => exact Nat.le_of_ble_eq_true rfl)); intro h' o' F' N' hd'; (try dsimp only at N')))
  (k_with "R127" => (k_here; (with_reducible show wpAny _ _ (setItem (Value.ref _) (Value.str (PySem.Str.ofString "talk") _) _) _ _ _); k_dflt (refine' set_w ?yF_q ?yN_q ?yU_q ?yd_q sto6 ?yz_q ?_; (case yF_q => k_asm); (case yN_q => k_asm); (case yd_q => k_asm); (case yU_q => k_updF); (case yz_q => exact Nat.le_of_ble_eq_true rfl)); intro h' o' F' N' hd'; (try dsimp only at N')))
  (k_with "R128" => (k_here; (with_reducible show wpAny _ _ (setItem (Value.ref _) (Value.str (PySem.Str.ofString "is_done") _) _) _ _ _); k_dflt (refine' set_w ?yF_q ?yN_q ?yU_q ?yd_q sto7 ?yz_q ?_; (case yF_q => k_asm); (case yN_q => k_asm); (case yd_q => k_asm); (case yU_q => k_updF); (case yz_q => exact Nat.le_of_ble_eq_true rfl)); intro h' o' F' N' hd'; (try dsimp only at N')))
  (k_with "R129" => (k_here; (with_reducible show wpAny _ _ (subscriptTail _ _ (Value.ref _) (Value.int _ _)) _ _ _); k_dflt (refine item_pick (News.isList (by k_asm) (by k_mem)) (by assumption) (by assumption) (by assumption) (by assumption) ?_); intro b' t' hb'))
  (k_with "R130" => (k_here; (fail_if_success (rename Mark8 => zz9)); refine stop ?_))
  (k_with "R131" => (k_here; (with_reducible show wpAny _ _ (subscriptTail _ (PySem.Expr.Slice none _ none _) (Value.ref _) (Value.ref _)) _ _ _); k_dflt (refine' slice_to (s := ⟨_, _, _, _, _⟩) ?yF_q ?yN_q ?yl_q ?yp_q ?yq_q ?y0_q ?y1_q ?yz_q ?_ ?ys_q ?yt_q; (case yF_q => k_asm); (case yN_q => k_asm); (case yl_q => k_mem); (case yp_q => constructor); (case yq_q => constructor); (case y0_q => assumption); (case y1_q => ((try simp only [List.length_cons, List.length_nil]); omega)); (case yz_q => ((try simp only [List.length_cons, List.length_nil]); omega)); (case ys_q => with_unfolding_all rfl); (case yt_q => (intro _; with_unfolding_all rfl))); intro D' h' F' N' l1; (try k_lt l1); (try k_sweep)))
  (k_with "R132" => (k_here; (with_reducible show wpAny _ _ (subscriptTail (PySem.Expr.List _ _) (PySem.Expr.Slice _ _ _ _) (Value.ref _) (Value.ref _)) _ _ _); k_dflt (refine kba_turn (value' := PySem.Expr.Name (PySem.Str.ofString "_") ⟨0, 0, 0, 0⟩) (fun _ => rfl) ?_)))
  (k_with "R133" => (k_dflt (refine LCg.CompSrc.range (n := _) rfl (by k_asm) (by k_asm) (by assumption) (small_n (by assumption) (by first | assumption | exact lt3 (by assumption))) (size_n (by assumption)) (size_le (by assumption) (by first | assumption | exact lt3 (by assumption))) ?_)))
  (k_with "R134" => (k_here; (with_reducible show wpAny _ _ (subscriptTail (PySem.Expr.BinOp _ _ _ _) _ (Value.ref _) (Value.int _ _)) _ _ _); k_dflt (refine item_talk (News.isList (by k_asm) (by k_mem)) (by assumption) (by assumption) (by assumption) (by assumption) ?_); intro v' it' hiv' hit'))
  (k_with "R135" => (decide +kernel))
  (k_with "R136" => (k_here; (with_reducible show wpAny _ _ (subscriptTail _ (PySem.Expr.Slice none _ none _) (Value.ref _) (Value.ref _)) _ _ _); k_dflt (refine' slice_to (s := ⟨_, _, _, _, _⟩) ?yF_q ?yN_q ?yl_q ?yp_q ?yq_q ?y0_q ?y1_q ?yz_q ?_ ?ys_q ?yt_q; (case yF_q => k_asm); (case yN_q => k_asm); (case yl_q => k_mem); (case yp_q => constructor); (case yq_q => constructor); (case y0_q => omega); (case y1_q => ((try simp only [List.length_cons, List.length_nil]); omega)); (case yz_q => ((try simp only [List.length_cons, List.length_nil]); omega)); (case ys_q => with_unfolding_all rfl); (case yt_q => (intro _; with_unfolding_all rfl))); intro D' h' F' N' l1; (try k_lt l1); (try k_sweep)))
  (k_with "R137" => (k_here; (refine add_kn (by assumption) ?_)))
  (k_with "R138" => (k_dflt (refine' Spec.use2S (law_draw _ _ _ _ _ _ _ _ _ ?hD_q _ _ ?h1_q ?h2_q ?hne_q) ?k1_q ?k2_q ?k3_q ?k4_q ?k5_q ?kK_q ?kd_q ?ku_q ?D1_q ?D2_q ?s1_q ?s2_q ?_ ?kE_q; (case hD_q => assumption); (case h1_q => decide); (case h2_q => decide); (case hne_q => k_ne); (case k1_q => assumption); (case k2_q => assumption); (case k3_q => assumption); (case k4_q => assumption); (case k5_q => assumption); (case kK_q => exact rfl); (case kd_q => ktr_room); (case ku_q => ktr_units); (case kE_q => exact fun h => h.elim); (case D1_q => walk_at "del"); (case D2_q => walk_at "del"); (case s1_q => walk_at "sep"); (case s2_q => walk_at "sep"))))
  (k_with "R139" => (k_here; (with_reducible show wpAny _ _ (subscriptTail _ _ (Value.ref _) (Value.int _ _)) _ _ _); refine stop ?_))
  (k_with "R140" => (repeat (first | exact sub_nil_J | refine sub_cons_J (by repeat (first | exact List.Mem.head _ | refine List.Mem.tail _ ?_)) ?_)))
  (k_with "R141" => (k_here; (refine ne_same ?_)))
  (k_with "R142" => (k_here; (refine eq_knownS (by assumption) ?_)))
  (k_with "R143" => (k_here; (refine KXw.upper (by assumption) (by assumption) ?_); intro _ _))
  (k_with "R144" => (k_here; (with_reducible show wpAny _ _ (binaryOp _ (Value.ref _) (Value.ref _)) _ _ _); k_dflt (refine' cat_L ?F_q ?N_q ?a_q ?b_q ?z_q ?_; (case F_q => k_asm); (case N_q => k_asm); (case a_q => k_mem); (case b_q => first | k_mem | assumption); (case z_q => ((try simp only [List.length_append, List.length_cons, List.length_nil]); omega))); intro D' h' F' N' l1; (try k_lt l1)))
  (k_with "R145" => (k_here; k_dflt (refine LCt.ListComp_T (F₀ := by k_asm) (by with_unfolding_all rfl) (by decide) (by rfl) (by decide) (by rfl) ?_)))
  (k_with "R146" => (repeat (first | exact List.Mem.head _ | refine List.Mem.tail _ ?_)))
  trivial
section sBase
open PySem PySem.W PyProof.Rows
noncomputable abbrev LS : List PySem.Str := looseW VW [PySem.Str.ofString "GitError", PySem.Str.ofString "read_pkts", PySem.Str.ofString "FetchRequest"]
structure Kept (h h' : Heap) (mine : List Addr) (mine' : List (Addr × Obj)) : Prop where
  keep : ∀ b o, h.get? b = some o → b ∉ mine → h'.get? b = some o
  fresh : ∀ p ∈ mine', p.1 ∈ mine ∨ h.get? p.1 = none
theorem kept_of {h g h' : Heap} {L : Addr} {m : PySem.Str → Option Value} {as : List Addr} {mine' : List (Addr × Obj)} (G : GSub h g as) (F : Fr g L h' m) (N : News g L h' mine') : Kept h h' as mine' := by
  refine ⟨fun b o e n => F.keep b o (G b o e n), fun p hp => ?_⟩
  by_cases hm : p.1 ∈ as
  · exact .inl hm
  · refine .inr ?_
    cases e : h.get? p.1 with
    | none => rfl
    | some o =>
      have := G _ _ e hm
      rw [(N p hp).2.2] at this
      cases this
def Ret (h₀ : Heap) (L : Addr) (m : PySem.Str → Option Value) (s : Shared) (mine : List (Addr × Obj)) (ok : Value → List (Addr × Obj) → Prop) (Q : Value → Shared → Prop) : Prop :=
  ∀ (v : Value) (h' : Heap) (tk' : Nat) (mine' : List (Addr × Obj)), ok v mine' → Fr h₀ L h' m → News h₀ L h' mine' → Kept s.heap h' (mine.map (·.1)) mine' → Q v { s with heap := h', toks := tk' }
def Flies (base : Heap) (l : List Env) (s : Shared) (mine : List (Addr × Obj)) (E : Value → Shared → Prop) : Prop :=
  ∀ (e t : Addr) (vs' : List Value) (h' : Heap) (tk' : Nat), RaisedS base (hideAll s.heap (mine.map (·.1))) l e (.ref 57) t vs' [] h' → (hideAll s.heap (mine.map (·.1))).UpToSlots h' → E (.ref e) { s with heap := h', toks := tk' }
def Spec (w : World) (f : Addr) (vs : List Value) (dn un : Nat) (mine : List (Addr × Obj)) (ok : Value → List (Addr × Obj) → Prop) (bad : Prop) : Prop :=
  ∀ (dp ut : Nat) (gd : Option (List Code)) (cn : PySem.Str) (cs : Scope) (a : Addr) (ccd : Value) (cl : List (PySem.Str × Addr)) (outer : List Env) (A₀ : Around) (base h₀ : Heap) (L : Addr) (m mg mb : PySem.Str → Option Value) (mean : ExcName → Option Value) (s : Shared) (Q E : Value → Shared → Prop),
    Below A₀ base outer h₀ → Fr h₀ L s.heap m → (hd.heap_1 w.params).In h₀ → News h₀ L s.heap mine → Top VW LS mean mg mb h₀ → cs.kind = .function →
    dp + dn < recursionLimit → ut + un < cLine →
    Ret h₀ L m s mine ok Q → (bad → Flies base (envX cn cs L a ccd cl :: outer) s mine E) →
    wpAny (model PG w) (ktrTop dp ut gd cn cs L a ccd cl outer) (call (.ref f) vs) Q E s
theorem Spec.use {w : World} {f : Addr} {vs : List Value} {dn un : Nat} {mine : List (Addr × Obj)} {ok : Value → List (Addr × Obj) → Prop} {bad : Prop} (C : Spec w f vs dn un mine ok bad)
    {dp ut : Nat} {gd : Option (List Code)} {cn : PySem.Str} {cs : Scope} {a : Addr} {ccd : Value} {cl : List (PySem.Str × Addr)} {outer : List Env} {A₀ : Around} {base h₀ : Heap} {L : Addr} {m mg mb : PySem.Str → Option Value} {mean : ExcName → Option Value} {s : Shared} {Q E : Value → Shared → Prop} {news : List (Addr × Obj)} (rest : List (Addr × Obj))
    (B : Below A₀ base outer h₀) (F : Fr h₀ L s.heap m) (X : (hd.heap_1 w.params).In h₀) (N : News h₀ L s.heap news) (T : Top VW LS mean mg mb h₀) (hk : cs.kind = .function)
    (hd : dp + dn < recursionLimit) (hu : ut + un < cLine) (hm : ∀ p ∈ mine, p ∈ news) (hr : ∀ p ∈ rest, p ∈ news) (hs : ∀ p ∈ rest, p.1 ∉ mine.map (·.1))
    (ret : ∀ (v : Value) (h' : Heap) (tk' : Nat) (mine' : List (Addr × Obj)), ok v mine' → Fr h₀ L h' m → News h₀ L h' (mine' ++ rest) → Kept s.heap h' (mine.map (·.1)) mine' → Q v { s with heap := h', toks := tk' })
    (exc : bad → Flies base (envX cn cs L a ccd cl :: outer) s mine E) :
    wpAny (model PG w) (ktrTop dp ut gd cn cs L a ccd cl outer) (call (.ref f) vs) Q E s :=
  C _ _ _ _ _ _ _ _ _ _ _ _ _ _ _ _ _ _ _ _ B F X (fun p hp => N p (hm p hp)) T hk hd hu (fun v h' tk' mine' hok F' N' K' => ret v h' tk' mine' hok F' (fun p hp => (List.mem_append.mp hp).elim (N' p) fun hp =>
    ⟨K'.keep _ _ (N p (hr p hp)).1 (hs p hp), (N p (hr p hp)).2⟩) K') exc
def Off (news : List (Addr × Obj)) (D : Addr) : Prop := ∀ q ∈ news, q.1 ≠ D
theorem Off.ne {news : List (Addr × Obj)} {D x : Addr} {o : Obj} (h : Off news D) (hm : (x, o) ∈ news) : x ≠ D := h _ hm
theorem Off.en {news : List (Addr × Obj)} {D x : Addr} {o : Obj} (h : Off news D) (hm : (x, o) ∈ news) : D ≠ x := (h _ hm).symm
theorem Spec.use0 {w : World} {f : Addr} {vs : List Value} {dn un : Nat} {ok : Value → List (Addr × Obj) → Prop} {bad : Prop} (C : Spec w f vs dn un [] ok bad)
    {dp ut : Nat} {gd : Option (List Code)} {cn : PySem.Str} {cs : Scope} {a : Addr} {ccd : Value} {cl : List (PySem.Str × Addr)} {outer : List Env} {A₀ : Around} {base h₀ : Heap} {L : Addr} {m mg mb : PySem.Str → Option Value} {mean : ExcName → Option Value} {s : Shared} {Q E : Value → Shared → Prop} {news : List (Addr × Obj)}
    (B : Below A₀ base outer h₀) (F : Fr h₀ L s.heap m) (X : (hd.heap_1 w.params).In h₀) (N : News h₀ L s.heap news) (T : Top VW LS mean mg mb h₀) (hk : cs.kind = .function)
    (hd : dp + dn < recursionLimit) (hu : ut + un < cLine)
    (ret : ∀ (v : Value) (h' : Heap) (tk' : Nat) (mine' : List (Addr × Obj)), ok v mine' → Fr h₀ L h' m → News h₀ L h' (mine' ++ news) → (∀ p ∈ mine', Off news p.1) → InElt s.heap h' → Q v { s with heap := h', toks := tk' })
    (exc : bad → Flies base (envX cn cs L a ccd cl :: outer) s [] E) :
    wpAny (model PG w) (ktrTop dp ut gd cn cs L a ccd cl outer) (call (.ref f) vs) Q E s :=
  C.use news B F X N T hk hd hu (fun _ h => nomatch h) (fun _ h => h) (fun _ _ h => nomatch h) (fun v h' tk' mine' hok F' N' K' => ret v h' tk' mine' hok F' N' (fun p hp q hq e => by
    rcases K'.fresh p hp with h1 | h1
    · cases h1
    · rw [← e, (N q hq).1] at h1
      cases h1) fun b o e => K'.keep b o e (fun h => nomatch h)) exc
theorem Spec.useP {w : World} {f : Addr} {vs : List Value} {dn un : Nat} {c : Tok → Value} {bad : Prop} (C : Spec w f vs dn un [] (fun v n' => n' = [] ∧ ∃ t, v = c t) bad)
    {dp ut : Nat} {gd : Option (List Code)} {cn : PySem.Str} {cs : Scope} {a : Addr} {ccd : Value} {cl : List (PySem.Str × Addr)} {outer : List Env} {A₀ : Around} {base h₀ : Heap} {L : Addr} {m mg mb : PySem.Str → Option Value} {mean : ExcName → Option Value} {s : Shared} {Q E : Value → Shared → Prop} {news : List (Addr × Obj)}
    (B : Below A₀ base outer h₀) (F : Fr h₀ L s.heap m) (X : (hd.heap_1 w.params).In h₀) (N : News h₀ L s.heap news) (T : Top VW LS mean mg mb h₀) (hk : cs.kind = .function)
    (hd : dp + dn < recursionLimit) (hu : ut + un < cLine)
    (ret : ∀ (t : Tok) (h' : Heap) (tk' : Nat), Fr h₀ L h' m → News h₀ L h' news → InElt s.heap h' → Q (c t) { s with heap := h', toks := tk' })
    (exc : bad → Flies base (envX cn cs L a ccd cl :: outer) s [] E) :
    wpAny (model PG w) (ktrTop dp ut gd cn cs L a ccd cl outer) (call (.ref f) vs) Q E s :=
  C.use0 B F X N T hk hd hu (fun _ h' tk' _ ho F' N' _ e => by obtain ⟨rfl, t, rfl⟩ := ho; exact ret t h' tk' F' N' e) exc
theorem Spec.useP1 {w : World} {f : Addr} {vs : List Value} {dn un : Nat} {c : Tok → Value} {P bad : Prop} (C : Spec w f vs dn un [] (fun v n' => P ∧ n' = [] ∧ ∃ t, v = c t) bad)
    {dp ut : Nat} {gd : Option (List Code)} {cn : PySem.Str} {cs : Scope} {a : Addr} {ccd : Value} {cl : List (PySem.Str × Addr)} {outer : List Env} {A₀ : Around} {base h₀ : Heap} {L : Addr} {m mg mb : PySem.Str → Option Value} {mean : ExcName → Option Value} {s : Shared} {Q E : Value → Shared → Prop} {news : List (Addr × Obj)}
    (B : Below A₀ base outer h₀) (F : Fr h₀ L s.heap m) (X : (hd.heap_1 w.params).In h₀) (N : News h₀ L s.heap news) (T : Top VW LS mean mg mb h₀) (hk : cs.kind = .function)
    (hd : dp + dn < recursionLimit) (hu : ut + un < cLine)
    (ret : ∀ (_ : P) (t : Tok) (h' : Heap) (tk' : Nat), Fr h₀ L h' m → News h₀ L h' news → InElt s.heap h' → Q (c t) { s with heap := h', toks := tk' })
    (exc : bad → Flies base (envX cn cs L a ccd cl :: outer) s [] E) :
    wpAny (model PG w) (ktrTop dp ut gd cn cs L a ccd cl outer) (call (.ref f) vs) Q E s :=
  C.use0 B F X N T hk hd hu (fun _ h' tk' _ ho F' N' _ e => by obtain ⟨p, rfl, t, rfl⟩ := ho; exact ret p t h' tk' F' N' e) exc
theorem room1 {a x y N : Nat} (e : x + 1 ≤ y) (h : a + y < N) : a + 1 + x < N := by omega
theorem room0 {a x y N : Nat} (e : x ≤ y) (h : a + y < N) : a + x < N := by omega
theorem room2 {a b x y N : Nat} (e : b + x ≤ y) (h : a + y < N) : a + b + x < N := by omega
theorem ne_new {news : List (Addr × Obj)} {d x : Addr} {o : Obj} (h : ∀ p ∈ news, p.1 < d) (m : (x, o) ∈ news) : x ≠ d := Nat.ne_of_lt (h _ m)
theorem new_ne {news : List (Addr × Obj)} {d x : Addr} {o : Obj} (h : ∀ p ∈ news, p.1 < d) (m : (x, o) ∈ news) : d ≠ x := Nat.ne_of_gt (h _ m)
theorem ne_new1 {news : List (Addr × Obj)} {d x : Addr} {o : Obj} (h : ∀ p ∈ news, p.1 < d) (m : (x, o) ∈ news) : x ≠ d + 1 := Nat.ne_of_lt (Nat.lt_succ_of_lt (h _ m))
theorem new1_ne {news : List (Addr × Obj)} {d x : Addr} {o : Obj} (h : ∀ p ∈ news, p.1 < d) (m : (x, o) ∈ news) : d + 1 ≠ x := Nat.ne_of_gt (Nat.lt_succ_of_lt (h _ m))
theorem ne_new2 {news : List (Addr × Obj)} {d x : Addr} {o : Obj} (h : ∀ p ∈ news, p.1 < d) (m : (x, o) ∈ news) : x ≠ d + 1 + 1 := Nat.ne_of_lt (Nat.lt_succ_of_lt (Nat.lt_succ_of_lt (h _ m)))
theorem new2_ne {news : List (Addr × Obj)} {d x : Addr} {o : Obj} (h : ∀ p ∈ news, p.1 < d) (m : (x, o) ∈ news) : d + 1 + 1 ≠ x := Nat.ne_of_gt (Nat.lt_succ_of_lt (Nat.lt_succ_of_lt (h _ m)))
theorem roomz {a y N : Nat} (h : a + y < N) : a < N := by omega
theorem name1 {h₀ h : Heap} {L D : Addr} {o : Obj} {r : List (Addr × Obj)} (_ : News h₀ L h ((D, o) :: r)) : ∃ D', D' = D := ⟨D, rfl⟩
theorem name2 {h₀ h : Heap} {L D D₂ : Addr} {o o₂ : Obj} {r : List (Addr × Obj)} (_ : News h₀ L h ((D, o) :: (D₂, o₂) :: r)) : ∃ D' D₂', D' = D ∧ D₂' = D₂ := ⟨D, D₂, rfl, rfl⟩
theorem code_defH {prog : Program} {w : World} {A A₀ : Around} {s : Shared} {L : Addr} {h₀ base : Heap} {m : PySem.Str → Option Value} {news : List (Addr × Obj)} {env : Env} {outer : List Env} {K : Frag} {p : Program} {loose : List PySem.Str} {mean : ExcName → Option Value} {mg mb : PySem.Str → Option Value} {R : Result → Shared → Prop} {name qual : PySem.Str} {params : Arguments} {body : List Stmt} {scope : Scope} {dV kV doc pm cdv ct oc : Value} {an od : Option Addr} {osl : Array (Option Value)} {f : Addr} {args : Args} {binds : List (PySem.Str × Value)}
    (B : Below A₀ base outer h₀) (F : Fr h₀ L s.heap m) (X₀ : K.In h₀) (N : News h₀ L s.heap news) (T : Top p loose mean mg mb h₀) (hA : A.frames = some (env :: outer)) (hf : env.frame = some L) (hke : env.scope.kind = .function)
    (ho : K.lookup f = some ⟨oc, od, .func (fnOf name qual params body scope dV kV doc pm an cdv ct), osl⟩) (hcd : codeIn K cdv qual = true) (hroom : A.depth < recursionLimit)
    (hbind : BindsTo s (fnOf name qual params body scope dV kV doc pm an cdv ct) args binds) (hloc : ∀ y ∈ binds, scope.names.lookup y.1 = some .local)
    (h : ∀ g L' h₁, Fr h₀ L g m → (let m' : PySem.Str → Option Value := fun y => binds.reverse.lookup y; let ev := envOf qual scope L' f cdv; let ak := A.deeper ev; Fr g L' h₁ m' → News g L' h₁ news → Below A base (env :: outer) g → K.In g → Top p loose mean mg mb g → GSub s.heap g (news.map (·.1)) →
      wpAny (model prog w) ak (execs body ev)
        (fun fl s' => LeaveK h₀ L m g R (match fl with | .ret v => v | _ => .none) s')
        (fun e s' => wpAny (model prog w) ak (leaving ev e) (fun _ s'' => R (.error e) s'') (fun e' s'' => R (.error e') s'') s')
        { s with heap := h₁, toks := s.toks + binds.length }))
    (hco : scope.isCoroutine = false) (hgen : scope.isGenerator = false) (hk : scope.kind = .function)
    (hcell : ∀ x ∈ scope.names, x.2 ≠ .cell) : codeAny (model prog w) A (.call (.ref f) args) R s :=
  code_defG B F X₀ N T hA hf hke ho hcd hroom hbind hloc (fun g L' h₁ a b c d e i j => h g L' h₁ a b c d e i j) hco hgen hk hcell
theorem code_defK {prog : Program} {w : World} {A A₀ : Around} {s : Shared} {L : Addr} {h₀ base : Heap} {m : PySem.Str → Option Value} {news : List (Addr × Obj)} {env : Env} {outer : List Env} {K : Frag} {p : Program} {loose : List PySem.Str} {mean : ExcName → Option Value} {mg mb : PySem.Str → Option Value} {R : Result → Shared → Prop} {name qual : PySem.Str} {params : Arguments} {body : List Stmt} {scope : Scope} {dV kV doc pm cdv ct oc : Value} {an od : Option Addr} {osl : Array (Option Value)} {f : Addr} {args : Args} {binds : List (PySem.Str × Value)}
    (B : Below A₀ base outer h₀) (F : Fr h₀ L s.heap m) (X₀ : K.In h₀) (N : News h₀ L s.heap news) (T : Top p loose mean mg mb h₀) (hA : A.frames = some (env :: outer)) (hf : env.frame = some L) (hke : env.scope.kind = .function)
    (ho : K.lookup f = some ⟨oc, od, .func (fnOf name qual params body scope dV kV doc pm an cdv ct), osl⟩) (hcd : codeIn K cdv qual = true) (hroom : A.depth < recursionLimit)
    (hbind : BindsTo s (fnOf name qual params body scope dV kV doc pm an cdv ct) args binds) (hloc : ∀ y ∈ binds, scope.names.lookup y.1 = some .local)
    (h : ∀ g L' h₁ tk, Fr h₀ L g m → Fr g L' h₁ (fun y => binds.reverse.lookup y) → News g L' h₁ news → Below A base (env :: outer) g → K.In g → Top p loose mean mg mb g → GSub s.heap g (news.map (·.1)) →
      wpAny (model prog w) (A.deeper (envOf qual scope L' f cdv)) (execs body (envOf qual scope L' f cdv))
        (fun fl s' => LeaveK h₀ L m g R (match fl with | .ret v => v | _ => .none) s')
        (fun e s' => wpAny (model prog w) (A.deeper (envOf qual scope L' f cdv)) (leaving (envOf qual scope L' f cdv) e) (fun _ s'' => R (.error e) s'') (fun e' s'' => R (.error e') s'') s')
        { s with heap := h₁, toks := tk })
    (hco : scope.isCoroutine = false) (hgen : scope.isGenerator = false) (hk : scope.kind = .function)
    (hcell : ∀ x ∈ scope.names, x.2 ≠ .cell) : codeAny (model prog w) A (.call (.ref f) args) R s :=
  code_defG B F X₀ N T hA hf hke ho hcd hroom hbind hloc (fun g L' h₁ a b c d e i j => h g L' h₁ _ a b c d e i j) hco hgen hk hcell
def Hold (P : Prop) : Prop := P
theorem stop {P : Prop} (h : Hold P) : P := h
theorem hold_out {P : Prop} (h : P) : Hold P := h
end sBase
theorem fl1 : True := by first | walk1 | trivial

section sCut
open PySem PySem.W PyProof.Rows
noncomputable def sk {T : Type} (h : Nonempty T) (P : T → Prop) : T := @Classical.epsilon T h (fun x => ¬ P x)
theorem sk_all {T : Type} {h : Nonempty T} {P : T → Prop} (p : P (sk h P)) : ∀ x, P x := fun x => Classical.byContradiction fun n => Classical.epsilon_spec (p := fun x => ¬ P x) ⟨x, n⟩ p
theorem zcast {A : Type} {a b : A} (e : a = b) (M : A → Prop) (p : M b) : M a := e ▸ p
structure Cal where
  dp : Nat
  ut : Nat
  gd : Option (List Code)
  cn : PySem.Str
  cs : Scope
  a : Addr
  ccd : Value
  cl : List (PySem.Str × Addr)
  outer : List Env
  A₀ : Around
  base : Heap
  h₀ : Heap
  L : Addr
  m : PySem.Str → Option Value
  mg : PySem.Str → Option Value
  mb : PySem.Str → Option Value
  mean : ExcName → Option Value
  s : Shared
  Q : Value → Shared → Prop
  E : Value → Shared → Prop
theorem neWorld : Nonempty World := ⟨⟨fun _ _ => 0, by constructor <;> (intros; exact default)⟩⟩
theorem neCal : Nonempty Cal := ⟨⟨0, 0, none, default, default, 0, .none, [], [], {}, {}, {}, 0, fun _ => none, fun _ => none, fun _ => none, fun _ => none, {}, fun _ _ => True, fun _ _ => True⟩⟩
structure Zst where
  w : World
  c : Cal
  n : Nat → Nat
  i : Nat → Int
  b : Nat → Bool
  u : Nat → UInt8
  v : Nat → Value
  o : Nat → Obj
  h : Nat → Heap
  s : Nat → PySem.Str
  lv : Nat → List Value
  lu : Nat → List UInt8
  ll : Nat → List (List UInt8)
  li : Nat → List Int
  ln : Nat → List Nat
  ld : Nat → List (Addr × Obj)
  ls : Nat → List PySem.Str
  m : Nat → PySem.Str → Option Value
noncomputable def zw : World := Classical.choice neWorld
noncomputable def zk0 : Cal := Classical.choice neCal
noncomputable def zsel {T : Type} (d : T) : List T → Nat → T
  | [], _ => d
  | x :: _, 0 => x
  | _ :: r, n + 1 => zsel d r n
theorem neZst : Nonempty Zst := ⟨⟨zw, zk0, fun _ => 0, fun _ => 0, fun _ => false, fun _ => 0, fun _ => .none, fun _ => default, fun _ => {}, fun _ => default, fun _ => [], fun _ => [], fun _ => [], fun _ => [], fun _ => [], fun _ => [], fun _ => [], fun _ _ => none⟩⟩
noncomputable def zmk (w : World) (c : Cal) (n : List Nat) (i : List Int) (b : List Bool) (u : List UInt8) (v : List Value) (o : List Obj) (h : List Heap) (s : List PySem.Str) (lv : List (List Value)) (lu : List (List UInt8)) (ll : List (List (List UInt8))) (li : List (List Int)) (ln : List (List Nat)) (ld : List (List (Addr × Obj))) (ls : List (List PySem.Str)) (m : List (PySem.Str → Option Value)) : Zst :=
  ⟨w, c, zsel 0 n, zsel 0 i, zsel false b, zsel 0 u, zsel .none v, zsel default o, zsel {} h, zsel default s, zsel [] lv, zsel [] lu, zsel [] ll, zsel [] li, zsel [] ln, zsel [] ld, zsel [] ls, zsel (fun _ => none) m⟩
def SpecAt (w : World) (f : Addr) (vs : List Value) (dn un : Nat) (mine : List (Addr × Obj)) (ok : Value → List (Addr × Obj) → Prop) (bad : Prop) (c : Cal) : Prop :=
  Below c.A₀ c.base c.outer c.h₀ → Fr c.h₀ c.L c.s.heap c.m → (hd.heap_1 w.params).In c.h₀ → News c.h₀ c.L c.s.heap mine → Top VW LS c.mean c.mg c.mb c.h₀ → c.cs.kind = .function →
    c.dp + dn < recursionLimit → c.ut + un < cLine →
    Ret c.h₀ c.L c.m c.s mine ok c.Q → (bad → Flies c.base (envX c.cn c.cs c.L c.a c.ccd c.cl :: c.outer) c.s mine c.E) →
    wpAny (model PG w) (ktrTop c.dp c.ut c.gd c.cn c.cs c.L c.a c.ccd c.cl c.outer) (call (.ref f) vs) c.Q c.E c.s
theorem Spec.cut {w : World} {f : Addr} {vs : List Value} {dn un : Nat} {mine : List (Addr × Obj)} {ok : Value → List (Addr × Obj) → Prop} {bad : Prop} (h : ∀ c, SpecAt w f vs dn un mine ok bad c) : Spec w f vs dn un mine ok bad :=
  fun dp ut gd cn cs a ccd cl outer A₀ base h₀ L m mg mb mean s Q E => h ⟨dp, ut, gd, cn, cs, a, ccd, cl, outer, A₀, base, h₀, L, m, mg, mb, mean, s, Q, E⟩
end sCut
theorem fl2 : True := by first | walk1 | trivial

section sCell
open PySem PySem.W PyProof.Rows PyProof.V PySem.Spec PySem.Calls
variable {prog : Program} {w : World} {A₀ A : Around} {s : Shared} {base h₀ : Heap} {outer : List Env} {L : Addr} {m : PySem.Str → Option Value} {env : Env} {news : List (Addr × Obj)} {K : Frag} {p : Program} {loose : List PySem.Str} {mean : ExcName → Option Value} {mg mb : PySem.Str → Option Value}
  {R : Result → Shared → Prop} {name qual : PySem.Str} {params : Arguments} {body : List Stmt} {scope : Scope} {dV kV doc pm cdv ct oc : Value} {an od : Option Addr} {osl : Array (Option Value)} {f : Addr} {args : Args} {binds : List (PySem.Str × Value)}
theorem code_cellsG (B : Below A₀ base outer h₀) (F : Fr h₀ L s.heap m) (X₀ : K.In h₀) (N : News h₀ L s.heap news) (T : Top p loose mean mg mb h₀) (hA : A.frames = some (env :: outer)) (hf : env.frame = some L) (hke : env.scope.kind = .function)
    (ho : K.lookup f = some ⟨oc, od, .func (fnOf name qual params body scope dV kV doc pm an cdv ct), osl⟩) (hcd : codeIn K cdv qual = true) (hroom : A.depth < recursionLimit)
    (hbind : BindsTo s (fnOf name qual params body scope dV kV doc pm an cdv ct) args binds) (hkind : (binds.all fun y => scope.names.lookup y.1 == some .local || scope.names.lookup y.1 == some .cell) = true)
    (hnd : ((cellsFrom 0 scope.names []).map (·.1)).Nodup)
    (h : ∀ g L' h₁ tk cells, Fr h₀ L g m → Fr g L' h₁ (bindL (envOfC qual scope L' f cdv).kindOf binds fun _ => none) → News g L' h₁ (cells ++ news) →
      CellsAre (bindC (envOfC qual scope L' f cdv).kindOf binds fun _ => none) (cellsFrom (L' + 1) scope.names []) cells → Below A base (env :: outer) g → K.In g → Top p loose mean mg mb g → (∀ q ∈ news, q.1 < L') → GSub s.heap g (news.map (·.1)) →
      wpAny (model prog w) (A.deeper (envOfC qual scope L' f cdv)) (execs body (envOfC qual scope L' f cdv))
        (fun fl s' => LeaveK h₀ L m g R (match fl with | .ret v => v | _ => .none) s')
        (fun e s' => wpAny (model prog w) (A.deeper (envOfC qual scope L' f cdv)) (leaving (envOfC qual scope L' f cdv) e) (fun _ s'' => R (.error e) s'') (fun e' s'' => R (.error e') s'') s')
        { s with heap := h₁, toks := tk })
    (hco : scope.isCoroutine = false) (hgen : scope.isGenerator = false) (hk : scope.kind = .function) : codeAny (model prog w) A (.call (.ref f) args) R s := by
  obtain ⟨G, hG⟩ : ∃ G, G = hideAll s.heap (news.map (·.1)) := ⟨_, rfl⟩
  have ground := groundX (R := R) B F N hA hf hke
  rw [← hG] at ground
  have sub : GSub s.heap G (news.map (·.1)) := fun b o e n => hG ▸ hideAll_get _ e n
  have back : ∀ b o, G.get? b = some o → s.heap.get? b = some o := fun b o e => of_hideAll _ (hG ▸ e)
  have gone : ∀ b, b ∈ news.map (·.1) → G.get? b = none := fun b hb => hG ▸ hideAll_none _ hb
  have size : G.objs.size = s.heap.objs.size := hG ▸ hideAll_size _ _
  have XG : K.In G := X₀.keeps ground.2.2.1
  have TG : Top p loose mean mg mb G := T.keeps ground.2.2.1
  refine codeAny_call_function (fd := fnX name qual params body scope [] dV kV doc pm an cdv ct) hroom ((X₀.keeps F.keep) _ _ ho) rfl hco hgen rfl (codeRec_of (X₀.keeps F.keep) hcd) (hbind _ _ _ _ ?_)
  refine wpAny_newFunctionEnv_cells hk (kindsX hkind _) ?_
  rintro _ rfl s₁ made
  obtain ⟨h₁, tk₁, rfl, _⟩ := made.done
  have grown := made.toInCall.keep
  refine ⟨(T.nolimit.keeps F.keep).keeps grown, codeAny_func ?_⟩
  have dist : ((cellsFrom (s.heap.objs.size + 1) scope.names []).map (·.1)).Nodup := cellsFrom_names scope.names 0 (s.heap.objs.size + 1) [] [] rfl ▸ hnd
  obtain ⟨cells, NC, Y⟩ := Cl.news (h₀ := s.heap) (Nat.le_refl _) fun n c hm => ⟨made.cell n c (lookup_of_mem_nodup dist hm), made.above n c hm⟩
  have low : ∀ q ∈ news, q.1 < s.heap.objs.size := fun q hq => Heap.lt_size (N q hq).1
  have FG : Fr G s.heap.objs.size h₁ _ := ⟨made.toInCall.ns, fun b o e => grown b o (back b o e), Nat.le_of_eq size⟩
  have NG : News G s.heap.objs.size h₁ (cells ++ news) := by
    intro q hq
    rcases List.mem_append.mp hq with hq | hq
    · refine ⟨(NC q hq).1, (NC q hq).2.1, ?_⟩
      cases e : G.get? q.1 with
      | none => rfl
      | some o =>
        have e2 := back _ _ e
        rw [(NC q hq).2.2] at e2
        cases e2
    · exact ⟨grown _ _ (N q hq).1, Nat.ne_of_lt (low q hq), gone _ (List.mem_map_of_mem hq)⟩
  exact wpAny_mono (h G _ h₁ tk₁ cells ground.1 FG NG Y ground.2.1 XG TG low sub) (fun fl s' hl => ground.2.2.2 _ _ hl) fun _ _ y => y
end sCell
theorem fl3 : True := by first | walk1 | trivial

section sLoop
open PySem PySem.W PyProof.Rows PyProof.V PySem.Spec PySem.Calls
variable {prog : Program} {w : World} {A : Around} {E : Value → Shared → Prop} {s : Shared} {env : Env} {h₀ : Heap} {x : PySem.Str} {body : List Stmt} {Q : Flow → Shared → Prop}
def Iter (prog : Program) (w : World) (A : Around) (E : Value → Shared → Prop) (s : Shared) (env : Env) (h₀ : Heap) (x : PySem.Str) (body : List Stmt) (Q : Flow → Shared → Prop) (xv : Value) (n : Nat) (Pv : Nat → Value → Prop) (keep : List (Addr × Obj)) : Prop :=
  ∀ (J : Nat → (PySem.Str → Option Value) → List (Addr × Obj) → Prop) (m₀ : PySem.Str → Option Value) (news : List (Addr × Obj)),
    Fr h₀ env.locals s.heap m₀ → News h₀ env.locals s.heap news → J 0 m₀ news → (∀ i m nx, J i m nx → ∀ p ∈ keep, p ∈ nx) →
    (∀ i v m₁ nx h tk own, i < n → Pv i v → OwnOff own (nx.map (·.1)) → J i m₁ nx → Fr h₀ env.locals h (fun y => if y = x then some v else m₁ y) → News h₀ env.locals h (nx ++ own) →
      wpAny (model prog w) A (execs body env) (InvPostG h₀ env.locals (J (i + 1)) own { s with heap := h, toks := tk } Q) E { s with heap := h, toks := tk }) →
    (∀ m₁ nx h tk, J n m₁ nx → Fr h₀ env.locals h m₁ → News h₀ env.locals h nx → Q .next { s with heap := h, toks := tk }) →
    wpAny (model prog w) A (pyIter xv) (fun it s₂ => LoopAtV prog w A h₀ env x body Q E it s₂) E s
theorem Iter.bytes {b : Array UInt8} {tb : Tok} (hh : A.handled = none) :
    Iter prog w A E s env h₀ x body Q (.bytes b tb) b.size (fun i v => ∃ (c : UInt8) (t : Tok), b[i]? = some c ∧ v = .int (c.toNat : Int) t) [] := by
  intro J m₀ news F N hj _ turn done
  refine KBw.pyIter_bytes ?_
  have W := KBw.walks (prog := prog) (w := w) hh s.heap.objs.size b tb
  refine kdr_loop J W (fun a ha => ha) (fun a ha => ha) (fun i h st c hc => ?_) ?_ ?_ ?_ ⟨_, Heap.get?_push_size _ rfl, rfl, rfl⟩ (F.push _) (fun p hp => ⟨Heap.get?_push_of_some _ (N p hp).1, (N p hp).2⟩) hj ?_ done
  · obtain ⟨o, ho, _⟩ := st
    rw [List.mem_singleton.mp hc]
    exact ⟨o, ho⟩
  · intro hm
    exact absurd F.ns.lt ((List.mem_singleton.mp hm) ▸ Nat.lt_irrefl _)
  · intro b' hb
    rw [List.mem_singleton.mp hb]
    exact next_is_new F
  · intro p hp hI
    exact absurd (Heap.lt_size (N p hp).1) ((List.mem_singleton.mp hI) ▸ Nat.lt_irrefl _)
  · rintro i v m₁ nx h tk own hi ⟨c, u, hc, rfl⟩ hoff hJ F₁ N₁
    exact turn i _ m₁ nx h tk own hi ⟨c, u, hc, rfl⟩ hoff hJ F₁ N₁
theorem Iter.list {l : Addr} {vs : List Value} {nn : Nat} (hh : A.handled = none) :
    Iter prog w A E s env h₀ x body Q (.ref l) vs.length (fun i v => vs[i]? = some v) [(l, listOf vs.toArray nn)] := by
  intro J m₀ news F N hj hkeep turn done
  refine kdl_iter J hh (hkeep _ _ _ hj _ (List.mem_singleton.mpr rfl)) F N hj ?_ done
  rintro i v m₁ nx h tk own hv hoff hl hJ F₁ N₁
  refine wpAny_mono (turn i v m₁ nx h tk own (List.getElem?_eq_some_iff.mp hv).1 hv hoff hJ F₁ N₁) (fun f s₂ p => ?_) fun _ _ e => e
  have up : InvEndG h₀ env.locals (J (i + 1)) own { s with heap := h, toks := tk } s₂ → InvEndG h₀ env.locals (fun m' nx => (l, listOf vs.toArray nn) ∈ nx ∧ J (i + 1) m' nx) own { s with heap := h, toks := tk } s₂ := by
    rintro ⟨h', tk, m', news', nx, e, F', N', hn, ho, ha, hm⟩
    exact ⟨h', tk, m', news', nx, e, F', N', hn, ho, ha, hkeep _ _ _ hm _ (List.mem_singleton.mpr rfl), hm⟩
  cases f with
  | ret v => exact p
  | brk => exact p
  | next => exact up p
  | cont => exact up p
theorem Iter.rangeC {r : Addr} {a₀ b₀ c₀ : Int} {t₀ u₀ v₀ : Tok} {n : Nat} (hh : A.handled = none) (hr : IsRange s.heap r a₀ b₀ c₀ t₀ u₀ v₀) (hsmall : Builtin.Range.small a₀ b₀ c₀ = true) (hsz : Builtin.Range.rangeSize a₀ b₀ c₀ = (n : Int)) :
    Iter prog w A E s env h₀ x body Q (.ref r) n (fun i v => i < n ∧ ∃ t, v = .int (a₀ + (i : Int) * c₀) t) [] := by
  intro J m₀ news F N hj _ turn done
  refine wpAny_pyIter_range hr hsmall ?_
  have W := (Walks.range (prog := prog) (w := w) (A := A) hh s.heap.objs.size a₀ c₀ n).bound
  refine kdr_loop J W (fun a ha => ha) (fun a ha => ha) (fun i h st c hc => ?_) ?_ ?_ ?_ (by show IsRangeIter _ _ _ _ _; rw [hsz]; simpa using Heap.get?_push_size _ rfl) (F.push _) (fun p hp => ⟨Heap.get?_push_of_some _ (N p hp).1, (N p hp).2⟩) hj ?_ done
  · rw [List.mem_singleton.mp hc]
    exact ⟨_, st⟩
  · intro hm
    exact absurd F.ns.lt ((List.mem_singleton.mp hm) ▸ Nat.lt_irrefl _)
  · intro b' hb
    rw [List.mem_singleton.mp hb]
    exact next_is_new F
  · intro p hp hI
    exact absurd (Heap.lt_size (N p hp).1) ((List.mem_singleton.mp hI) ▸ Nat.lt_irrefl _)
  · intro i v m₁ nx h tk own hi hP hoff hJ F₁ N₁
    exact turn i v m₁ nx h tk own hi hP hoff hJ F₁ N₁
def At {σ : Type} (Led : σ → List (Addr × Obj)) (ps : σ → List (PySem.Str × Value)) (x : PySem.Str) (stored : List PySem.Str) (m₀ : PySem.Str → Option Value) (P : Nat → σ → Prop) (i : Nat) (m : PySem.Str → Option Value) (nx : List (Addr × Obj)) : Prop :=
  ∃ c : σ, nx = Led c ∧ (∀ p ∈ ps c, m p.1 = some p.2) ∧ (∀ z, z ≠ x → (∀ p ∈ ps c, z ≠ p.1) → stored.contains z = false → m z = m₀ z) ∧ P i c
theorem loopM {σ : Type} {xv : Value} {n : Nat} {Pv : Nat → Value → Prop} {keep : List (Addr × Obj)} {m₀ : PySem.Str → Option Value} {news : List (Addr × Obj)} (I : Iter prog w A E s env h₀ x body Q xv n Pv keep)
    (Led : σ → List (Addr × Obj)) (ps : σ → List (PySem.Str × Value)) (stored : List PySem.Str) (P : Nat → σ → Prop) (c₀ : σ)
    (F : Fr h₀ env.locals s.heap m₀) (N : News h₀ env.locals s.heap news) (hn : ∀ p ∈ Led c₀, p ∈ news) (hkeep : ∀ c, ∀ p ∈ keep, p ∈ Led c) (hk : ∀ p ∈ ps c₀, m₀ p.1 = some p.2) (hp : P 0 c₀)
    (turn : ∀ i v (c : σ) (u : PySem.Str → Option Value) h tk own, i < n → Pv i v → OwnOff own ((Led c).map (·.1)) → P i c →
      Fr h₀ env.locals h (fun y => if y = x then some v else kstB (fun z => if stored.contains z then u z else m₀ z) (ps c) y) → News h₀ env.locals h (Led c ++ own) →
      wpAny (model prog w) A (execs body env) (InvPostG h₀ env.locals (At Led ps x stored m₀ P (i + 1)) own { s with heap := h, toks := tk } Q) E { s with heap := h, toks := tk })
    (done : ∀ (c : σ) (u : PySem.Str → Option Value) h tk, P n c → Fr h₀ env.locals h (fun y => if y = x then u y else kstB (fun z => if stored.contains z then u z else m₀ z) (ps c) y) → News h₀ env.locals h (Led c) → Q .next { s with heap := h, toks := tk }) :
    wpAny (model prog w) A (pyIter xv) (fun it s₂ => LoopAtV prog w A h₀ env x body Q E it s₂) E s := by
  refine I (At Led ps x stored m₀ P) m₀ (Led c₀) F (fun p hp => N p (hn p hp)) ⟨c₀, rfl, hk, fun _ _ _ _ => rfl, hp⟩ ?_ ?_ ?_
  · rintro i m nx ⟨c, rfl, _⟩ p hp
    exact hkeep c p hp
  · rintro i v m₁ nx h tk own hi hv hoff ⟨c, rfl, h1, h2, hP⟩ F₁ N₁
    exact turn i v c m₁ h tk own hi hv hoff hP (kst_fr h1 h2 F₁) N₁
  · rintro m₁ nx h tk ⟨c, rfl, h1, h2, hP⟩ F₁ N₁
    exact done c m₁ h tk hP (kst_frOut h1 h2 F₁) N₁
theorem At.end {σ : Type} {Led : σ → List (Addr × Obj)} {ps : σ → List (PySem.Str × Value)} {stored : List PySem.Str} {m₀ : PySem.Str → Option Value} {P : Nat → σ → Prop} {i : Nat} {L : Addr} {m' : PySem.Str → Option Value} {own news' : List (Addr × Obj)} {s₁ : Shared} {h' : Heap} {tk : Nat}
    (c : σ) {as : List Addr} (ho : OwnOff own as) (F : Fr h₀ L h' m') (N : News h₀ L h' news') (ha : (Led c).map (·.1) = as) (hn : ∀ p ∈ Led c, p ∈ news') (hw : ∀ p ∈ own, p ∈ news') (hk : ∀ p ∈ ps c, m' p.1 = some p.2)
    (hr : ∀ z, z ≠ x → (∀ p ∈ ps c, z ≠ p.1) → stored.contains z = false → m' z = m₀ z) (hp : P i c) : InvEndG h₀ L (At Led ps x stored m₀ P i) own s₁ { s₁ with heap := h', toks := tk } :=
  ⟨h', tk, m', news', Led c, rfl, F, N, hn, hw, ha ▸ ho, c, rfl, hk, hr, hp⟩
end sLoop
theorem fl4 : True := by first | walk1 | trivial

section sWhile
open PySem PySem.W PyProof.Rows PyProof.V PySem.Spec PySem.Calls
variable {prog : Program} {w : World} {A : Around} {E : Value → Shared → Prop} {s : Shared} {env : Env} {h₀ : Heap} {test : PySem.Expr} {body : List Stmt} {Q : Flow → Shared → Prop}
theorem kst_frW {L : Addr} {h : Heap} {ps : List (PySem.Str × Value)} {stored : List PySem.Str} {m₀ m₁ : PySem.Str → Option Value} (h1 : ∀ p ∈ ps, m₁ p.1 = some p.2) (h2 : ∀ z, (∀ p ∈ ps, z ≠ p.1) → stored.contains z = false → m₁ z = m₀ z)
    (F : Fr h₀ L h m₁) : Fr h₀ L h (kstB (fun z => if stored.contains z then m₁ z else m₀ z) ps) := by
  have em : kstB (fun z => if stored.contains z then m₁ z else m₀ z) ps = m₁ := by
    funext y
    by_cases hy : y = PySem.Str.ofString "a"
    · have hy2 : y ≠ PySem.Str.ofString "b" := by rw [hy]; decide
      exact kst_off h1 (fun z _ => h2 z) hy2
    · exact kst_off h1 (fun z _ => h2 z) hy
  rw [em]
  exact F
theorem whileM {σ : Type} {m₀ : PySem.Str → Option Value} {news : List (Addr × Obj)} {pos : Pos}
    (Led : σ → List (Addr × Obj)) (ps : σ → List (PySem.Str × Value)) (stored : List PySem.Str) (P : Nat → σ → Prop) (n₀ : Nat) (c₀ : σ)
    (F : Fr h₀ env.locals s.heap m₀) (N : News h₀ env.locals s.heap news) (hn : ∀ p ∈ Led c₀, p ∈ news) (hk : ∀ p ∈ ps c₀, m₀ p.1 = some p.2) (hp : P n₀ c₀)
    (turn : ∀ n (c : σ) (u : PySem.Str → Option Value) h tk, P n c →
      Fr h₀ env.locals h (kstB (fun z => if stored.contains z then u z else m₀ z) (ps c)) → News h₀ env.locals h (Led c) →
      (∀ n' (c' : σ) h' tk' m' news', n' < n → P n' c' → Fr h₀ env.locals h' m' → News h₀ env.locals h' news' → (∀ p ∈ Led c', p ∈ news') → (∀ p ∈ ps c', m' p.1 = some p.2) →
        (∀ z, (∀ p ∈ ps c', z ≠ p.1) → stored.contains z = false → m' z = m₀ z) → WhlRest prog w A E env test body [] Q 0 { s with heap := h', toks := tk' }) →
      WhlRest prog w A E env test body [] Q 1 { s with heap := h, toks := tk }) :
    wpAny (model prog w) A (exec (.While test body [] pos) env) Q E s := by
  refine whl_start 1 ?_
  have key : ∀ n (c : σ) h tk m₁ nx, P n c → Fr h₀ env.locals h m₁ → News h₀ env.locals h nx → (∀ p ∈ Led c, p ∈ nx) → (∀ p ∈ ps c, m₁ p.1 = some p.2) →
      (∀ z, (∀ p ∈ ps c, z ≠ p.1) → stored.contains z = false → m₁ z = m₀ z) → WhlRest prog w A E env test body [] Q 1 { s with heap := h, toks := tk } := by
    intro n
    induction n using Nat.strongRecOn with
    | ind n ih =>
      intro c h tk m₁ nx hP F₁ N₁ hl h1 h2
      refine turn n c m₁ h tk hP ?_ (fun p hp => N₁ p (hl p hp)) ?_
      · exact kst_frW h1 h2 F₁
      · intro n' c' h' tk' m' news' hlt hP' F' N' hl' h1' h2'
        exact ih n' hlt c' h' tk' m' news' hP' F' N' hl' h1' h2'
  exact key n₀ c₀ s.heap s.toks m₀ news hp F N hn hk fun _ _ _ => rfl
end sWhile
theorem fl5 : True := by first | walk1 | trivial

section sEqb
open PySem PySem.W PyProof.Rows
theorem bytes_eq_int (a : Array UInt8) (t : Tok) (b : Int) (u : Tok) : Gives (Builtin.«bytes.__eq__» ⟨[.bytes a t, .int b u], []⟩) (.val (Value.notImplemented)) := by
  exact .of_wp fun M A E s Q h => by obtain ⟨hp, g, d, tk, os⟩ := s; wp_walk; rw [F.sub_int_bytes]; refine fun Γ p hΓ => ?_; show wpAny M A (rule _ >>= fun _ => ret Value.notImplemented) _ E _; wp_walk; exact ⟨_, rfl, h⟩
theorem bytes_ne_int (a : Array UInt8) (t : Tok) (b : Int) (u : Tok) : Gives (Builtin.«bytes.__ne__» ⟨[.bytes a t, .int b u], []⟩) (.val (Value.notImplemented)) := by
  exact .of_wp fun M A E s Q h => by obtain ⟨hp, g, d, tk, os⟩ := s; wp_walk; rw [F.sub_int_bytes]; refine fun Γ p hΓ => ?_; show wpAny M A (rule _ >>= fun _ => ret Value.notImplemented) _ E _; wp_walk; exact ⟨_, rfl, h⟩
theorem int_eq_bytes (a : Int) (t : Tok) (b : Array UInt8) (u : Tok) : Gives (Builtin.«int.__eq__» ⟨[.int a t, .bytes b u], []⟩) (.val (Value.notImplemented)) :=
  .of_wp fun M A E s Q h => by obtain ⟨hp, g, d, tk, os⟩ := s; wp_walk; exact ⟨_, rfl, h⟩
theorem int_ne_bytes (a : Int) (t : Tok) (b : Array UInt8) (u : Tok) : Gives (Builtin.«int.__ne__» ⟨[.int a t, .bytes b u], []⟩) (.val (Value.notImplemented)) :=
  .of_wp fun M A E s Q h => by obtain ⟨hp, g, d, tk, os⟩ := s; wp_walk; exact ⟨_, rfl, h⟩
variable {prog : Program} {w : World} {A : Around} {E : Value → Shared → Prop} {s : Shared} {Q : Value → Shared → Prop}
theorem eq_bytes_int {a : Array UInt8} {t : Tok} {b : Int} {u : Tok} (h : Q (.bool false) s) : wpAny (model prog w) A (compareOp .Eq (.bytes a t) (.int b u)) Q E s := by
  show wpAny _ A (richCompare .Eq _ _) Q E s
  exact EqNone.wpAny_richCompare_eq_decline (k := false) (fun s' => typeIs_bytes s' a t) (fun s' => typeIs_int s' b u) (by decide) F.sub_int_bytes FB.slot_bytes_eq F.slot_int_eq_refl rfl
    (call_gives FB.slot_bytes_eq (typeIs_bytes s a t) FB.entry_bytes_eq (FB.args_bytes_eq_2 _ _) (bytes_eq_int a t b u)
      ⟨rfl, call_gives F.slot_int_eq_refl (typeIs_int s b u) F.entry_int_eq (F.args_int_eq_2 _ _) (int_eq_bytes b u a t) ⟨rfl, h⟩⟩)
theorem ne_bytes_int {a : Array UInt8} {t : Tok} {b : Int} {u : Tok} (h : Q (.bool true) s) : wpAny (model prog w) A (compareOp .NotEq (.bytes a t) (.int b u)) Q E s := by
  show wpAny _ A (richCompare .NotEq _ _) Q E s
  exact EqNone.wpAny_richCompare_ne_decline (k := false) (fun s' => typeIs_bytes s' a t) (fun s' => typeIs_int s' b u) (by decide) F.sub_int_bytes FB.slot_bytes_ne F.slot_int_ne_refl rfl
    (call_gives FB.slot_bytes_ne (typeIs_bytes s a t) FB.entry_bytes_ne (FB.args_bytes_ne_2 _ _) (bytes_ne_int a t b u)
      ⟨rfl, call_gives F.slot_int_ne_refl (typeIs_int s b u) F.entry_int_ne (F.args_int_ne_2 _ _) (int_ne_bytes b u a t) ⟨rfl, h⟩⟩)
end sEqb
theorem fl6 : True := by first | walk1 | trivial

section sFind
open PySem PySem.W PyProof.Rows PySem.Calls
theorem slot_bytes_find : Slot "bytes" "find" "bytes.find" :=
  .of (owner := "bytes") (n := "find") (by rw [typeLookup_type, builtinLookup_eq_fast]; kernel_rfl) (by decide +kernel) (by decide +kernel) (by decide +kernel)
    (by first | exact .inl (by decide +kernel) | exact .inr (by decide +kernel)) (by rw [isSubtype_type]; kernel_rfl)
theorem type_bytes_find : typeOf (.builtin "bytes.find") = pure (.type "method_descriptor") := by show builtinType _ = _; rw [builtinType_eq_fast]; kernel_rfl
theorem entry_bytes_find : entryFor table "bytes.find" = some Builtin.«bytes.find» := entryFor_of_tree (by kernel_rfl)
theorem args_bytes_find (a b : Value) : argsOk "bytes.find" ⟨[a, b], []⟩ := by
  unfold argsOk; rw [signature?_of (id := "bytes.find") (n := ['d', 'n', 'i', 'f']) (o := ['s', 'e', 't', 'y', 'b']) (by kernel_rfl) FB.owner_bytes]; kernel_rfl
theorem window_eq (n : Nat) : Builtin.Bytes.window n none none = ((0 : Int), (n : Int)) := by
  unfold Builtin.Bytes.window
  have h : ¬ ((n : Int) < 0) := by omega
  simp [h]
theorem searchArgs_eq (b c : Array UInt8) (t u : Tok) : Builtin.Bytes.searchArgs .bytes "find" ⟨[.bytes b t, .bytes c u], []⟩ = pure (b, c, if ((Builtin.Bytes.window b.size none none).2 - (Builtin.Bytes.window b.size none none).1) < c.size then none else some ((Builtin.Bytes.window b.size none none).1.toNat, (Builtin.Bytes.window b.size none none).2.toNat)) := by
  unfold Builtin.Bytes.searchArgs
  show (Builtin.Bytes.buffer? _ (.bytes c u) >>= fun r => _) = _
  rw [KBy.buffer_eq]
  rfl
theorem gives_bytes_find (b c : Array UInt8) (t u : Tok) (j : Nat) (hc : c.size ≤ b.size) (hj : Builtin.Bytes.find? b c 0 b.size = some j) :
    Gives (Builtin.«bytes.find» ⟨[.bytes b t, .bytes c u], []⟩) (.int j) := by
  refine .of_wp fun M A E s Q hq => ?_
  show wpAny M A (Builtin.Bytes.searchArgs .bytes "find" ⟨[.bytes b t, .bytes c u], []⟩ >>= fun r => _) _ E s
  refine wpAny_bind (wpAny_of_eq (searchArgs_eq b c t u) ?_)
  rw [window_eq]
  rw [if_neg (by dsimp only; omega)]
  dsimp only [Option.bind, Int.toNat_natCast]
  simp only [Int.toNat_natCast, Bool.false_eq_true, if_false]
  rw [show Int.toNat 0 = 0 from rfl, hj]
  exact wpAny_bind (wpAny_mkInt (wpAny_pure ⟨_, rfl, hq⟩))
theorem find_at (l : List UInt8) (j : Nat) (h : l[j]? = some 32) (hn : ∀ i < j, l[i]? ≠ some 32) : Builtin.Bytes.find? l.toArray #[32] 0 l.toArray.size = some j := by
  unfold Builtin.Bytes.find?
  have e : (List.range (l.toArray.size + 1 - (0 + (#[32] : Array UInt8).size))).map (· + 0) = List.range l.length := by simp
  rw [e]
  obtain ⟨hj, hj2⟩ := List.getElem?_eq_some_iff.mp h
  have ex : ∀ i, i < l.length → ((l.toArray.extract i (i + (#[32] : Array UInt8).size) == #[32]) = true ↔ l[i]? = some 32) := by
    intro i hi
    have e1 : l.toArray.extract i (i + (#[32] : Array UInt8).size) = #[l[i]] := by
      apply Array.ext'
      simp [List.take_one, List.drop_take, hi]
    rw [e1, List.getElem?_eq_getElem hi]
    simp
  rw [List.find?_range_eq_some]
  refine ⟨(ex j hj).mpr h, List.mem_range.mpr hj, fun i hi => ?_⟩
  have h1 := hn i hi
  have h2 := ex i (by omega)
  cases hq : (l.toArray.extract i (i + (#[32] : Array UInt8).size) == #[32]) with
  | false => rfl
  | true => exact absurd (h2.mp hq) h1
variable {prog : Program} {w : World} {A : Around} {E : Value → Shared → Prop} {s : Shared} {b c : Array UInt8} {t u : Tok}
theorem find_B {Q : Value → Shared → Prop} (j : Nat) (hc : c.size ≤ b.size) (hj : Builtin.Bytes.find? b c 0 b.size = some j) (h : Q (.int j s.toks) { s with toks := s.toks + 1 }) :
    wpAny (model prog w) A (call (.builtin "bytes.find") [.bytes b t, .bytes c u]) Q E s :=
  call_gives slot_bytes_find (typeIs_bytes s b t) entry_bytes_find (args_bytes_find _ _) (gives_bytes_find b c t u j hc hj) h
theorem find_method {M : Model} {pl : Sem Bool} {Q : Value × List Value → Shared → Prop} (h : Q (.builtin "bytes.find", [.bytes b t]) s) : wpAny M A (getMethod (.bytes b t) "find" pl) Q E s := by
  with_reducible exact KBd.method_of (.bytes b t) (typeIs_bytes _ _ _) slot_bytes_find type_bytes_find KBd.noRef h
end sFind
theorem fl7 : True := by first | walk1 | trivial

section sJoin
open PySem PySem.W PyProof.Rows PySem.Calls
theorem slot_bytes_join : Slot "bytes" "join" "bytes.join" :=
  .of (owner := "bytes") (n := "join") (by rw [typeLookup_type, builtinLookup_eq_fast]; kernel_rfl) (by decide +kernel) (by decide +kernel) (by decide +kernel)
    (by first | exact .inl (by decide +kernel) | exact .inr (by decide +kernel)) (by rw [isSubtype_type]; kernel_rfl)
theorem type_bytes_join : typeOf (.builtin "bytes.join") = pure (.type "method_descriptor") := by show builtinType _ = _; rw [builtinType_eq_fast]; kernel_rfl
theorem entry_bytes_join : entryFor table "bytes.join" = some Builtin.«bytes.join» := entryFor_of_tree (by kernel_rfl)
theorem args_bytes_join (a b : Value) : argsOk "bytes.join" ⟨[a, b], []⟩ := by
  unfold argsOk; rw [signature?_of (id := "bytes.join") (n := ['n', 'i', 'o', 'j']) (o := ['s', 'e', 't', 'y', 'b']) (by kernel_rfl) FB.owner_bytes]; kernel_rfl
theorem joined_nil (ps : List (Array UInt8)) : Builtin.Bytes.joined #[] ps = (ps.flatMap Array.toList).toArray := by
  unfold Builtin.Bytes.joined
  have key : ∀ (l : List (Array UInt8)) (k : Nat) (a : Array UInt8), (l.zipIdx k).foldl (fun out (x : Array UInt8 × Nat) => (if x.2 > 0 then out ++ #[] else out) ++ x.1) a = a ++ (l.flatMap Array.toList).toArray := by
    intro l
    induction l with
    | nil => intro k a; simp
    | cons p r ih =>
      intro k a
      rw [List.zipIdx_cons, List.foldl_cons, ih]
      have : (if k > 0 then a ++ #[] else a) = a := by split <;> simp
      dsimp only
      rw [this, List.flatMap_cons, ← List.append_toArray, Array.append_assoc, Array.toArray_toList]
  have := key ps 0 #[]
  simpa using this
theorem takeB {id : String} {b : Array UInt8} {t : Tok} {fl : Int} (h : (fl == Builtin.Bytes.fullReadOnly) = false) : Builtin.Bytes.takeBufferQuiet? id (.bytes b t) fl = pure (some (b, none)) := by
  unfold Builtin.Bytes.takeBufferQuiet? Builtin.Bytes.takeBuffer?
  rw [KBy.special_eq KBy.look_buffer, KBy.own_buffer, h, KBy.buffer_eq]
  kernel_rfl
variable {prog : Program} {w : World} {A : Around} {E : Value → Shared → Prop} {s : Shared} {t : Tok}
theorem join_method {M : Model} {b : Array UInt8} {pl : Sem Bool} {Q : Value × List Value → Shared → Prop} (h : Q (.builtin "bytes.join", [.bytes b t]) s) : wpAny M A (getMethod (.bytes b t) "join" pl) Q E s := by
  with_reducible exact KBd.method_of (.bytes b t) (typeIs_bytes _ _ _) slot_bytes_join type_bytes_join KBd.noRef h
theorem letGo_B {M : Model} {Q : Unit → Shared → Prop} (h : Q () s) : ∀ (ps : List (Array UInt8 × Tok)) (keep : List Value), wpAny M A (Builtin.Bytes.joinLetGo (ps.map fun p => (Value.bytes p.1 p.2, none)) keep) Q E s := by
  intro ps keep
  induction ps with
  | nil => exact wpAny_pure h
  | cons p r ih =>
    rw [List.map_cons]
    unfold Builtin.Bytes.joinLetGo
    refine wpAny_bind ?_
    refine wpAny_bind (wpAny_holding (wpAny_point ?_))
    exact wpAny_pure ih
theorem noHeap (ps : List (Array UInt8 × Tok)) : (ps.map fun p => (Value.bytes p.1 p.2, (none : Option Value))).any (fun x => x.1.onHeap) = false := by
  induction ps with
  | nil => rfl
  | cons p r ih => rw [List.map_cons, List.any_cons, ih]; rfl
theorem flat_map (ps : List (Array UInt8 × Tok)) : (ps.map (·.1)).flatMap Array.toList = ps.flatMap (·.1.toList) := by rw [List.flatMap_map]
theorem sum_sizes (ps : List (Array UInt8 × Tok)) (k : Nat) : ((ps.map (·.1)).toArray).foldl (fun x y => x + y.size) k = k + (ps.flatMap (·.1.toList)).length := by
  rw [List.foldl_toArray]
  induction ps generalizing k with
  | nil => rfl
  | cons p r ih => rw [List.map_cons, List.foldl_cons, ih, List.flatMap_cons, List.length_append, ← Array.length_toList, Nat.add_assoc]
theorem getD_at {ps : List (Array UInt8 × Tok)} {i : Nat} {p : Array UInt8 × Tok} (hp : ps[i]? = some p) : (ps.map fun p => Value.bytes p.1 p.2).toArray.getD i .none = .bytes p.1 p.2 := by
  rw [Array.getD_eq_getD_getElem?, List.getElem?_toArray, List.getElem?_map, hp]; rfl
theorem join_B {l : Addr} {ps : List (Array UInt8 × Tok)} {Q : Value → Shared → Prop} (hl : s.heap.IsList l (ps.map fun p => Value.bytes p.1 p.2).toArray)
    (hz : (ps.flatMap (·.1.toList)).length ≤ 16777216) (hn : ps ≠ []) (h : ∀ t' k, Q (.bytes (ps.flatMap (·.1.toList)).toArray t') { s with toks := k }) :
    wpAny (model prog w) A (call (.builtin "bytes.join") [.bytes #[] t, .ref l]) Q E s := by
  refine wpAny_call_entry slot_bytes_join (typeIs_bytes s #[] t) entry_bytes_join ?_ (args_bytes_join _ _)
  obtain ⟨⟨cls, dd, data, sl⟩, ho, hc, n, hd⟩ := id hl
  dsimp only at hc hd
  subst hc hd
  obtain ⟨items, hit⟩ : ∃ items, items = (ps.map fun p => Value.bytes p.1 p.2).toArray := ⟨_, rfl⟩
  rw [← hit] at ho
  unfold Builtin.«bytes.join» Builtin.Bytes.joinM
  refine wpAny_bind (wpAny_of_eq (a := (Value.bytes #[] t, Value.ref l)) rfl ?_)
  refine wpAny_bind (wpAny_bind (wpAny_typeOf ⟨_, ho, rfl⟩ (wpAny_pure ?_)))
  refine wpAny_bind (wpAny_seqItems ho rfl ?_)
  have key : ∀ (f : Nat → Array (Array UInt8) × List (Value × Option Value) → Sem (ForInStep (Array (Array UInt8) × List (Value × Option Value)))) (R : Array (Array UInt8) × List (Value × Option Value) → Shared → Prop),
      (∀ i p, ps[i]? = some p → ∀ (B' : Shared → Prop), True → wpAny (model prog w) A.in1 (f i (((ps.take i).map (·.1)).toArray, (ps.take i).map fun p => (Value.bytes p.1 p.2, none))) (fun r s' => r = .yield (((ps.take (i + 1)).map (·.1)).toArray, (ps.take (i + 1)).map fun p => (Value.bytes p.1 p.2, none)) ∧ s' = s) E s) →
      R ((ps.map (·.1)).toArray, ps.map fun p => (Value.bytes p.1 p.2, none)) s →
      wpAny (model prog w) A.in1 (forIn [:items.size] (((#[] : Array (Array UInt8)), ([] : List (Value × Option Value)))) f) R E s := by
    intro f R turn fin
    rw [hit]
    rw [Std.Legacy.Range.forIn_eq_forIn_range']
    simp only [Std.Legacy.Range.size, Nat.sub_zero, Nat.add_sub_cancel, Nat.div_one, List.size_toArray, List.length_map]
    refine wpAny_forIn_list _ (fun rest q s' => s' = s ∧ ∃ i, rest = List.range' i (ps.length - i) ∧ i ≤ ps.length ∧ q = (((ps.take i).map (·.1)).toArray, (ps.take i).map fun p => (Value.bytes p.1 p.2, none))) _ ?_ ?_ _ _ ⟨rfl, 0, by simp, Nat.zero_le _, by simp⟩
    · rintro x rest q s' ⟨rfl, i, hr, hi, rfl⟩
      have hlt : i < ps.length := by
        rcases Nat.lt_or_ge i ps.length with h | h
        · exact h
        · rw [Nat.sub_eq_zero_of_le h] at hr; simp at hr
      obtain ⟨rfl, hrest⟩ : x = i ∧ rest = List.range' (i + 1) (ps.length - (i + 1)) := by
        have e : ps.length - i = (ps.length - (i + 1)) + 1 := by omega
        rw [e, List.range'_succ] at hr
        injection hr with h1 h2
        exact ⟨h1, h2⟩
      refine wpAny_mono (turn x _ (List.getElem?_eq_getElem hlt) (fun _ => True) trivial) (fun r s2 p => ?_) fun _ _ e => e
      obtain ⟨rfl, rfl⟩ := p
      exact ⟨rfl, x + 1, hrest, hlt, rfl⟩
    · rintro q s' ⟨rfl, i, hr, hi, rfl⟩
      have hin : i = ps.length := by
        rcases Nat.lt_or_ge i ps.length with h | h
        · have e : ps.length - i = (ps.length - (i + 1)) + 1 := by omega
          rw [e, List.range'_succ] at hr; exact nomatch hr
        · exact Nat.le_antisymm hi h
      rw [hin, List.take_length]
      exact fin
  dsimp only
  rw [if_pos (by decide)]
  rcases ps with _ | ⟨p, _ | ⟨q, r⟩⟩
  case cons.nil =>
    subst hit
    show wpAny _ _ (typeOf _ >>= _) _ _ _
    refine wpAny_bind (wpAny_typeOf (typeIs_bytes s _ _) ?_)
    dsimp only
    rw [if_pos (by decide)]
    refine wpAny_bind (wpAny_rule (wpAny_pure ⟨_, rfl, ?_⟩))
    have := h p.2 s.toks
    rw [show (([p] : List (Array UInt8 × Tok)).flatMap (fun x => x.1.toList)).toArray = p.1 by simp] at this
    exact this
  · exact absurd rfl hn
  · subst hit
    show wpAny _ _ (forIn _ _ _ >>= _) _ _ _
    refine wpAny_bind (key _ _ ?_ ?_)
    · intro i p hp _ _
      dsimp only
      refine wpAny_bind (wpAny_seqItems ho rfl ?_)
      dsimp only
      rw [getD_at hp, if_neg]
      · refine wpAny_bind (wpAny_holding (wpAny_of_eq (takeB (by decide +kernel)) ?_))
        dsimp only
        refine wpAny_bind (wpAny_seqItems ho rfl ?_)
        dsimp only
        rw [if_neg (by simp)]
        refine wpAny_pure ⟨?_, rfl⟩
        rw [List.take_add_one, hp]
        simp
      · rw [noHeap]; decide
    · dsimp only
      refine wpAny_bind (wpAny_pure ?_)
      rw [if_neg (by rw [Builtin.Bytes.tooLong, sizeLine_eq]; rw [sum_sizes, show (#[] : Array UInt8).size = 0 from rfl, Nat.zero_mul, Nat.zero_add]; simp only [decide_eq_true_eq]; omega)]
      refine wpAny_bind (wpAny_mkBytes ?_ ?_)
      · refine wpAny_bind (wpAny_holding (wpAny_point ?_))
        refine wpAny_bind (letGo_B ?_ _ _)
        refine wpAny_pure ⟨_, rfl, ?_⟩
        rw [joined_nil, flat_map]
        exact h _ _
      · rw [joined_nil, flat_map, sizeLine_eq]
        simp only [List.size_toArray]
        omega
end sJoin
theorem fl8 : True := by first | walk1 | trivial

section sComp
open PySem PySem.W PyProof.Rows PyProof.V PySem.Spec PySem.Calls
open PyProof.Rows.LCg
def Src1 (prog : Program) (w : World) (A : Around) (xv : Value) (n : Nat) (P : Nat → Value → Prop) : Prop :=
  ∀ (s : Shared) (Q : Value → Shared → Prop) (E : Value → Shared → Prop),
    (∀ (o : Obj) (St : Nat → Heap → Prop), Walks prog w A s.heap.objs.size [s.heap.objs.size] [s.heap.objs.size] n P St → (∀ i h, St i h → ∃ o, h.get? s.heap.objs.size = some o) → St 0 (s.heap.push o) → Q (.ref s.heap.objs.size) { s with heap := s.heap.push o }) →
    wpAny (model prog w) A (pyIter xv) Q E s
variable {prog : Program} {w : World} {A : Around} {E : Value → Shared → Prop} {s : Shared} {h₀ : Heap} {L : Addr} {m : PySem.Str → Option Value} {env : Env}
theorem Src1.bytes {b : Array UInt8} {tb : Tok} (hh : A.handled = none) : Src1 prog w A (.bytes b tb) b.size (fun i v => ∃ (c : UInt8) (t : Tok), b[i]? = some c ∧ v = .int (c.toNat : Int) t) :=
  fun s _ _ h => KBw.pyIter_bytes (h _ _ (KBw.walks hh s.heap.objs.size b tb) (fun _ _ st => let ⟨o, ho, _⟩ := st; ⟨o, ho⟩) ⟨_, Heap.get?_push_size _ rfl, rfl, rfl⟩)
theorem Src1.str {y : PySem.Str} {ty : Tok} (hh : A.handled = none) : Src1 prog w A (.str y ty) y.cps.size (fun i v => ∃ (c : Nat) (t : Tok), y.cps[i]? = some c ∧ v = .str ⟨#[c]⟩ t) := by
  intro s Q E h
  cases ha : y.cps.all (· < 128)
  · exact wpAny_pyIter_wide ha (h _ _ (Walks.strWide hh _ y ty) (fun _ _ st => let ⟨o, ho, _⟩ := st; ⟨o, ho⟩) ⟨_, Heap.get?_push_size _ rfl, rfl, rfl⟩)
  · exact wpAny_pyIter_ascii ha (h _ _ (Walks.strAscii hh _ y ty) (fun _ _ st => let ⟨o, ho, _⟩ := st; ⟨o, ho⟩) ⟨_, Heap.get?_push_size _ rfl, rfl, rfl⟩)
def SrcW (prog : Program) (w : World) (A : Around) (h₀ : Heap) (L : Addr) (m : PySem.Str → Option Value) (env : Env) (elt : PySem.Expr) (x : PySem.Str) (scope : Scope) (cl : List (PySem.Str × Addr)) (Fin : Shared → List Value → List (Addr × Obj) → Prop) (xv : Value) (s₁ : Shared) : Prop :=
  ∃ n P news, A.handled = none ∧ Fr h₀ L s₁.heap m ∧ News h₀ L s₁.heap news ∧ n ≤ sizeLine ∧ Src1 prog w A xv n P ∧
    ∀ s₂ : Shared, (∃ h, s₂ = { s₁ with heap := h }) → CompRest prog w A h₀ L m env elt x scope cl s₂ (fun _ => True) P (Fin s₂) n 0 [] news
theorem SrcW.mk {elt : PySem.Expr} {x : PySem.Str} {scope : Scope} {cl : List (PySem.Str × Addr)} {Fin : Shared → List Value → List (Addr × Obj) → Prop} {xv : Value} {s₁ : Shared} {n : Nat} {P : Nat → Value → Prop} {news : List (Addr × Obj)} (hs : Src1 prog w A xv n P)
    (hh : A.handled = none) (F : Fr h₀ L s₁.heap m) (N : News h₀ L s₁.heap news) (hz : n ≤ sizeLine)
    (h : ∀ g, CompRest prog w A h₀ L m env elt x scope cl { s₁ with heap := g } (fun _ => True) P (Fin { s₁ with heap := g }) n 0 [] news) : SrcW prog w A h₀ L m env elt x scope cl Fin xv s₁ :=
  ⟨n, P, news, hh, F, N, hz, hs, fun _ ⟨g, e⟩ => e ▸ h g⟩
theorem at_st {I : Addr} {fp : List Addr} {n : Nat} {P : Nat → Value → Prop} {St : Nat → Heap → Prop} (hfp : fp = [I]) (W : Walks prog w A I fp [I] n P St) : ∀ i (h h' : Heap) (o : Obj) (nw : List (Addr × Obj)), St i h → h.get? I = some o → h'.get? I = some o → (∀ b o, h₀.get? b = some o → h'.get? b = some o) → News h₀ L h' nw → True → St i h' :=
  fun i h h' o nw st e e' _ _ _ => W.frame i h h' st fun b hb o' he => by
    subst hfp
    rw [List.mem_singleton.mp hb] at he ⊢
    rw [e] at he
    rw [e']; exact he
theorem ListComp_W {elt iter : PySem.Expr} {x : PySem.Str} {px : Pos} {scope : Scope} {cl : List (PySem.Str × Addr)} {pos : Pos} {Q : Value → Shared → Prop} (F₀ : Fr h₀ L s.heap m)
    (hclos : closureFor scope env = pure cl) (hcell : ∀ y ∈ scope.names, y.2 ≠ .cell) (hkind : scope.kind = .function)
    (hnames : ∀ y ∈ scope.names, y.2 = .local → scope.names.lookup y.1 = some .local) (hx : scope.names.lookup x = some .local)
    (h : wpAny (model prog w) A (eval iter env) (SrcW prog w A h₀ L m env elt x scope cl (fun s₂ => FinE h₀ L m s₂ Q)) E s)
    (hs : ∀ x, foldedSetIterable iter env x = pure x := by intro _; rfl) :
    wpAny (model prog w) A (eval (.ListComp elt [⟨.Name x px, iter, [], 0⟩] scope pos) env) Q E s := by
  rw [eval_ListComp]
  refine wpAny_comprehension_free (use := none) rfl hs hclos hkind hnames (wpAny_mono h (fun xv s₁ h₁ => ?_) fun _ _ e => e)
  obtain ⟨n, P, news, hh, F, N, hsz, S1, R⟩ := h₁
  refine S1 _ _ _ fun o St W hIo hst => ?_
  refine block_U W hsz hIo (at_st rfl W) hcell hkind hx hst (fun b hb => ?_)
      (F.keeps fun _ _ e => Heap.get?_push_of_some _ e) (N.grown fun _ _ e => Heap.get?_push_of_some _ e) (Nat.ne_of_lt F.ns.lt) (next_is_new F) (fun p hp => Nat.ne_of_lt (Heap.lt_size (N p hp).1)) trivial (R _ ⟨_, rfl⟩) ?_
  · rw [List.mem_singleton.mp hb]
    show s₁.heap.objs.size < (s₁.heap.push _).objs.size
    rw [Heap.size_push]; exact Nat.lt_succ_self _
  · intro D C h tk m' ys news' F' N' o1 hn hC₀ hD₀ hCL hDL hCD offC fin
    refine ⟨m', hn, fun h'' hs'' => fin D h'' tk (F'.change hs'' hCL hC₀) (fun p hp => ?_) o1⟩
    refine ⟨hs''.extBut _ _ ?_ (N' p hp).1, (N' p hp).2⟩
    rcases List.mem_cons.mp hp with rfl | hp
    · exact Ne.symm hCD
    · exact offC p hp
theorem Assign_ListComp_W {elt iter : PySem.Expr} {x y : PySem.Str} {px py : Pos} {scope : Scope} {cl : List (PySem.Str × Addr)} {pos spos : Pos} {Q : Flow → Shared → Prop} (F₀ : Fr h₀ L s.heap m) (hLe : env.locals = L)
    (hsw : swapsWith (.ListComp elt [⟨.Name x px, iter, [], 0⟩] scope pos) (some (.Name y py)) spos.line env = pure true)
    (hclos : closureFor scope env = pure cl) (hcell : ∀ z ∈ scope.names, z.2 ≠ .cell) (hkind : scope.kind = .function)
    (hnames : ∀ z ∈ scope.names, z.2 = .local → scope.names.lookup z.1 = some .local) (hx : scope.names.lookup x = some .local)
    (hy : env.kindOf y = some .local) (hp : (env.scope.kind == .class || (env.scope.kind == .module && env.locals != env.globals)) = false)
    (h : wpAny (model prog w) A (eval iter env) (SrcW prog w A h₀ L m env elt x scope cl (fun s₂ => FinA h₀ L m s₂ y Q)) E s)
    (hs : ∀ x, foldedSetIterable iter env x = pure x := by intro _; rfl) :
    wpAny (model prog w) A (exec (.Assign [.Name y py] (.ListComp elt [⟨.Name x px, iter, [], 0⟩] scope pos) spos) env) Q E s := by
  subst hLe
  rw [exec_Assign_Name_used _ _ _ _ hsw]
  refine wpAny_bind (wpAny_standAt (wpAny_bind ?_))
  show wpAny _ A (do let _ ← comprehension (.ListComp elt [⟨.Name x px, iter, [], 0⟩] scope pos) scope env _ (newList []) false (eval iter env) (some (assign (.Name y py) env))) _ _ s
  refine wpAny_bind (wpAny_mono (wpAny_comprehension_free (use := some (assign (.Name y py) env)) (Q := fun _ s' => Q .next s') rfl hs hclos hkind hnames
    (wpAny_mono h (fun xv s₁ h₁ => ?_) fun _ _ e => e)) (fun _ s' hq => wpAny_pure (wpAny_pure hq)) fun _ _ e => e)
  obtain ⟨n, P, news, hh, F, N, hsz, S1, R⟩ := h₁
  refine S1 _ _ _ fun o St W hIo hst => ?_
  refine block_U W hsz hIo (at_st rfl W) hcell hkind hx hst (fun b hb => ?_)
      (F.keeps fun _ _ e => Heap.get?_push_of_some _ e) (N.grown fun _ _ e => Heap.get?_push_of_some _ e) (Nat.ne_of_lt F.ns.lt) (next_is_new F) (fun p hp => Nat.ne_of_lt (Heap.lt_size (N p hp).1)) trivial (R _ ⟨_, rfl⟩) ?_
  · rw [List.mem_singleton.mp hb]
    show s₁.heap.objs.size < (s₁.heap.push _).objs.size
    rw [Heap.size_push]; exact Nat.lt_succ_self _
  · intro D C h' tk m' ys news' F' N' o1 hn hC₀ hD₀ hCL hDL hCD offC fin
    show wpAny _ A (assign (.Name y py) env (.ref D)) _ _ _
    refine wpAny_assign_Name (wpAny_storeName_local hy F'.ns (fun h₂ hn₂ hs₂ => ?_) hp)
    have hL₀ : h₀.get? env.locals = none := Heap.get?_none_of_le F'.above
    have F₂ : Fr h₀ env.locals h₂ (fun z => if z = y then some (.ref D) else m z) := ⟨hn₂, fun b o e => hs₂.extBut b o (fun q => by rw [q, hL₀] at e; cases e) (F'.keep b o e), F'.above⟩
    refine ⟨m', hn.sameBut hs₂ hCL, fun h'' hs'' => fin D h'' _ (F₂.change hs'' hCL hC₀) (fun p hp => ?_) o1⟩
    have z : h₂.get? p.1 = some p.2 := hs₂.extBut _ _ (N' p hp).2.1 (N' p hp).1
    refine ⟨hs''.extBut _ _ ?_ z, (N' p hp).2⟩
    rcases List.mem_cons.mp hp with rfl | hp
    · exact Ne.symm hCD
    · exact offC p hp
theorem rest_inv {elt : PySem.Expr} {x : PySem.Str} {scope : Scope} {cl : List (PySem.Str × Addr)} {S : List (Addr × Obj) → Prop} {P : Nat → Value → Prop} {Fin : List Value → List (Addr × Obj) → Prop} {n : Nat} {news : List (Addr × Obj)}
    (inv : Nat → List Value → List (Addr × Obj) → Prop) (h0 : inv 0 [] news)
    (turn : ∀ i ys nw v I oI C oC D m₂ h tk (E' : Value → Shared → Prop), i < n → inv i ys nw → P i v → NsObj oC m₂ → m₂ x = some v → Fr h₀ L h m → News h₀ L h ((I, oI) :: (C, oC) :: (D, lst ys) :: nw) → Off3 I C D nw → ((@Ne Nat I C) ∧ (@Ne Nat I D) ∧ (@Ne Nat C D)) →
      wpAny (model prog w) A (eval elt (compEnvC scope cl C env)) (CompEnd h₀ L m { s with heap := h, toks := tk } I oI C oC D (lst ys) S (fun y nw' => inv (i + 1) (ys ++ [y]) nw')) E' { s with heap := h, toks := tk })
    (fin : ∀ ys nw, inv n ys nw → Fin ys nw) : CompRest prog w A h₀ L m env elt x scope cl s S P Fin n 0 [] news := by
  have go : ∀ k i ys nw, i + k = n → inv i ys nw → CompRest prog w A h₀ L m env elt x scope cl s S P Fin k i ys nw := by
    intro k
    induction k with
    | zero =>
      intro i ys nw e hi
      obtain rfl : i = n := by omega
      exact CompRest.zero (fin ys nw hi)
    | succ k ih =>
      intro i ys nw e hi
      refine CompRest.succ fun v I oI C oC D m₂ h tk E' hv hC hx F N off ne => wpAny_mono (turn i ys nw v I oI C oC D m₂ h tk E' (by omega) hi hv hC hx F N off ne) (fun y s' he => ?_) fun _ _ e => e
      obtain ⟨h', tk', nw', e1, e2, e3, e4, e5, e6⟩ := he
      exact ⟨h', tk', nw', e1, e2, e3, e4, e5, ih (i + 1) _ _ (by omega) e6⟩
  exact go n 0 [] news (Nat.zero_add n) h0
theorem restT_inv {ct elt : PySem.Expr} {x : PySem.Str} {scope : Scope} {cl : List (PySem.Str × Addr)} {S : List (Addr × Obj) → Prop} {P : Nat → Value → Prop} {Fin : List Value → List (Addr × Obj) → Prop} {n : Nat} {news : List (Addr × Obj)}
    (inv : Nat → List Value → List (Addr × Obj) → Prop) (h0 : inv 0 [] news)
    (turn : ∀ i ys nw v I oI C oC D m₂ h tk (E' : Value → Shared → Prop), i < n → inv i ys nw → P i v → NsObj oC m₂ → m₂ x = some v → Fr h₀ L h m → News h₀ L h ((I, oI) :: (C, oC) :: (D, lst ys) :: nw) → Off3 I C D nw → ((@Ne Nat I C) ∧ (@Ne Nat I D) ∧ (@Ne Nat C D)) →
      wpAny (model prog w) A (isTrue ct (compEnvC scope cl C env) (eval ct (compEnvC scope cl C env))) (fun ok s' => if ok = true then
        wpAny (model prog w) A (eval elt (compEnvC scope cl C env)) (CompEnd h₀ L m { s with heap := h, toks := tk } I oI C oC D (lst ys) S (fun y nw' => inv (i + 1) (ys ++ [y]) nw')) E' s'
        else CompEnd h₀ L m { s with heap := h, toks := tk } I oI C oC D (lst ys) S (fun _ nw' => inv (i + 1) ys nw') Value.none s') E' { s with heap := h, toks := tk })
    (fin : ∀ ys nw, inv n ys nw → Fin ys nw) : LCt.CompRestT prog w A h₀ L m env ct elt x scope cl s S P Fin n 0 [] news := by
  have go : ∀ k i ys nw, i + k = n → inv i ys nw → LCt.CompRestT prog w A h₀ L m env ct elt x scope cl s S P Fin k i ys nw := by
    intro k
    induction k with
    | zero =>
      intro i ys nw e hi
      obtain rfl : i = n := by omega
      exact LCt.CompRestT.zero (fin ys nw hi)
    | succ k ih =>
      intro i ys nw e hi
      refine LCt.CompRestT.succ fun v I oI C oC D m₂ h tk E' hv hC hx F N off ne => wpAny_mono (turn i ys nw v I oI C oC D m₂ h tk E' (by omega) hi hv hC hx F N off ne) (fun ok s' he => ?_) fun _ _ e => e
      cases ok with
      | true =>
        rw [if_pos rfl] at he ⊢
        refine wpAny_mono he (fun y s'' h2 => ?_) fun _ _ e => e
        obtain ⟨h', tk', nw', e1, e2, e3, e4, e5, e6⟩ := h2
        exact ⟨h', tk', nw', e1, e2, e3, e4, e5, ih (i + 1) _ _ (by omega) e6⟩
      | false =>
        rw [if_neg Bool.false_ne_true] at he ⊢
        obtain ⟨h', tk', nw', e1, e2, e3, e4, e5, e6⟩ := he
        exact ⟨h', tk', nw', e1, e2, e3, e4, e5, ih (i + 1) _ _ (by omega) e6⟩
  exact go n 0 [] news (Nat.zero_add n) h0
end sComp
theorem fl9 : True := by first | walk1 | trivial

section sComp2
open PySem PySem.W PyProof.Rows PyProof.V PySem.Spec PySem.Calls
open PyProof.Rows.LCg
variable {prog : Program} {w : World} {A : Around} {E : Value → Shared → Prop} {s : Shared} {h₀ : Heap} {L : Addr} {m : PySem.Str → Option Value} {env : Env}
def TupAt (l : Addr) (items : Array Value) (nx : List (Addr × Obj)) : Prop := ∃ o k, (l, o) ∈ nx ∧ o.cls = .type "tuple" ∧ o.data = .seq items k
theorem TupAt.is {l : Addr} {items : Array Value} {nx : List (Addr × Obj)} {h : Heap} (x : TupAt l items nx) (N : News h₀ L h nx) : h.IsTuple l items := by
  obtain ⟨o, k, hm, hc, hd⟩ := x
  exact ⟨o, (N _ hm).1, hc, k, hd⟩
def SrcTp (prog : Program) (w : World) (A : Around) (h₀ : Heap) (L : Addr) (m : PySem.Str → Option Value) (env : Env) (elt : PySem.Expr) (x : PySem.Str) (scope : Scope) (cl : List (PySem.Str × Addr)) (Fin : Shared → List Value → List (Addr × Obj) → Prop) (xv : Value) (s₁ : Shared) : Prop :=
  ∃ (l : Addr) (items : Array Value) (news : List (Addr × Obj)), xv = .ref l ∧ A.handled = none ∧ Fr h₀ L s₁.heap m ∧ News h₀ L s₁.heap news ∧ TupAt l items news ∧ items.size ≤ sizeLine ∧
    ∀ s₂ : Shared, (∃ h, s₂ = { s₁ with heap := h }) → CompRest prog w A h₀ L m env elt x scope cl s₂ (TupAt l items) (fun i v => items[i]? = some v) (Fin s₂) items.size 0 [] news
theorem ListComp_Tp {elt iter : PySem.Expr} {x : PySem.Str} {px : Pos} {scope : Scope} {cl : List (PySem.Str × Addr)} {pos : Pos} {Q : Value → Shared → Prop} (F₀ : Fr h₀ L s.heap m)
    (hclos : closureFor scope env = pure cl) (hcell : ∀ y ∈ scope.names, y.2 ≠ .cell) (hkind : scope.kind = .function)
    (hnames : ∀ y ∈ scope.names, y.2 = .local → scope.names.lookup y.1 = some .local) (hx : scope.names.lookup x = some .local)
    (h : wpAny (model prog w) A (eval iter env) (SrcTp prog w A h₀ L m env elt x scope cl (fun s₂ => FinE h₀ L m s₂ Q)) E s)
    (hs : ∀ x, foldedSetIterable iter env x = pure x := by intro _; rfl) :
    wpAny (model prog w) A (eval (.ListComp elt [⟨.Name x px, iter, [], 0⟩] scope pos) env) Q E s := by
  rw [eval_ListComp]
  refine wpAny_comprehension_free (use := none) rfl hs hclos hkind hnames (wpAny_mono h (fun xv s₁ h₁ => ?_) fun _ _ e => e)
  obtain ⟨l, items, news, rfl, hh, F, N, hT, hsz, R⟩ := h₁
  have hls := hT.is N
  have hlt : l < s₁.heap.objs.size := by obtain ⟨o, e, _⟩ := id hls; exact Heap.lt_size e
  refine wpAny_pyIter_tuple hls ?_
  refine block_U (Walks.tuple hh s₁.heap.objs.size l (Nat.ne_of_lt hlt) items) hsz (fun i h st => let ⟨⟨o, ho, _⟩, _⟩ := st; ⟨o, ho⟩) (S := TupAt l items) (fun i h h' o nw st e e' _ N' hS => ?_) hcell hkind hx ⟨⟨_, Heap.get?_push_size _ rfl, rfl, rfl⟩, hls.at fun o e => Heap.get?_push_of_some _ e⟩ (fun b hb => ?_)
      (F.keeps fun _ _ e => Heap.get?_push_of_some _ e) (N.grown fun _ _ e => Heap.get?_push_of_some _ e) (Nat.ne_of_lt F.ns.lt) (next_is_new F) (fun p hp => Nat.ne_of_lt (Heap.lt_size (N p hp).1)) hT (R _ ⟨_, rfl⟩) ?_
  · obtain ⟨⟨o1, e1, r1⟩, _⟩ := st
    rw [e] at e1
    cases e1
    exact ⟨⟨o, e', r1⟩, hS.is N'⟩
  · show b < (s₁.heap.push _).objs.size
    rw [Heap.size_push]
    rcases List.mem_cons.mp hb with rfl | hb
    · exact Nat.lt_succ_self _
    · rw [List.mem_singleton.mp hb]; exact Nat.lt_succ_of_lt hlt
  · intro D C h tk m' ys news' F' N' o1 hn hC₀ hD₀ hCL hDL hCD offC fin
    refine ⟨m', hn, fun h'' hs'' => fin D h'' tk (F'.change hs'' hCL hC₀) (fun p hp => ?_) o1⟩
    refine ⟨hs''.extBut _ _ ?_ (N' p hp).1, (N' p hp).2⟩
    rcases List.mem_cons.mp hp with rfl | hp
    · exact Ne.symm hCD
    · exact offC p hp
end sComp2
theorem fl10 : True := by first | walk1 | trivial

section sRaise
open PySem PySem.W PyProof.Rows PyProof.V PySem.Spec PySem.Calls
section
variable {M : Model} {A : Around} {E : Value → Shared → Prop} {h : Heap} {g : Array GenState} {d : Drawn} {t : Nat} {os : OsState}
variable {nm q : PySem.Str} {C N : Addr} {bs bm bmB : List Value} {hdct : Bool} {sn : List PySem.Str} {sub : List Value} {ab : Bool} {col : Option Bool} {dd : Option Addr} {k0 k1 k2 k3 k5 : Option Value} {B newId initId : String}
theorem check_new_exc (F : ExcBaseFacts B newId initId bmB) (hB : bm.contains (.type B) = true) {rest : List Value} {Q : Unit → Shared → Prop} (hC : h.get? C = some (excClassObj nm q C N bs bm hdct sn sub ab col dd k0 k1 k2 k3 k5 newId))
    (hq : Q () ⟨h, g, d, t, os⟩) : wpAny M A (checkBuiltinCall newId ⟨.ref C :: rest, []⟩) Q E ⟨h, g, d, t, os⟩ := by
  have hcont : (Value.ref C :: bm).contains (.type B) = true := by rw [List.contains_cons, hB, Bool.or_true]
  have hstar := F.noStar
  simp only [checkBuiltinCall, F.newKind, F.newSplit, F.newRow]
  repeat (first | refine wpAny_loadPart_at hC ?_ | (refine wpAny_isSubtype_exc hC ?_; rw [hcont]) | refine wpAny_staticBase_exc hC ?_ | refine wpAny_madeBy_exc hC ?_ | simp only [bne_self_eq_false, Bool.false_eq_true, if_false] | wp_step)
  exact hq
end
abbrev excOf (C t : Addr) (dx : Option Addr) : Obj := { cls := .ref C, dict := dx, data := .fields #[.ref t, .none, .none, .none, .bool false, .none] }
abbrev tupOf (vs : List Value) : Obj := { cls := .type "tuple", data := .seq vs.toArray }
variable {prog : Program} {w : World} {A : Around} {R : Result → Shared → Prop} {h : Heap} {g : Array GenState} {d : Drawn} {t : Nat} {os : OsState}
variable {nm q : PySem.Str} {C N : Addr} {bs bm bmB : List Value} {hdct : Bool} {sn : List PySem.Str} {sub : List Value} {ab : Bool} {col : Option Bool} {dd : Option Addr} {k0 k1 k2 k3 k5 : Option Value} {B newId initId : String}
theorem new_exc (F : ExcBaseFacts B newId initId bmB) (hB : bm.contains (.type B) = true) (hA : bm.contains (.type "AttributeError") = false) (hN : bm.contains (.type "NameError") = false) {rest : List Value}
    (hC : h.get? C = some (excClassObj nm q C N bs bm hdct sn sub ab col dd k0 k1 k2 k3 k5 newId))
    (hq : R (.ok (.ret (.ref (h.objs.size + 1)))) ⟨(h.push (tupOf rest)).push (excOf C h.objs.size none), g, d, t, os⟩) (hrest : rest.length ≤ sizeLine) :
    codeAny (model prog w) A (.builtin newId ⟨.ref C :: rest, []⟩) R ⟨h, g, d, t, os⟩ := by
  have hends := F.ends
  have hcB : (Value.ref C :: bm).contains (.type B) = true := by rw [List.contains_cons, hB, Bool.or_true]
  have hcA : (Value.ref C :: bm).contains (.type "AttributeError") = false := by rw [List.contains_cons, hA]; rfl
  have hcN : (Value.ref C :: bm).contains (.type "NameError") = false := by rw [List.contains_cons, hN]; rfl
  refine codeAny_builtinAt F.entry ?_
  unfold Builtin.«BaseException.__new__»
  refine _root_.PySem.wpAt_bind ?_
  show _root_.PySem.wpAt _ _ _ (stack >>= _) _ _ _
  refine _root_.PySem.wpAt_bind (_root_.PySem.wpAt_stack fun p below => _root_.PySem.wpAt_of_wpAny ?_)
  wp_walk
  refine _root_.PySem.wpAt_of_wpAny ?_
  rw [F.owner]
  repeat (first | with_reducible refine wpAny_madeHere_exc F.canon hC ?_ | with_reducible refine wpAny_loadPart_at hC ?_ | (with_reducible refine wpAny_isSubtype_exc hC ?_; first | rw [hcB] | rw [hcA] | rw [hcN]) | wp_step)
  show R _ _
  rw [Heap.size_push]
  exact hq
theorem exc_core (F : ExcBaseFacts B newId initId bmB) (hB : bm.contains (.type B) = true) (hA : bm.contains (.type "AttributeError") = false) (hN : bm.contains (.type "NameError") = false) {rest : List Value} {init : Value}
    (hC : h.get? C = some (excClassObj nm q C N bs bm hdct sn sub ab col dd k0 k1 k2 k3 k5 newId)) (habs : ab = false)
    (call : Looks (model prog w) h (specialOf (.ref C) "__call__") (some (.builtin "type.__call__"))) (typ : Looks (model prog w) h (isInstance (.ref C) (.type "type")) true) (self : Looks (model prog w) h (isSubtype (.ref C) (.ref C)) true)
    (hi : Looks (model prog w) h (typeLookup (.ref C) "__init__") (some init)) (hb : ∀ self, Looks (model prog w) h (bindSpecial init self) (init, [self])) (hrest : rest.length ≤ sizeLine)
    (hq : codeAny (model prog w) (A.under (.builtin "type.__call__" ⟨.ref C :: rest, []⟩)) (.call init ⟨.ref (h.objs.size + 1) :: rest, []⟩) (InitBack (h.objs.size + 1) R) ⟨(h.push (tupOf rest)).push (excOf C h.objs.size none), g, d, t, os⟩) :
    codeAny (model prog w) A (.call (.ref C) ⟨rest, []⟩) R ⟨h, g, d, t, os⟩ := by
  subst habs
  refine codeAny_of_tree ?_
  show wpAny _ _ (callAny (.ref C) _) _ _ _
  refine nd_load hC ?_
  show wpAny _ _ (callAny.viaDunder (.ref C) _) _ _ _
  unfold callAny.viaDunder
  refine wpAny_bind (call.at ?_)
  dsimp only
  rw [tc_bind]
  refine wpAny_bind (wpAny_pure (wpAny_bind (wpAny_pure ?_)))
  refine wpAny_pure (a := Fin.again (.call (.builtin "type.__call__") ⟨.ref C :: rest, []⟩)) (And.intro rfl ?_)
  refine codeAny_call_builtin_at (Code.quiet_builtin _ (by decide +kernel)) entry_typeCall (check_slot tc_kind tc_split typ (tc_args _ _ _) ?_)
  repeat (first | with_reducible refine wpAny_loadPart_at hC ?_ | with_reducible refine wpAny_madeBy_exc hC ?_ | wp_step)
  refine codeAny_call_builtin_code (Code.quiet_builtin _ F.quiet) (check_new_exc F hB hC ?_)
  refine new_exc F hB hA hN hC ?_ hrest
  show wpAny _ _ _ _ _ _
  have k : ∀ b o, h.get? b = some o → ((h.push (tupOf rest)).push (excOf C h.objs.size none)).get? b = some o := fun b o e => Heap.get?_push_of_some _ (Heap.get?_push_of_some _ e)
  have hx : ((h.push (tupOf rest)).push (excOf C h.objs.size none)).get? (h.objs.size + 1) = some (excOf C h.objs.size none) := by heap_get
  have t1 : Looks (model prog w) ((h.push (tupOf rest)).push (excOf C h.objs.size none)) (typeOf (.ref (h.objs.size + 1))) (.ref C) := (Looks.ld hx).andThen .now
  have s1 := self.keeps k
  have i1 := hi.keeps k
  have b1 := (hb (.ref (h.objs.size + 1))).keeps k
  unfold isInstance callSpecial? specialOf
  repeat (first | with_reducible refine wpAny_call ?_ | lk)
  refine codeAny_mono hq fun r s' z => ?_
  rcases r with e | (v | _ | _ | _) <;> first | exact z | exact z.elim | skip
  obtain ⟨rfl, z⟩ := z
  exact wpAny_pure (wpAny_pure z)
end sRaise
theorem fl11 : True := by first | walk1 | trivial

section sRaise2
open PySem PySem.W PyProof.Rows PyProof.V PySem.Spec PySem.Calls PySem.Builtin PySem.Builtin.ObjectAttr
section
variable {w : World} {A : Around} {E : Value → Shared → Prop} {s : Shared}
theorem store_told {x t : Addr} {v : Value} {Q : Unit → Shared → Prop} (X : (hd.heap_1 w.params).In s.heap) (hx : s.heap.get? x = some (excOf 57 t none))
    (hq : ∀ h' d tk', h'.get? x = some (excOf 57 t (some d)) → (∀ b o, b ≠ x → s.heap.get? b = some o → h'.get? b = some o) → Q () { s with heap := h', toks := tk' }) :
    wpAny (model PG w) A (setAttr (.ref x) "told" v) Q E s := by
  have I : InstAt s.heap x (excOf 57 t none) 57 none := ⟨hx, rfl, rfl, trivial⟩
  refine set_plain X I (by k_dflt k_is) ?_
  have SF := PySem.F.store_object
  have hc : ∃ cd, clsIn (hd.heap_1 w.params) 57 = some cd ∧ cd.mro = [.ref 57, .ref 32, .type "Exception", .type "BaseException", .type "object"] ∧ cd.hasDict = true := by
    refine ⟨_, by k_dflt k_is, rfl, rfl⟩
  obtain ⟨cd, hc, hmro, hdct⟩ := hc
  have hm : Looks (model PG w) s.heap (mroOf (.ref 57)) cd.mro := (looks_clsIn X hc).andThen .now
  have sub : Looks (model PG w) s.heap (isInstance (.ref x) (.type "object")) true := I.type.andThen (looks_mroIn X (by unfold mroIn; rw [hc, Option.bind_some, hmro]; rfl))
  refine codeAny_call_builtin SF.slot.plain SF.entry (@check_slot (model PG w) _ _ { s with toks := s.toks + 1 } "object.__setattr__" "object" "__setattr__" (.ref x) [.str "told" s.toks, v] [] _ SF.kind SF.split sub (SF.args (.ref x) (.str "told" s.toks) v) ?_)
  have ha : findIn (hd.heap_1 w.params) (.ref 57) "told" = some none := by k_dflt k_is
  have L3 : Looks (model PG w) s.heap (storeTaker? none) none := .now
  rw [osa_eq, refuse_eq]
  refine wpAny_bind (wpAny_bind (I.type _ _ _ _ (fun _ _ e => e) (wpAny_bind (hm _ _ _ _ (fun _ _ e => e) ?_))))
  rw [hmro, refuseLoop_ref, refuseLoop_ref, PySem.F.store_Exception.passes]
  refine wpAny_pure (wpAny_bind (I.type _ _ _ _ (fun _ _ e => e) (wpAny_bind ((looks_findIn X ha) _ _ _ _ (fun _ _ e => e) (wpAny_bind (L3 _ _ _ _ (fun _ _ e => e) ?_))))))
  show wpAny _ _ (storeInOwnDict (.ref x) (.ref 57) (.str "told" s.toks) "told" v false) _ _ _
  refine wpAny_bind (wpAny_pure (wpAny_bind (wpAny_bind (wpAny_loadPart hx (wpAny_bind ((looks_clsIn X hc) _ _ _ _ (fun _ _ e => e) ?_))))))
  rw [hdct]
  obtain ⟨hh, g, dr, tk, os⟩ := s
  dsimp only at hx hq
  have hx₁ : (hh.push { cls := .type "dict", data := .dict #[] }).get? x = some (excOf 57 t none) := Heap.get?_push_of_some _ hx
  have hxs : x ≠ hh.objs.size := Nat.ne_of_lt (Heap.lt_size hx)
  show wpAny _ _ (alloc emptyDict >>= fun d => update x (fun o => { o with dict := some d }) >>= fun _ => dictMade (.ref 57) x d) _ _ _
  refine wpAny_bind (wpAny_alloc ?_)
  refine wpAny_bind (wpAny_update hx₁ ?_)
  refine wpAny_pure (a := some hh.objs.size) ?_
  have hgd : ((hh.push emptyDict).update x fun o => { o with dict := some hh.objs.size }).get? hh.objs.size = some emptyDict :=
    (Heap.get?_update_ne _ _ _ _ hxs.symm).trans (Heap.get?_push_at rfl rfl)
  have hnd : ((hh.push emptyDict).update x fun o => { o with dict := some hh.objs.size }).Ns hh.objs.size (fun _ => none) :=
    ⟨_, #[], _, hgd, rfl, fun e he => absurd he (by simp), fun _ => rfl⟩
  show wpAny _ _ (storeInDict hh.objs.size (.str "told" tk) "told" v) _ _ _
  unfold storeInDict newKeyGuard
  refine wpAny_bind (wpAny_pure (wpAny_bind (wpAny_nsSet1 (Heap.Ns1.of_empty hnd) fun h' hn' hs => ?_)))
  obtain ⟨oD, esD, epD, hoD, hdD, hcD⟩ := hn'.count (Within.cons _ v Within.nil)
  refine wpAny_bind (wpAny_lookBehind hoD (by rw [hdD]; exact pastItsLine_dict (Nat.le_trans hcD (by rw [List.length_cons, List.length_nil, sizeLine_eq]; omega))) ?_)
  refine wpAny_pure ?_
  refine hq h' hh.objs.size _ ?_ (fun b ob hbx hb => ?_)
  · exact (hs.2 x hxs).trans (Heap.get?_update_self _ hx₁ rfl)
  · exact (hs.2 b (Nat.ne_of_lt (Heap.lt_size hb))).trans ((Heap.get?_update_ne _ _ _ _ hbx).trans (Heap.get?_push_of_some _ hb))
structure MadeBad (h h' : Heap) (e t : Addr) (vs : List Value) : Prop where
  keep : ∀ b o, h.get? b = some o → h'.get? b = some o
  new : h.get? e = none
  newt : h.get? t = none
  there : ∃ d, h'.get? e = some (excOf 57 t (some d))
  tup : h'.get? t = some (tupOf vs)
end
local macro_rules | `(tactic| walk_at $s:str) => `(tactic| k_extra $(Lean.Syntax.mkStrLit ("S13." ++ s.getString)))
theorem zm1 : True := by
  (k_with "S13.setAttr ref" => k_extra "R0")
  trivial
theorem call_bad {w : World} {dp ut : Nat} {gd : Option (List Code)} {cn : PySem.Str} {cs : Scope} {a : Addr} {ccd : Value} {cl : List (PySem.Str × Addr)} {outer : List Env} {A₀ : Around} {base h₀ : Heap} {L : Addr} {m mg mb : PySem.Str → Option Value} {mean : ExcName → Option Value} {s : Shared} {Q E : Value → Shared → Prop} {x : PySem.Str} {tx : Tok}
    (B : Below A₀ base outer h₀) (F : Fr h₀ L s.heap m) (X : (hd.heap_1 w.params).In h₀) (T : Top VW LS mean mg mb h₀) (hk : cs.kind = .function)
    (hd : dp + 3 < recursionLimit) (hu : ut + 20 < cLine)
    (hq : ∀ e t h' tk', MadeBad s.heap h' e t [.str x tx] → Q (.ref e) { s with heap := h', toks := tk' }) :
    wpAny (model PG w) (ktrTop dp ut gd cn cs L a ccd cl outer) (call (.ref 57) [.str x tx]) Q E s := by
  refine wpAny_call ?_
  obtain ⟨hh, g, dr, tk, os⟩ := s
  have X' := X.keeps F.keep
  refine exc_core (C := 57) (N := 56) (bm := [.ref 32, .type "Exception", .type "BaseException", .type "object"]) PySem.F.excBase_Exception (by decide) (by decide) (by decide) (X' 57 _ (by k_dflt k_is)) rfl (looks_specialIn X' (by k_dflt k_is)) (looks_instIn X' (by k_dflt k_is)) (looks_mroIn X' (by k_dflt k_is)) (init := .ref 29) (looks_findIn X' (by k_dflt k_is)) (fun self => bind_fn X' self (by k_dflt k_is)) (by show 1 ≤ 2 ^ 24; decide) ?_
  have F₁ : Fr h₀ L ((hh.push (tupOf [.str x tx])).push (excOf 57 hh.objs.size none)) m := (F.push _).push _
  have hx : ((hh.push (tupOf [.str x tx])).push (excOf 57 hh.objs.size none)).get? (hh.objs.size + 1) = some (excOf 57 hh.objs.size none) := by heap_get
  have ht : ((hh.push (tupOf [.str x tx])).push (excOf 57 hh.objs.size none)).get? hh.objs.size = some (tupOf [.str x tx]) := by heap_get
  have k : ∀ b o, hh.get? b = some o → ((hh.push (tupOf [.str x tx])).push (excOf 57 hh.objs.size none)).get? b = some o := fun b o e => Heap.get?_push_of_some _ (Heap.get?_push_of_some _ e)
  have fresh : ∀ b, hh.objs.size ≤ b → hh.get? b = none := fun b hb => Heap.get?_none_of_le hb
  have N₁ : News h₀ L ((hh.push (tupOf [.str x tx])).push (excOf 57 hh.objs.size none)) [(hh.objs.size + 1, excOf 57 hh.objs.size none)] := by
    intro p hp
    rw [List.mem_singleton.mp hp]
    refine ⟨hx, ?_, ?_⟩
    · exact Ne.symm (Nat.ne_of_lt (Nat.lt_succ_of_lt F.ns.lt))
    · cases e : h₀.get? (hh.objs.size + 1) with
      | none => rfl
      | some o => have := F.keep _ _ e; rw [fresh _ (Nat.le_succ _)] at this; cases this
  generalize ((hh.push (tupOf [.str x tx])).push (excOf 57 hh.objs.size none)) = H₁ at F₁ hx ht k N₁ ⊢
  w_strict (
   k_dflt (refine' code_defG ?k1 ?k2 ?k3 ?k4 ?k5 ?kA ?kF ?kK ?k6 ?k7 ?k8 ?k9 ?kB ?_ ?c2 ?c3 ?c4 ?c5; (case kA => exact rfl); (case kF => exact rfl); (case kK => assumption); (case k1 => k_asm); (case k2 => exact F₁); (case k3 => k_asm); (case k4 => exact N₁); (case k5 => k_asm); (case k6 => k_is); (case k7 => k_is); (case k8 => ktr_room); (case k9 => first | exact BindsTo.of_eq rfl | exact binds_K (X.keeps F₁.keep) rfl (by k_is) rfl rfl rfl); (case c5 => decide); (case kB => exact locs rfl); (case c2 => exact rfl); (case c3 => exact rfl); (case c4 => exact rfl); k_whole; intro g9 L9 h9 FG9 F9 N9 B9 X9 T9 kG9; (try dsimp only); (try k_fold))
   k_steps
   unfold Hold
   have hxe := (N9 _ (.head _)).1
   have hxn := (N9 _ (.head _)).2.2
   have hxL := (N9 _ (.head _)).2.1
   dsimp only at hxe hxn hxL
   refine store_told (X9.keeps F9.keep) hxe ?_
   intro h' d' tk' he hkp
   have F' : Fr g9 L9 h' _ := ⟨F9.ns.at' fun o e => hkp _ o (Ne.symm hxL) e, fun b o e => hkp b o (fun z => by rw [z, hxn] at e; cases e) (F9.keep b o e), F9.above⟩
   have N' : News g9 L9 h' [] := News.nil
   have up : ∀ b o, hh.get? b = some o → h'.get? b = some o := fun b o e => F'.keep b o (kG9 b o (k b o e) (fun z => by
     rw [List.mem_singleton.mp z, fresh _ (Nat.le_succ _)] at e; cases e))
   have hn : g9.get? hh.objs.size = some (tupOf [.str x tx]) := kG9 _ _ ht (fun z => absurd (List.mem_singleton.mp z) (Nat.ne_of_lt (Nat.lt_succ_self _)))
   have ht' := F'.keep _ _ hn
   clear F9 N9
   k_steps
   all_goals (try dsimp only [InitBack])
   all_goals (first | exact hq _ _ _ _ ⟨up, fresh _ (Nat.le_succ _), fresh _ (Nat.le_refl _), ⟨_, he⟩, ht'⟩ | exact ⟨rfl, hq _ _ _ _ ⟨up, fresh _ (Nat.le_succ _), fresh _ (Nat.le_refl _), ⟨_, he⟩, ht'⟩⟩))
variable {M : Model} {A : Around} {E : Value → Shared → Prop} {env : Env}
variable {nm q : PySem.Str} {C N : Addr} {bs bm : List Value} {hdct : Bool} {sn : List PySem.Str} {sub : List Value} {ab : Bool} {col : Option Bool} {dd : Option Addr} {k0 k1 k2 k3 k5 : Option Value} {newId : String}
theorem raise_stmt {s : Shared} {x : Sem Value} {Q : Flow → Shared → Prop} (hbase : bm.contains (.type "BaseException") = true) (hh : A.handled = none)
    (h : wpAny M A x (fun v s₁ => ∃ e t dx, v = .ref e ∧ s₁.heap.get? C = some (excClassObj nm q C N bs bm hdct sn sub ab col dd k0 k1 k2 k3 k5 newId) ∧
      s₁.heap.get? e = some (excOf C t dx) ∧ E (.ref e) s₁) E s) :
    wpAny M A (raiseStmt env (some x) none) Q E s := by
  have hcB : (Value.ref C :: bm).contains (.type "BaseException") = true := by rw [List.contains_cons, hbase, Bool.or_true]
  unfold raiseStmt
  refine wpAny_bind (wpAny_mono h (fun v s₁ h₁ => ?_) fun _ _ x => x)
  obtain ⟨e, t, dx, rfl, hC, he, hE⟩ := h₁
  obtain ⟨hp, g, d, tk, os⟩ := s₁
  repeat (first | with_reducible refine wpAny_loadPart_at he ?_ | with_reducible refine wpAny_loadPart_at hC ?_ | (with_reducible refine wpAny_isSubtype_exc hC ?_; rw [hcB]) | wp_step)
  exact wpAny_raiseNew_none hh hE
end sRaise2
theorem fl12 : True := by first | walk1 | trivial

section sRaise3
open PySem PySem.W PyProof.Rows PyProof.V PySem.Spec PySem.Calls
def Raised (w : World) (E : Value → Shared → Prop) (v : Value) (s₁ : Shared) : Prop := ∃ e t dx, v = .ref e ∧ (hd.heap_1 w.params).In s₁.heap ∧ s₁.heap.get? e = some (excOf 57 t dx) ∧ E (.ref e) s₁
theorem Raise_bad {w : World} {A : Around} {E : Value → Shared → Prop} {env : Env} {s : Shared} {e : PySem.Expr} {pos : Pos} {Q : Flow → Shared → Prop} (hh : A.handled = none)
    (h : wpAny (model PG w) A (eval e env) (Raised w E) E s) : wpAny (model PG w) A (exec (.Raise (some e) none pos) env) Q E s := by
  show wpAny _ A (do standAt pos; raiseStmt env (some (do let v ← eval e env; standAt pos; pure v)) none) Q E s
  refine wpAny_bind (wpAny_standAt (raise_stmt (C := 57) (N := 56) (nm := "BadLine") (q := "BadLine") (bs := [.ref 32]) (bm := [.ref 32, .type "Exception", .type "BaseException", .type "object"]) (hdct := true) (sn := []) (sub := []) (ab := false) (col := none) (dd := none)
    (k0 := some (.ref 48)) (k1 := none) (k2 := some (.str "BadLine" 239)) (k3 := some (.str "BadLine" 247)) (k5 := some (.bool true)) (newId := "Exception.__new__") (by decide) hh (wpAny_bind (wpAny_mono h (fun v s₁ h₁ => wpAny_bind (wpAny_standAt (wpAny_pure ?_))) fun _ _ x => x))))
  obtain ⟨e, t, dx, rfl, X, he, hE⟩ := h₁
  exact ⟨e, t, dx, rfl, X 57 _ (by k_dflt k_is), he, hE⟩
section
variable {M : Model} {A : Around} {E : Value → Shared → Prop} {s' : Shared} {base g h : Heap} {outer : List Env} {L a e t : Addr} {m : PySem.Str → Option Value} {name : PySem.Str} {scope : Scope} {cd : Value} {Q : Unit → Shared → Prop}
theorem leave_bad {vs : List Value} (K : Below A base outer g) (hx : MadeBad h s'.heap e t vs) (F : Fr g L h m)
    (hQ : ∀ h', RaisedS base g outer e (.ref 57) t vs [] h' → g.UpToSlots h' → Q () { s' with heap := h' }) (hk : scope.kind = .function := by rfl) :
    wpAny M (A.deeper (envOf name scope L a cd)) (leaving (envOf name scope L a cd) (.ref e)) Q E s' := by
  have K' := K.push (name := name) (a := a) (cd := cd) F hk
  have hin : ∀ env ∈ (envOf name scope L a cd :: outer), ∀ b, env.frame = some b → b ∈ (envOf name scope L a cd :: outer).filterMap (·.frame) := fun env he b hb => List.mem_filterMap.mpr ⟨env, he, hb⟩
  have st : base.StaysIn (hideAll h ((envOf name scope L a cd :: outer).filterMap (·.frame))) := fun b o q => hideAll_get _ (K'.stays b o q) fun hm => by
    rw [(K'.frames.mem hm).1] at q; cases q
  have sg : ∀ b o, g.get? b = some o → b ∉ outer.filterMap (·.frame) → (hideAll h ((envOf name scope L a cd :: outer).filterMap (·.frame))).get? b = some o := fun b o q nm => hideAll_get _ (F.keep b o q) fun hm => by
    rcases kts_mem hm with z | z
    · rw [z, kts_self F] at q
      cases q
    · exact nm z
  obtain ⟨dx, he⟩ := hx.there
  have fresh : ∀ b, h.get? b = none → (hideAll h ((envOf name scope L a cd :: outer).filterMap (·.frame))).get? b = none := fun b hb => by
    cases hq : (hideAll h ((envOf name scope L a cd :: outer).filterMap (·.frame))).get? b with
    | none => rfl
    | some o' => have := of_hideAll _ hq; rw [hb] at this; cases this
  refine wpAny_leaving_firstW (a0 := .ref t) K'.stack ((funFrames_hide K'.frames hin).of_keeps fun b o hb _ => ⟨o, hx.keep b o hb, rfl⟩) rfl he (fun b o hb => hx.keep b o (of_hideAll _ hb)) (fresh e hx.new) rfl rfl rfl fun h' hL => ?_
  obtain ⟨k1, ⟨_, _, k2⟩, k3, k4⟩ := hL
  refine hQ h' ⟨⟨_, st, sg, (fun _ hp => nomatch hp), ⟨k1, fresh e hx.new, k2, k3⟩, fresh t hx.newt⟩, Heap.TupAt.of_slots ⟨_, _, hx.tup, rfl, rfl⟩ k4⟩ (((Heap.UpToSlots.of_keeps F.keep).trans (Heap.UpToSlots.of_keeps hx.keep)).trans k4)
end
theorem hide_sub {h g : Heap} {as : List Addr} (G : GSub h g as) (b : Addr) (o : Obj) (q : (hideAll h as).get? b = some o) : g.get? b = some o := by
  refine G b o (of_hideAll _ q) (fun m => ?_)
  rw [hideAll_none _ m] at q
  cases q
theorem Flies.of {base g : Heap} {l : List Env} {s : Shared} {mine : List (Addr × Obj)} {E : Value → Shared → Prop} {e t : Addr} {vs : List Value} {h' : Heap} {tk : Nat} (H : Flies base l s mine E) (G : GSub s.heap g (mine.map (·.1)))
    (R : RaisedS base g l e (.ref 57) t vs [] h') (U : g.UpToSlots h') : E (.ref e) { s with heap := h', toks := tk } := by
  refine H e t vs h' tk ?_ ?_
  · obtain ⟨⟨Bh, h1, h2, h3, h4, h5⟩, h6⟩ := R
    refine ⟨⟨Bh, h1, fun b o q n => h2 b o (hide_sub G b o q) n, ?_, h4, h5⟩, h6⟩
    intro _ hp
    cases hp
  · intro b o q n
    exact U b o (hide_sub G b o q) n
theorem fr_hide {g h : Heap} {L : Addr} {m : PySem.Str → Option Value} {mine : List (Addr × Obj)} (F : Fr g L h m) (N : News g L h mine) : Fr g L (hideAll h (mine.map (·.1))) m := by
  obtain ⟨oL, es, ep, hL, hLd, hLk, hLf⟩ := F.ns
  refine ⟨⟨oL, es, ep, hideAll_get _ hL (fun q => ?_), hLd, hLk, hLf⟩, fun b o e => hideAll_get _ (F.keep b o e) (fun q => ?_), F.above⟩
  · obtain ⟨p, hp, e⟩ := List.mem_map.mp q
    exact (N p hp).2.1 e
  · obtain ⟨p, hp, rfl⟩ := List.mem_map.mp q
    rw [(N p hp).2.2] at e
    cases e
section
variable {M : Model} {A : Around} {E : Value → Shared → Prop} {s' : Shared} {base g h : Heap} {outer : List Env} {L a e t : Addr} {m : PySem.Str → Option Value} {name : PySem.Str} {scope : Scope} {cd : Value} {Q : Unit → Shared → Prop} {mine : List (Addr × Obj)}
theorem leave_on {vs : List Value} (K : Below A base outer g) (F : Fr g L h m) (N : News g L h mine) (R : RaisedS base (hideAll h (mine.map (·.1))) (envOf name scope L a cd :: outer) e (.ref 57) t vs [] s'.heap) (U : (hideAll h (mine.map (·.1))).UpToSlots s'.heap)
    (hQ : ∀ h', RaisedS base g outer e (.ref 57) t vs [] h' → g.UpToSlots h' → Q () { s' with heap := h' }) :
    wpAny M (A.deeper (envOf name scope L a cd)) (leaving (envOf name scope L a cd) (.ref e)) Q E s' :=
  leave_onS K (fr_hide F N) R U fun h' R' _ U' => hQ h' R' U'
end
structure OnWay (base g : Heap) (L : Addr) (l : List Env) (e t : Addr) (vs : List Value) (h' : Heap) : Prop where
  mk :: (at_ : ∃ h m mine, Fr g L h m ∧ News g L h mine ∧ RaisedS base (hideAll h (mine.map (·.1))) l e (.ref 57) t vs [] h' ∧ (hideAll h (mine.map (·.1))).UpToSlots h')
variable {M : Model} {A : Around} {E : Value → Shared → Prop} {s' : Shared} {base g : Heap} {outer : List Env} {L a e t : Addr} {name : PySem.Str} {scope : Scope} {cd : Value} {Q : Unit → Shared → Prop}
theorem leave_way {vs : List Value} (K : Below A base outer g) (W : OnWay base g L (envOf name scope L a cd :: outer) e t vs s'.heap)
    (hQ : ∀ h', RaisedS base g outer e (.ref 57) t vs [] h' → g.UpToSlots h' → Q () { s' with heap := h' }) :
    wpAny M (A.deeper (envOf name scope L a cd)) (leaving (envOf name scope L a cd) (.ref e)) Q E s' := by
  obtain ⟨h, m, mine, F, N, R, U⟩ := W.at_
  exact leave_on K F N R U hQ
end sRaise3
theorem fl13 : True := by first | walk1 | trivial

section sTry
open PySem PySem.W PyProof.Rows PyProof.V PySem.Spec PySem.Calls
def SpecT (w : World) (f : Addr) (vs : List Value) (dn un : Nat) (ok : Value → List (Addr × Obj) → Prop) : Prop :=
  ∀ (dp ut : Nat) (gd : Option (List Code)) (cn : PySem.Str) (cs : Scope) (a : Addr) (ccd : Value) (A₀ : Around) (base h₀ : Heap) (L : Addr) (m mg mb : PySem.Str → Option Value) (mean : ExcName → Option Value) (s : Shared) (Q E : Value → Shared → Prop),
    Below A₀ base [] h₀ → Fr h₀ L s.heap m → (hd.heap_1 w.params).In h₀ → Top VW LS mean mg mb h₀ → (hd.heap_1 w.params).In base → Top VW LS mean mg mb base → cs.kind = .function →
    dp + dn < recursionLimit → ut + un < cLine →
    (∀ (v : Value) (h' : Heap) (tk' : Nat) (mine' : List (Addr × Obj)), ok v mine' → Fr h₀ L h' m → News h₀ L h' mine' → (∀ b o, s.heap.get? b = some o → b ≠ L → h'.get? b = some o) → (∀ p ∈ mine', s.heap.get? p.1 = none) → Q v { s with heap := h', toks := tk' }) →
    wpAny (model PG w) (ktrTop dp ut gd cn cs L a ccd [] []) (call (.ref f) vs) Q E s
def LeaveT (L : Addr) (h₀ : Heap) (m : PySem.Str → Option Value) (g : Heap) (R : Result → Shared → Prop) (v : Value) (s' : Shared) : Prop :=
  ∃ g' L' m' news', KtsTurn [L] g g' ∧ Fr g' L' s'.heap m' ∧ News g' L' s'.heap news' ∧
    (Fr h₀ L s'.heap m → News h₀ L s'.heap news' → (∀ b o, g.get? b = some o → b ≠ L → s'.heap.get? b = some o) → (∀ p ∈ news', g.get? p.1 = none) → R (.ok (.ret v)) s')
section
variable {prog : Program} {w : World} {A₀ A : Around} {s : Shared} {base h₀ : Heap} {L a : Addr} {m : PySem.Str → Option Value} {cn : PySem.Str} {cs : Scope} {ccd : Value} {K : Frag} {p : Program} {loose : List PySem.Str} {mean : ExcName → Option Value} {mg mb : PySem.Str → Option Value}
    {R : Result → Shared → Prop} {name qual : PySem.Str} {params : Arguments} {body : List Stmt} {scope : Scope} {dV kV doc pm cdv ct oc : Value} {an od : Option Addr} {osl : Array (Option Value)} {f : Addr} {args : Args} {binds : List (PySem.Str × Value)}
theorem enterT (B : Below A₀ base [] h₀) (F : Fr h₀ L s.heap m) (X₀ : K.In h₀) (T : Top p loose mean mg mb h₀) (hA : A.frames = some [envOf cn cs L a ccd])
    (ho : K.lookup f = some ⟨oc, od, .func (fnOf name qual params body scope dV kV doc pm an cdv ct), osl⟩) (hcd : codeIn K cdv qual = true) (hroom : A.depth < recursionLimit)
    (hbind : BindsTo s (fnOf name qual params body scope dV kV doc pm an cdv ct) args binds) (hloc : ∀ y ∈ binds, scope.names.lookup y.1 = some .local)
    (h : ∀ g L' h₁, g = s.heap → Fr h₀ L g m → Fr g L' h₁ (fun y => binds.reverse.lookup y) → Below A base [envOf cn cs L a ccd] g → K.In g → Top p loose mean mg mb g → KtsDicts ([envOf cn cs L a ccd].filterMap (·.frame)) g →
      wpAny (model prog w) (A.deeper (envOf qual scope L' f cdv)) (execs body (envOf qual scope L' f cdv))
        (fun fl s' => LeaveT L h₀ m g R (match fl with | .ret v => v | _ => .none) s')
        (fun e s' => wpAny (model prog w) (A.deeper (envOf qual scope L' f cdv)) (leaving (envOf qual scope L' f cdv) e) (fun _ s'' => R (.error e) s'') (fun e' s'' => R (.error e') s'') s')
        { s with heap := h₁, toks := s.toks + binds.length })
    (hck : cs.kind = .function) (hco : scope.isCoroutine = false) (hgen : scope.isGenerator = false) (hk : scope.kind = .function)
    (hcell : ∀ x ∈ scope.names, x.2 ≠ .cell) : codeAny (model prog w) A (.call (.ref f) args) R s := by
  have XS := X₀.keeps F.keep
  obtain ⟨oL, es, ep, eL, dL, _, turned, stays, low⟩ := kts_enter B F (News.nil) hA hck
  refine codeAny_call_def (fd := fnOf name qual params body scope dV kV doc pm an cdv ct) (body := body) (binds := binds) hroom (XS _ _ ho) rfl (T.nolimit.keeps F.keep) (codeRec_of XS hcd) rfl hbind hcell hloc (fun h₁ ns₁ up₁ => ?_) hco hgen hk
  have dicts : KtsDicts ([envOf cn cs L a ccd].filterMap (·.frame)) s.heap := fun b hb => by
    have e : b = L := List.mem_singleton.mp hb
    exact e ▸ ⟨oL, es, ep, eL, dL⟩
  have out : h₀.get? L = none := kts_self F
  refine wpAny_mono (h s.heap s.heap.objs.size h₁ rfl F ⟨ns₁, up₁, Nat.le_refl _⟩ low XS (T.keeps F.keep) dicts) (fun fl s' hl => ?_) fun _ _ y => y
  obtain ⟨g', L', m', news', tn, F', N', fin⟩ := hl
  obtain ⟨sl, hs⟩ := tn.up eL
  have keepB : ∀ b o, s.heap.get? b = some o → b ≠ L → s'.heap.get? b = some o := fun b o e n => F'.keep b o (tn.other b o e fun q => n (List.mem_singleton.mp q))
  refine fin ⟨turned sl _ (F'.keep _ _ hs), fun b o e => keepB b o (F.keep b o e) fun q => ?_, F.above⟩ (fun q hq => ⟨(N' q hq).1, fun z => ?_, ?_⟩) keepB (fun q hq => ?_)
  · rw [q, out] at e; cases e
  · have := (N' q hq).2.2
    rw [z, hs] at this
    cases this
  · cases z : h₀.get? q.1 with
    | none => rfl
    | some o =>
      obtain ⟨sl2, hs2⟩ := tn.up (F.keep _ _ z)
      have := (N' q hq).2.2
      rw [hs2] at this
      cases this
  · cases z : s.heap.get? q.1 with
    | none => rfl
    | some o =>
      obtain ⟨sl2, hs2⟩ := tn.up z
      have := (N' q hq).2.2
      rw [hs2] at this
      cases this
end
theorem leaveT_end {s : Shared} {h₀ g g' : Heap} {L L' : Addr} {m m' : PySem.Str → Option Value} {ok : Value → List (Addr × Obj) → Prop} {Q : Value → Shared → Prop} {R : Result → Shared → Prop} {v : Value} {h' : Heap} {tk' : Nat} {mine' : List (Addr × Obj)}
    (hret : ∀ (v : Value) (h' : Heap) (tk' : Nat) (mine' : List (Addr × Obj)), ok v mine' → Fr h₀ L h' m → News h₀ L h' mine' → (∀ b o, s.heap.get? b = some o → b ≠ L → h'.get? b = some o) → (∀ p ∈ mine', s.heap.get? p.1 = none) → Q v { s with heap := h', toks := tk' })
    (eg : g = s.heap) (ho : ok v mine') (T : KtsTurn [L] g g') (F : Fr g' L' h' m') (N : News g' L' h' mine') (hR : ∀ s', Q v s' → R (.ok (.ret v)) s') : LeaveT L h₀ m g R v { s with heap := h', toks := tk' } := by
  subst eg
  exact ⟨g', L', m', mine', T, F, N, fun F0 N0 kp fr => hR _ (hret _ _ _ _ ho F0 N0 kp fr)⟩
end sTry
theorem fl14 : True := by first | walk1 | trivial

open PySem PySem.W PyProof.Rows PyProof.V PySem.Spec PySem.Calls
open PyProof.Rows.LCg
theorem fill_J : (PySem.Challenge.rw_pb0108_01, hd.heap_1) = (PySem.Challenge.rw_pb0108_01, hd.heap_1) := by w_on; k_fill; rfl
local macro_rules | `(tactic| walk_at $s:str) => `(tactic| k_extra $(Lean.Syntax.mkStrLit ("S20." ++ s.getString)))
theorem zm2 : True := by
  (k_with "S20.mem map" => k_extra "R1")
  (k_with "S20.my enter" => k_extra "R2")
  (k_with "S20.pyIter bytes" => k_extra "R3")
  (k_with "S20.pyIter ref" => k_extra "R4")
  (k_with "S20.CompRest" => k_extra "R5")
  (k_with "S20.CompRestT" => k_extra "R5")
  (k_with "S20.CompSrc" => k_extra "R6")
  (k_with "S20.call builtin:str.join" => k_extra "R3")
  (k_with "S20.call type:bytes" => k_extra "R3")
  (k_with "S20.call builtin:chr" => k_extra "R7")
  (k_with "S20.call builtin:ord" => k_extra "R8")
  (k_with "S20.cj" => k_extra "R9")
  (k_with "S20.split" => k_extra "R10")
  trivial
local macro_rules | `(tactic| k_lt $h:ident) => `(tactic| skip)
local macro_rules | `(tactic| k_ne) => `(tactic| k_extra "R11")
local macro_rules | `(tactic| k_all) => `(tactic| k_extra "R12")
local macro_rules | `(tactic| size_fits) => `(tactic| k_extra "R13")
theorem zm3 : True := by
  (k_with "S20.call builtin:list.append" => k_extra "R14")
  (k_with "S20.exec Raise some none" => k_extra "R15")
  (k_with "S20.call ref" => k_extra "R16")
  (k_with "S20.Raised" => k_extra "R17")
  (k_with "S20.leaving ref" => k_extra "R18")
  (k_with "S20.subscriptTail" => k_extra "R19")
  (k_with "S20.subscriptTail Name Name str int" => k_extra "R4")
  (k_with "S20.subscriptTail Name BinOp str int" => k_extra "R4")
  trivial
theorem ite_tfill_J {P R : Prop} {i : Decidable (true = true)} (h : P) : @ite Prop (true = true) i P R := by rw [if_pos rfl]; exact h
theorem ite_ffill_J {P R : Prop} {i : Decidable (false = true)} (h : R) : @ite Prop (false = true) i P R := by rw [if_neg Bool.false_ne_true]; exact h
theorem zm4 : True := by
  (k_with "S20.ite" => k_extra "R20")
  trivial
local macro_rules | `(tactic| ktr_room) => `(tactic| k_extra "R21")
local macro_rules | `(tactic| ktr_units) => `(tactic| k_extra "R22")
section sPa

abbrev S (l : List Nat) : PySem.Str := ⟨l.toArray⟩
def catS (ys : List PySem.Str) : PySem.Str := S (ys.flatMap (·.cps.toList))
theorem join_empty (ys : List PySem.Str) : Txt.join (Str.ofString "") ys = catS ys := by
  have e : ∀ ys : List PySem.Str, Str.join (Str.ofString "") ys = catS ys := by
    intro ys
    induction ys with
    | nil => rfl
    | cons y r ih =>
      cases r with
      | nil =>
        show y = catS [y]
        simp [catS, S]
      | cons z r =>
        show y ++ Str.ofString "" ++ Str.join (Str.ofString "") (z :: r) = catS (y :: z :: r)
        rw [ih]
        refine PySem.Str.ext' (Array.toList_inj.mp ?_)
        rw [PySem.Str.cps_append, PySem.Str.cps_append, Array.toList_append, Array.toList_append]
        have : (Str.ofString "").cps.toList = [] := by decide +kernel
        rw [this]
        simp [catS, S]
  rw [← e ys]
  unfold Txt.join
  rw [StrLaws.glued_eq_join]
def chrs (b : List UInt8) : List PySem.Str := b.map fun c => S [c.toNat]
def strOf (b : List UInt8) : PySem.Str := S (b.map UInt8.toNat)
theorem catS_chrs (b : List UInt8) : catS (chrs b) = strOf b := by
  unfold catS chrs strOf
  rw [List.flatMap_map]
  congr 2
  induction b with
  | nil => rfl
  | cons c r ih => simp [ih]
theorem chrs_sum (b : List UInt8) : ((chrs b).map (·.length)).sum = b.length := by
  induction b with
  | nil => rfl
  | cons c r ih =>
    show 1 + ((chrs r).map (·.length)).sum = r.length + 1
    rw [ih, Nat.add_comm]
theorem chrs_length (b : List UInt8) : (chrs b).length = b.length := by simp [chrs]
theorem strsAre_snoc {us : List Value} {ws : List PySem.Str} {x : PySem.Str} {t : Tok} (h : StrsAre us ws) : StrsAre (us ++ [.str x t]) (ws ++ [x]) := h.append' (.cons _ _ .nil)
theorem take_succ {α : Type} {l : List α} {i : Nat} {c : α} (h : l[i]? = some c) : l.take (i + 1) = l.take i ++ [c] := by rw [List.take_add_one, h]; rfl
local macro_rules | `(tactic| walk_at $s:str) => `(tactic| k_extra $(Lean.Syntax.mkStrLit ("S21." ++ s.getString)))
theorem zm5 : True := by
  (k_with "S21.eval ListComp" => k_extra "R23")
  trivial
namespace text_of_
def zA (w : World) (b : List UInt8) (t : Tok) (zk : Cal) : Prop := ∀ (hb : b.length ≤ 4096), SpecAt w 64 [.bytes b.toArray t] 2 20 [] (fun v n' => n' = [] ∧ ∃ t, v = .str (strOf b) t) False zk
@[irreducible] noncomputable def zx : Zst := sk neZst fun z => zA (z.w) (z.lu 0) (z.n 0) (z.c)
@[irreducible] noncomputable def b : List UInt8 := zx.lu 0
def zT (P1 : World → (List UInt8) → Tok → Cal → Heap → Addr → Heap → Nat → Prop) : Prop := ∀ w b t zk, (∀ y0 y1 y2 y3, P1 w b t zk y0 y1 y2 y3) → zA w b t zk
noncomputable def zs : { P : Heap → Addr → Heap → Nat → Prop // (∀ y0 y1 y2 y3, P y0 y1 y2 y3) → zA (zx.w) b (zx.n 0) (zx.c) } := by
  refine' ⟨_, (_ : zT _) (zx.w) b (zx.n 0) (zx.c)⟩
  rotate_left 1
  · intro w b t zk zR1 hb B F X N T hk hd hu hret hexc
    w_strict (
     walk_at "my enter"
     (revert hb B F X N T hk hd hu hret hexc FG' F' N' B' X' T' kG'; exact zR1 g' L' h' tk')
    )
@[irreducible] noncomputable def zP1 : Heap → Addr → Heap → Nat → Prop := Mine.text_of_.zs.1
theorem zp1 : zP1 = Mine.text_of_.zs.1 := by with_unfolding_all rfl
namespace z1
@[irreducible] noncomputable def zx : Zst := sk neZst fun z => Mine.text_of_.zP1 (z.h 0) (z.n 0) (z.h 1) (z.n 1)
theorem zgo : Mine.text_of_.zP1 (zx.h 0) (zx.n 0) (zx.h 1) (zx.n 1) := by
  refine' zcast Mine.text_of_.zp1 (fun zf => zf (zx.h 0) (zx.n 0) (zx.h 1) (zx.n 1)) ((_ : ∀ g' L' h' tk', Mine.text_of_.zs.1 g' L' h' tk') (zx.h 0) (zx.n 0) (zx.h 1) (zx.n 1))
  intro g' L' h' tk' hb B F X N T hk hd hu hret hexc FG' F' N' B' X' T' kG'
  w_strict (
   k_steps
   refine SrcW.mk (Src1.bytes (by rfl)) (by rfl) (by k_asm) (by k_asm) (by rw [sizeLine_eq]; simp; omega) ?_
   intro g'
   refine rest_inv (fun i ys nw => nw = [] ∧ StrsAre ys (chrs (b.take i))) ⟨rfl, .nil⟩ ?_ ?_
   · rintro i ys nw v I oI C oC D m₂ h tk E' hi ⟨rfl, hys⟩ ⟨c, tc, hc, rfl⟩ hoC hx F₁ N₁ off ne
     have hc9 := c.toNat_lt
     k_steps
     rw [take_succ (by simpa using hc), Int.toNat_natCast]
     simp only [chrs, List.map_append, List.map_cons, List.map_nil]
     exact strsAre_snoc hys
   · rintro ys nw ⟨rfl, hys⟩
     k_steps
     unfold Hold
     rw [show b.toArray.size = b.length by simp, List.take_length] at hys
     refine join_list (News.isList (by k_asm) (by k_mem)) hys (by rw [chrs_sum, chrs_length]; show _ + _ * 0 ≤ _; omega) ?_
     intro t9 k9
     rw [join_empty, catS_chrs]
     k_steps
     exact hret _ _ _ [] ⟨rfl, _, rfl⟩ (by assumption) News.nil (kept_of (by assumption) (by assumption) News.nil)
  )
theorem zall : ∀ z : Zst, Mine.text_of_.zP1 (z.h 0) (z.n 0) (z.h 1) (z.n 1) := by refine @sk_all _ neZst _ ?_; with_unfolding_all exact zgo
end z1
theorem zgo : zA (zx.w) b (zx.n 0) (zx.c) := zs.2 (by rw [← zp1]; exact fun y0 y1 y2 y3 => z1.zall (zmk zw zk0 [y1, y3] [] [] [] [] [] [y0, y2] [] [] [] [] [] [] [] [] []))
theorem zall : ∀ z : Zst, zA (z.w) (z.lu 0) (z.n 0) (z.c) := by refine @sk_all _ neZst _ ?_; with_unfolding_all exact zgo
end text_of_
theorem text_of (w : World) (b : List UInt8) (t : Tok) (hb : b.length ≤ 4096) : Spec w 64 [.bytes b.toArray t] 2 20 [] (fun v n' => n' = [] ∧ ∃ t, v = .str (strOf b) t) False := Spec.cut fun zk => Mine.text_of_.zall (zmk w zk [t] [] [] [] [] [] [] [] [] [b] [] [] [] [] [] []) hb
end sPa
theorem fl15 : True := by first | walk1 | trivial

section sPb

def bytesOf (x : List Nat) : List UInt8 := x.map Nat.toUInt8
def nats (x : List Nat) : List Int := x.map fun (c : Nat) => (c : Int)
theorem intsAre_snoc {us : List Value} {ws : List Int} {x : Int} {t : Tok} (h : IntsAre us ws) : IntsAre (us ++ [.int x t]) (ws ++ [x]) := IntsAre.append h (.cons _ _ .nil)
theorem byteArr_nats (x : List Nat) : (List.map (fun n : Int => n.toNat.toUInt8) (nats x)).toArray = (bytesOf x).toArray := by
  unfold nats bytesOf
  rw [List.map_map]
  rfl
local macro_rules | `(tactic| walk_at $s:str) => `(tactic| k_extra $(Lean.Syntax.mkStrLit ("S24." ++ s.getString)))
theorem zm6 : True := by
  (k_with "S24.exec Assign cons ListComp" => k_extra "R24")
  trivial
namespace octets_of_
def zA (w : World) (x : List Nat) (t : Tok) (zk : Cal) : Prop := ∀ (hx : x.length ≤ 4096), ∀ (hl : ∀ c ∈ x, c < 256), SpecAt w 69 [.str (S x) t] 2 20 [] (fun v n' => n' = [] ∧ ∃ t, v = .bytes (bytesOf x).toArray t) False zk
@[irreducible] noncomputable def zx : Zst := sk neZst fun z => zA (z.w) (z.ln 0) (z.n 0) (z.c)
@[irreducible] noncomputable def x : List Nat := zx.ln 0
def zT (P1 : World → (List Nat) → Tok → Cal → Heap → Addr → Heap → Nat → Prop) : Prop := ∀ w x t zk, (∀ y0 y1 y2 y3, P1 w x t zk y0 y1 y2 y3) → zA w x t zk
noncomputable def zs : { P : Heap → Addr → Heap → Nat → Prop // (∀ y0 y1 y2 y3, P y0 y1 y2 y3) → zA (zx.w) x (zx.n 0) (zx.c) } := by
  refine' ⟨_, (_ : zT _) (zx.w) x (zx.n 0) (zx.c)⟩
  rotate_left 1
  · intro w x t zk zR1 hx hl B F X N T hk hd hu hret hexc
    w_strict (
     walk_at "my enter"
     (revert hx hl B F X N T hk hd hu hret hexc FG' F' N' B' X' T' kG'; exact zR1 g' L' h' tk')
    )
@[irreducible] noncomputable def zP1 : Heap → Addr → Heap → Nat → Prop := Mine.octets_of_.zs.1
theorem zp1 : zP1 = Mine.octets_of_.zs.1 := by with_unfolding_all rfl
namespace z1
@[irreducible] noncomputable def zx : Zst := sk neZst fun z => Mine.octets_of_.zP1 (z.h 0) (z.n 0) (z.h 1) (z.n 1)
theorem zgo : Mine.octets_of_.zP1 (zx.h 0) (zx.n 0) (zx.h 1) (zx.n 1) := by
  refine' zcast Mine.octets_of_.zp1 (fun zf => zf (zx.h 0) (zx.n 0) (zx.h 1) (zx.n 1)) ((_ : ∀ g' L' h' tk', Mine.octets_of_.zs.1 g' L' h' tk') (zx.h 0) (zx.n 0) (zx.h 1) (zx.n 1))
  intro g' L' h' tk' hx hl B F X N T hk hd hu hret hexc FG' F' N' B' X' T' kG'
  w_strict (
   k_steps
   refine SrcW.mk (Src1.str (by rfl)) (by rfl) (by k_asm) (by k_asm) (by rw [sizeLine_eq]; simp; omega) ?_
   intro g'
   refine rest_inv (fun i ys nw => nw = [] ∧ IntsAre ys (nats (x.take i))) ⟨rfl, .nil⟩ ?_ ?_
   · rintro i ys nw v I oI C oC D m₂ h tk E' hi ⟨rfl, hys⟩ ⟨c, tc, hc, rfl⟩ hoC hx₂ F₁ N₁ off ne
     k_steps
     rw [take_succ (by simpa using hc)]
     simp only [nats, List.map_append, List.map_cons, List.map_nil]
     exact intsAre_snoc hys
   · rintro ys nw ⟨rfl, hys⟩
     rw [show (S x).cps.size = x.length by simp, List.take_length] at hys
     k_steps
     unfold Hold
     rename Fr _ _ _ _ => lF
     rename News _ _ _ _ => lN
     obtain ⟨D, rfl⟩ := name1 lN
     refine' loopM (σ := Unit) (Iter.list ?hh) (fun _ => [(D, lst ys)]) (fun _ => []) [] (fun _ _ => True) () lF lN ?hn ?hkeep ?hk ?hp ?turn ?done
     case hh => rfl
     case hn => exact fun _ h => h
     case hkeep => exact fun _ _ h => h
     case hk => exact fun _ h => nomatch h
     case hp => trivial
     case turn =>
       rintro i v ⟨⟩ u h tk own hi hv hoff hP F₁ N₁
       clear lF lN
       obtain ⟨n, tn, rfl, hn⟩ := hys.at i v hv
       have hn2 : n < 256 := by
         unfold nats at hn
         rw [List.getElem?_map] at hn
         cases hq : x[i]? with
         | none => rw [hq] at hn; cases hn
         | some c =>
           rw [hq] at hn
           have h1 : (c : Int) = n := Option.some.inj hn
           have h2 := hl c (List.mem_of_getElem? hq)
           omega
       k_steps
       exact At.end () hoff (by assumption) (by assumption) rfl (fun p hp => List.mem_append_left _ hp) (fun p hp => List.mem_append_right _ hp) (fun _ h => nomatch h) (by intro z h1 h2 h3; simp +zetaDelta [h1, kstB]) trivial
     case done =>
       rintro ⟨⟩ u h tk hP F₁ N₁
       clear lF lN
       k_steps
       unfold Hold
       refine bytes_K (by k_asm) (by k_asm) (News.isList (by k_asm) (by k_mem)) hys (fun n hn => ?_) (by rw [hys.length, sizeLine_eq]; simp [nats]; omega) (by rfl) ?_
       · unfold nats at hn
         obtain ⟨c, hc, rfl⟩ := List.mem_map.mp hn
         have := hl c hc
         omega
       intro h' t' k' F' N' _
       rw [byteArr_nats]
       k_steps
       exact hret _ _ _ [] ⟨rfl, _, rfl⟩ (by assumption) News.nil (kept_of (by assumption) (by assumption) News.nil)
  )
theorem zall : ∀ z : Zst, Mine.octets_of_.zP1 (z.h 0) (z.n 0) (z.h 1) (z.n 1) := by refine @sk_all _ neZst _ ?_; with_unfolding_all exact zgo
end z1
theorem zgo : zA (zx.w) x (zx.n 0) (zx.c) := zs.2 (by rw [← zp1]; exact fun y0 y1 y2 y3 => z1.zall (zmk zw zk0 [y1, y3] [] [] [] [] [] [y0, y2] [] [] [] [] [] [] [] [] []))
theorem zall : ∀ z : Zst, zA (z.w) (z.ln 0) (z.n 0) (z.c) := by refine @sk_all _ neZst _ ?_; with_unfolding_all exact zgo
end octets_of_
theorem octets_of (w : World) (x : List Nat) (t : Tok) (hx : x.length ≤ 4096) (hl : ∀ c ∈ x, c < 256) : Spec w 69 [.str (S x) t] 2 20 [] (fun v n' => n' = [] ∧ ∃ t, v = .bytes (bytesOf x).toArray t) False := Spec.cut fun zk => Mine.octets_of_.zall (zmk w zk [t] [] [] [] [] [] [] [] [] [] [] [] [x] [] [] []) hx hl
end sPb
theorem fl16 : True := by first | walk1 | trivial

section sPc

def hexC (n : Nat) : Nat := if n < 10 then 48 + n else 87 + n
def hex2 (c : UInt8) : List Nat := [hexC (c.toNat / 16), hexC (c.toNat % 16)]
def hexL (b : List UInt8) : List Nat := b.flatMap hex2
def hexParts (b : List UInt8) : List PySem.Str := b.flatMap fun c => [S [hexC (c.toNat / 16)], S [hexC (c.toNat % 16)]]
theorem catS_hex (b : List UInt8) : catS (hexParts b) = S (hexL b) := by
  have e : (hexParts b).flatMap (·.cps.toList) = hexL b := by
    induction b with
    | nil => rfl
    | cons c r ih =>
      show hexC (c.toNat / 16) :: hexC (c.toNat % 16) :: (hexParts r).flatMap (·.cps.toList) = hexC (c.toNat / 16) :: hexC (c.toNat % 16) :: hexL r
      rw [ih]
  unfold catS
  rw [e]
theorem hexParts_snoc (b : List UInt8) (c : UInt8) : hexParts (b ++ [c]) = hexParts b ++ [S [hexC (c.toNat / 16)]] ++ [S [hexC (c.toNat % 16)]] := by
  simp [hexParts]
theorem hexParts_length (b : List UInt8) : (hexParts b).length = 2 * b.length := by
  induction b with
  | nil => rfl
  | cons c r ih => simp [hexParts] at ih ⊢; omega
theorem hexParts_sum (b : List UInt8) : ((hexParts b).map (·.length)).sum = 2 * b.length := by
  induction b with
  | nil => rfl
  | cons c r ih =>
    show 1 + (1 + ((hexParts r).map (·.length)).sum) = 2 * (r.length + 1)
    rw [ih]; omega
theorem item_hex : ∀ n : Nat, n < 16 → Txt.item (Str.ofString "0123456789abcdef") (n : Int) = S [hexC n] := by decide +kernel
theorem hex_item {prog : Program} {w : World} {A : Around} {E : Value → Shared → Prop} {s : Shared} {value slice : PySem.Expr} {i : Int} {t u : Tok} {Q : Value → Shared → Prop} (h0 : 0 ≤ i) (h1 : i < 16)
    (h : Q (.str (S [hexC i.toNat]) s.toks) { s with toks := s.toks + 1 })
    (hs : subscripted slice false (.str (Str.ofString "0123456789abcdef") t) (.int i u) = operate [.str (Str.ofString "0123456789abcdef") t, .int i u] (getItem (.str (Str.ofString "0123456789abcdef") t) (.int i u)) := by with_unfolding_all rfl)
    (ht : ∀ r, letTemporaryGo value (.str (Str.ofString "0123456789abcdef") t) r = pure () := by intro _; with_unfolding_all rfl) :
    wpAny (model prog w) A (subscriptTail value slice (.str (Str.ofString "0123456789abcdef") t) (.int i u)) Q E s := by
  refine KXi.item (n := 16) (by decide +kernel) (by omega) (by omega) (by omega) (fun _ => ?_) hs ht
  have e := item_hex i.toNat (by omega)
  rw [Int.toNat_of_nonneg h0] at e
  rw [e]; exact h
theorem shr4 (n : Nat) : (n : Int).fdiv (2 ^ Int.toNat 4) = ((n / 16 : Nat) : Int) := by
  show (n : Int).fdiv (((2 ^ 4 : Nat)) : Int) = _
  rw [Int.fdiv_eq_ediv_of_nonneg _ (by omega)]
  rfl
theorem and15 : ∀ n : Nat, n < 256 → Builtin.bitAnd (n : Int) 15 = ((n % 16 : Nat) : Int) := by decide +kernel
namespace hex_of_
def zA (w : World) (b : List UInt8) (t : Tok) (zk : Cal) : Prop := ∀ (hb : b.length ≤ 64), SpecAt w 76 [.bytes b.toArray t] 2 20 [] (fun v n' => n' = [] ∧ ∃ t, v = .str (S (hexL b)) t) False zk
@[irreducible] noncomputable def zx : Zst := sk neZst fun z => zA (z.w) (z.lu 0) (z.n 0) (z.c)
@[irreducible] noncomputable def b : List UInt8 := zx.lu 0
def zT (P1 : World → (List UInt8) → Tok → Cal → Heap → Addr → Heap → Nat → Prop) : Prop := ∀ w b t zk, (∀ y0 y1 y2 y3, P1 w b t zk y0 y1 y2 y3) → zA w b t zk
noncomputable def zs : { P : Heap → Addr → Heap → Nat → Prop // (∀ y0 y1 y2 y3, P y0 y1 y2 y3) → zA (zx.w) b (zx.n 0) (zx.c) } := by
  refine' ⟨_, (_ : zT _) (zx.w) b (zx.n 0) (zx.c)⟩
  rotate_left 1
  · intro w b t zk zR1 hb B F X N T hk hd hu hret hexc
    w_strict (
     walk_at "my enter"
     (revert hb B F X N T hk hd hu hret hexc FG' F' N' B' X' T' kG'; exact zR1 g' L' h' tk')
    )
@[irreducible] noncomputable def zP1 : Heap → Addr → Heap → Nat → Prop := Mine.hex_of_.zs.1
theorem zp1 : zP1 = Mine.hex_of_.zs.1 := by with_unfolding_all rfl
namespace z1
@[irreducible] noncomputable def zx : Zst := sk neZst fun z => Mine.hex_of_.zP1 (z.h 0) (z.n 0) (z.h 1) (z.n 1)
def zT (P1 : Heap → Addr → Heap → Nat → Heap → Addr → Nat → (List Value) → Nat → (PySem.Str → Option Value) → Heap → Nat → (List (Addr × Obj)) → UInt8 → Tok → Prop) : Prop := ∀ g' L' h' tk', (∀ y0 y1 y2 y3 y4 y5 y6 y7 y8 y9 y10, P1 g' L' h' tk' y0 y1 y2 y3 y4 y5 y6 y7 y8 y9 y10) → Mine.hex_of_.zs.1 g' L' h' tk'
noncomputable def zs : { P : Heap → Addr → Nat → (List Value) → Nat → (PySem.Str → Option Value) → Heap → Nat → (List (Addr × Obj)) → UInt8 → Tok → Prop // (∀ y0 y1 y2 y3 y4 y5 y6 y7 y8 y9 y10, P y0 y1 y2 y3 y4 y5 y6 y7 y8 y9 y10) → Mine.hex_of_.zs.1 (zx.h 0) (zx.n 0) (zx.h 1) (zx.n 1) } := by
  refine' ⟨_, (_ : zT _) (zx.h 0) (zx.n 0) (zx.h 1) (zx.n 1)⟩
  rotate_left 1
  · intro g' L' h' tk' zR1 hb B F X N T hk hd hu hret hexc FG' F' N' B' X' T' kG'
    w_strict (
     k_steps
     unfold Hold
     rename Fr _ _ _ _ => lF
     rename News _ _ _ _ => lN
     obtain ⟨D, rfl⟩ := name1 lN
     refine' loopM (σ := List Value × Nat) (Iter.bytes ?hh) (fun c => [(D, listOf c.1.toArray c.2)]) (fun _ => []) [] (fun i c => StrsAre c.1 (hexParts (b.take i))) ([], 0) lF lN ?hn ?hkeep ?hk ?hp ?turn ?done
     case hh => rfl
     case hn => exact fun _ h => h
     case hkeep => exact fun _ _ h => nomatch h
     case hk => exact fun _ h => nomatch h
     case hp => exact .nil
     case turn =>
       rintro i v ⟨us, nn⟩ u h tk own hi ⟨c, tc, hc, rfl⟩ hoff hP F₁ N₁
       clear lF lN
       have hc9 := c.toNat_lt
       dsimp only at hP N₁ hoff
       simp only [List.nil_append, List.cons_append, List.map_cons, List.map_nil] at N₁ hoff
       (rename_i zi1x1 zi1x2 zi1x3; revert hb B F X N T hk hd hu hret hexc FG' B' X' T' kG' zi1x3 hi hc hP F₁ N₁ hc9 hoff; exact zR1 zi1x2 D i us nn u h tk own c tc)
     case done =>
       rintro ⟨us, nn⟩ u h tk hP F₁ N₁
       clear lF lN
       rw [show b.toArray.size = b.length by simp, List.take_length] at hP
       dsimp only at hP N₁
       k_steps
       unfold Hold
       refine join_list (News.isList (by k_asm) (by k_mem)) hP (by rw [hexParts_sum, hexParts_length]; show _ + _ * 0 ≤ _; omega) ?_
       intro t9 k9
       rw [join_empty, catS_hex]
       k_steps
       exact hret _ _ _ [] ⟨rfl, _, rfl⟩ (by assumption) News.nil (kept_of (by assumption) (by assumption) News.nil)
    )
@[irreducible] noncomputable def zP1 : Heap → Addr → Nat → (List Value) → Nat → (PySem.Str → Option Value) → Heap → Nat → (List (Addr × Obj)) → UInt8 → Tok → Prop := Mine.hex_of_.z1.zs.1
theorem zp1 : zP1 = Mine.hex_of_.z1.zs.1 := by with_unfolding_all rfl
namespace z1
@[irreducible] noncomputable def zx : Zst := sk neZst fun z => Mine.hex_of_.z1.zP1 (z.h 0) (z.n 0) (z.n 1) (z.lv 0) (z.n 2) (z.m 0) (z.h 1) (z.n 3) (z.ld 0) (z.u 0) (z.n 4)
theorem zgo : Mine.hex_of_.z1.zP1 (zx.h 0) (zx.n 0) (zx.n 1) (zx.lv 0) (zx.n 2) (zx.m 0) (zx.h 1) (zx.n 3) (zx.ld 0) (zx.u 0) (zx.n 4) := by
  refine' zcast Mine.hex_of_.z1.zp1 (fun zf => zf (zx.h 0) (zx.n 0) (zx.n 1) (zx.lv 0) (zx.n 2) (zx.m 0) (zx.h 1) (zx.n 3) (zx.ld 0) (zx.u 0) (zx.n 4)) ((_ : ∀ zi1x2 D i us nn u h tk own c tc, Mine.hex_of_.z1.zs.1 zi1x2 D i us nn u h tk own c tc) (zx.h 0) (zx.n 0) (zx.n 1) (zx.lv 0) (zx.n 2) (zx.m 0) (zx.h 1) (zx.n 3) (zx.ld 0) (zx.u 0) (zx.n 4))
  intro zi1x2 D i us nn u h tk own c tc hb B F X N T hk hd hu hret hexc FG' B' X' T' kG' zi1x3 hi hc hP F₁ N₁ hc9 hoff
  w_strict (
   have hlen : us.length ≤ 2 * b.length := by rw [hP.length, hexParts_length, List.length_take]; omega
   k_steps
   rw [shr4]
   refine hex_item (by omega) (by omega) ?_
   rw [show ((c.toNat / 16 : Nat) : Int).toNat = c.toNat / 16 from Int.toNat_natCast _]
   k_steps
   rw [and15 _ hc9]
   refine hex_item (by omega) (by omega) ?_
   rw [show ((c.toNat % 16 : Nat) : Int).toNat = c.toNat % 16 from Int.toNat_natCast _]
   k_steps
   refine At.end (_, _) hoff (by assumption) (by assumption) rfl (fun p hp => by rw [List.mem_singleton.mp hp]; exact List.mem_cons_self) (fun p hp => List.mem_cons_of_mem _ hp) (fun _ h => nomatch h) (by intro z h1 h2 h3; simp +zetaDelta [h1, kstB]) ?_
   rw [take_succ (by simpa using hc), hexParts_snoc]
   simp only [List.concat_eq_append, List.push_toArray, List.toList_toArray]
   exact strsAre_snoc (strsAre_snoc hP)
  )
theorem zall : ∀ z : Zst, Mine.hex_of_.z1.zP1 (z.h 0) (z.n 0) (z.n 1) (z.lv 0) (z.n 2) (z.m 0) (z.h 1) (z.n 3) (z.ld 0) (z.u 0) (z.n 4) := by refine @sk_all _ neZst _ ?_; with_unfolding_all exact zgo
end z1
theorem zgo : Mine.hex_of_.zP1 (zx.h 0) (zx.n 0) (zx.h 1) (zx.n 1) := zcast Mine.hex_of_.zp1 (fun zf => zf (zx.h 0) (zx.n 0) (zx.h 1) (zx.n 1)) (zs.2 (by rw [← zp1]; exact fun y0 y1 y2 y3 y4 y5 y6 y7 y8 y9 y10 => z1.zall (zmk zw zk0 [y1, y2, y4, y7, y10] [] [] [y9] [] [] [y0, y6] [] [y3] [] [] [] [] [y8] [] [y5])))
theorem zall : ∀ z : Zst, Mine.hex_of_.zP1 (z.h 0) (z.n 0) (z.h 1) (z.n 1) := by refine @sk_all _ neZst _ ?_; with_unfolding_all exact zgo
end z1
theorem zgo : zA (zx.w) b (zx.n 0) (zx.c) := zs.2 (by rw [← zp1]; exact fun y0 y1 y2 y3 => z1.zall (zmk zw zk0 [y1, y3] [] [] [] [] [] [y0, y2] [] [] [] [] [] [] [] [] []))
theorem zall : ∀ z : Zst, zA (z.w) (z.lu 0) (z.n 0) (z.c) := by refine @sk_all _ neZst _ ?_; with_unfolding_all exact zgo
end hex_of_
theorem hex_of (w : World) (b : List UInt8) (t : Tok) (hb : b.length ≤ 64) : Spec w 76 [.bytes b.toArray t] 2 20 [] (fun v n' => n' = [] ∧ ∃ t, v = .str (S (hexL b)) t) False := Spec.cut fun zk => Mine.hex_of_.zall (zmk w zk [t] [] [] [] [] [] [] [] [] [b] [] [] [] [] [] []) hb
end sPc
theorem fl17 : True := by first | walk1 | trivial

section sPd

theorem bytesOf_hex (b : List UInt8) : ∀ c ∈ hexL b, c < 256 := by
  intro c hc
  unfold hexL at hc
  obtain ⟨x, _, hx⟩ := List.mem_flatMap.mp hc
  have := x.toNat_lt
  simp only [hex2, List.mem_cons, List.not_mem_nil, or_false] at hx
  rcases hx with rfl | rfl <;> (unfold hexC; split <;> omega)
theorem hexL_length (b : List UInt8) : (hexL b).length = 2 * b.length := by
  induction b with
  | nil => rfl
  | cons c r ih =>
    show ((hexL r).length + 1) + 1 = 2 * (r.length + 1)
    omega
section
local macro_rules | `(tactic| walk_at $s:str) => `(tactic| k_extra $(Lean.Syntax.mkStrLit ("S32." ++ s.getString)))
theorem zm7 : True := by
  (k_with "S32.call ref" => k_extra "R25")
  (k_with "S32.call ref" => k_extra "R26")
  trivial
namespace wire_hex_
def zA (w : World) (b : List UInt8) (t : Tok) (zk : Cal) : Prop := ∀ (hb : b.length ≤ 64), SpecAt w 161 [.bytes b.toArray t] 6 60 [] (fun v n' => n' = [] ∧ ∃ t, v = .bytes (bytesOf (hexL b)).toArray t) False zk
@[irreducible] noncomputable def zx : Zst := sk neZst fun z => zA (z.w) (z.lu 0) (z.n 0) (z.c)
def zT (P1 : World → (List UInt8) → Tok → Cal → Heap → Addr → Heap → Nat → Prop) : Prop := ∀ w b t zk, (∀ y0 y1 y2 y3, P1 w b t zk y0 y1 y2 y3) → zA w b t zk
noncomputable def zs : { P : Heap → Addr → Heap → Nat → Prop // (∀ y0 y1 y2 y3, P y0 y1 y2 y3) → zA (zx.w) (zx.lu 0) (zx.n 0) (zx.c) } := by
  refine' ⟨_, (_ : zT _) (zx.w) (zx.lu 0) (zx.n 0) (zx.c)⟩
  rotate_left 1
  · intro w b t zk zR1 hb B F X N T hk hd hu hret hexc
    w_strict (
     walk_at "my enter"
     (revert hb B F X N T hk hd hu hret hexc FG' F' N' B' X' T' kG'; exact zR1 g' L' h' tk')
    )
@[irreducible] noncomputable def zP1 : Heap → Addr → Heap → Nat → Prop := Mine.wire_hex_.zs.1
theorem zp1 : zP1 = Mine.wire_hex_.zs.1 := by with_unfolding_all rfl
namespace z1
@[irreducible] noncomputable def zx : Zst := sk neZst fun z => Mine.wire_hex_.zP1 (z.h 0) (z.n 0) (z.h 1) (z.n 1)
theorem zgo : Mine.wire_hex_.zP1 (zx.h 0) (zx.n 0) (zx.h 1) (zx.n 1) := by
  refine' zcast Mine.wire_hex_.zp1 (fun zf => zf (zx.h 0) (zx.n 0) (zx.h 1) (zx.n 1)) ((_ : ∀ g' L' h' tk', Mine.wire_hex_.zs.1 g' L' h' tk') (zx.h 0) (zx.n 0) (zx.h 1) (zx.n 1))
  intro g' L' h' tk' hb B F X N T hk hd hu hret hexc FG' F' N' B' X' T' kG'
  w_strict (
   k_steps
   exact hret _ _ _ [] ⟨rfl, _, rfl⟩ (by assumption) News.nil (kept_of (by assumption) (by assumption) News.nil)
  )
theorem zall : ∀ z : Zst, Mine.wire_hex_.zP1 (z.h 0) (z.n 0) (z.h 1) (z.n 1) := by refine @sk_all _ neZst _ ?_; with_unfolding_all exact zgo
end z1
theorem zgo : zA (zx.w) (zx.lu 0) (zx.n 0) (zx.c) := zs.2 (by rw [← zp1]; exact fun y0 y1 y2 y3 => z1.zall (zmk zw zk0 [y1, y3] [] [] [] [] [] [y0, y2] [] [] [] [] [] [] [] [] []))
theorem zall : ∀ z : Zst, zA (z.w) (z.lu 0) (z.n 0) (z.c) := by refine @sk_all _ neZst _ ?_; with_unfolding_all exact zgo
end wire_hex_
theorem wire_hex (w : World) (b : List UInt8) (t : Tok) (hb : b.length ≤ 64) : Spec w 161 [.bytes b.toArray t] 6 60 [] (fun v n' => n' = [] ∧ ∃ t, v = .bytes (bytesOf (hexL b)).toArray t) False := Spec.cut fun zk => Mine.wire_hex_.zall (zmk w zk [t] [] [] [] [] [] [] [] [] [b] [] [] [] [] [] []) hb
end
theorem fl18 : True := by first | walk1 | trivial
def figV (i : Int) : Int := if i ≤ 57 then i - 48 else i - 87
namespace fig_
def zA (w : World) (i : Int) (t : Tok) (zk : Cal) : Prop := ∀ (h : (48 ≤ i ∧ i ≤ 57) ∨ (97 ≤ i ∧ i ≤ 102)), SpecAt w 125 [.int i t] 2 20 [] (fun v n' => n' = [] ∧ ∃ t, v = .int (figV i) t) False zk
@[irreducible] noncomputable def zx : Zst := sk neZst fun z => zA (z.w) (z.i 0) (z.n 0) (z.c)
def zT (P1 : World → Int → Tok → Cal → Heap → Addr → Heap → Nat → Prop) : Prop := ∀ w i t zk, (∀ y0 y1 y2 y3, P1 w i t zk y0 y1 y2 y3) → zA w i t zk
noncomputable def zs : { P : Heap → Addr → Heap → Nat → Prop // (∀ y0 y1 y2 y3, P y0 y1 y2 y3) → zA (zx.w) (zx.i 0) (zx.n 0) (zx.c) } := by
  refine' ⟨_, (_ : zT _) (zx.w) (zx.i 0) (zx.n 0) (zx.c)⟩
  rotate_left 1
  · intro w i t zk zR1 h B F X N T hk hd hu hret hexc
    w_strict (
     walk_at "my enter"
     (revert h B F X N T hk hd hu hret hexc FG' F' N' B' X' T' kG'; exact zR1 g' L' h' tk')
    )
@[irreducible] noncomputable def zP1 : Heap → Addr → Heap → Nat → Prop := Mine.fig_.zs.1
theorem zp1 : zP1 = Mine.fig_.zs.1 := by with_unfolding_all rfl
namespace z1
@[irreducible] noncomputable def zx : Zst := sk neZst fun z => Mine.fig_.zP1 (z.h 0) (z.n 0) (z.h 1) (z.n 1)
theorem zgo : Mine.fig_.zP1 (zx.h 0) (zx.n 0) (zx.h 1) (zx.n 1) := by
  refine' zcast Mine.fig_.zp1 (fun zf => zf (zx.h 0) (zx.n 0) (zx.h 1) (zx.n 1)) ((_ : ∀ g' L' h' tk', Mine.fig_.zs.1 g' L' h' tk') (zx.h 0) (zx.n 0) (zx.h 1) (zx.n 1))
  intro g' L' h' tk' h B F X N T hk hd hu hret hexc FG' F' N' B' X' T' kG'
  w_strict (
   k_steps
   all_goals (refine hret _ _ _ [] ⟨rfl, _, by simp only [figV]; congr 1 <;> split <;> omega⟩ (by assumption) News.nil (kept_of (by assumption) (by assumption) News.nil))
  )
theorem zall : ∀ z : Zst, Mine.fig_.zP1 (z.h 0) (z.n 0) (z.h 1) (z.n 1) := by refine @sk_all _ neZst _ ?_; with_unfolding_all exact zgo
end z1
theorem zgo : zA (zx.w) (zx.i 0) (zx.n 0) (zx.c) := zs.2 (by rw [← zp1]; exact fun y0 y1 y2 y3 => z1.zall (zmk zw zk0 [y1, y3] [] [] [] [] [] [y0, y2] [] [] [] [] [] [] [] [] []))
theorem zall : ∀ z : Zst, zA (z.w) (z.i 0) (z.n 0) (z.c) := by refine @sk_all _ neZst _ ?_; with_unfolding_all exact zgo
end fig_
theorem fig (w : World) (i : Int) (t : Tok) (h : (48 ≤ i ∧ i ≤ 57) ∨ (97 ≤ i ∧ i ≤ 102)) : Spec w 125 [.int i t] 2 20 [] (fun v n' => n' = [] ∧ ∃ t, v = .int (figV i) t) False := Spec.cut fun zk => Mine.fig_.zall (zmk w zk [t] [i] [] [] [] [] [] [] [] [] [] [] [] [] [] []) h
def plainC (c : UInt8) : Bool := decide ((48 ≤ c.toNat ∧ c.toNat ≤ 57) ∨ (97 ≤ c.toNat ∧ c.toNat ≤ 102))
theorem plainC_of {c : UInt8} (h : (48 ≤ (c.toNat : Int) ∧ (c.toNat : Int) ≤ 57) ∨ (97 ≤ (c.toNat : Int) ∧ (c.toNat : Int) ≤ 102)) : plainC c = true := by
  unfold plainC
  exact decide_eq_true (by omega)
theorem plainC_no {c : UInt8} (h : ¬ ((48 ≤ (c.toNat : Int) ∧ (c.toNat : Int) ≤ 57) ∨ (97 ≤ (c.toNat : Int) ∧ (c.toNat : Int) ≤ 102))) : plainC c = false := by
  unfold plainC
  exact decide_eq_false (by omega)
theorem all_no {b : List UInt8} {i : Nat} {c : UInt8} {p : UInt8 → Bool} (hc : b[i]? = some c) (h : p c = false) : b.all p = false := by
  cases hq : b.all p with
  | false => rfl
  | true => exact absurd (List.all_eq_true.mp hq c (List.mem_of_getElem? hc)) (by rw [h]; exact Bool.false_ne_true)
theorem all_yes {b : List UInt8} {p : UInt8 → Bool} (h : ∀ j < b.length, ∀ c, b[j]? = some c → p c = true) : b.all p = true :=
  List.all_eq_true.mpr fun c hc => by
    obtain ⟨i, hi, rfl⟩ := List.getElem_of_mem hc
    exact h i hi _ (List.getElem?_eq_getElem hi)
def isPlain (b : List UInt8) (n : Int) : Bool := decide ((b.length : Int) = n) && b.all plainC
namespace is_plain_
def zA (w : World) (b : List UInt8) (t : Tok) (n : Int) (tn : Tok) (zk : Cal) : Prop := ∀ (hb : b.length ≤ 4096), SpecAt w 97 [.bytes b.toArray t, .int n tn] 2 20 [] (fun v n' => n' = [] ∧ v = .bool (isPlain b n)) False zk
@[irreducible] noncomputable def zx : Zst := sk neZst fun z => zA (z.w) (z.lu 0) (z.n 0) (z.i 0) (z.n 1) (z.c)
@[irreducible] noncomputable def b : List UInt8 := zx.lu 0
@[irreducible] noncomputable def n : Int := zx.i 0
def zT (P1 : World → (List UInt8) → Tok → Int → Tok → Cal → Heap → Addr → Heap → Nat → Prop) : Prop := ∀ w b t n tn zk, (∀ y0 y1 y2 y3, P1 w b t n tn zk y0 y1 y2 y3) → zA w b t n tn zk
noncomputable def zs : { P : Heap → Addr → Heap → Nat → Prop // (∀ y0 y1 y2 y3, P y0 y1 y2 y3) → zA (zx.w) b (zx.n 0) n (zx.n 1) (zx.c) } := by
  refine' ⟨_, (_ : zT _) (zx.w) b (zx.n 0) n (zx.n 1) (zx.c)⟩
  rotate_left 1
  · intro w b t n tn zk zR1 hb B F X N T hk hd hu hret hexc
    w_strict (
     walk_at "my enter"
     (revert hb B F X N T hk hd hu hret hexc FG' F' N' B' X' T' kG'; exact zR1 g' L' h' tk')
    )
@[irreducible] noncomputable def zP1 : Heap → Addr → Heap → Nat → Prop := Mine.is_plain_.zs.1
theorem zp1 : zP1 = Mine.is_plain_.zs.1 := by with_unfolding_all rfl
namespace z1
@[irreducible] noncomputable def zx : Zst := sk neZst fun z => Mine.is_plain_.zP1 (z.h 0) (z.n 0) (z.h 1) (z.n 1)
theorem zgo : Mine.is_plain_.zP1 (zx.h 0) (zx.n 0) (zx.h 1) (zx.n 1) := by
  refine' zcast Mine.is_plain_.zp1 (fun zf => zf (zx.h 0) (zx.n 0) (zx.h 1) (zx.n 1)) ((_ : ∀ g' L' h' tk', Mine.is_plain_.zs.1 g' L' h' tk') (zx.h 0) (zx.n 0) (zx.h 1) (zx.n 1))
  intro g' L' h' tk' hb B F X N T hk hd hu hret hexc FG' F' N' B' X' T' kG'
  w_strict (
   k_steps
   · refine hret _ _ _ [] ⟨rfl, ?_⟩ (by assumption) News.nil (kept_of (by assumption) (by assumption) News.nil)
     rename (_ : Int) ≠ n => hne
     replace hne : ¬ (b.length : Int) = n := by simpa using hne
     unfold isPlain
     rw [decide_eq_false hne]; rfl
   · unfold Hold
     rename Fr _ _ _ _ => lF
     rename News _ _ _ _ => lN
     rename (_ : Int) = n => hne
     replace hne : (b.length : Int) = n := by simpa using hne
     refine' loopM (σ := Unit) (Iter.bytes ?hh) (fun _ => []) (fun _ => []) [] (fun i _ => ∀ j < i, ∀ c, b[j]? = some c → plainC c = true) () lF lN ?hn ?hkeep ?hk ?hp ?turn ?done
     case hh => rfl
     case hn => exact fun _ h => nomatch h
     case hkeep => exact fun _ _ h => nomatch h
     case hk => exact fun _ h => nomatch h
     case hp => exact fun _ h => absurd h (Nat.not_lt_zero _)
     case turn =>
       rintro i v ⟨⟩ u h tk own hi ⟨c, tc, hc, rfl⟩ hoff hP F₁ N₁
       clear lF lN
       have hc' : b[i]? = some c := by simpa using hc
       k_steps
       iterate 2
         refine At.end () hoff (by assumption) (by assumption) rfl (fun _ h => nomatch h) (fun p hp => List.mem_append_right _ hp) (fun _ h => nomatch h) (by intro z h1 h2 h3; simp +zetaDelta [h1, kstB]) ?_
         intro j hj c' hc'
         rcases Nat.lt_succ_iff_lt_or_eq.mp hj with hj | rfl
         · exact hP j hj c' hc'
         · rename b[_]? = some c => hc2
           rw [hc2] at hc'; cases hc'
           exact plainC_of (by omega)
       all_goals
         refine hret _ _ _ [] ⟨rfl, ?_⟩ (by assumption) News.nil (kept_of (by assumption) (by assumption) News.nil)
         unfold isPlain
         rw [all_no hc' (plainC_no (by omega)), Bool.and_false]
     case done =>
       rintro ⟨⟩ u h tk hP F₁ N₁
       clear lF lN
       rw [show b.toArray.size = b.length by simp] at hP
       k_steps
       refine hret _ _ _ [] ⟨rfl, ?_⟩ (by assumption) News.nil (kept_of (by assumption) (by assumption) News.nil)
       unfold isPlain
       rw [all_yes hP, decide_eq_true hne]; rfl
  )
theorem zall : ∀ z : Zst, Mine.is_plain_.zP1 (z.h 0) (z.n 0) (z.h 1) (z.n 1) := by refine @sk_all _ neZst _ ?_; with_unfolding_all exact zgo
end z1
theorem zgo : zA (zx.w) b (zx.n 0) n (zx.n 1) (zx.c) := zs.2 (by rw [← zp1]; exact fun y0 y1 y2 y3 => z1.zall (zmk zw zk0 [y1, y3] [] [] [] [] [] [y0, y2] [] [] [] [] [] [] [] [] []))
theorem zall : ∀ z : Zst, zA (z.w) (z.lu 0) (z.n 0) (z.i 0) (z.n 1) (z.c) := by refine @sk_all _ neZst _ ?_; with_unfolding_all exact zgo
end is_plain_
theorem is_plain (w : World) (b : List UInt8) (t : Tok) (n : Int) (tn : Tok) (hb : b.length ≤ 4096) : Spec w 97 [.bytes b.toArray t, .int n tn] 2 20 [] (fun v n' => n' = [] ∧ v = .bool (isPlain b n)) False := Spec.cut fun zk => Mine.is_plain_.zall (zmk w zk [t, tn] [n] [] [] [] [] [] [] [] [b] [] [] [] [] [] []) hb
end sPd
theorem fl19 : True := by first | walk1 | trivial

section sPe

def sliceL (b : List UInt8) (lo hi : Option Int) : List UInt8 := (b.drop (lo.elim 0 (clipAt b.length))).take (hi.elim b.length (clipAt b.length) - lo.elim 0 (clipAt b.length))
theorem slice_L {prog : Program} {w : World} {A : Around} {E : Value → Shared → Prop} {s : Shared} {h₀ : Heap} {L : Addr} {m : PySem.Str → Option Value} {news : List (Addr × Obj)} {value slice : PySem.Expr} {b : List UInt8} {t : Tok} {l u : Value} {lo hi : Option Int} {Q : Value → Shared → Prop}
    (hF : Fr h₀ L s.heap m) (hN : News h₀ L s.heap news) (hl : IsPart l lo) (hu : IsPart u hi) (hz : b.length ≤ 16777216)
    (h : ∀ h' t' k, Fr h₀ L h' m → News h₀ L h' news → Q (.bytes (sliceL b lo hi).toArray t') { s with heap := h', toks := k })
    (hs : subscripted slice false (.bytes b.toArray t) (.ref s.heap.objs.size) = operate [.ref s.heap.objs.size, .bytes b.toArray t] (getItem (.bytes b.toArray t) (.ref s.heap.objs.size)) := by with_unfolding_all rfl)
    (ht : ∀ r, letTemporaryGo value (.bytes b.toArray t) r = pure () := by intro _; with_unfolding_all rfl) :
    wpAny (model prog w) A (subscriptTail value slice (.bytes b.toArray t) (.ref s.heap.objs.size)) Q E { s with heap := s.heap.push { cls := .type "slice", data := .fields #[l, u, .none] } } := by
  refine KBc.slice_K hF hN rfl hl hu (by rw [KBw.ints_length]; simpa using hz) (fun h' t' k F' N' _ => ?_) hs ht
  have e : KBy.picked b.toArray lo hi = (sliceL b lo hi).toArray := by
    rw [KBc.picked_eq]
    unfold sliceL
    simp
  rw [e]
  exact h h' t' k F' N'
local macro_rules | `(tactic| walk_at $s:str) => `(tactic| k_extra $(Lean.Syntax.mkStrLit ("S39." ++ s.getString)))
theorem zm8 : True := by
  (k_with "S39.subscriptTail" => k_extra "R27")
  trivial
section
def rowOf (b : List UInt8) : List UInt8 := if (sliceL b (some (-1)) none == [10]) = true then sliceL b none (some (-1)) else b
namespace wire_rowB_
def zA (w : World) (b : List UInt8) (t : Tok) (zk : Cal) : Prop := ∀ (hb : b.length ≤ 65536), SpecAt w 147 [.bytes b.toArray t] 2 20 [] (fun v n' => n' = [] ∧ ∃ t, v = .bytes (rowOf b).toArray t) False zk
@[irreducible] noncomputable def zx : Zst := sk neZst fun z => zA (z.w) (z.lu 0) (z.n 0) (z.c)
@[irreducible] noncomputable def b : List UInt8 := zx.lu 0
def zT (P1 : World → (List UInt8) → Tok → Cal → Heap → Addr → Heap → Nat → Prop) : Prop := ∀ w b t zk, (∀ y0 y1 y2 y3, P1 w b t zk y0 y1 y2 y3) → zA w b t zk
noncomputable def zs : { P : Heap → Addr → Heap → Nat → Prop // (∀ y0 y1 y2 y3, P y0 y1 y2 y3) → zA (zx.w) b (zx.n 0) (zx.c) } := by
  refine' ⟨_, (_ : zT _) (zx.w) b (zx.n 0) (zx.c)⟩
  rotate_left 1
  · intro w b t zk zR1 hb B F X N T hk hd hu hret hexc
    w_strict (
     walk_at "my enter"
     (revert hb B F X N T hk hd hu hret hexc FG' F' N' B' X' T' kG'; exact zR1 g' L' h' tk')
    )
@[irreducible] noncomputable def zP1 : Heap → Addr → Heap → Nat → Prop := Mine.wire_rowB_.zs.1
theorem zp1 : zP1 = Mine.wire_rowB_.zs.1 := by with_unfolding_all rfl
namespace z1
@[irreducible] noncomputable def zx : Zst := sk neZst fun z => Mine.wire_rowB_.zP1 (z.h 0) (z.n 0) (z.h 1) (z.n 1)
theorem zgo : Mine.wire_rowB_.zP1 (zx.h 0) (zx.n 0) (zx.h 1) (zx.n 1) := by
  refine' zcast Mine.wire_rowB_.zp1 (fun zf => zf (zx.h 0) (zx.n 0) (zx.h 1) (zx.n 1)) ((_ : ∀ g' L' h' tk', Mine.wire_rowB_.zs.1 g' L' h' tk') (zx.h 0) (zx.n 0) (zx.h 1) (zx.n 1))
  intro g' L' h' tk' hb B F X N T hk hd hu hret hexc FG' F' N' B' X' T' kG'
  w_strict (
   k_steps
   · rename (_ == _) = true => hq
     have hq' : (sliceL b (some (-1)) none == [10]) = true := hq
     exact hret _ _ _ [] ⟨rfl, _, by unfold rowOf; rw [if_pos hq']⟩ (by assumption) News.nil (kept_of (by assumption) (by assumption) News.nil)
   · rename (_ == _) = false => hq
     have hq' : ¬ (sliceL b (some (-1)) none == [10]) = true := fun h => Bool.false_ne_true ((show (sliceL b (some (-1)) none == [10]) = false from hq).symm.trans h)
     exact hret _ _ _ [] ⟨rfl, _, by unfold rowOf; rw [if_neg hq']⟩ (by assumption) News.nil (kept_of (by assumption) (by assumption) News.nil)
  )
theorem zall : ∀ z : Zst, Mine.wire_rowB_.zP1 (z.h 0) (z.n 0) (z.h 1) (z.n 1) := by refine @sk_all _ neZst _ ?_; with_unfolding_all exact zgo
end z1
theorem zgo : zA (zx.w) b (zx.n 0) (zx.c) := zs.2 (by rw [← zp1]; exact fun y0 y1 y2 y3 => z1.zall (zmk zw zk0 [y1, y3] [] [] [] [] [] [y0, y2] [] [] [] [] [] [] [] [] []))
theorem zall : ∀ z : Zst, zA (z.w) (z.lu 0) (z.n 0) (z.c) := by refine @sk_all _ neZst _ ?_; with_unfolding_all exact zgo
end wire_rowB_
theorem wire_rowB (w : World) (b : List UInt8) (t : Tok) (hb : b.length ≤ 65536) : Spec w 147 [.bytes b.toArray t] 2 20 [] (fun v n' => n' = [] ∧ ∃ t, v = .bytes (rowOf b).toArray t) False := Spec.cut fun zk => Mine.wire_rowB_.zall (zmk w zk [t] [] [] [] [] [] [] [] [] [b] [] [] [] [] [] []) hb
end
def figN (c : Nat) : Nat := if c ≤ 57 then c - 48 else c - 87
theorem find_hex : ∀ n : Nat, n < 256 → ((48 ≤ n ∧ n ≤ 57) ∨ (97 ≤ n ∧ n ≤ 102)) → Txt.find (Str.ofString "0123456789abcdef") (S [n]) = ((figN n : Nat) : Int) := by decide +kernel
namespace hex_digit_
def zA (w : World) (c : UInt8) (t : Tok) (zk : Cal) : Prop := ∀ (hc : plainC c = true), SpecAt w 83 [.str (S [c.toNat]) t] 2 20 [] (fun v n' => n' = [] ∧ ∃ t, v = .int (figN c.toNat : Nat) t) False zk
@[irreducible] noncomputable def zx : Zst := sk neZst fun z => zA (z.w) (z.u 0) (z.n 0) (z.c)
@[irreducible] noncomputable def c : UInt8 := zx.u 0
def zT (P1 : World → UInt8 → Tok → Cal → Heap → Addr → Heap → Nat → Prop) : Prop := ∀ w c t zk, (∀ y0 y1 y2 y3, P1 w c t zk y0 y1 y2 y3) → zA w c t zk
noncomputable def zs : { P : Heap → Addr → Heap → Nat → Prop // (∀ y0 y1 y2 y3, P y0 y1 y2 y3) → zA (zx.w) c (zx.n 0) (zx.c) } := by
  refine' ⟨_, (_ : zT _) (zx.w) c (zx.n 0) (zx.c)⟩
  rotate_left 1
  · intro w c t zk zR1 hc B F X N T hk hd hu hret hexc
    w_strict (
     walk_at "my enter"
     (revert hc B F X N T hk hd hu hret hexc FG' F' N' B' X' T' kG'; exact zR1 g' L' h' tk')
    )
@[irreducible] noncomputable def zP1 : Heap → Addr → Heap → Nat → Prop := Mine.hex_digit_.zs.1
theorem zp1 : zP1 = Mine.hex_digit_.zs.1 := by with_unfolding_all rfl
namespace z1
@[irreducible] noncomputable def zx : Zst := sk neZst fun z => Mine.hex_digit_.zP1 (z.h 0) (z.n 0) (z.h 1) (z.n 1)
theorem zgo : Mine.hex_digit_.zP1 (zx.h 0) (zx.n 0) (zx.h 1) (zx.n 1) := by
  refine' zcast Mine.hex_digit_.zp1 (fun zf => zf (zx.h 0) (zx.n 0) (zx.h 1) (zx.n 1)) ((_ : ∀ g' L' h' tk', Mine.hex_digit_.zs.1 g' L' h' tk') (zx.h 0) (zx.n 0) (zx.h 1) (zx.n 1))
  intro g' L' h' tk' hc B F X N T hk hd hu hret hexc FG' F' N' B' X' T' kG'
  w_strict (
   have hf := find_hex c.toNat c.toNat_lt (of_decide_eq_true hc)
   k_steps
   rw [hf]
   exact hret _ _ _ [] ⟨rfl, _, rfl⟩ (by assumption) News.nil (kept_of (by assumption) (by assumption) News.nil)
  )
theorem zall : ∀ z : Zst, Mine.hex_digit_.zP1 (z.h 0) (z.n 0) (z.h 1) (z.n 1) := by refine @sk_all _ neZst _ ?_; with_unfolding_all exact zgo
end z1
theorem zgo : zA (zx.w) c (zx.n 0) (zx.c) := zs.2 (by rw [← zp1]; exact fun y0 y1 y2 y3 => z1.zall (zmk zw zk0 [y1, y3] [] [] [] [] [] [y0, y2] [] [] [] [] [] [] [] [] []))
theorem zall : ∀ z : Zst, zA (z.w) (z.u 0) (z.n 0) (z.c) := by refine @sk_all _ neZst _ ?_; with_unfolding_all exact zgo
end hex_digit_
theorem hex_digit (w : World) (c : UInt8) (t : Tok) (hc : plainC c = true) : Spec w 83 [.str (S [c.toNat]) t] 2 20 [] (fun v n' => n' = [] ∧ ∃ t, v = .int (figN c.toNat : Nat) t) False := Spec.cut fun zk => Mine.hex_digit_.zall (zmk w zk [t] [] [] [c] [] [] [] [] [] [] [] [] [] [] [] []) hc
end sPe
theorem fl20 : True := by first | walk1 | trivial

local macro_rules | `(tactic| walk_at $s:str) => `(tactic| k_extra $(Lean.Syntax.mkStrLit ("S45." ++ s.getString)))
theorem zm9 : True := by
  (k_with "S45.subscriptTail" => k_extra "R27")
  (k_with "S45.subscriptTail Name Slice" => k_extra "R27")
  (k_with "S45.binaryOp Add bytes bytes" => k_extra "R28")
  (k_with "S45.exec For Name Name cons nil" => k_extra "R29")
  (k_with "S45.exec For Name Subscript cons nil" => k_extra "R29")
  (k_with "S45.exec For Name Attribute cons nil" => k_extra "R29")
  trivial
theorem Off.neD_J {news : List (Addr × Obj)} {D x : Addr} (h : Off news D) (hm : x ∈ news.map (·.1)) : x ≠ D := by
  obtain ⟨q, hq, rfl⟩ := List.mem_map.mp hm
  exact h q hq
local macro_rules | `(tactic| k_all) => `(tactic| k_extra "R30")
local macro_rules | `(tactic| k_ne) => `(tactic| k_extra "R31")
section sPf

def unhexN (b : List UInt8) (i : Nat) : Nat := 16 * figN (b.getD (2 * i) 0).toNat + figN (b.getD (2 * i + 1) 0).toNat
def unhex (b : List UInt8) : List UInt8 := (List.range (b.length / 2)).map fun i => (unhexN b i).toUInt8
theorem figN_lt {c : UInt8} (h : plainC c = true) : figN c.toNat < 16 := by
  have := of_decide_eq_true h
  unfold figN
  split <;> omega
theorem plain_at {b : List UInt8} (h : b.all plainC = true) {i : Nat} (hi : i < b.length) : plainC (b.getD i 0) = true := by
  rw [List.getD_eq_getElem?_getD, List.getElem?_eq_getElem hi]
  exact List.all_eq_true.mp h _ (List.getElem_mem hi)
theorem item_S {prog : Program} {w : World} {A : Around} {E : Value → Shared → Prop} {s : Shared} {value slice : PySem.Expr} {b : List UInt8} {i : Int} {j : Nat} {t u : Tok} {Q : Value → Shared → Prop} (hij : i = j) (hj : j < b.length) (hb : b.length ≤ 16777216)
    (h : Q (.str (S [(b.getD j 0).toNat]) s.toks) { s with toks := s.toks + 1 })
    (hs : subscripted slice false (.str (strOf b) t) (.int i u) = operate [.str (strOf b) t, .int i u] (getItem (.str (strOf b) t) (.int i u)) := by with_unfolding_all rfl)
    (ht : ∀ r, letTemporaryGo value (.str (strOf b) t) r = pure () := by intro _; with_unfolding_all rfl) :
    wpAny (model prog w) A (subscriptTail value slice (.str (strOf b) t) (.int i u)) Q E s := by
  have hl : (strOf b).length = b.length := by simp [strOf, PySem.Str.length]
  refine KXi.item (n := b.length) hl (by omega) (by omega) hb (fun _ => ?_) hs ht
  subst hij
  rw [item_meets (n := (b.getD j 0).toNat) (Int.natCast_nonneg _) ?_]
  · exact h
  · rw [Int.toNat_natCast]
    simp [strOf, List.getD_eq_getElem?_getD, List.getElem?_eq_getElem hj]
theorem range2 (n : Nat) : Builtin.Range.rangeSize 0 ((2 * n : Nat) : Int) 2 = (n : Int) := by
  rw [rangeSize_pos (by decide) (by omega)]
  omega
theorem small2 {k : Nat} (hb : k ≤ 64) : Builtin.Range.small 0 ((2 * k : Nat) : Int) 2 = true := by
  have h : ∀ k : Nat, k < 65 → Builtin.Range.small 0 ((2 * k : Nat) : Int) 2 = true := by decide +kernel
  exact h k (by omega)
theorem strOf_length (b : List UInt8) : (strOf b).length = b.length := by simp [strOf, PySem.Str.length]
theorem len_strOf {prog : Program} {w : World} {A : Around} {E : Value → Shared → Prop} {s : Shared} {b : List UInt8} {t : Tok} {Q : Value → Shared → Prop} (hb : b.length ≤ 16777216)
    (h : Q (.int b.length (s.toks + 1)) { s with toks := s.toks + 1 + 1 }) : wpAny (model prog w) A (call (.builtin "len") [.str (strOf b) t]) Q E s :=
  P.len_str (by rw [strOf_length]; omega) (by rw [strOf_length]; exact h)
local macro_rules | `(tactic| walk_at $s:str) => `(tactic| k_extra $(Lean.Syntax.mkStrLit ("S46." ++ s.getString)))
theorem zm10 : True := by
  (k_with "S46.call builtin:len" => k_extra "R32")
  trivial
theorem intsAre_snoc' {us : List Value} {ws : List Int} {x y : Int} {t : Tok} (h : IntsAre us ws) (e : x = y) : IntsAre (us ++ [.int x t]) (ws ++ [y]) := e ▸ intsAre_snoc h
theorem zm11 : True := by
  (k_with "S46.call ref" => k_extra "R33")
  trivial
namespace octets_of_hex_
def zA (w : World) (b : List UInt8) (t : Tok) (k : Nat) (zk : Cal) : Prop := ∀ (h2k : b.length = 2 * k), ∀ (hb : k ≤ 64), ∀ (hp : b.all plainC = true), SpecAt w 90 [.str (strOf b) t] 6 60 [] (fun v n' => n' = [] ∧ ∃ t, v = .bytes (unhex b).toArray t) False zk
@[irreducible] noncomputable def zx : Zst := sk neZst fun z => zA (z.w) (z.lu 0) (z.n 0) (z.n 1) (z.c)
@[irreducible] noncomputable def b : List UInt8 := zx.lu 0
@[irreducible] noncomputable def k : Nat := zx.n 1
def zT (P1 : World → (List UInt8) → Tok → Nat → Cal → Heap → Addr → Heap → Nat → Prop) : Prop := ∀ w b t k zk, (∀ y0 y1 y2 y3, P1 w b t k zk y0 y1 y2 y3) → zA w b t k zk
noncomputable def zs : { P : Heap → Addr → Heap → Nat → Prop // (∀ y0 y1 y2 y3, P y0 y1 y2 y3) → zA (zx.w) b (zx.n 0) k (zx.c) } := by
  refine' ⟨_, (_ : zT _) (zx.w) b (zx.n 0) k (zx.c)⟩
  rotate_left 1
  · intro w b t k zk zR1 h2k hb hp B F X N T hk hd hu hret hexc
    w_strict (
     walk_at "my enter"
     (revert h2k hb hp B F X N T hk hd hu hret hexc FG' F' N' B' X' T' kG'; exact zR1 g' L' h' tk')
    )
@[irreducible] noncomputable def zP1 : Heap → Addr → Heap → Nat → Prop := Mine.octets_of_hex_.zs.1
theorem zp1 : zP1 = Mine.octets_of_hex_.zs.1 := by with_unfolding_all rfl
namespace z1
@[irreducible] noncomputable def zx : Zst := sk neZst fun z => Mine.octets_of_hex_.zP1 (z.h 0) (z.n 0) (z.h 1) (z.n 1)
theorem zgo : Mine.octets_of_hex_.zP1 (zx.h 0) (zx.n 0) (zx.h 1) (zx.n 1) := by
  refine' zcast Mine.octets_of_hex_.zp1 (fun zf => zf (zx.h 0) (zx.n 0) (zx.h 1) (zx.n 1)) ((_ : ∀ g' L' h' tk', Mine.octets_of_hex_.zs.1 g' L' h' tk') (zx.h 0) (zx.n 0) (zx.h 1) (zx.n 1))
  intro g' L' h' tk' h2k hb hp B F X N T hk hd hu hret hexc FG' F' N' B' X' T' kG'
  w_strict (
   k_steps
   · exfalso
     rename Int.fmod _ _ ≠ 0 => hne
     rw [Int.fmod_eq_emod_of_nonneg _ (by decide)] at hne
     omega
   · unfold Hold
     rename Fr _ _ _ _ => lF
     rename News _ _ _ _ => lN
     rename IsRange _ _ _ _ _ _ _ _ => lR
     obtain ⟨D, rfl⟩ := name1 lN
     rw [h2k] at lR
     refine' loopM (σ := List Value × Nat) (n := k) (Iter.rangeC ?hh lR ?hs ?hz) (fun c => [(D, listOf c.1.toArray c.2)]) (fun _ => []) ["high", "low"] (fun i c => IntsAre c.1 ((List.range i).map fun j => ((unhexN b j : Nat) : Int))) ([], 0) lF lN ?hn ?hkeep ?hk ?hp ?turn ?done
     case hh => rfl
     case hs => exact small2 hb
     case hz => exact range2 k
     case hn => exact fun _ h => h
     case hkeep => exact fun _ _ h => nomatch h
     case hk => exact fun _ h => nomatch h
     case hp => exact .nil
     case turn =>
       rintro i v ⟨us, nn⟩ u h tk own hi ⟨hi2, tc, rfl⟩ hoff hP F₁ N₁
       clear lF lN lR
       dsimp only at hP N₁ hoff
       simp only [List.nil_append, List.cons_append, List.map_cons, List.map_nil] at N₁ hoff
       have hlen : us.length ≤ k := by rw [hP.length, List.length_map, List.length_range]; omega
       have p1 := plain_at hp (i := 2 * i) (by omega)
       have p2 := plain_at hp (i := 2 * i + 1) (by omega)
       k_steps
       unfold Hold
       refine item_S (j := 2 * i) (by omega) (by omega) (by omega) ?_
       k_steps
       unfold Hold
       refine item_S (j := 2 * i + 1) (by omega) (by omega) (by omega) ?_
       k_steps
       refine At.end (_, _) hoff (by assumption) (by assumption) rfl (fun p hp => by rw [List.mem_singleton.mp hp]; exact List.mem_cons_self) (fun p hp => List.mem_cons_of_mem _ hp) (fun _ h => nomatch h) ?_ ?_
       · intro z h1 h2 h3
         simp only [List.contains_cons, List.contains_nil, Bool.or_false, Bool.or_eq_false_iff, beq_eq_false_iff_ne, ne_eq] at h3
         simp +zetaDelta [h1, h3, kstB]
       · simp only [List.concat_eq_append, List.range_succ, List.map_append, List.map_cons, List.map_nil]
         refine intsAre_snoc' hP ?_
         unfold unhexN
         omega
     case done =>
       rintro ⟨us, nn⟩ u h tk hP F₁ N₁
       clear lF lN lR
       dsimp only at hP N₁
       k_steps
       unfold Hold
       refine bytes_K (by k_asm) (by k_asm) (News.isList (by k_asm) (by k_mem)) hP (fun n hn => ?_) (by rw [hP.length, List.length_map, List.length_range, sizeLine_eq]; omega) (by rfl) ?_
       · obtain ⟨j, hj, rfl⟩ := List.mem_map.mp hn
         have hj' := List.mem_range.mp hj
         have q1 := figN_lt (plain_at hp (i := 2 * j) (by omega))
         have q2 := figN_lt (plain_at hp (i := 2 * j + 1) (by omega))
         unfold unhexN
         omega
       intro h' t' k' F' N' _
       rw [show (List.map (fun n : Int => n.toNat.toUInt8) ((List.range k).map fun j => ((unhexN b j : Nat) : Int))) = unhex b from by
         unfold unhex
         rw [List.map_map, h2k, Nat.mul_div_cancel_left _ (by decide : 0 < 2)]
         rfl]
       k_steps
       exact hret _ _ _ [] ⟨rfl, _, rfl⟩ (by assumption) News.nil (kept_of (by assumption) (by assumption) News.nil)
  )
theorem zall : ∀ z : Zst, Mine.octets_of_hex_.zP1 (z.h 0) (z.n 0) (z.h 1) (z.n 1) := by refine @sk_all _ neZst _ ?_; with_unfolding_all exact zgo
end z1
theorem zgo : zA (zx.w) b (zx.n 0) k (zx.c) := zs.2 (by rw [← zp1]; exact fun y0 y1 y2 y3 => z1.zall (zmk zw zk0 [y1, y3] [] [] [] [] [] [y0, y2] [] [] [] [] [] [] [] [] []))
theorem zall : ∀ z : Zst, zA (z.w) (z.lu 0) (z.n 0) (z.n 1) (z.c) := by refine @sk_all _ neZst _ ?_; with_unfolding_all exact zgo
end octets_of_hex_
theorem octets_of_hex (w : World) (b : List UInt8) (t : Tok) (k : Nat) (h2k : b.length = 2 * k) (hb : k ≤ 64) (hp : b.all plainC = true) : Spec w 90 [.str (strOf b) t] 6 60 [] (fun v n' => n' = [] ∧ ∃ t, v = .bytes (unhex b).toArray t) False := Spec.cut fun zk => Mine.octets_of_hex_.zall (zmk w zk [t, k] [] [] [] [] [] [] [] [] [b] [] [] [] [] [] []) h2k hb hp
end sPf
theorem fl21 : True := by first | walk1 | trivial

section sPg

theorem isPlain_all {b : List UInt8} {n : Int} (h : isPlain b n = true) : b.all plainC = true ∧ (b.length : Int) = n := by
  unfold isPlain at h
  rw [Bool.and_eq_true] at h
  exact ⟨h.2, of_decide_eq_true h.1⟩
section
local macro_rules | `(tactic| walk_at $s:str) => `(tactic| k_extra $(Lean.Syntax.mkStrLit ("S50." ++ s.getString)))
theorem zm12 : True := by
  (k_with "S50.call ref" => k_extra "R34")
  (k_with "S50.call ref" => k_extra "R35")
  (k_with "S50.call ref" => k_extra "R36")
  trivial
namespace wire_id_
def zA (w : World) (b : List UInt8) (t : Tok) (k : Nat) (tn : Tok) (zk : Cal) : Prop := ∀ (hb : b.length ≤ 4096), ∀ (hk9 : k ≤ 4), SpecAt w 154 [.bytes b.toArray t, .int (k : Int) tn] 8 80 [] (fun v n' => isPlain b (2 * k) = true ∧ n' = [] ∧ ∃ t, v = .bytes (unhex b).toArray t) (isPlain b (2 * k) = false) zk
@[irreducible] noncomputable def zx : Zst := sk neZst fun z => zA (z.w) (z.lu 0) (z.n 0) (z.n 1) (z.n 2) (z.c)
@[irreducible] noncomputable def b : List UInt8 := zx.lu 0
@[irreducible] noncomputable def k : Nat := zx.n 1
def zT (P1 : World → (List UInt8) → Tok → Nat → Tok → Cal → Heap → Addr → Heap → Nat → Prop) : Prop := ∀ w b t k tn zk, (∀ y0 y1 y2 y3, P1 w b t k tn zk y0 y1 y2 y3) → zA w b t k tn zk
noncomputable def zs : { P : Heap → Addr → Heap → Nat → Prop // (∀ y0 y1 y2 y3, P y0 y1 y2 y3) → zA (zx.w) b (zx.n 0) k (zx.n 2) (zx.c) } := by
  refine' ⟨_, (_ : zT _) (zx.w) b (zx.n 0) k (zx.n 2) (zx.c)⟩
  rotate_left 1
  · intro w b t k tn zk zR1 hb hk9 B F X N T hk hd hu hret hexc
    w_strict (
     walk_at "my enter"
     (revert hb hk9 B F X N T hk hd hu hret hexc FG' F' N' B' X' T' kG'; exact zR1 g' L' h' tk')
    )
@[irreducible] noncomputable def zP1 : Heap → Addr → Heap → Nat → Prop := Mine.wire_id_.zs.1
theorem zp1 : zP1 = Mine.wire_id_.zs.1 := by with_unfolding_all rfl
namespace z1
@[irreducible] noncomputable def zx : Zst := sk neZst fun z => Mine.wire_id_.zP1 (z.h 0) (z.n 0) (z.h 1) (z.n 1)
theorem zgo : Mine.wire_id_.zP1 (zx.h 0) (zx.n 0) (zx.h 1) (zx.n 1) := by
  refine' zcast Mine.wire_id_.zp1 (fun zf => zf (zx.h 0) (zx.n 0) (zx.h 1) (zx.n 1)) ((_ : ∀ g' L' h' tk', Mine.wire_id_.zs.1 g' L' h' tk') (zx.h 0) (zx.n 0) (zx.h 1) (zx.n 1))
  intro g' L' h' tk' hb hk9 B F X N T hk hd hu hret hexc FG' F' N' B' X' T' kG'
  w_strict (
   by_cases hp : isPlain b (2 * k) = true
   · obtain ⟨hp1, hp2⟩ := isPlain_all hp
     have h2k : b.length = 2 * k := by omega
     k_steps
     exact hret _ _ _ [] ⟨hp, rfl, _, rfl⟩ (by assumption) News.nil (kept_of (by assumption) (by assumption) News.nil)
   · have hp' : isPlain b (2 * k) = false := by simpa using hp
     k_steps
     exact Flies.of (hexc hp') (by assumption) (by assumption) (by assumption)
  )
theorem zall : ∀ z : Zst, Mine.wire_id_.zP1 (z.h 0) (z.n 0) (z.h 1) (z.n 1) := by refine @sk_all _ neZst _ ?_; with_unfolding_all exact zgo
end z1
theorem zgo : zA (zx.w) b (zx.n 0) k (zx.n 2) (zx.c) := zs.2 (by rw [← zp1]; exact fun y0 y1 y2 y3 => z1.zall (zmk zw zk0 [y1, y3] [] [] [] [] [] [y0, y2] [] [] [] [] [] [] [] [] []))
theorem zall : ∀ z : Zst, zA (z.w) (z.lu 0) (z.n 0) (z.n 1) (z.n 2) (z.c) := by refine @sk_all _ neZst _ ?_; with_unfolding_all exact zgo
end wire_id_
theorem wire_id (w : World) (b : List UInt8) (t : Tok) (k : Nat) (tn : Tok) (hb : b.length ≤ 4096) (hk9 : k ≤ 4) : Spec w 154 [.bytes b.toArray t, .int (k : Int) tn] 8 80 [] (fun v n' => isPlain b (2 * k) = true ∧ n' = [] ∧ ∃ t, v = .bytes (unhex b).toArray t) (isPlain b (2 * k) = false) := Spec.cut fun zk => Mine.wire_id_.zall (zmk w zk [t, k, tn] [] [] [] [] [] [] [] [] [b] [] [] [] [] [] []) hb hk9
end
theorem fl22 : True := by first | walk1 | trivial
theorem clip_nat (n k : Nat) : clipAt n ((k : Nat) : Int) = min k n := clipAt_nat n k
theorem sliceL_to (b : List UInt8) (k : Nat) (i : Int) (h : i = (k : Int)) : sliceL b none (some i) = b.take k := by
  subst h
  unfold sliceL
  simp only [Option.elim, clip_nat, List.drop_zero, Nat.sub_zero]
  rw [← List.take_take, List.take_length]
theorem sliceL_from (b : List UInt8) (k : Nat) (i : Int) (h : i = (k : Int)) : sliceL b (some i) none = b.drop k := by
  subst h
  unfold sliceL
  simp only [Option.elim, clip_nat]
  rcases Nat.le_total k b.length with h | h
  · rw [Nat.min_eq_left h, List.take_of_length_le (by rw [List.length_drop]; omega)]
  · rw [Nat.min_eq_right h, List.drop_length, List.drop_of_length_le h, List.take_nil]
theorem sliceL_mid (b : List UInt8) (k l : Nat) (i j : Int) (h : i = (k : Int)) (h' : j = (l : Int)) : sliceL b (some i) (some j) = (b.drop k).take (l - k) := by
  subst h h'
  unfold sliceL
  simp only [Option.elim, clip_nat]
  rcases Nat.le_total k b.length with h | h
  · rw [Nat.min_eq_left h]
    rcases Nat.le_total l b.length with h2 | h2
    · rw [Nat.min_eq_left h2]
    · rw [Nat.min_eq_right h2, List.take_of_length_le (by rw [List.length_drop]; omega), List.take_of_length_le (by rw [List.length_drop]; omega)]
  · rw [Nat.min_eq_right h, List.drop_length, List.drop_of_length_le h, List.take_nil, List.take_nil]
theorem eq_of_beqL {a b : List UInt8} (h : (a == b) = true) : a = b := by simpa using h
theorem ne_of_beqL {a b : List UInt8} (h : (a == b) = false) : a ≠ b := by simpa using h
def haveL : List UInt8 := [104, 97, 118, 101, 32]
theorem to5 (b : List UInt8) : sliceL b none (some ((#[104, 97, 118, 101, 32] : Array UInt8).size : Int)) = b.take 5 := sliceL_to b 5 _ rfl
theorem from5 (b : List UInt8) : sliceL b (some ((#[104, 97, 118, 101, 32] : Array UInt8).size : Int)) none = b.drop 5 := sliceL_from b 5 _ rfl
local macro_rules | `(tactic| walk_at $s:str) => `(tactic| k_extra $(Lean.Syntax.mkStrLit ("S49." ++ s.getString)))
theorem zm13 : True := by
  (k_with "S49.call ref" => k_extra "R37")
  trivial
namespace wire_told_
def zA (w : World) (b : List UInt8) (t : Tok) (th : Tok) (k : Nat) (tn : Tok) (zk : Cal) : Prop := ∀ (hb : b.length ≤ 4096), ∀ (hk9 : k ≤ 4), SpecAt w 168 [.bytes b.toArray t, .bytes #[104, 97, 118, 101] th, .int (k : Int) tn] 12 100 []
    (fun v n' => n' = [] ∧ ((b.take 5 = haveL ∧ isPlain (b.drop 5) (2 * k) = true ∧ ∃ t, v = .bytes (unhex (b.drop 5)).toArray t) ∨ (b.take 5 ≠ haveL ∧ v = .none))) (b.take 5 = haveL ∧ isPlain (b.drop 5) (2 * k) = false) zk
@[irreducible] noncomputable def zx : Zst := sk neZst fun z => zA (z.w) (z.lu 0) (z.n 0) (z.n 1) (z.n 2) (z.n 3) (z.c)
@[irreducible] noncomputable def b : List UInt8 := zx.lu 0
def zT (P1 : World → (List UInt8) → Tok → Tok → Nat → Tok → Cal → Heap → Addr → Heap → Nat → Prop) : Prop := ∀ w b t th k tn zk, (∀ y0 y1 y2 y3, P1 w b t th k tn zk y0 y1 y2 y3) → zA w b t th k tn zk
noncomputable def zs : { P : Heap → Addr → Heap → Nat → Prop // (∀ y0 y1 y2 y3, P y0 y1 y2 y3) → zA (zx.w) b (zx.n 0) (zx.n 1) (zx.n 2) (zx.n 3) (zx.c) } := by
  refine' ⟨_, (_ : zT _) (zx.w) b (zx.n 0) (zx.n 1) (zx.n 2) (zx.n 3) (zx.c)⟩
  rotate_left 1
  · intro w b t th k tn zk zR1 hb hk9 B F X N T hk hd hu hret hexc
    w_strict (
     walk_at "my enter"
     (revert hb hk9 B F X N T hk hd hu hret hexc FG' F' N' B' X' T' kG'; exact zR1 g' L' h' tk')
    )
@[irreducible] noncomputable def zP1 : Heap → Addr → Heap → Nat → Prop := Mine.wire_told_.zs.1
theorem zp1 : zP1 = Mine.wire_told_.zs.1 := by with_unfolding_all rfl
namespace z1
@[irreducible] noncomputable def zx : Zst := sk neZst fun z => Mine.wire_told_.zP1 (z.h 0) (z.n 0) (z.h 1) (z.n 1)
theorem zgo : Mine.wire_told_.zP1 (zx.h 0) (zx.n 0) (zx.h 1) (zx.n 1) := by
  refine' zcast Mine.wire_told_.zp1 (fun zf => zf (zx.h 0) (zx.n 0) (zx.h 1) (zx.n 1)) ((_ : ∀ g' L' h' tk', Mine.wire_told_.zs.1 g' L' h' tk') (zx.h 0) (zx.n 0) (zx.h 1) (zx.n 1))
  intro g' L' h' tk' hb hk9 B F X N T hk hd hu hret hexc FG' F' N' B' X' T' kG'
  w_strict (
   k_steps
   · rename (_ == _) = true => hq
     have hq' := eq_of_beqL (show (sliceL b none (some ((#[104, 97, 118, 101, 32] : Array UInt8).size : Int)) == haveL) = true from hq)
     rw [to5] at hq'
     rename isPlain _ _ = true => hpl'
     rw [from5] at hpl' ⊢
     exact hret _ _ _ [] ⟨rfl, .inl ⟨hq', hpl', _, rfl⟩⟩ (by assumption) News.nil (kept_of (by assumption) (by assumption) News.nil)
   · rename (_ == _) = true => hq
     have hq' := eq_of_beqL (show (sliceL b none (some ((#[104, 97, 118, 101, 32] : Array UInt8).size : Int)) == haveL) = true from hq)
     rw [to5] at hq'
     rename isPlain _ _ = false => hb'
     rw [from5] at hb'
     exact Flies.of (hexc ⟨hq', hb'⟩) (by assumption) (by assumption) (by assumption)
   · rename (_ == _) = false => hq
     have hq' := ne_of_beqL (show (sliceL b none (some ((#[104, 97, 118, 101, 32] : Array UInt8).size : Int)) == haveL) = false from hq)
     rw [to5] at hq'
     exact hret _ _ _ [] ⟨rfl, .inr ⟨hq', rfl⟩⟩ (by assumption) News.nil (kept_of (by assumption) (by assumption) News.nil)
  )
theorem zall : ∀ z : Zst, Mine.wire_told_.zP1 (z.h 0) (z.n 0) (z.h 1) (z.n 1) := by refine @sk_all _ neZst _ ?_; with_unfolding_all exact zgo
end z1
theorem zgo : zA (zx.w) b (zx.n 0) (zx.n 1) (zx.n 2) (zx.n 3) (zx.c) := zs.2 (by rw [← zp1]; exact fun y0 y1 y2 y3 => z1.zall (zmk zw zk0 [y1, y3] [] [] [] [] [] [y0, y2] [] [] [] [] [] [] [] [] []))
theorem zall : ∀ z : Zst, zA (z.w) (z.lu 0) (z.n 0) (z.n 1) (z.n 2) (z.n 3) (z.c) := by refine @sk_all _ neZst _ ?_; with_unfolding_all exact zgo
end wire_told_
theorem wire_told (w : World) (b : List UInt8) (t : Tok) (th : Tok) (k : Nat) (tn : Tok) (hb : b.length ≤ 4096) (hk9 : k ≤ 4) : Spec w 168 [.bytes b.toArray t, .bytes #[104, 97, 118, 101] th, .int (k : Int) tn] 12 100 []
    (fun v n' => n' = [] ∧ ((b.take 5 = haveL ∧ isPlain (b.drop 5) (2 * k) = true ∧ ∃ t, v = .bytes (unhex (b.drop 5)).toArray t) ∨ (b.take 5 ≠ haveL ∧ v = .none))) (b.take 5 = haveL ∧ isPlain (b.drop 5) (2 * k) = false) := Spec.cut fun zk => Mine.wire_told_.zall (zmk w zk [t, th, k, tn] [] [] [] [] [] [] [] [] [b] [] [] [] [] [] []) hb hk9
end sPg
theorem fl23 : True := by first | walk1 | trivial

section sPh

def digC (c : UInt8) : Bool := decide (48 ≤ c.toNat ∧ c.toNat ≤ 57)
def numL (b : List UInt8) : Int := b.foldl (fun n c => 10 * n + ((c.toNat : Int) - 48)) 0
def numBy (b : List UInt8) : Option Int := if b ≠ [] ∧ b.all digC = true then some (numL b) else none
theorem digC_of {c : UInt8} (h : 48 ≤ (c.toNat : Int) ∧ (c.toNat : Int) ≤ 57) : digC c = true := by
  unfold digC
  exact decide_eq_true (by omega)
theorem digC_no {c : UInt8} (h : ¬ (48 ≤ (c.toNat : Int) ∧ (c.toNat : Int) ≤ 57)) : digC c = false := by
  unfold digC
  exact decide_eq_false (by omega)
theorem numBy_no {b : List UInt8} (h : b.all digC = false) : numBy b = none := by
  unfold numBy
  rw [if_neg]
  rintro ⟨_, h2⟩
  rw [h] at h2; cases h2
theorem numBy_yes {b : List UInt8} (h0 : b ≠ []) (h : b.all digC = true) : numBy b = some (numL b) := by
  unfold numBy
  rw [if_pos ⟨h0, h⟩]
theorem numL_snoc {b : List UInt8} {i : Nat} {c : UInt8} (h : b[i]? = some c) : numL (b.take (i + 1)) = 10 * numL (b.take i) + ((c.toNat : Int) - 48) := by
  unfold numL
  rw [take_succ h, List.foldl_append]; rfl
def isNum (o : Option Int) (v : Value) : Prop := (∃ n t, o = some n ∧ v = .int n t) ∨ (o = none ∧ v = .none)
namespace number_by_
def zA (w : World) (b : List UInt8) (t : Tok) (tn : Tok) (zk : Cal) : Prop := ∀ (hb : b.length ≤ 65536), SpecAt w 104 [.bytes b.toArray t, .int 10 tn] 2 20 [] (fun v n' => n' = [] ∧ isNum (numBy b) v) False zk
@[irreducible] noncomputable def zx : Zst := sk neZst fun z => zA (z.w) (z.lu 0) (z.n 0) (z.n 1) (z.c)
@[irreducible] noncomputable def b : List UInt8 := zx.lu 0
@[irreducible] noncomputable def zk : Cal := zx.c
def zT (P1 : World → (List UInt8) → Tok → Tok → Cal → Heap → Addr → Heap → Nat → Prop) : Prop := ∀ w b t tn zk, (∀ y0 y1 y2 y3, P1 w b t tn zk y0 y1 y2 y3) → zA w b t tn zk
noncomputable def zs : { P : Heap → Addr → Heap → Nat → Prop // (∀ y0 y1 y2 y3, P y0 y1 y2 y3) → zA (zx.w) b (zx.n 0) (zx.n 1) zk } := by
  refine' ⟨_, (_ : zT _) (zx.w) b (zx.n 0) (zx.n 1) zk⟩
  rotate_left 1
  · intro w b t tn zk zR1 hb B F X N T hk hd hu hret hexc
    w_strict (
     walk_at "my enter"
     (revert hb B F X N T hk hd hu hret hexc FG' F' N' B' X' T' kG'; exact zR1 g' L' h' tk')
    )
@[irreducible] noncomputable def zP1 : Heap → Addr → Heap → Nat → Prop := Mine.number_by_.zs.1
theorem zp1 : zP1 = Mine.number_by_.zs.1 := by with_unfolding_all rfl
namespace z1
@[irreducible] noncomputable def zx : Zst := sk neZst fun z => Mine.number_by_.zP1 (z.h 0) (z.n 0) (z.h 1) (z.n 1)
theorem zgo : Mine.number_by_.zP1 (zx.h 0) (zx.n 0) (zx.h 1) (zx.n 1) := by
  refine' zcast Mine.number_by_.zp1 (fun zf => zf (zx.h 0) (zx.n 0) (zx.h 1) (zx.n 1)) ((_ : ∀ g' L' h' tk', Mine.number_by_.zs.1 g' L' h' tk') (zx.h 0) (zx.n 0) (zx.h 1) (zx.n 1))
  intro g' L' h' tk' hb B F X N T hk hd hu hret hexc FG' F' N' B' X' T' kG'
  w_strict (
   k_steps
   · refine hret _ _ _ [] ⟨rfl, .inr ⟨?_, rfl⟩⟩ (by assumption) News.nil (kept_of (by assumption) (by assumption) News.nil)
     rename (_ : Int) = 0 => hne
     have : b = [] := List.eq_nil_of_length_eq_zero (by simpa using hne)
     rw [this]; rfl
   · unfold Hold
     rename Fr _ _ _ _ => lF
     rename News _ _ _ _ => lN
     rename (_ : Int) ≠ 0 => hne
     have hb0 : b ≠ [] := fun e => hne (by rw [e]; rfl)
     refine' loopM (σ := Int × Tok) (Iter.bytes ?hh) (fun _ => []) (fun c => [("number", .int c.1 c.2)]) ["digit"] (fun i c => (∀ j < i, ∀ c, b[j]? = some c → digC c = true) ∧ c.1 = numL (b.take i)) (0, _) lF lN ?hn ?hkeep ?hk ?hp ?turn ?done
     case hh => rfl
     case hn => exact fun _ h => nomatch h
     case hkeep => exact fun _ _ h => nomatch h
     case hk => intro p hp; rw [List.mem_singleton.mp hp]; rfl
     case hp => exact ⟨fun _ h => absurd h (Nat.not_lt_zero _), rfl⟩
     case turn =>
       rintro i v ⟨n, tk2⟩ u h tk own hi ⟨c, tc, hc, rfl⟩ hoff ⟨hP, hP2⟩ F₁ N₁
       clear lF lN
       have hc' : b[i]? = some c := by simpa using hc
       dsimp only at hP2
       subst hP2
       k_steps
       · refine' At.end (?za, ?zb) hoff (by assumption) (by assumption) rfl (fun _ h => nomatch h) (fun p hp => List.mem_append_right _ hp) ?zk ?zr ?zp
         case zk => intro p hp; rw [List.mem_singleton.mp hp]; rfl
         case zr =>
           intro z h1 h2 h3
           have h4 := h2 _ (List.mem_singleton.mpr rfl)
           simp only [List.contains_cons, List.contains_nil, Bool.or_false, Bool.or_eq_false_iff, beq_eq_false_iff_ne, ne_eq] at h3
           simp +zetaDelta [h1, h3, h4, kstB]
         case zp =>
           refine ⟨?_, (numL_snoc hc').symm⟩
           intro j hj c' hc'
           rcases Nat.lt_succ_iff_lt_or_eq.mp hj with hj | rfl
           · exact hP j hj c' hc'
           · rename b[_]? = some c => hc2
             rw [hc2] at hc'; cases hc'
             exact digC_of (by omega)
       all_goals exact hret _ _ _ [] ⟨rfl, .inr ⟨numBy_no (all_no hc' (digC_no (by omega))), rfl⟩⟩ (by assumption) News.nil (kept_of (by assumption) (by assumption) News.nil)
     case done =>
       rintro ⟨n, tk2⟩ u h tk ⟨hP, hP2⟩ F₁ N₁
       clear lF lN
       rw [show b.toArray.size = b.length by simp] at hP hP2
       dsimp only at hP2
       subst hP2
       k_steps
       rw [List.take_length]
       exact hret _ _ _ [] ⟨rfl, .inl ⟨_, _, numBy_yes hb0 (all_yes hP), rfl⟩⟩ (by assumption) News.nil (kept_of (by assumption) (by assumption) News.nil)
  )
theorem zall : ∀ z : Zst, Mine.number_by_.zP1 (z.h 0) (z.n 0) (z.h 1) (z.n 1) := by refine @sk_all _ neZst _ ?_; with_unfolding_all exact zgo
end z1
theorem zgo : zA (zx.w) b (zx.n 0) (zx.n 1) zk := zs.2 (by rw [← zp1]; exact fun y0 y1 y2 y3 => z1.zall (zmk zw zk0 [y1, y3] [] [] [] [] [] [y0, y2] [] [] [] [] [] [] [] [] []))
theorem zall : ∀ z : Zst, zA (z.w) (z.lu 0) (z.n 0) (z.n 1) (z.c) := by refine @sk_all _ neZst _ ?_; with_unfolding_all exact zgo
end number_by_
theorem number_by (w : World) (b : List UInt8) (t : Tok) (tn : Tok) (hb : b.length ≤ 65536) : Spec w 104 [.bytes b.toArray t, .int 10 tn] 2 20 [] (fun v n' => n' = [] ∧ isNum (numBy b) v) False := Spec.cut fun zk => Mine.number_by_.zall (zmk w zk [t, tn] [] [] [] [] [] [] [] [] [b] [] [] [] [] [] []) hb
def numOf (b : List UInt8) : Option Int := if b.length > 1 ∧ b.head? = some 48 then none else numBy b
local macro_rules | `(tactic| walk_at $s:str) => `(tactic| k_extra $(Lean.Syntax.mkStrLit ("S55." ++ s.getString)))
theorem zm14 : True := by
  (k_with "S55.call ref" => k_extra "R38")
  trivial
namespace number_of_
def zA (w : World) (b : List UInt8) (t : Tok) (zk : Cal) : Prop := ∀ (hb : b.length ≤ 65536), SpecAt w 111 [.bytes b.toArray t] 6 60 [] (fun v n' => n' = [] ∧ isNum (numOf b) v) False zk
@[irreducible] noncomputable def zx : Zst := sk neZst fun z => zA (z.w) (z.lu 0) (z.n 0) (z.c)
@[irreducible] noncomputable def b : List UInt8 := zx.lu 0
def zT (P1 : World → (List UInt8) → Tok → Cal → Heap → Addr → Heap → Nat → Prop) : Prop := ∀ w b t zk, (∀ y0 y1 y2 y3, P1 w b t zk y0 y1 y2 y3) → zA w b t zk
noncomputable def zs : { P : Heap → Addr → Heap → Nat → Prop // (∀ y0 y1 y2 y3, P y0 y1 y2 y3) → zA (zx.w) b (zx.n 0) (zx.c) } := by
  refine' ⟨_, (_ : zT _) (zx.w) b (zx.n 0) (zx.c)⟩
  rotate_left 1
  · intro w b t zk zR1 hb B F X N T hk hd hu hret hexc
    w_strict (
     walk_at "my enter"
     (revert hb B F X N T hk hd hu hret hexc FG' F' N' B' X' T' kG'; exact zR1 g' L' h' tk')
    )
@[irreducible] noncomputable def zP1 : Heap → Addr → Heap → Nat → Prop := Mine.number_of_.zs.1
theorem zp1 : zP1 = Mine.number_of_.zs.1 := by with_unfolding_all rfl
namespace z1
@[irreducible] noncomputable def zx : Zst := sk neZst fun z => Mine.number_of_.zP1 (z.h 0) (z.n 0) (z.h 1) (z.n 1)
theorem zgo : Mine.number_of_.zP1 (zx.h 0) (zx.n 0) (zx.h 1) (zx.n 1) := by
  refine' zcast Mine.number_of_.zp1 (fun zf => zf (zx.h 0) (zx.n 0) (zx.h 1) (zx.n 1)) ((_ : ∀ g' L' h' tk', Mine.number_of_.zs.1 g' L' h' tk') (zx.h 0) (zx.n 0) (zx.h 1) (zx.n 1))
  intro g' L' h' tk' hb B F X N T hk hd hu hret hexc FG' F' N' B' X' T' kG'
  w_strict (
   k_steps
   · rename _ = (48 : Int) => h1
     rename (1 : Int) < _ => h2
     refine hret _ _ _ [] ⟨rfl, .inr ⟨?_, rfl⟩⟩ (by assumption) News.nil (kept_of (by assumption) (by assumption) News.nil)
     unfold numOf
     rw [if_pos]
     match b, h2, h1 with
     | [], h2, _ => exact absurd h2 (by decide)
     | c :: r, h2, h1 =>
       have h7 : (1 : Int) < (((c :: r).toArray.size : Nat) : Int) := h2
       rw [show (c :: r).toArray.size = (c :: r).length by simp] at h7
       refine ⟨by omega, ?_⟩
       have h1' : (c.toNat : Int) = 48 := h1
       have h3 : c.toNat = (48 : UInt8).toNat := by have : ((48 : UInt8).toNat : Int) = 48 := rfl; omega
       exact congrArg some (UInt8.toNat_inj.mp h3)
   · rename _ ≠ (48 : Int) => h1
     rename isNum _ _ => h3
     refine hret _ _ _ [] ⟨rfl, ?_⟩ (by assumption) News.nil (kept_of (by assumption) (by assumption) News.nil)
     unfold numOf
     rw [if_neg]
     · exact h3
     rintro ⟨h4, h5⟩
     match b, h5, h1 with
     | c :: r, h5, h1 =>
       have h6 : c = 48 := by simpa using h5
       exact h1 (by rw [h6]; rfl)
   · rename ¬ (1 : Int) < _ => h1
     rename isNum _ _ => h3
     refine hret _ _ _ [] ⟨rfl, ?_⟩ (by assumption) News.nil (kept_of (by assumption) (by assumption) News.nil)
     unfold numOf
     rw [if_neg]
     · exact h3
     rintro ⟨h4, h5⟩
     rw [show b.toArray.size = b.length by simp] at h1
     exact h1 (by omega)
  )
theorem zall : ∀ z : Zst, Mine.number_of_.zP1 (z.h 0) (z.n 0) (z.h 1) (z.n 1) := by refine @sk_all _ neZst _ ?_; with_unfolding_all exact zgo
end z1
theorem zgo : zA (zx.w) b (zx.n 0) (zx.c) := zs.2 (by rw [← zp1]; exact fun y0 y1 y2 y3 => z1.zall (zmk zw zk0 [y1, y3] [] [] [] [] [] [y0, y2] [] [] [] [] [] [] [] [] []))
theorem zall : ∀ z : Zst, zA (z.w) (z.lu 0) (z.n 0) (z.c) := by refine @sk_all _ neZst _ ?_; with_unfolding_all exact zgo
end number_of_
theorem number_of (w : World) (b : List UInt8) (t : Tok) (hb : b.length ≤ 65536) : Spec w 111 [.bytes b.toArray t] 6 60 [] (fun v n' => n' = [] ∧ isNum (numOf b) v) False := Spec.cut fun zk => Mine.number_of_.zall (zmk w zk [t] [] [] [] [] [] [] [] [] [b] [] [] [] [] [] []) hb
end sPh
theorem fl24 : True := by first | walk1 | trivial

section sPi

def hdrL (n : Int) : List UInt8 := [(([48, 49, 50, 51, 52, 53, 54, 55, 56, 57, 97, 98, 99, 100, 101, 102] : List UInt8)).getD (n.fdiv 4096).toNat 0, (([48, 49, 50, 51, 52, 53, 54, 55, 56, 57, 97, 98, 99, 100, 101, 102] : List UInt8)).getD ((n.fdiv 256).fmod 16).toNat 0, (([48, 49, 50, 51, 52, 53, 54, 55, 56, 57, 97, 98, 99, 100, 101, 102] : List UInt8)).getD ((n.fdiv 16).fmod 16).toNat 0, (([48, 49, 50, 51, 52, 53, 54, 55, 56, 57, 97, 98, 99, 100, 101, 102] : List UInt8)).getD (n.fmod 16).toNat 0]
def pktL (b : List UInt8) : List UInt8 := hdrL ((b.length : Int) + 4) ++ b
theorem hdr_ints (n : Int) (t1 t2 t3 t4 : Tok) : IntsAre [.int (((([48, 49, 50, 51, 52, 53, 54, 55, 56, 57, 97, 98, 99, 100, 101, 102] : List UInt8)).getD (n.fdiv 4096).toNat 0).toNat : Nat) t1, .int (((([48, 49, 50, 51, 52, 53, 54, 55, 56, 57, 97, 98, 99, 100, 101, 102] : List UInt8)).getD ((n.fdiv 256).fmod 16).toNat 0).toNat : Nat) t2, .int (((([48, 49, 50, 51, 52, 53, 54, 55, 56, 57, 97, 98, 99, 100, 101, 102] : List UInt8)).getD ((n.fdiv 16).fmod 16).toNat 0).toNat : Nat) t3, .int (((([48, 49, 50, 51, 52, 53, 54, 55, 56, 57, 97, 98, 99, 100, 101, 102] : List UInt8)).getD (n.fmod 16).toNat 0).toNat : Nat) t4] ((hdrL n).map fun c : UInt8 => (c.toNat : Int)) := by
  unfold hdrL
  simp only [List.map_cons, List.map_nil]
  exact .cons _ _ (.cons _ _ (.cons _ _ (.cons _ _ .nil)))
theorem bytes_L {prog : Program} {w : World} {A : Around} {E : Value → Shared → Prop} {s : Shared} {h₀ : Heap} {L : Addr} {m : PySem.Str → Option Value} {news : List (Addr × Obj)} {l : Addr} {vs : List Value} (d : List UInt8) {Q : Value → Shared → Prop} (F : Fr h₀ L s.heap m) (N : News h₀ L s.heap news) (hl : s.heap.IsList l vs.toArray) (hi : IntsAre vs (d.map fun c : UInt8 => (c.toNat : Int))) (hz : d.length ≤ sizeLine) (hh : A.handled = none)
    (h : ∀ h' t k, Fr h₀ L h' m → News h₀ L h' news → Q (.bytes d.toArray t) { s with heap := h', toks := k }) : wpAny (model prog w) A (call (.type "bytes") [.ref l]) Q E s := by
  refine bytes_K F N hl hi (fun n hn => ?_) (by rw [hi.length, List.length_map]; exact hz) hh (fun h' t k F' N' _ => ?_)
  · obtain ⟨c, _, rfl⟩ := List.mem_map.mp hn
    have := c.toNat_lt
    omega
  · have e : (d.map fun c : UInt8 => (c.toNat : Int)).map (fun n : Int => n.toNat.toUInt8) = d := by
      rw [List.map_map]
      conv => rhs; rw [← List.map_id d]
      refine List.map_congr_left fun c _ => ?_
      simp
    rw [e]
    exact h h' t k F' N'
namespace pkt0_
def zA (w : World) (t : Tok) (zk : Cal) : Prop := SpecAt w 118 [.int 0 t] 2 20 [] (fun v n' => n' = [] ∧ ∃ t, v = .bytes ([48, 48, 48, 48] : List UInt8).toArray t) False zk
@[irreducible] noncomputable def zx : Zst := sk neZst fun z => zA (z.w) (z.n 0) (z.c)
def zT (P1 : World → Tok → Cal → Heap → Addr → Heap → Nat → Prop) : Prop := ∀ w t zk, (∀ y0 y1 y2 y3, P1 w t zk y0 y1 y2 y3) → zA w t zk
noncomputable def zs : { P : Heap → Addr → Heap → Nat → Prop // (∀ y0 y1 y2 y3, P y0 y1 y2 y3) → zA (zx.w) (zx.n 0) (zx.c) } := by
  refine' ⟨_, (_ : zT _) (zx.w) (zx.n 0) (zx.c)⟩
  rotate_left 1
  · intro w t zk zR1  B F X N T hk hd hu hret hexc
    w_strict (
     walk_at "my enter"
     (revert B F X N T hk hd hu hret hexc FG' F' N' B' X' T' kG'; exact zR1 g' L' h' tk')
    )
@[irreducible] noncomputable def zP1 : Heap → Addr → Heap → Nat → Prop := Mine.pkt0_.zs.1
theorem zp1 : zP1 = Mine.pkt0_.zs.1 := by with_unfolding_all rfl
namespace z1
@[irreducible] noncomputable def zx : Zst := sk neZst fun z => Mine.pkt0_.zP1 (z.h 0) (z.n 0) (z.h 1) (z.n 1)
theorem zgo : Mine.pkt0_.zP1 (zx.h 0) (zx.n 0) (zx.h 1) (zx.n 1) := by
  refine' zcast Mine.pkt0_.zp1 (fun zf => zf (zx.h 0) (zx.n 0) (zx.h 1) (zx.n 1)) ((_ : ∀ g' L' h' tk', Mine.pkt0_.zs.1 g' L' h' tk') (zx.h 0) (zx.n 0) (zx.h 1) (zx.n 1))
  intro g' L' h' tk' B F X N T hk hd hu hret hexc FG' F' N' B' X' T' kG'
  w_strict (
   k_steps
   exact hret _ _ _ [] ⟨rfl, _, rfl⟩ (by assumption) News.nil (kept_of (by assumption) (by assumption) News.nil)
  )
theorem zall : ∀ z : Zst, Mine.pkt0_.zP1 (z.h 0) (z.n 0) (z.h 1) (z.n 1) := by refine @sk_all _ neZst _ ?_; with_unfolding_all exact zgo
end z1
theorem zgo : zA (zx.w) (zx.n 0) (zx.c) := zs.2 (by rw [← zp1]; exact fun y0 y1 y2 y3 => z1.zall (zmk zw zk0 [y1, y3] [] [] [] [] [] [y0, y2] [] [] [] [] [] [] [] [] []))
theorem zall : ∀ z : Zst, zA (z.w) (z.n 0) (z.c) := by refine @sk_all _ neZst _ ?_; with_unfolding_all exact zgo
end pkt0_
theorem pkt0 (w : World) (t : Tok) : Spec w 118 [.int 0 t] 2 20 [] (fun v n' => n' = [] ∧ ∃ t, v = .bytes ([48, 48, 48, 48] : List UInt8).toArray t) False := Spec.cut fun zk => Mine.pkt0_.zall (zmk w zk [t] [] [] [] [] [] [] [] [] [] [] [] [] [] [] []) 
namespace pktB_
def zA (w : World) (b : List UInt8) (t : Tok) (zk : Cal) : Prop := ∀ (hb : b.length ≤ 4000), SpecAt w 118 [.bytes b.toArray t] 2 20 [] (fun v n' => n' = [] ∧ ∃ t, v = .bytes (pktL b).toArray t) False zk
@[irreducible] noncomputable def zx : Zst := sk neZst fun z => zA (z.w) (z.lu 0) (z.n 0) (z.c)
@[irreducible] noncomputable def b : List UInt8 := zx.lu 0
def zT (P1 : World → (List UInt8) → Tok → Cal → Heap → Addr → Heap → Nat → Prop) : Prop := ∀ w b t zk, (∀ y0 y1 y2 y3, P1 w b t zk y0 y1 y2 y3) → zA w b t zk
noncomputable def zs : { P : Heap → Addr → Heap → Nat → Prop // (∀ y0 y1 y2 y3, P y0 y1 y2 y3) → zA (zx.w) b (zx.n 0) (zx.c) } := by
  refine' ⟨_, (_ : zT _) (zx.w) b (zx.n 0) (zx.c)⟩
  rotate_left 1
  · intro w b t zk zR1 hb B F X N T hk hd hu hret hexc
    w_strict (
     walk_at "my enter"
     (revert hb B F X N T hk hd hu hret hexc FG' F' N' B' X' T' kG'; exact zR1 g' L' h' tk')
    )
@[irreducible] noncomputable def zP1 : Heap → Addr → Heap → Nat → Prop := Mine.pktB_.zs.1
theorem zp1 : zP1 = Mine.pktB_.zs.1 := by with_unfolding_all rfl
namespace z1
@[irreducible] noncomputable def zx : Zst := sk neZst fun z => Mine.pktB_.zP1 (z.h 0) (z.n 0) (z.h 1) (z.n 1)
theorem zgo : Mine.pktB_.zP1 (zx.h 0) (zx.n 0) (zx.h 1) (zx.n 1) := by
  refine' zcast Mine.pktB_.zp1 (fun zf => zf (zx.h 0) (zx.n 0) (zx.h 1) (zx.n 1)) ((_ : ∀ g' L' h' tk', Mine.pktB_.zs.1 g' L' h' tk') (zx.h 0) (zx.n 0) (zx.h 1) (zx.n 1))
  intro g' L' h' tk' hb B F X N T hk hd hu hret hexc FG' F' N' B' X' T' kG'
  w_strict (
   k_steps
   unfold Hold
   refine bytes_L (hdrL ((b.length : Int) + 4)) (by k_asm) (by k_asm) (News.isList (by k_asm) (by k_mem)) ?hi (by rw [sizeLine_eq]; show 4 ≤ _; omega) (by rfl) ?_
   case hi =>
     rw [show b.toArray.size = b.length by simp]
     exact hdr_ints _ _ _ _ _
   intro h' t' k' F' N'
   have hh4 : (hdrL ((b.length : Int) + 4)).length = 4 := rfl
   k_steps
   exact hret _ _ _ [] ⟨rfl, _, rfl⟩ (by assumption) News.nil (kept_of (by assumption) (by assumption) News.nil)
  )
theorem zall : ∀ z : Zst, Mine.pktB_.zP1 (z.h 0) (z.n 0) (z.h 1) (z.n 1) := by refine @sk_all _ neZst _ ?_; with_unfolding_all exact zgo
end z1
theorem zgo : zA (zx.w) b (zx.n 0) (zx.c) := zs.2 (by rw [← zp1]; exact fun y0 y1 y2 y3 => z1.zall (zmk zw zk0 [y1, y3] [] [] [] [] [] [y0, y2] [] [] [] [] [] [] [] [] []))
theorem zall : ∀ z : Zst, zA (z.w) (z.lu 0) (z.n 0) (z.c) := by refine @sk_all _ neZst _ ?_; with_unfolding_all exact zgo
end pktB_
theorem pktB (w : World) (b : List UInt8) (t : Tok) (hb : b.length ≤ 4000) : Spec w 118 [.bytes b.toArray t] 2 20 [] (fun v n' => n' = [] ∧ ∃ t, v = .bytes (pktL b).toArray t) False := Spec.cut fun zk => Mine.pktB_.zall (zmk w zk [t] [] [] [] [] [] [] [] [] [b] [] [] [] [] [] []) hb
end sPi
theorem fl25 : True := by first | walk1 | trivial

section sPj

def lineV (h : List UInt8) : Int := h.foldl (fun n c => n * 16 + figV (c.toNat : Int)) 0
theorem lineV_snoc {b : List UInt8} {i : Nat} {c : UInt8} (h : b[i]? = some c) : lineV (b.take (i + 1)) = lineV (b.take i) * 16 + figV (c.toNat : Int) := by
  unfold lineV
  rw [take_succ h, List.foldl_append]; rfl
theorem plainC_out {c : UInt8} (h : plainC c = true) : (48 ≤ (c.toNat : Int) ∧ (c.toNat : Int) ≤ 57) ∨ (97 ≤ (c.toNat : Int) ∧ (c.toNat : Int) ≤ 102) := by
  have := of_decide_eq_true h
  omega
abbrev tup (a b : Value) : Obj := { cls := .type "tuple", data := .seq #[a, b] }
def lineN (o : List UInt8) (k : Nat) : Int := if lineV ((o.drop k).take 4) = 0 then 4 else lineV ((o.drop k).take 4)
def LineIs (o : List UInt8) (k : Nat) (v : Value) : Prop := (lineV ((o.drop k).take 4) = 0 ∧ ∃ t, v = .int 0 t) ∨ (4 ≤ lineV ((o.drop k).take 4) ∧ ∃ t, v = .bytes ((o.drop (k + 4)).take ((lineV ((o.drop k).take 4)).toNat - 4)).toArray t)
local macro_rules | `(tactic| walk_at $s:str) => `(tactic| k_extra $(Lean.Syntax.mkStrLit ("S65." ++ s.getString)))
theorem zm15 : True := by
  (k_with "S65.call ref" => k_extra "R39")
  trivial
namespace wire_line_
def zA (w : World) (o : List UInt8) (k : Nat) (t : Tok) (tk0 : Tok) (zk : Cal) : Prop := ∀ (hb : o.length ≤ 65536), ∀ (h4 : k + 4 ≤ o.length), ∀ (hp : ((o.drop k).take 4).all plainC = true), ∀ (hz : lineV ((o.drop k).take 4) = 0 ∨ (4 ≤ lineV ((o.drop k).take 4) ∧ lineV ((o.drop k).take 4) ≤ 65520 ∧ (k : Int) + lineV ((o.drop k).take 4) ≤ (o.length : Int))), SpecAt w 132 [.bytes o.toArray t, .int (k : Int) tk0] 6 60 [] (fun v n' => ∃ D v1 t2, LineIs o k v1 ∧ n' = [(D, tup v1 (.int (k + lineN o k) t2))] ∧ v = .ref D) False zk
@[irreducible] noncomputable def zx : Zst := sk neZst fun z => zA (z.w) (z.lu 0) (z.n 0) (z.n 1) (z.n 2) (z.c)
@[irreducible] noncomputable def o : List UInt8 := zx.lu 0
@[irreducible] noncomputable def k : Nat := zx.n 0
@[irreducible] noncomputable def zk : Cal := zx.c
def zT (P1 : World → (List UInt8) → Nat → Tok → Tok → Cal → Int → Heap → Addr → Heap → Nat → Prop) : Prop := ∀ w o k t tk0 zk, (∀ y0 y1 y2 y3 y4, P1 w o k t tk0 zk y0 y1 y2 y3 y4) → zA w o k t tk0 zk
noncomputable def zs : { P : Int → Heap → Addr → Heap → Nat → Prop // (∀ y0 y1 y2 y3 y4, P y0 y1 y2 y3 y4) → zA (zx.w) o k (zx.n 1) (zx.n 2) zk } := by
  refine' ⟨_, (_ : zT _) (zx.w) o k (zx.n 1) (zx.n 2) zk⟩
  rotate_left 1
  · intro w o k t tk0 zk zR1 hb h4 hp hz
    w_strict (
     have hs : sliceL o (some (k : Int)) (some ((k : Int) + 4)) = (o.drop k).take 4 := by
       rw [sliceL_mid o k (k + 4) _ _ rfl (by omega), Nat.add_sub_cancel_left]
     have hl4 : ((o.drop k).take 4).length = 4 := by rw [List.length_take, List.length_drop]; omega
     generalize hnn : lineV ((o.drop k).take 4) = nn at hz
     intro B F X N T hk hd hu hret hexc
     walk_at "my enter"
     (revert hb h4 hp hs hl4 hnn hz B F X N T hk hd hu hret hexc FG' F' N' B' X' T' kG'; exact zR1 nn g' L' h' tk')
    )
@[irreducible] noncomputable def zP1 : Int → Heap → Addr → Heap → Nat → Prop := Mine.wire_line_.zs.1
theorem zp1 : zP1 = Mine.wire_line_.zs.1 := by with_unfolding_all rfl
namespace z1
@[irreducible] noncomputable def zx : Zst := sk neZst fun z => Mine.wire_line_.zP1 (z.i 0) (z.h 0) (z.n 0) (z.h 1) (z.n 1)
@[irreducible] noncomputable def nn : Int := zx.i 0
def zT (P1 : Int → Heap → Addr → Heap → Nat → Nat → Heap → Heap → Nat → Nat → Tok → (PySem.Str → Option Value) → Heap → Nat → (List (Addr × Obj)) → UInt8 → Tok → Prop) (P2 : Heap → Addr → Heap → Nat → Int → Nat → Heap → Heap → Nat → Tok → (PySem.Str → Option Value) → Heap → Nat → Prop) : Prop := ∀ nn g' L' h' tk', (∀ y0 y1 y2 y3 y4 y5 y6 y7 y8 y9 y10 y11, P1 nn g' L' h' tk' y0 y1 y2 y3 y4 y5 y6 y7 y8 y9 y10 y11) → (∀ y0 y1 y2 y3 y4 y5 y6 y7 y8, P2 g' L' h' tk' y0 y1 y2 y3 y4 y5 y6 y7 y8) → Mine.wire_line_.zs.1 nn g' L' h' tk'
noncomputable def zs : { P : (Nat → Heap → Heap → Nat → Nat → Tok → (PySem.Str → Option Value) → Heap → Nat → (List (Addr × Obj)) → UInt8 → Tok → Prop) × (Int → Nat → Heap → Heap → Nat → Tok → (PySem.Str → Option Value) → Heap → Nat → Prop) // (∀ y0 y1 y2 y3 y4 y5 y6 y7 y8 y9 y10 y11, P.1 y0 y1 y2 y3 y4 y5 y6 y7 y8 y9 y10 y11) → (∀ y0 y1 y2 y3 y4 y5 y6 y7 y8, P.2 y0 y1 y2 y3 y4 y5 y6 y7 y8) → Mine.wire_line_.zs.1 nn (zx.h 0) (zx.n 0) (zx.h 1) (zx.n 1) } := by
  refine' ⟨(_, _), (_ : zT _ _) nn (zx.h 0) (zx.n 0) (zx.h 1) (zx.n 1)⟩
  rotate_left 2
  · intro nn g' L' h' tk' zR1 zR2 hb h4 hp hs hl4 hnn hz B F X N T hk hd hu hret hexc FG' F' N' B' X' T' kG'
    w_strict (
     k_steps
     unfold Hold
     rename Fr _ _ _ _ => lF
     rename News _ _ _ _ => lN
     refine' loopM (σ := Int × Tok) (Iter.bytes ?hh) (fun _ => []) (fun c => [("length", .int c.1 c.2)]) [] (fun i c => c.1 = lineV (((o.drop k).take 4).take i)) (0, _) lF lN ?hn ?hkeep ?hk ?hp ?turn ?done
     case hh => rfl
     case hn => exact fun _ h => nomatch h
     case hkeep => exact fun _ _ h => nomatch h
     case hk => intro p hp; rw [List.mem_singleton.mp hp]; rfl
     case hp => rfl
     case turn =>
       rintro i v ⟨n, tk2⟩ u h tk own hi ⟨c, tc, hc, rfl⟩ hoff hP F₁ N₁
       clear lF lN
       have hc' : ((o.drop k).take 4)[i]? = some c := by rw [hs] at hc; simpa using hc
       have hpc := List.all_eq_true.mp hp _ (List.mem_of_getElem? hc')
       dsimp only at hP
       subst hP
       (rename_i zi1x1 zi1x2 zi1x3 zi1x4 zi1x5; revert hb h4 hp hs hl4 hnn hz B F X N T hk hd hu hret hexc FG' B' X' T' kG' F' N' hi hc hoff N₁ hc' hpc F₁; exact zR1 zi1x1 zi1x2 zi1x3 zi1x5 i tk2 u h tk own c tc)
     case done =>
       rintro ⟨n, tk2⟩ u h tk hP F₁ N₁
       clear lF lN
       rw [hs] at hP
       rw [show ((o.drop k).take 4).toArray.size = 4 by rw [List.size_toArray]; exact hl4, List.take_take, Nat.min_self, hnn] at hP
       dsimp only at hP
       have hP' := hP.symm
       subst hP'
       dsimp only at F₁
       (rename_i zi1x1 zi1x2 zi1x3 zi1x4 zi1x5; revert hb h4 hp hs hl4 hnn hz B F X N T hk hd hu hret hexc FG' B' X' T' kG' F' N' N₁ hP F₁; exact zR2 nn zi1x1 zi1x2 zi1x3 zi1x5 tk2 u h tk)
    )
@[irreducible] noncomputable def zP1 : Nat → Heap → Heap → Nat → Nat → Tok → (PySem.Str → Option Value) → Heap → Nat → (List (Addr × Obj)) → UInt8 → Tok → Prop := Mine.wire_line_.z1.zs.1.1
theorem zp1 : zP1 = Mine.wire_line_.z1.zs.1.1 := by with_unfolding_all rfl
namespace z1
@[irreducible] noncomputable def zx : Zst := sk neZst fun z => Mine.wire_line_.z1.zP1 (z.n 0) (z.h 0) (z.h 1) (z.n 1) (z.n 2) (z.n 3) (z.m 0) (z.h 2) (z.n 4) (z.ld 0) (z.u 0) (z.n 5)
theorem zgo : Mine.wire_line_.z1.zP1 (zx.n 0) (zx.h 0) (zx.h 1) (zx.n 1) (zx.n 2) (zx.n 3) (zx.m 0) (zx.h 2) (zx.n 4) (zx.ld 0) (zx.u 0) (zx.n 5) := by
  refine' zcast Mine.wire_line_.z1.zp1 (fun zf => zf (zx.n 0) (zx.h 0) (zx.h 1) (zx.n 1) (zx.n 2) (zx.n 3) (zx.m 0) (zx.h 2) (zx.n 4) (zx.ld 0) (zx.u 0) (zx.n 5)) ((_ : ∀ zi1x1 zi1x2 zi1x3 zi1x5 i tk2 u h tk own c tc, Mine.wire_line_.z1.zs.1.1 zi1x1 zi1x2 zi1x3 zi1x5 i tk2 u h tk own c tc) (zx.n 0) (zx.h 0) (zx.h 1) (zx.n 1) (zx.n 2) (zx.n 3) (zx.m 0) (zx.h 2) (zx.n 4) (zx.ld 0) (zx.u 0) (zx.n 5))
  intro zi1x1 zi1x2 zi1x3 zi1x5 i tk2 u h tk own c tc hb h4 hp hs hl4 hnn hz B F X N T hk hd hu hret hexc FG' B' X' T' kG' F' N' hi hc hoff N₁ hc' hpc F₁
  w_strict (
   k_steps
   refine' At.end (?za, ?zb) hoff (by assumption) (by assumption) rfl (fun _ h => nomatch h) (fun p hp => by assumption) ?zk ?zr ?zp
   case zk => intro p hp; rw [List.mem_singleton.mp hp]; rfl
   case zr =>
     intro z h1 h2 h3
     have h4 := h2 _ (List.mem_singleton.mpr rfl)
     simp +zetaDelta [h1, h4, kstB]
   case zp => exact (lineV_snoc hc').symm
  )
theorem zall : ∀ z : Zst, Mine.wire_line_.z1.zP1 (z.n 0) (z.h 0) (z.h 1) (z.n 1) (z.n 2) (z.n 3) (z.m 0) (z.h 2) (z.n 4) (z.ld 0) (z.u 0) (z.n 5) := by refine @sk_all _ neZst _ ?_; with_unfolding_all exact zgo
end z1
@[irreducible] noncomputable def zP2 : Int → Nat → Heap → Heap → Nat → Tok → (PySem.Str → Option Value) → Heap → Nat → Prop := Mine.wire_line_.z1.zs.1.2
theorem zp2 : zP2 = Mine.wire_line_.z1.zs.1.2 := by with_unfolding_all rfl
namespace z2
@[irreducible] noncomputable def zx : Zst := sk neZst fun z => Mine.wire_line_.z1.zP2 (z.i 0) (z.n 0) (z.h 0) (z.h 1) (z.n 1) (z.n 2) (z.m 0) (z.h 2) (z.n 3)
theorem zgo : Mine.wire_line_.z1.zP2 (zx.i 0) (zx.n 0) (zx.h 0) (zx.h 1) (zx.n 1) (zx.n 2) (zx.m 0) (zx.h 2) (zx.n 3) := by
  refine' zcast Mine.wire_line_.z1.zp2 (fun zf => zf (zx.i 0) (zx.n 0) (zx.h 0) (zx.h 1) (zx.n 1) (zx.n 2) (zx.m 0) (zx.h 2) (zx.n 3)) ((_ : ∀ nn zi1x1 zi1x2 zi1x3 zi1x5 tk2 u h tk, Mine.wire_line_.z1.zs.1.2 nn zi1x1 zi1x2 zi1x3 zi1x5 tk2 u h tk) (zx.i 0) (zx.n 0) (zx.h 0) (zx.h 1) (zx.n 1) (zx.n 2) (zx.m 0) (zx.h 2) (zx.n 3))
  intro nn zi1x1 zi1x2 zi1x3 zi1x5 tk2 u h tk hb h4 hp hs hl4 hnn hz B F X N T hk hd hu hret hexc FG' B' X' T' kG' F' N' N₁ hP F₁
  w_strict (
   k_steps
   · obtain rfl : nn = 0 := by omega
     have hln : lineN o k = 4 := by unfold lineN; rw [if_pos hnn]
     (refine' hret _ _ _ _ ?zo102 ?zF102 ?zN102 ?zK102; (case zF102 => assumption); (case zN102 => assumption); (case zK102 => (exact kept_of (by assumption) (by assumption) (by assumption))); exact ⟨_, _, _, .inl ⟨hnn, _, rfl⟩, by rw [hln], rfl⟩)
   · exfalso; omega
   · have hge : 4 ≤ nn := by omega
     have hln : lineN o k = nn := by unfold lineN; rw [hnn, if_neg (by omega)]
     have hsl : sliceL o (some ((k : Int) + 4)) (some ((k : Int) + nn)) = (o.drop (k + 4)).take (nn.toNat - 4) := by
       rw [sliceL_mid o (k + 4) (k + nn.toNat) _ _ (by omega) (by omega)]
       congr 1; omega
     (refine' hret _ _ _ _ ?zo109 ?zF109 ?zN109 ?zK109; (case zF109 => assumption); (case zN109 => assumption); (case zK109 => (exact kept_of (by assumption) (by assumption) (by assumption))); exact ⟨_, _, _, .inr ⟨by rw [hnn]; exact hge, _, by rw [hnn, ← hsl]⟩, by rw [hln], rfl⟩)
  )
theorem zall : ∀ z : Zst, Mine.wire_line_.z1.zP2 (z.i 0) (z.n 0) (z.h 0) (z.h 1) (z.n 1) (z.n 2) (z.m 0) (z.h 2) (z.n 3) := by refine @sk_all _ neZst _ ?_; with_unfolding_all exact zgo
end z2
theorem zgo : Mine.wire_line_.zP1 nn (zx.h 0) (zx.n 0) (zx.h 1) (zx.n 1) := zcast Mine.wire_line_.zp1 (fun zf => zf nn (zx.h 0) (zx.n 0) (zx.h 1) (zx.n 1)) (zs.2 (by rw [← zp1]; exact fun y0 y1 y2 y3 y4 y5 y6 y7 y8 y9 y10 y11 => z1.zall (zmk zw zk0 [y0, y3, y4, y5, y8, y11] [] [] [y10] [] [] [y1, y2, y7] [] [] [] [] [] [] [y9] [] [y6])) (by rw [← zp2]; exact fun y0 y1 y2 y3 y4 y5 y6 y7 y8 => z2.zall (zmk zw zk0 [y1, y4, y5, y8] [y0] [] [] [] [] [y2, y3, y7] [] [] [] [] [] [] [] [] [y6])))
theorem zall : ∀ z : Zst, Mine.wire_line_.zP1 (z.i 0) (z.h 0) (z.n 0) (z.h 1) (z.n 1) := by refine @sk_all _ neZst _ ?_; with_unfolding_all exact zgo
end z1
theorem zgo : zA (zx.w) o k (zx.n 1) (zx.n 2) zk := zs.2 (by rw [← zp1]; exact fun y0 y1 y2 y3 y4 => z1.zall (zmk zw zk0 [y2, y4] [y0] [] [] [] [] [y1, y3] [] [] [] [] [] [] [] [] []))
theorem zall : ∀ z : Zst, zA (z.w) (z.lu 0) (z.n 0) (z.n 1) (z.n 2) (z.c) := by refine @sk_all _ neZst _ ?_; with_unfolding_all exact zgo
end wire_line_
theorem wire_line (w : World) (o : List UInt8) (k : Nat) (t tk0 : Tok) (hb : o.length ≤ 65536) (h4 : k + 4 ≤ o.length) (hp : ((o.drop k).take 4).all plainC = true) (hz : lineV ((o.drop k).take 4) = 0 ∨ (4 ≤ lineV ((o.drop k).take 4) ∧ lineV ((o.drop k).take 4) ≤ 65520 ∧ (k : Int) + lineV ((o.drop k).take 4) ≤ (o.length : Int))) : Spec w 132 [.bytes o.toArray t, .int (k : Int) tk0] 6 60 [] (fun v n' => ∃ D v1 t2, LineIs o k v1 ∧ n' = [(D, tup v1 (.int (k + lineN o k) t2))] ∧ v = .ref D) False := Spec.cut fun zk => Mine.wire_line_.zall (zmk w zk [k, t, tk0] [] [] [] [] [] [] [] [] [o] [] [] [] [] [] []) hb h4 hp hz
end sPj
theorem fl26 : True := by first | walk1 | trivial

section sPk

abbrev Item := Option (List UInt8)
def pk : Item → List UInt8
  | none => [48, 48, 48, 48]
  | some b => pktL b
def enc (l : List Item) : List UInt8 := l.flatMap pk
def ItemIs : Item → Value → Prop
  | none, v => ∃ t, v = .int 0 t
  | some b, v => ∃ t, v = .bytes b.toArray t
theorem fig_all : ∀ d : Nat, d < 16 → figV (((([48, 49, 50, 51, 52, 53, 54, 55, 56, 57, 97, 98, 99, 100, 101, 102] : List UInt8)).getD d 0).toNat : Int) = (d : Int) ∧ plainC ((([48, 49, 50, 51, 52, 53, 54, 55, 56, 57, 97, 98, 99, 100, 101, 102] : List UInt8)).getD d 0) = true := by decide +kernel
theorem hdr_all (n : Nat) (hn : n < 4005) : lineV (hdrL (n : Int)) = (n : Int) ∧ (hdrL (n : Int)).all plainC = true := by
  have e1 : ((n : Int).fdiv 4096).toNat = n / 4096 := by rw [Int.fdiv_eq_ediv_of_nonneg _ (by decide)]; rfl
  have e2 : (((n : Int).fdiv 256).fmod 16).toNat = n / 256 % 16 := by rw [Int.fdiv_eq_ediv_of_nonneg _ (by decide), Int.fmod_eq_emod_of_nonneg _ (by decide)]; rfl
  have e3 : (((n : Int).fdiv 16).fmod 16).toNat = n / 16 % 16 := by rw [Int.fdiv_eq_ediv_of_nonneg _ (by decide), Int.fmod_eq_emod_of_nonneg _ (by decide)]; rfl
  have e4 : ((n : Int).fmod 16).toNat = n % 16 := by rw [Int.fmod_eq_emod_of_nonneg _ (by decide)]; rfl
  have f1 := fig_all (n / 4096) (by omega)
  have f2 := fig_all (n / 256 % 16) (by omega)
  have f3 := fig_all (n / 16 % 16) (by omega)
  have f4 := fig_all (n % 16) (by omega)
  unfold hdrL lineV
  rw [e1, e2, e3, e4]
  refine ⟨?_, ?_⟩
  · rw [List.foldl_cons, List.foldl_cons, List.foldl_cons, List.foldl_cons, List.foldl_nil, f1.1, f2.1, f3.1, f4.1]
    omega
  · rw [List.all_cons, List.all_cons, List.all_cons, List.all_cons, List.all_nil, f1.2, f2.2, f3.2, f4.2]; rfl
theorem hdrL_length (n : Int) : (hdrL n).length = 4 := rfl
theorem at_head {o pre h post : List UInt8} {k : Nat} (hk : k = pre.length) (e : o = pre ++ (h ++ post)) (h4 : h.length = 4) : (o.drop k).take 4 = h := by
  subst hk e
  rw [List.drop_left, ← h4, List.take_left]
theorem row_at {o pre post b : List UInt8} {k : Nat} (hk : k = pre.length) (e : o = pre ++ (pktL b ++ post)) (hb : b.length ≤ 4000) :
    k + 4 ≤ o.length ∧ ((o.drop k).take 4).all plainC = true ∧ lineV ((o.drop k).take 4) = ((b.length + 4 : Nat) : Int) ∧ k + (b.length + 4) ≤ o.length ∧ (o.drop (k + 4)).take b.length = b := by
  have e2 : o = pre ++ (hdrL ((b.length : Int) + 4) ++ (b ++ post)) := by rw [e]; simp only [pktL, List.append_assoc]
  have hh := hdr_all (b.length + 4) (by omega)
  have hc : ((b.length + 4 : Nat) : Int) = (b.length : Int) + 4 := by omega
  rw [hc] at hh
  have hl := congrArg List.length e2
  simp only [List.length_append, hdrL_length] at hl
  rw [at_head hk e2 rfl]
  refine ⟨by omega, hh.2, by rw [hh.1, hc], by omega, ?_⟩
  have e3 : o = (pre ++ hdrL ((b.length : Int) + 4)) ++ (b ++ post) := by rw [e2]; simp only [List.append_assoc]
  rw [e3, hk, show pre.length + 4 = (pre ++ hdrL ((b.length : Int) + 4)).length by rw [List.length_append, hdrL_length], List.drop_left, List.take_left]
theorem flush_at {o pre post : List UInt8} {k : Nat} (hk : k = pre.length) (e : o = pre ++ ([48, 48, 48, 48] ++ post)) :
    k + 4 ≤ o.length ∧ ((o.drop k).take 4).all plainC = true ∧ lineV ((o.drop k).take 4) = 0 := by
  have hl := congrArg List.length e
  simp only [List.length_append, List.length_cons, List.length_nil] at hl
  rw [at_head hk e rfl]
  exact ⟨by omega, by decide +kernel, by decide +kernel⟩
theorem Spec.mono {w : World} {f : Addr} {vs : List Value} {dn un : Nat} {mine : List (Addr × Obj)} {ok ok' : Value → List (Addr × Obj) → Prop} {bad bad' : Prop} (C : Spec w f vs dn un mine ok bad) (h : ∀ v n, ok v n → ok' v n) (hb : bad → bad') : Spec w f vs dn un mine ok' bad' := by
  unfold Spec at C ⊢
  intro dp ut gd cn cs a ccd cl outer A₀ base h₀ L m mg mb mean s Q E hB hF hX hN hT hk hd hu hret hexc
  exact C dp ut gd cn cs a ccd cl outer A₀ base h₀ L m mg mb mean s Q E hB hF hX hN hT hk hd hu (fun v h' tk' n' hok F' N' K' => hret v h' tk' n' (h _ _ hok) F' N' K') (fun hbad => hexc (hb hbad))
theorem line_row (w : World) (o pre post b : List UInt8) (k : Nat) (t tk0 : Tok) (ho : o.length ≤ 65536) (hk : k = pre.length) (e : o = pre ++ (pktL b ++ post)) (hb : b.length ≤ 4000) :
    Spec w 132 [.bytes o.toArray t, .int (k : Int) tk0] 6 60 [] (fun v n' => ∃ D t1 t2, n' = [(D, tup (.bytes b.toArray t1) (.int ((k + (b.length + 4) : Nat) : Int) t2))] ∧ v = .ref D) False := by
  obtain ⟨h4, hp, hz, hl, hd⟩ := row_at hk e hb
  refine (wire_line w o k t tk0 ho h4 hp (.inr (by rw [hz]; omega))).mono ?_ id
  rintro v n' ⟨D, v1, t2, h1, e1, e2⟩
  have hn : lineN o k = ((b.length + 4 : Nat) : Int) := by unfold lineN; rw [hz, if_neg (by omega)]
  rcases h1 with ⟨h0, _⟩ | ⟨_, t1, h1⟩
  · rw [hz] at h0; omega
  · refine ⟨D, t1, t2, ?_, e2⟩
    rw [hz, Int.toNat_natCast, Nat.add_sub_cancel, hd] at h1
    have hq : (k : Int) + ((b.length + 4 : Nat) : Int) = ((k + (b.length + 4) : Nat) : Int) := by omega
    rw [e1, h1, hn, hq]
theorem line_flush (w : World) (o pre post : List UInt8) (k : Nat) (t tk0 : Tok) (ho : o.length ≤ 65536) (hk : k = pre.length) (e : o = pre ++ ([48, 48, 48, 48] ++ post)) :
    Spec w 132 [.bytes o.toArray t, .int (k : Int) tk0] 6 60 [] (fun v n' => ∃ D t1 t2, n' = [(D, tup (.int 0 t1) (.int ((k + 4 : Nat) : Int) t2))] ∧ v = .ref D) False := by
  obtain ⟨h4, hp, hz⟩ := flush_at hk e
  refine (wire_line w o k t tk0 ho h4 hp (.inl hz)).mono ?_ id
  rintro v n' ⟨D, v1, t2, h1, e1, e2⟩
  have hn : lineN o k = 4 := by unfold lineN; rw [hz, if_pos rfl]
  rcases h1 with ⟨_, t1, h1⟩ | ⟨h0, _⟩
  · refine ⟨D, t1, t2, ?_, e2⟩
    have hq : (k : Int) + 4 = ((k + 4 : Nat) : Int) := by omega
    rw [e1, h1, hn, hq]
  · rw [hz] at h0; omega
end sPk
theorem fl27 : True := by first | walk1 | trivial

local macro_rules | `(tactic| walk_at $s:str) => `(tactic| k_extra $(Lean.Syntax.mkStrLit ("S71." ++ s.getString)))
theorem zm16 : True := by
  (k_with "S71.compareOp Eq bytes int" => k_extra "R40")
  (k_with "S71.compareOp NotEq bytes int" => k_extra "R41")
  trivial
theorem News.sub_J {h₀ h : Heap} {L : Addr} {a b : List (Addr × Obj)} (N : News h₀ L h b) (s : ∀ p ∈ a, p ∈ b) : News h₀ L h a := fun p hp => N p (s p hp)
theorem sub_nil_J {b : List (Addr × Obj)} : ∀ p ∈ ([] : List (Addr × Obj)), p ∈ b := fun _ h => nomatch h
theorem sub_cons_J {a b : List (Addr × Obj)} {p : Addr × Obj} (h : p ∈ b) (s : ∀ p ∈ a, p ∈ b) : ∀ q ∈ p :: a, q ∈ b := fun q hq => (List.mem_cons.mp hq).elim (fun e => e ▸ h) (s q)
theorem zm17 : True := by
  (k_with "S71.sub here" => k_extra "R42")
  trivial
section sPl

theorem WhlIf.split {b : Bool} {T F : Prop} (t : b = true → T) (f : b = false → F) : WhlIf b T F := by
  cases b with
  | true => exact WhlIf.yes rfl (t rfl)
  | false => exact WhlIf.no rfl (f rfl)
theorem ne_of_news {h₀ h : Heap} {L : Addr} {l : List (Addr × Obj)} {a b : Addr} {o p : Obj} (N : News h₀ L h l) (h1 : (a, o) ∈ l) (h2 : (b, p) ∈ l) (hne : o.cls ≠ p.cls) : a ≠ b := by
  rintro rfl
  have e := (N _ h1).1.symm.trans (N _ h2).1
  exact hne (congrArg Obj.cls (Option.some.inj e))
def enc' (l : List (List UInt8)) : List UInt8 := l.flatMap pktL
theorem enc'_long (l : List (List UInt8)) : l.length ≤ (enc' l).length := by
  induction l with
  | nil => exact Nat.le_refl _
  | cons b r ih =>
    show r.length + 1 ≤ (pktL b ++ enc' r).length
    rw [List.length_append, pktL, List.length_append, hdrL_length]
    omega
structure RS where
  us : List Value
  nn : Nat
  i : Nat
  t : Tok
inductive RowsAre : List Value → List (List UInt8) → Prop
  | nil : RowsAre [] []
  | cons (b : List UInt8) (t : Tok) {us bs} : RowsAre us bs → RowsAre (.bytes b.toArray t :: us) (b :: bs)
theorem RowsAre.snoc {us : List Value} {bs : List (List UInt8)} (h : RowsAre us bs) (b : List UInt8) (t : Tok) : RowsAre (us ++ [.bytes b.toArray t]) (bs ++ [b]) := by
  induction h with
  | nil => exact .cons b t .nil
  | cons c u _ ih => exact .cons c u ih
theorem RowsAre.length {us : List Value} {bs : List (List UInt8)} (h : RowsAre us bs) : us.length = bs.length := by
  induction h with
  | nil => rfl
  | cons c u _ ih => simp only [List.length_cons, ih]
theorem take_cons {α : Type} {l : List α} {i : Nat} {b : α} (h : l[i]? = some b) : l.take i ++ b :: l.drop (i + 1) = l := by
  obtain ⟨hi, rfl⟩ := List.getElem?_eq_some_iff.mp h
  rw [← List.drop_eq_getElem_cons hi, List.take_append_drop]
theorem enc'_split {ups : List (List UInt8)} {i : Nat} {b : List UInt8} (h : ups[i]? = some b) (r : List UInt8) : enc' ups ++ r = enc' (ups.take i) ++ (pktL b ++ (enc' (ups.drop (i + 1)) ++ r)) := by
  conv => lhs; rw [← take_cons h]
  simp only [enc', List.flatMap_append, List.flatMap_cons, List.append_assoc]
theorem enc'_snoc {ups : List (List UInt8)} {i : Nat} {b : List UInt8} (h : ups[i]? = some b) : (enc' (ups.take (i + 1))).length = (enc' (ups.take i)).length + (b.length + 4) := by
  rw [take_succ h]
  simp only [enc', List.flatMap_append, List.flatMap_cons, List.flatMap_nil, List.append_nil, List.length_append, pktL, hdrL_length]
  omega
local macro_rules | `(tactic| walk_at $s:str) => `(tactic| k_extra $(Lean.Syntax.mkStrLit ("S72." ++ s.getString)))
theorem zm18 : True := by
  (k_with "S72.WhlPost" => k_extra "R43")
  (k_with "S72.WhlIf" => k_extra "R44")
  (k_with "S72.exec While" => k_extra "R3")
  (k_with "S72.exec While Compare" => k_extra "R3")
  (k_with "S72.exec While BoolOp" => k_extra "R3")
  (k_with "S72.call ref" => k_extra "R45")
  (k_with "S72.call ref" => k_extra "R46")
  trivial
namespace read_pkts1_
def zA (w : World) (ups : List (List UInt8)) (more : List UInt8) (t : Tok) (zk : Cal) : Prop := ∀ (ho : (enc' ups ++ ([48, 48, 48, 48] ++ more)).length ≤ 65536), ∀ (hb : ∀ b ∈ ups, b.length ≤ 4000), SpecAt w 140 [.bytes (enc' ups ++ ([48, 48, 48, 48] ++ more)).toArray t] 12 100 [] (fun v n' => ∃ D T us nn tz t2, T ≠ D ∧ RowsAre us ups ∧ n' = [(T, tup (.ref D) (.int (((enc' ups).length + 4 : Nat) : Int) t2)), (D, listOf (us.concat (Value.int 0 tz)).toArray nn)] ∧ v = .ref T) False zk
@[irreducible] noncomputable def zx : Zst := sk neZst fun z => zA (z.w) (z.ll 0) (z.lu 0) (z.n 0) (z.c)
@[irreducible] noncomputable def ups : List (List UInt8) := zx.ll 0
def zT (P1 : World → (List (List UInt8)) → (List UInt8) → Tok → Cal → (List UInt8) → Heap → Addr → Heap → Nat → Prop) : Prop := ∀ w ups more t zk, (∀ y0 y1 y2 y3 y4, P1 w ups more t zk y0 y1 y2 y3 y4) → zA w ups more t zk
noncomputable def zs : { P : (List UInt8) → Heap → Addr → Heap → Nat → Prop // (∀ y0 y1 y2 y3 y4, P y0 y1 y2 y3 y4) → zA (zx.w) ups (zx.lu 0) (zx.n 0) (zx.c) } := by
  refine' ⟨_, (_ : zT _) (zx.w) ups (zx.lu 0) (zx.n 0) (zx.c)⟩
  rotate_left 1
  · intro w ups more t zk zR1 ho hb
    w_strict (
     generalize hoe : enc' ups ++ ([48, 48, 48, 48] ++ more) = o at ho
     intro B F X N T hk hd hu hret hexc
     walk_at "my enter"
     (revert hb hoe ho B F X N T hk hd hu hret hexc FG' F' N' B' X' T' kG'; exact zR1 o g' L' h' tk')
    )
@[irreducible] noncomputable def zP1 : (List UInt8) → Heap → Addr → Heap → Nat → Prop := Mine.read_pkts1_.zs.1
theorem zp1 : zP1 = Mine.read_pkts1_.zs.1 := by with_unfolding_all rfl
namespace z1
@[irreducible] noncomputable def zx : Zst := sk neZst fun z => Mine.read_pkts1_.zP1 (z.lu 0) (z.h 0) (z.n 0) (z.h 1) (z.n 1)
theorem zgo : Mine.read_pkts1_.zP1 (zx.lu 0) (zx.h 0) (zx.n 0) (zx.h 1) (zx.n 1) := by
  refine' zcast Mine.read_pkts1_.zp1 (fun zf => zf (zx.lu 0) (zx.h 0) (zx.n 0) (zx.h 1) (zx.n 1)) ((_ : ∀ o g' L' h' tk', Mine.read_pkts1_.zs.1 o g' L' h' tk') (zx.lu 0) (zx.h 0) (zx.n 0) (zx.h 1) (zx.n 1))
  intro o g' L' h' tk' hb hoe ho B F X N T hk hd hu hret hexc FG' F' N' B' X' T' kG'
  w_strict (
   k_steps
   unfold Hold
   rename Fr _ _ _ _ => lF
   rename News _ _ _ _ => lN
   obtain ⟨D, rfl⟩ := name1 lN
   refine' whileM (σ := RS) (fun c => [(D, listOf c.us.toArray c.nn)]) (fun c => [("at", .int (((enc' (ups.take c.i)).length : Nat) : Int) c.t)]) ["item"] (fun n c => n = ups.length - c.i ∧ c.i ≤ ups.length ∧ RowsAre c.us (ups.take c.i)) ups.length ⟨[], 0, 0, _⟩ lF lN ?hn ?hkk ?hp ?turn
   case hn => exact fun _ h => h
   case hkk => intro p hp; rw [List.mem_singleton.mp hp]; rfl
   case hp => exact ⟨rfl, Nat.zero_le _, .nil⟩
   case turn =>
     rintro n ⟨us, nn, i, tk2⟩ u h tk ⟨hn, hi, hR⟩ F₁ N₁ next
     clear lF lN
     dsimp only at hn hi hR F₁ N₁
     obtain ⟨k, hkk⟩ : ∃ k, k = (enc' (ups.take i)).length := ⟨_, rfl⟩
     rw [← hkk] at F₁
     have hul : us.length ≤ 65536 := by
       have h1 := hR.length
       rw [List.length_take] at h1
       have h2 := enc'_long ups
       have h3 := congrArg List.length hoe
       rw [List.length_append] at h3
       omega
     rcases Nat.lt_or_ge i ups.length with hlt | hge
     · obtain ⟨b, hbi⟩ : ∃ b, ups[i]? = some b := ⟨_, List.getElem?_eq_getElem hlt⟩
       have hb4 := hb b (List.mem_of_getElem? hbi)
       have he := hoe.symm.trans (enc'_split hbi _)
       have hlen : k + (b.length + 4) ≤ o.length := (row_at hkk he hb4).2.2.2.1
       k_steps
       unfold Hold
       refine next (n - 1) ⟨_, _, i + 1, _⟩ _ _ _ _ ?zl ?zp (by assumption) (by assumption) (fun p hp => by rw [List.mem_singleton.mp hp]; exact List.mem_cons_of_mem _ List.mem_cons_self) (fun p hp => by rw [List.mem_singleton.mp hp]; dsimp only; rw [enc'_snoc hbi, ← hkk]; rfl) ?zo
       case zo =>
         intro z h2 h3
         have h4 := h2 _ (List.mem_singleton.mpr rfl)
         simp only [List.contains_cons, List.contains_nil, Bool.or_false, beq_eq_false_iff_ne, ne_eq] at h3
         simp +zetaDelta [h3, h4, kstB]
       case zl => omega
       case zp =>
         refine ⟨by dsimp only; omega, by dsimp only; omega, ?_⟩
         dsimp only
         rw [List.concat_eq_append, take_succ hbi]
         exact hR.snoc b _
     · obtain rfl : i = ups.length := Nat.le_antisymm hi hge
       rw [List.take_length] at hkk hR
       have he := hoe.symm
       have hlen : k + 4 ≤ o.length := (flush_at hkk he).1
       k_steps
       subst hkk
       rename News _ _ _ (_ :: _ :: _ :: _) => NN
       have hTD := ne_of_news NN List.mem_cons_self (List.mem_cons_of_mem _ (List.mem_cons_of_mem _ List.mem_cons_self)) (by intro h; injection h with h; exact absurd h (by decide))
       (refine' hret _ _ _ _ ⟨_, _, _, _, _, _, hTD, hR, rfl, rfl⟩ ?zF123 ?zN123 ?zK123; (case zF123 => assumption); (case zN123 => (refine News.sub_J (by assumption) ?_; walk_at "sub here")); (case zK123 => exact kept_of (by assumption) (by assumption) (News.sub_J (by assumption) (by walk_at "sub here"))))
  )
theorem zall : ∀ z : Zst, Mine.read_pkts1_.zP1 (z.lu 0) (z.h 0) (z.n 0) (z.h 1) (z.n 1) := by refine @sk_all _ neZst _ ?_; with_unfolding_all exact zgo
end z1
theorem zgo : zA (zx.w) ups (zx.lu 0) (zx.n 0) (zx.c) := zs.2 (by rw [← zp1]; exact fun y0 y1 y2 y3 y4 => z1.zall (zmk zw zk0 [y2, y4] [] [] [] [] [] [y1, y3] [] [] [y0] [] [] [] [] [] []))
theorem zall : ∀ z : Zst, zA (z.w) (z.ll 0) (z.lu 0) (z.n 0) (z.c) := by refine @sk_all _ neZst _ ?_; with_unfolding_all exact zgo
end read_pkts1_
theorem read_pkts1 (w : World) (ups : List (List UInt8)) (more : List UInt8) (t : Tok) (ho : (enc' ups ++ ([48, 48, 48, 48] ++ more)).length ≤ 65536) (hb : ∀ b ∈ ups, b.length ≤ 4000) :
    Spec w 140 [.bytes (enc' ups ++ ([48, 48, 48, 48] ++ more)).toArray t] 12 100 [] (fun v n' => ∃ D T us nn tz t2, T ≠ D ∧ RowsAre us ups ∧ n' = [(T, tup (.ref D) (.int (((enc' ups).length + 4 : Nat) : Int) t2)), (D, listOf (us.concat (Value.int 0 tz)).toArray nn)] ∧ v = .ref T) False := Spec.cut fun zk => Mine.read_pkts1_.zall (zmk w zk [t] [] [] [] [] [] [] [] [] [more] [ups] [] [] [] [] []) ho hb
namespace read_pkts0_
def zA (w : World) (ups : List (List UInt8)) (t : Tok) (zk : Cal) : Prop := ∀ (ho : (enc' ups).length ≤ 65536), ∀ (hb : ∀ b ∈ ups, b.length ≤ 4000), SpecAt w 140 [.bytes (enc' ups).toArray t] 12 100 [] (fun v n' => ∃ D T us nn t2, T ≠ D ∧ RowsAre us ups ∧ n' = [(T, tup (.ref D) (.int (((enc' ups).length : Nat) : Int) t2)), (D, listOf us.toArray nn)] ∧ v = .ref T) False zk
@[irreducible] noncomputable def zx : Zst := sk neZst fun z => zA (z.w) (z.ll 0) (z.n 0) (z.c)
@[irreducible] noncomputable def ups : List (List UInt8) := zx.ll 0
def zT (P1 : World → (List (List UInt8)) → Tok → Cal → (List UInt8) → Heap → Addr → Heap → Nat → Prop) : Prop := ∀ w ups t zk, (∀ y0 y1 y2 y3 y4, P1 w ups t zk y0 y1 y2 y3 y4) → zA w ups t zk
noncomputable def zs : { P : (List UInt8) → Heap → Addr → Heap → Nat → Prop // (∀ y0 y1 y2 y3 y4, P y0 y1 y2 y3 y4) → zA (zx.w) ups (zx.n 0) (zx.c) } := by
  refine' ⟨_, (_ : zT _) (zx.w) ups (zx.n 0) (zx.c)⟩
  rotate_left 1
  · intro w ups t zk zR1 ho hb
    w_strict (
     generalize hoe : enc' ups = o at ho
     intro B F X N T hk hd hu hret hexc
     walk_at "my enter"
     (revert hb hoe ho B F X N T hk hd hu hret hexc FG' F' N' B' X' T' kG'; exact zR1 o g' L' h' tk')
    )
@[irreducible] noncomputable def zP1 : (List UInt8) → Heap → Addr → Heap → Nat → Prop := Mine.read_pkts0_.zs.1
theorem zp1 : zP1 = Mine.read_pkts0_.zs.1 := by with_unfolding_all rfl
namespace z1
@[irreducible] noncomputable def zx : Zst := sk neZst fun z => Mine.read_pkts0_.zP1 (z.lu 0) (z.h 0) (z.n 0) (z.h 1) (z.n 1)
theorem zgo : Mine.read_pkts0_.zP1 (zx.lu 0) (zx.h 0) (zx.n 0) (zx.h 1) (zx.n 1) := by
  refine' zcast Mine.read_pkts0_.zp1 (fun zf => zf (zx.lu 0) (zx.h 0) (zx.n 0) (zx.h 1) (zx.n 1)) ((_ : ∀ o g' L' h' tk', Mine.read_pkts0_.zs.1 o g' L' h' tk') (zx.lu 0) (zx.h 0) (zx.n 0) (zx.h 1) (zx.n 1))
  intro o g' L' h' tk' hb hoe ho B F X N T hk hd hu hret hexc FG' F' N' B' X' T' kG'
  w_strict (
   k_steps
   unfold Hold
   rename Fr _ _ _ _ => lF
   rename News _ _ _ _ => lN
   obtain ⟨D, rfl⟩ := name1 lN
   refine' whileM (σ := RS) (fun c => [(D, listOf c.us.toArray c.nn)]) (fun c => [("at", .int (((enc' (ups.take c.i)).length : Nat) : Int) c.t)]) ["item"] (fun n c => n = ups.length - c.i ∧ c.i ≤ ups.length ∧ RowsAre c.us (ups.take c.i)) ups.length ⟨[], 0, 0, _⟩ lF lN ?hn ?hkk ?hp ?turn
   case hn => exact fun _ h => h
   case hkk => intro p hp; rw [List.mem_singleton.mp hp]; rfl
   case hp => exact ⟨rfl, Nat.zero_le _, .nil⟩
   case turn =>
     rintro n ⟨us, nn, i, tk2⟩ u h tk ⟨hn, hi, hR⟩ F₁ N₁ next
     clear lF lN
     dsimp only at hn hi hR F₁ N₁
     obtain ⟨k, hkk⟩ : ∃ k, k = (enc' (ups.take i)).length := ⟨_, rfl⟩
     rw [← hkk] at F₁
     have hul : us.length ≤ 65536 := by
       have h1 := hR.length
       rw [List.length_take] at h1
       have h2 := enc'_long ups
       have h3 := congrArg List.length hoe
       omega
     rcases Nat.lt_or_ge i ups.length with hlt | hge
     · obtain ⟨b, hbi⟩ : ∃ b, ups[i]? = some b := ⟨_, List.getElem?_eq_getElem hlt⟩
       have hb4 := hb b (List.mem_of_getElem? hbi)
       have he := hoe.symm.trans ((List.append_nil _).symm.trans (enc'_split hbi []))
       have hlen : k + (b.length + 4) ≤ o.length := (row_at hkk he hb4).2.2.2.1
       k_steps
       unfold Hold
       refine next (n - 1) ⟨_, _, i + 1, _⟩ _ _ _ _ ?zl ?zp (by assumption) (by assumption) (fun p hp => by rw [List.mem_singleton.mp hp]; exact List.mem_cons_of_mem _ List.mem_cons_self) (fun p hp => by rw [List.mem_singleton.mp hp]; dsimp only; rw [enc'_snoc hbi, ← hkk]; rfl) ?zo
       case zo =>
         intro z h2 h3
         have h4 := h2 _ (List.mem_singleton.mpr rfl)
         simp only [List.contains_cons, List.contains_nil, Bool.or_false, beq_eq_false_iff_ne, ne_eq] at h3
         simp +zetaDelta [h3, h4, kstB]
       case zl => omega
       case zp =>
         refine ⟨by dsimp only; omega, by dsimp only; omega, ?_⟩
         dsimp only
         rw [List.concat_eq_append, take_succ hbi]
         exact hR.snoc b _
     · obtain rfl : i = ups.length := Nat.le_antisymm hi hge
       rw [List.take_length] at hkk hR
       have hlen : k = o.length := by rw [← hoe]; exact hkk
       k_steps
       subst hlen
       rename News _ _ _ (_ :: _ :: _) => NN
       have hTD := ne_of_news NN List.mem_cons_self (List.mem_cons_of_mem _ List.mem_cons_self) (by intro h; injection h with h; exact absurd h (by decide))
       (refine' hret _ _ _ _ ⟨_, _, _, _, _, hTD, hR, rfl, rfl⟩ ?zF202 ?zN202 ?zK202; (case zF202 => assumption); (case zN202 => (refine News.sub_J (by assumption) ?_; walk_at "sub here")); (case zK202 => exact kept_of (by assumption) (by assumption) (News.sub_J (by assumption) (by walk_at "sub here"))))
  )
theorem zall : ∀ z : Zst, Mine.read_pkts0_.zP1 (z.lu 0) (z.h 0) (z.n 0) (z.h 1) (z.n 1) := by refine @sk_all _ neZst _ ?_; with_unfolding_all exact zgo
end z1
theorem zgo : zA (zx.w) ups (zx.n 0) (zx.c) := zs.2 (by rw [← zp1]; exact fun y0 y1 y2 y3 y4 => z1.zall (zmk zw zk0 [y2, y4] [] [] [] [] [] [y1, y3] [] [] [y0] [] [] [] [] [] []))
theorem zall : ∀ z : Zst, zA (z.w) (z.ll 0) (z.n 0) (z.c) := by refine @sk_all _ neZst _ ?_; with_unfolding_all exact zgo
end read_pkts0_
theorem read_pkts0 (w : World) (ups : List (List UInt8)) (t : Tok) (ho : (enc' ups).length ≤ 65536) (hb : ∀ b ∈ ups, b.length ≤ 4000) :
    Spec w 140 [.bytes (enc' ups).toArray t] 12 100 [] (fun v n' => ∃ D T us nn t2, T ≠ D ∧ RowsAre us ups ∧ n' = [(T, tup (.ref D) (.int (((enc' ups).length : Nat) : Int) t2)), (D, listOf us.toArray nn)] ∧ v = .ref T) False := Spec.cut fun zk => Mine.read_pkts0_.zall (zmk w zk [t] [] [] [] [] [] [] [] [] [] [ups] [] [] [] [] []) ho hb
end sPl
theorem fl28 : True := by first | walk1 | trivial

local macro_rules | `(tactic| walk_at $s:str) => `(tactic| k_extra $(Lean.Syntax.mkStrLit ("S77." ++ s.getString)))
theorem zm19 : True := by
  (k_with "S77.my code" => k_extra "R47")
  (k_with "S77.call ref" => k_extra "R48")
  (k_with "S77.WhlPost" => k_extra "R43")
  (k_with "S77.WhlIf" => k_extra "R44")
  (k_with "S77.exec While" => k_extra "R3")
  (k_with "S77.exec While Compare" => k_extra "R3")
  (k_with "S77.exec While BoolOp" => k_extra "R3")
  trivial
local macro_rules | `(tactic| k_ne) => `(tactic| k_extra "R49")
theorem zm20 : True := by
  (k_with "S77.getMethod bytes" => k_extra "R50")
  (k_with "S77.call builtin:bytes.find" => k_extra "R51")
  trivial
section sPm

abbrev ent (w : World) (n : PySem.Str) (t : Tok) (v : Value) : DictEntry := { hash := PyData.keyHash w.params n, key := .str n t, val := v }
abbrev frD (w : World) (lw lo ls lt : Addr) (t1 t2 t3 t4 t5 t6 t7 : Tok) (n : Nat) (dv sv : Value) (done : Bool) : Obj :=
  dictOf [ent w "wants" t1 (.ref lw), ent w "words" t2 (.ref lo), ent w "shallow" t3 (.ref ls), ent w "depth" t4 dv, ent w "since" t5 sv, ent w "talk" t6 (.ref lt), ent w "is_done" t7 (.bool done)] n
local macro_rules | `(tactic| walk_at $s:str) => `(tactic| k_extra $(Lean.Syntax.mkStrLit ("S78." ++ s.getString)))
theorem zm21 : True := by
  (k_with "S78.getMethod bytes" => k_extra "R50")
  trivial
theorem eq_known {prog : Program} {w : World} {A : Around} {E : Value → Shared → Prop} {s : Shared} {b c : List UInt8} {v : Bool} {t u : Tok} {Q : Value → Shared → Prop} (h : (b == c) = v) (q : Q (.bool v) s) : wpAny (model prog w) A (compareOp .Eq (.bytes b.toArray t) (.bytes c.toArray u)) Q E s := by
  refine eq_bytes ?_
  rw [show (b.toArray.toList == c.toArray.toList) = v from h]
  exact q
theorem zm22 : True := by
  (k_with "S78.compareOp Eq bytes bytes" => k_extra "R52")
  (k_with "S78.call ref" => k_extra "R53")
  (k_with "S78.call ref" => k_extra "R54")
  trivial
namespace take_shallow_
def zA (w : World) (x : Addr) (d : Addr) (lw : Addr) (lo : Addr) (ls : Addr) (lt : Addr) (t1 : Tok) (t2 : Tok) (t3 : Tok) (t4 : Tok) (t5 : Tok) (t6 : Tok) (t7 : Tok) (n : Nat) (nw : Nat) (no : Nat) (ns : Nat) (dv : Value) (sv : Value) (done : Bool) (uw : List Value) (uo : List Value) (us : List Value) (row : List UInt8) (b : List UInt8) (t : Tok) (k : Nat) (tn : Tok) (zk : Cal) : Prop := ∀ (hrow : row = [115, 104, 97, 108, 108, 111, 119, 32] ++ b), ∀ (hb : b.length ≤ 4000), ∀ (hk9 : k ≤ 4), ∀ (hus : us.length ≤ 1000), ∀ (hsd : [x, d, lw, lo, ls].Nodup), SpecAt w 192 [.ref x, .bytes row.toArray t, .int (k : Int) tn] 20 200 [(x, instObj 205 d), (d, frD w lw lo ls lt t1 t2 t3 t4 t5 t6 t7 n dv sv done), (lw, listOf uw.toArray nw), (lo, listOf uo.toArray no), (ls, listOf us.toArray ns)]
   (fun v n' => isPlain b (2 * k) = true ∧ v = .none ∧ ∃ tv, n' = [(x, instObj 205 d), (d, frD w lw lo ls lt t1 t2 t3 t4 t5 t6 t7 n dv sv done), (lw, listOf uw.toArray nw), (lo, listOf uo.toArray no), (ls, listOf (us.concat (.bytes (unhex b).toArray tv)).toArray (ns + 1))]) (isPlain b (2 * k) = false) zk
@[irreducible] noncomputable def zx : Zst := sk neZst fun z => zA (z.w) (z.n 0) (z.n 1) (z.n 2) (z.n 3) (z.n 4) (z.n 5) (z.n 6) (z.n 7) (z.n 8) (z.n 9) (z.n 10) (z.n 11) (z.n 12) (z.n 13) (z.n 14) (z.n 15) (z.n 16) (z.v 0) (z.v 1) (z.b 0) (z.lv 0) (z.lv 1) (z.lv 2) (z.lu 0) (z.lu 1) (z.n 17) (z.n 18) (z.n 19) (z.c)
def zT (P1 : World → Addr → Addr → Addr → Addr → Addr → Addr → Tok → Tok → Tok → Tok → Tok → Tok → Tok → Nat → Nat → Nat → Nat → Value → Value → Bool → (List Value) → (List Value) → (List Value) → (List UInt8) → (List UInt8) → Tok → Nat → Tok → Cal → Heap → Addr → Heap → Nat → Prop) : Prop := ∀ w x d lw lo ls lt t1 t2 t3 t4 t5 t6 t7 n nw no ns dv sv done uw uo us row b t k tn zk, (∀ y0 y1 y2 y3, P1 w x d lw lo ls lt t1 t2 t3 t4 t5 t6 t7 n nw no ns dv sv done uw uo us row b t k tn zk y0 y1 y2 y3) → zA w x d lw lo ls lt t1 t2 t3 t4 t5 t6 t7 n nw no ns dv sv done uw uo us row b t k tn zk
noncomputable def zs : { P : Heap → Addr → Heap → Nat → Prop // (∀ y0 y1 y2 y3, P y0 y1 y2 y3) → zA (zx.w) (zx.n 0) (zx.n 1) (zx.n 2) (zx.n 3) (zx.n 4) (zx.n 5) (zx.n 6) (zx.n 7) (zx.n 8) (zx.n 9) (zx.n 10) (zx.n 11) (zx.n 12) (zx.n 13) (zx.n 14) (zx.n 15) (zx.n 16) (zx.v 0) (zx.v 1) (zx.b 0) (zx.lv 0) (zx.lv 1) (zx.lv 2) (zx.lu 0) (zx.lu 1) (zx.n 17) (zx.n 18) (zx.n 19) (zx.c) } := by
  refine' ⟨_, (_ : zT _) (zx.w) (zx.n 0) (zx.n 1) (zx.n 2) (zx.n 3) (zx.n 4) (zx.n 5) (zx.n 6) (zx.n 7) (zx.n 8) (zx.n 9) (zx.n 10) (zx.n 11) (zx.n 12) (zx.n 13) (zx.n 14) (zx.n 15) (zx.n 16) (zx.v 0) (zx.v 1) (zx.b 0) (zx.lv 0) (zx.lv 1) (zx.lv 2) (zx.lu 0) (zx.lu 1) (zx.n 17) (zx.n 18) (zx.n 19) (zx.c)⟩
  rotate_left 1
  · intro w x d lw lo ls lt t1 t2 t3 t4 t5 t6 t7 n nw no ns dv sv done uw uo us row b t k tn zk zR1 hrow hb hk9 hus hsd
    w_strict (
     simp only [List.nodup_cons, List.mem_cons, List.not_mem_nil, or_false, not_or, List.nodup_nil, and_true, not_false_eq_true] at hsd
     obtain ⟨⟨sxd, sxw, sxo, sxs⟩, ⟨sdw, sdo, sds⟩, ⟨swo, sws⟩, sos⟩ := hsd
     have hbl : row.length = b.length + 8 := by rw [hrow]; simp only [List.length_append, List.length_cons, List.length_nil]; omega
     have q5 : (sliceL row none (some 5) == [119, 97, 110, 116, 32]) = false := by rw [sliceL_to row 5 5 rfl, hrow]; rfl
     have q8 : (sliceL row none (some 8) == [115, 104, 97, 108, 108, 111, 119, 32]) = true := by rw [sliceL_to row 8 8 rfl, hrow]; rfl
     have q88 : sliceL row (some 8) none = b := by rw [sliceL_from row 8 8 rfl, hrow]; rfl
     rw [show unhex b = unhex (sliceL row (some 8) none) by rw [q88]]
     have q8l : (sliceL row (some 8) none).length ≤ 4096 := by rw [q88]; omega
     intro B F X N T hk hd hu hret hexc
     walk_at "my enter"
     (revert hrow hb hk9 hus sxd sxw sxo sxs sdw sdo sds sos swo sws hbl q5 q8 q88 q8l B F X N T hk hd hu hret hexc FG' F' N' B' X' T' kG'; exact zR1 g' L' h' tk')
    )
@[irreducible] noncomputable def zP1 : Heap → Addr → Heap → Nat → Prop := Mine.take_shallow_.zs.1
theorem zp1 : zP1 = Mine.take_shallow_.zs.1 := by with_unfolding_all rfl
namespace z1
@[irreducible] noncomputable def zx : Zst := sk neZst fun z => Mine.take_shallow_.zP1 (z.h 0) (z.n 0) (z.h 1) (z.n 1)
theorem zgo : Mine.take_shallow_.zP1 (zx.h 0) (zx.n 0) (zx.h 1) (zx.n 1) := by
  refine' zcast Mine.take_shallow_.zp1 (fun zf => zf (zx.h 0) (zx.n 0) (zx.h 1) (zx.n 1)) ((_ : ∀ g' L' h' tk', Mine.take_shallow_.zs.1 g' L' h' tk') (zx.h 0) (zx.n 0) (zx.h 1) (zx.n 1))
  intro g' L' h' tk' hrow hb hk9 hus sxd sxw sxo sxs sdw sdo sds sos swo sws hbl q5 q8 q88 q8l B F X N T hk hd hu hret hexc FG' F' N' B' X' T' kG'
  w_strict (
   k_steps
   · rename isPlain _ _ = true => hpl'
     rw [q88] at hpl'
     (refine' hret _ _ _ _ ⟨hpl', rfl, _, rfl⟩ ?zF45 ?zN45 ?zK45; (case zF45 => assumption); (case zN45 => (refine News.sub_J (by assumption) ?_; walk_at "sub here")); (case zK45 => exact kept_of (by assumption) (by assumption) (News.sub_J (by assumption) (by walk_at "sub here"))))
   · rename isPlain _ _ = false => hb'
     rw [q88] at hb'
     exact Flies.of (hexc hb') (by assumption) (by assumption) (by assumption)
  )
theorem zall : ∀ z : Zst, Mine.take_shallow_.zP1 (z.h 0) (z.n 0) (z.h 1) (z.n 1) := by refine @sk_all _ neZst _ ?_; with_unfolding_all exact zgo
end z1
theorem zgo : zA (zx.w) (zx.n 0) (zx.n 1) (zx.n 2) (zx.n 3) (zx.n 4) (zx.n 5) (zx.n 6) (zx.n 7) (zx.n 8) (zx.n 9) (zx.n 10) (zx.n 11) (zx.n 12) (zx.n 13) (zx.n 14) (zx.n 15) (zx.n 16) (zx.v 0) (zx.v 1) (zx.b 0) (zx.lv 0) (zx.lv 1) (zx.lv 2) (zx.lu 0) (zx.lu 1) (zx.n 17) (zx.n 18) (zx.n 19) (zx.c) := zs.2 (by rw [← zp1]; exact fun y0 y1 y2 y3 => z1.zall (zmk zw zk0 [y1, y3] [] [] [] [] [] [y0, y2] [] [] [] [] [] [] [] [] []))
theorem zall : ∀ z : Zst, zA (z.w) (z.n 0) (z.n 1) (z.n 2) (z.n 3) (z.n 4) (z.n 5) (z.n 6) (z.n 7) (z.n 8) (z.n 9) (z.n 10) (z.n 11) (z.n 12) (z.n 13) (z.n 14) (z.n 15) (z.n 16) (z.v 0) (z.v 1) (z.b 0) (z.lv 0) (z.lv 1) (z.lv 2) (z.lu 0) (z.lu 1) (z.n 17) (z.n 18) (z.n 19) (z.c) := by refine @sk_all _ neZst _ ?_; with_unfolding_all exact zgo
end take_shallow_
theorem take_shallow (w : World) (x d lw lo ls lt : Addr) (t1 t2 t3 t4 t5 t6 t7 : Tok) (n nw no ns : Nat) (dv sv : Value) (done : Bool) (uw uo us : List Value) (row b : List UInt8) (hrow : row = [115, 104, 97, 108, 108, 111, 119, 32] ++ b) (t : Tok) (k : Nat) (tn : Tok) (hb : b.length ≤ 4000) (hk9 : k ≤ 4) (hus : us.length ≤ 1000) (hsd : [x, d, lw, lo, ls].Nodup) :
  Spec w 192 [.ref x, .bytes row.toArray t, .int (k : Int) tn] 20 200 [(x, instObj 205 d), (d, frD w lw lo ls lt t1 t2 t3 t4 t5 t6 t7 n dv sv done), (lw, listOf uw.toArray nw), (lo, listOf uo.toArray no), (ls, listOf us.toArray ns)]
   (fun v n' => isPlain b (2 * k) = true ∧ v = .none ∧ ∃ tv, n' = [(x, instObj 205 d), (d, frD w lw lo ls lt t1 t2 t3 t4 t5 t6 t7 n dv sv done), (lw, listOf uw.toArray nw), (lo, listOf uo.toArray no), (ls, listOf (us.concat (.bytes (unhex b).toArray tv)).toArray (ns + 1))]) (isPlain b (2 * k) = false) := Spec.cut fun zk => Mine.take_shallow_.zall (zmk w zk [x, d, lw, lo, ls, lt, t1, t2, t3, t4, t5, t6, t7, n, nw, no, ns, t, k, tn] [] [done] [] [dv, sv] [] [] [] [uw, uo, us] [row, b] [] [] [] [] [] []) hrow hb hk9 hus hsd
end sPm
theorem fl29 : True := by first | walk1 | trivial

section sPn

local macro_rules | `(tactic| walk_at $s:str) => `(tactic| k_extra $(Lean.Syntax.mkStrLit ("S81." ++ s.getString)))
theorem zm23 : True := by
  (k_with "S81.compareOp Eq bytes bytes" => k_extra "R52")
  (k_with "S81.setAttr ref" => k_extra "R55")
  (k_with "S81.call ref" => k_extra "R56")
  trivial
namespace take_deepen_
def zA (w : World) (x : Addr) (d : Addr) (lw : Addr) (lo : Addr) (ls : Addr) (lt : Addr) (t1 : Tok) (t2 : Tok) (t3 : Tok) (t4 : Tok) (t5 : Tok) (t6 : Tok) (t7 : Tok) (n : Nat) (dv : Value) (sv : Value) (done : Bool) (row : List UInt8) (b : List UInt8) (t : Tok) (k : Nat) (tn : Tok) (zk : Cal) : Prop := ∀ (hrow : row = [100, 101, 101, 112, 101, 110, 32] ++ b), ∀ (hb : b.length ≤ 4000), ∀ (hk9 : k ≤ 4), ∀ (hsd : [x, d].Nodup), SpecAt w 192 [.ref x, .bytes row.toArray t, .int (k : Int) tn] 20 200 [(x, instObj 205 d), (d, frD w lw lo ls lt t1 t2 t3 t4 t5 t6 t7 n dv sv done)]
   (fun v n' => v = .none ∧ ∃ m t4' tv, Mine.numOf b = some m ∧ m ≠ 0 ∧ n' = [(x, instObj 205 d), (d, frD w lw lo ls lt t1 t2 t3 t4' t5 t6 t7 n (.int m tv) sv done)]) (Mine.numOf b = none ∨ Mine.numOf b = some 0) zk
@[irreducible] noncomputable def zx : Zst := sk neZst fun z => zA (z.w) (z.n 0) (z.n 1) (z.n 2) (z.n 3) (z.n 4) (z.n 5) (z.n 6) (z.n 7) (z.n 8) (z.n 9) (z.n 10) (z.n 11) (z.n 12) (z.n 13) (z.v 0) (z.v 1) (z.b 0) (z.lu 0) (z.lu 1) (z.n 14) (z.n 15) (z.n 16) (z.c)
def zT (P1 : World → Addr → Addr → Addr → Addr → Addr → Addr → Tok → Tok → Tok → Tok → Tok → Tok → Tok → Nat → Value → Value → Bool → (List UInt8) → (List UInt8) → Tok → Nat → Tok → Cal → Heap → Addr → Heap → Nat → Prop) : Prop := ∀ w x d lw lo ls lt t1 t2 t3 t4 t5 t6 t7 n dv sv done row b t k tn zk, (∀ y0 y1 y2 y3, P1 w x d lw lo ls lt t1 t2 t3 t4 t5 t6 t7 n dv sv done row b t k tn zk y0 y1 y2 y3) → zA w x d lw lo ls lt t1 t2 t3 t4 t5 t6 t7 n dv sv done row b t k tn zk
noncomputable def zs : { P : Heap → Addr → Heap → Nat → Prop // (∀ y0 y1 y2 y3, P y0 y1 y2 y3) → zA (zx.w) (zx.n 0) (zx.n 1) (zx.n 2) (zx.n 3) (zx.n 4) (zx.n 5) (zx.n 6) (zx.n 7) (zx.n 8) (zx.n 9) (zx.n 10) (zx.n 11) (zx.n 12) (zx.n 13) (zx.v 0) (zx.v 1) (zx.b 0) (zx.lu 0) (zx.lu 1) (zx.n 14) (zx.n 15) (zx.n 16) (zx.c) } := by
  refine' ⟨_, (_ : zT _) (zx.w) (zx.n 0) (zx.n 1) (zx.n 2) (zx.n 3) (zx.n 4) (zx.n 5) (zx.n 6) (zx.n 7) (zx.n 8) (zx.n 9) (zx.n 10) (zx.n 11) (zx.n 12) (zx.n 13) (zx.v 0) (zx.v 1) (zx.b 0) (zx.lu 0) (zx.lu 1) (zx.n 14) (zx.n 15) (zx.n 16) (zx.c)⟩
  rotate_left 1
  · intro w x d lw lo ls lt t1 t2 t3 t4 t5 t6 t7 n dv sv done row b t k tn zk zR1 hrow hb hk9 hsd
    w_strict (
     simp only [List.nodup_cons, List.mem_cons, List.not_mem_nil, or_false, not_or, List.nodup_nil, and_true, not_false_eq_true] at hsd
     have hbl : row.length = b.length + 7 := by rw [hrow]; simp only [List.length_append, List.length_cons, List.length_nil]; omega
     have q5 : (sliceL row none (some 5) == [119, 97, 110, 116, 32]) = false := by rw [sliceL_to row 5 5 rfl, hrow]; rfl
     have q8 : (sliceL row none (some 8) == [115, 104, 97, 108, 108, 111, 119, 32]) = false := by rw [sliceL_to row 8 8 rfl, hrow]; simp
     have q7 : (sliceL row none (some 7) == [100, 101, 101, 112, 101, 110, 32]) = true := by rw [sliceL_to row 7 7 rfl, hrow]; rfl
     have q67 : (sliceL row (some 6) (some 7) == [32]) = true := by rw [sliceL_mid row 6 7 6 7 rfl rfl, hrow]; rfl
     have qf : Builtin.Bytes.find? row.toArray #[32] 0 row.toArray.size = some 6 := find_at row 6 (by rw [hrow]; rfl) (by
       intro i hi
       rw [hrow]
       match i, hi with
       | 0, _ => simp
       | 1, _ => simp
       | 2, _ => simp
       | 3, _ => simp
       | 4, _ => simp
       | 5, _ => simp)
     have q77 : sliceL row (some (((6 : Nat) : Int) + 1)) none = b := by rw [sliceL_from row 7 (((6 : Nat) : Int) + 1) rfl, hrow]; rfl
     have q7l : (sliceL row (some (((6 : Nat) : Int) + 1)) none).length ≤ 65536 := by rw [q77]; omega
     intro B F X N T hk hd hu hret hexc
     walk_at "my enter"
     (revert hrow hb hk9 hsd hbl q5 q8 q7 q67 qf q77 q7l B F X N T hk hd hu hret hexc FG' F' N' B' X' T' kG'; exact zR1 g' L' h' tk')
    )
@[irreducible] noncomputable def zP1 : Heap → Addr → Heap → Nat → Prop := Mine.take_deepen_.zs.1
theorem zp1 : zP1 = Mine.take_deepen_.zs.1 := by with_unfolding_all rfl
namespace z1
@[irreducible] noncomputable def zx : Zst := sk neZst fun z => Mine.take_deepen_.zP1 (z.h 0) (z.n 0) (z.h 1) (z.n 1)
theorem zgo : Mine.take_deepen_.zP1 (zx.h 0) (zx.n 0) (zx.h 1) (zx.n 1) := by
  refine' zcast Mine.take_deepen_.zp1 (fun zf => zf (zx.h 0) (zx.n 0) (zx.h 1) (zx.n 1)) ((_ : ∀ g' L' h' tk', Mine.take_deepen_.zs.1 g' L' h' tk') (zx.h 0) (zx.n 0) (zx.h 1) (zx.n 1))
  intro g' L' h' tk' hrow hb hk9 hsd hbl q5 q8 q7 q67 qf q77 q7l B F X N T hk hd hu hret hexc FG' F' N' B' X' T' kG'
  w_strict (
   k_steps
   · rename Mine.numOf _ = some _ => hnn'
     rename _ = (0 : Int) => hz'
     rw [q77, hz'] at hnn'
     exact Flies.of (hexc (.inr hnn')) (by assumption) (by assumption) (by assumption)
   · rename Mine.numOf _ = some _ => hnn'
     rename _ ≠ (0 : Int) => hz'
     rw [q77] at hnn'
     (refine' hret _ _ _ _ ⟨rfl, _, _, _, hnn', hz', rfl⟩ ?zF52 ?zN52 ?zK52; (case zF52 => assumption); (case zN52 => (refine News.sub_J (by assumption) ?_; walk_at "sub here")); (case zK52 => exact kept_of (by assumption) (by assumption) (News.sub_J (by assumption) (by walk_at "sub here"))))
   · rename Mine.numOf _ = none => hnn'
     rw [q77] at hnn'
     exact Flies.of (hexc (.inl hnn')) (by assumption) (by assumption) (by assumption)
  )
theorem zall : ∀ z : Zst, Mine.take_deepen_.zP1 (z.h 0) (z.n 0) (z.h 1) (z.n 1) := by refine @sk_all _ neZst _ ?_; with_unfolding_all exact zgo
end z1
theorem zgo : zA (zx.w) (zx.n 0) (zx.n 1) (zx.n 2) (zx.n 3) (zx.n 4) (zx.n 5) (zx.n 6) (zx.n 7) (zx.n 8) (zx.n 9) (zx.n 10) (zx.n 11) (zx.n 12) (zx.n 13) (zx.v 0) (zx.v 1) (zx.b 0) (zx.lu 0) (zx.lu 1) (zx.n 14) (zx.n 15) (zx.n 16) (zx.c) := zs.2 (by rw [← zp1]; exact fun y0 y1 y2 y3 => z1.zall (zmk zw zk0 [y1, y3] [] [] [] [] [] [y0, y2] [] [] [] [] [] [] [] [] []))
theorem zall : ∀ z : Zst, zA (z.w) (z.n 0) (z.n 1) (z.n 2) (z.n 3) (z.n 4) (z.n 5) (z.n 6) (z.n 7) (z.n 8) (z.n 9) (z.n 10) (z.n 11) (z.n 12) (z.n 13) (z.v 0) (z.v 1) (z.b 0) (z.lu 0) (z.lu 1) (z.n 14) (z.n 15) (z.n 16) (z.c) := by refine @sk_all _ neZst _ ?_; with_unfolding_all exact zgo
end take_deepen_
theorem take_deepen (w : World) (x d lw lo ls lt : Addr) (t1 t2 t3 t4 t5 t6 t7 : Tok) (n : Nat) (dv sv : Value) (done : Bool) (row b : List UInt8) (hrow : row = [100, 101, 101, 112, 101, 110, 32] ++ b) (t : Tok) (k : Nat) (tn : Tok) (hb : b.length ≤ 4000) (hk9 : k ≤ 4) (hsd : [x, d].Nodup) :
  Spec w 192 [.ref x, .bytes row.toArray t, .int (k : Int) tn] 20 200 [(x, instObj 205 d), (d, frD w lw lo ls lt t1 t2 t3 t4 t5 t6 t7 n dv sv done)]
   (fun v n' => v = .none ∧ ∃ m t4' tv, Mine.numOf b = some m ∧ m ≠ 0 ∧ n' = [(x, instObj 205 d), (d, frD w lw lo ls lt t1 t2 t3 t4' t5 t6 t7 n (.int m tv) sv done)]) (Mine.numOf b = none ∨ Mine.numOf b = some 0) := Spec.cut fun zk => Mine.take_deepen_.zall (zmk w zk [x, d, lw, lo, ls, lt, t1, t2, t3, t4, t5, t6, t7, n, t, k, tn] [] [done] [] [dv, sv] [] [] [] [] [row, b] [] [] [] [] [] []) hrow hb hk9 hsd
end sPn
theorem fl30 : True := by first | walk1 | trivial

section sPo

local macro_rules | `(tactic| walk_at $s:str) => `(tactic| k_extra $(Lean.Syntax.mkStrLit ("S84." ++ s.getString)))
theorem zm24 : True := by
  (k_with "S84.compareOp Eq bytes bytes" => k_extra "R52")
  (k_with "S84.setAttr ref" => k_extra "R55")
  (k_with "S84.call ref" => k_extra "R56")
  trivial
namespace take_since_
def zA (w : World) (x : Addr) (d : Addr) (lw : Addr) (lo : Addr) (ls : Addr) (lt : Addr) (t1 : Tok) (t2 : Tok) (t3 : Tok) (t4 : Tok) (t5 : Tok) (t6 : Tok) (t7 : Tok) (n : Nat) (dv : Value) (sv : Value) (done : Bool) (row : List UInt8) (b : List UInt8) (t : Tok) (k : Nat) (tn : Tok) (zk : Cal) : Prop := ∀ (hrow : row = [100, 101, 101, 112, 101, 110, 45, 115, 105, 110, 99, 101, 32] ++ b), ∀ (hb : b.length ≤ 4000), ∀ (hk9 : k ≤ 4), ∀ (hsd : [x, d].Nodup), SpecAt w 192 [.ref x, .bytes row.toArray t, .int (k : Int) tn] 20 200 [(x, instObj 205 d), (d, frD w lw lo ls lt t1 t2 t3 t4 t5 t6 t7 n dv sv done)]
   (fun v n' => v = .none ∧ ∃ m t5' tv, Mine.numOf b = some m ∧ n' = [(x, instObj 205 d), (d, frD w lw lo ls lt t1 t2 t3 t4 t5' t6 t7 n dv (.int m tv) done)]) (Mine.numOf b = none) zk
@[irreducible] noncomputable def zx : Zst := sk neZst fun z => zA (z.w) (z.n 0) (z.n 1) (z.n 2) (z.n 3) (z.n 4) (z.n 5) (z.n 6) (z.n 7) (z.n 8) (z.n 9) (z.n 10) (z.n 11) (z.n 12) (z.n 13) (z.v 0) (z.v 1) (z.b 0) (z.lu 0) (z.lu 1) (z.n 14) (z.n 15) (z.n 16) (z.c)
def zT (P1 : World → Addr → Addr → Addr → Addr → Addr → Addr → Tok → Tok → Tok → Tok → Tok → Tok → Tok → Nat → Value → Value → Bool → (List UInt8) → (List UInt8) → Tok → Nat → Tok → Cal → Heap → Addr → Heap → Nat → Prop) : Prop := ∀ w x d lw lo ls lt t1 t2 t3 t4 t5 t6 t7 n dv sv done row b t k tn zk, (∀ y0 y1 y2 y3, P1 w x d lw lo ls lt t1 t2 t3 t4 t5 t6 t7 n dv sv done row b t k tn zk y0 y1 y2 y3) → zA w x d lw lo ls lt t1 t2 t3 t4 t5 t6 t7 n dv sv done row b t k tn zk
noncomputable def zs : { P : Heap → Addr → Heap → Nat → Prop // (∀ y0 y1 y2 y3, P y0 y1 y2 y3) → zA (zx.w) (zx.n 0) (zx.n 1) (zx.n 2) (zx.n 3) (zx.n 4) (zx.n 5) (zx.n 6) (zx.n 7) (zx.n 8) (zx.n 9) (zx.n 10) (zx.n 11) (zx.n 12) (zx.n 13) (zx.v 0) (zx.v 1) (zx.b 0) (zx.lu 0) (zx.lu 1) (zx.n 14) (zx.n 15) (zx.n 16) (zx.c) } := by
  refine' ⟨_, (_ : zT _) (zx.w) (zx.n 0) (zx.n 1) (zx.n 2) (zx.n 3) (zx.n 4) (zx.n 5) (zx.n 6) (zx.n 7) (zx.n 8) (zx.n 9) (zx.n 10) (zx.n 11) (zx.n 12) (zx.n 13) (zx.v 0) (zx.v 1) (zx.b 0) (zx.lu 0) (zx.lu 1) (zx.n 14) (zx.n 15) (zx.n 16) (zx.c)⟩
  rotate_left 1
  · intro w x d lw lo ls lt t1 t2 t3 t4 t5 t6 t7 n dv sv done row b t k tn zk zR1 hrow hb hk9 hsd
    w_strict (
     simp only [List.nodup_cons, List.mem_cons, List.not_mem_nil, or_false, not_or, List.nodup_nil, and_true, not_false_eq_true] at hsd
     have hbl : row.length = b.length + 13 := by rw [hrow]; simp only [List.length_append, List.length_cons, List.length_nil]; omega
     have q5 : (sliceL row none (some 5) == [119, 97, 110, 116, 32]) = false := by rw [sliceL_to row 5 5 rfl, hrow]; rfl
     have q8 : (sliceL row none (some 8) == [115, 104, 97, 108, 108, 111, 119, 32]) = false := by rw [sliceL_to row 8 8 rfl, hrow]; simp
     have q7 : (sliceL row none (some 7) == [100, 101, 101, 112, 101, 110, 32]) = false := by rw [sliceL_to row 7 7 rfl, hrow]; simp
     have q13 : (sliceL row none (some 13) == [100, 101, 101, 112, 101, 110, 45, 115, 105, 110, 99, 101, 32]) = true := by rw [sliceL_to row 13 13 rfl, hrow]; rfl
     have q67 : (sliceL row (some 6) (some 7) == [32]) = false := by rw [sliceL_mid row 6 7 6 7 rfl rfl, hrow]; rfl
     have qf : Builtin.Bytes.find? row.toArray #[32] 0 row.toArray.size = some 12 := find_at row 12 (by rw [hrow]; rfl) (by
       intro i hi
       rw [hrow]
       match i, hi with
       | 0, _ => simp
       | 1, _ => simp
       | 2, _ => simp
       | 3, _ => simp
       | 4, _ => simp
       | 5, _ => simp
       | 6, _ => simp
       | 7, _ => simp
       | 8, _ => simp
       | 9, _ => simp
       | 10, _ => simp
       | 11, _ => simp)
     have q77 : sliceL row (some (((12 : Nat) : Int) + 1)) none = b := by rw [sliceL_from row 13 (((12 : Nat) : Int) + 1) rfl, hrow]; rfl
     have q7l : (sliceL row (some (((12 : Nat) : Int) + 1)) none).length ≤ 65536 := by rw [q77]; omega
     intro B F X N T hk hd hu hret hexc
     walk_at "my enter"
     (revert hrow hb hk9 hsd hbl q5 q8 q7 q13 q67 qf q77 q7l B F X N T hk hd hu hret hexc FG' F' N' B' X' T' kG'; exact zR1 g' L' h' tk')
    )
@[irreducible] noncomputable def zP1 : Heap → Addr → Heap → Nat → Prop := Mine.take_since_.zs.1
theorem zp1 : zP1 = Mine.take_since_.zs.1 := by with_unfolding_all rfl
namespace z1
@[irreducible] noncomputable def zx : Zst := sk neZst fun z => Mine.take_since_.zP1 (z.h 0) (z.n 0) (z.h 1) (z.n 1)
theorem zgo : Mine.take_since_.zP1 (zx.h 0) (zx.n 0) (zx.h 1) (zx.n 1) := by
  refine' zcast Mine.take_since_.zp1 (fun zf => zf (zx.h 0) (zx.n 0) (zx.h 1) (zx.n 1)) ((_ : ∀ g' L' h' tk', Mine.take_since_.zs.1 g' L' h' tk') (zx.h 0) (zx.n 0) (zx.h 1) (zx.n 1))
  intro g' L' h' tk' hrow hb hk9 hsd hbl q5 q8 q7 q13 q67 qf q77 q7l B F X N T hk hd hu hret hexc FG' F' N' B' X' T' kG'
  w_strict (
   k_steps
   · rename Mine.numOf _ = some _ => hnn'
     rw [q77] at hnn'
     (refine' hret _ _ _ _ ⟨rfl, _, _, _, hnn', rfl⟩ ?zF54 ?zN54 ?zK54; (case zF54 => assumption); (case zN54 => (refine News.sub_J (by assumption) ?_; walk_at "sub here")); (case zK54 => exact kept_of (by assumption) (by assumption) (News.sub_J (by assumption) (by walk_at "sub here"))))
   · rename Mine.numOf _ = none => hnn'
     rw [q77] at hnn'
     exact Flies.of (hexc hnn') (by assumption) (by assumption) (by assumption)
  )
theorem zall : ∀ z : Zst, Mine.take_since_.zP1 (z.h 0) (z.n 0) (z.h 1) (z.n 1) := by refine @sk_all _ neZst _ ?_; with_unfolding_all exact zgo
end z1
theorem zgo : zA (zx.w) (zx.n 0) (zx.n 1) (zx.n 2) (zx.n 3) (zx.n 4) (zx.n 5) (zx.n 6) (zx.n 7) (zx.n 8) (zx.n 9) (zx.n 10) (zx.n 11) (zx.n 12) (zx.n 13) (zx.v 0) (zx.v 1) (zx.b 0) (zx.lu 0) (zx.lu 1) (zx.n 14) (zx.n 15) (zx.n 16) (zx.c) := zs.2 (by rw [← zp1]; exact fun y0 y1 y2 y3 => z1.zall (zmk zw zk0 [y1, y3] [] [] [] [] [] [y0, y2] [] [] [] [] [] [] [] [] []))
theorem zall : ∀ z : Zst, zA (z.w) (z.n 0) (z.n 1) (z.n 2) (z.n 3) (z.n 4) (z.n 5) (z.n 6) (z.n 7) (z.n 8) (z.n 9) (z.n 10) (z.n 11) (z.n 12) (z.n 13) (z.v 0) (z.v 1) (z.b 0) (z.lu 0) (z.lu 1) (z.n 14) (z.n 15) (z.n 16) (z.c) := by refine @sk_all _ neZst _ ?_; with_unfolding_all exact zgo
end take_since_
theorem take_since (w : World) (x d lw lo ls lt : Addr) (t1 t2 t3 t4 t5 t6 t7 : Tok) (n : Nat) (dv sv : Value) (done : Bool) (row b : List UInt8) (hrow : row = [100, 101, 101, 112, 101, 110, 45, 115, 105, 110, 99, 101, 32] ++ b) (t : Tok) (k : Nat) (tn : Tok) (hb : b.length ≤ 4000) (hk9 : k ≤ 4) (hsd : [x, d].Nodup) :
  Spec w 192 [.ref x, .bytes row.toArray t, .int (k : Int) tn] 20 200 [(x, instObj 205 d), (d, frD w lw lo ls lt t1 t2 t3 t4 t5 t6 t7 n dv sv done)]
   (fun v n' => v = .none ∧ ∃ m t5' tv, Mine.numOf b = some m ∧ n' = [(x, instObj 205 d), (d, frD w lw lo ls lt t1 t2 t3 t4 t5' t6 t7 n dv (.int m tv) done)]) (Mine.numOf b = none) := Spec.cut fun zk => Mine.take_since_.zall (zmk w zk [x, d, lw, lo, ls, lt, t1, t2, t3, t4, t5, t6, t7, n, t, k, tn] [] [done] [] [dv, sv] [] [] [] [] [row, b] [] [] [] [] [] []) hrow hb hk9 hsd
end sPo
theorem fl31 : True := by first | walk1 | trivial

section sPp

local macro_rules | `(tactic| walk_at $s:str) => `(tactic| k_extra $(Lean.Syntax.mkStrLit ("S87." ++ s.getString)))
theorem zm25 : True := by
  (k_with "S87.compareOp Eq bytes bytes" => k_extra "R52")
  trivial
namespace take_bad_
def zA (w : World) (x : Addr) (d : Addr) (o : Obj) (row : List UInt8) (t : Tok) (k : Nat) (tn : Tok) (mine : List (Addr × Obj)) (zk : Cal) : Prop := ∀ (hb : row.length ≤ 4096), ∀ (hk9 : k ≤ 4), ∀ (h5 : row.take 5 ≠ [119, 97, 110, 116, 32]), ∀ (h8 : row.take 8 ≠ [115, 104, 97, 108, 108, 111, 119, 32]), ∀ (h7 : row.take 7 ≠ [100, 101, 101, 112, 101, 110, 32]), ∀ (h13 : row.take 13 ≠ [100, 101, 101, 112, 101, 110, 45, 115, 105, 110, 99, 101, 32]), SpecAt w 192 [.ref x, .bytes row.toArray t, .int (k : Int) tn] 20 200 mine (fun v n' => False) True zk
@[irreducible] noncomputable def zx : Zst := sk neZst fun z => zA (z.w) (z.n 0) (z.n 1) (z.o 0) (z.lu 0) (z.n 2) (z.n 3) (z.n 4) (z.ld 0) (z.c)
def zT (P1 : World → Addr → Addr → Obj → (List UInt8) → Tok → Nat → Tok → (List (Addr × Obj)) → Cal → Heap → Addr → Heap → Nat → Prop) : Prop := ∀ w x d o row t k tn mine zk, (∀ y0 y1 y2 y3, P1 w x d o row t k tn mine zk y0 y1 y2 y3) → zA w x d o row t k tn mine zk
noncomputable def zs : { P : Heap → Addr → Heap → Nat → Prop // (∀ y0 y1 y2 y3, P y0 y1 y2 y3) → zA (zx.w) (zx.n 0) (zx.n 1) (zx.o 0) (zx.lu 0) (zx.n 2) (zx.n 3) (zx.n 4) (zx.ld 0) (zx.c) } := by
  refine' ⟨_, (_ : zT _) (zx.w) (zx.n 0) (zx.n 1) (zx.o 0) (zx.lu 0) (zx.n 2) (zx.n 3) (zx.n 4) (zx.ld 0) (zx.c)⟩
  rotate_left 1
  · intro w x d o row t k tn mine zk zR1 hb hk9 h5 h8 h7 h13
    w_strict (
     have q5 : (sliceL row none (some 5) == [119, 97, 110, 116, 32]) = false := by rw [sliceL_to row 5 5 rfl]; simpa using h5
     have q8 : (sliceL row none (some 8) == [115, 104, 97, 108, 108, 111, 119, 32]) = false := by rw [sliceL_to row 8 8 rfl]; simpa using h8
     have q7 : (sliceL row none (some 7) == [100, 101, 101, 112, 101, 110, 32]) = false := by rw [sliceL_to row 7 7 rfl]; simpa using h7
     have q13 : (sliceL row none (some 13) == [100, 101, 101, 112, 101, 110, 45, 115, 105, 110, 99, 101, 32]) = false := by rw [sliceL_to row 13 13 rfl]; simpa using h13
     intro B F X N T hk hd hu hret hexc
     walk_at "my enter"
     (revert hb hk9 h5 h8 h7 h13 q5 q8 q7 q13 B F X N T hk hd hu hret hexc FG' F' N' B' X' T' kG'; exact zR1 g' L' h' tk')
    )
@[irreducible] noncomputable def zP1 : Heap → Addr → Heap → Nat → Prop := Mine.take_bad_.zs.1
theorem zp1 : zP1 = Mine.take_bad_.zs.1 := by with_unfolding_all rfl
namespace z1
@[irreducible] noncomputable def zx : Zst := sk neZst fun z => Mine.take_bad_.zP1 (z.h 0) (z.n 0) (z.h 1) (z.n 1)
theorem zgo : Mine.take_bad_.zP1 (zx.h 0) (zx.n 0) (zx.h 1) (zx.n 1) := by
  refine' zcast Mine.take_bad_.zp1 (fun zf => zf (zx.h 0) (zx.n 0) (zx.h 1) (zx.n 1)) ((_ : ∀ g' L' h' tk', Mine.take_bad_.zs.1 g' L' h' tk') (zx.h 0) (zx.n 0) (zx.h 1) (zx.n 1))
  intro g' L' h' tk' hb hk9 h5 h8 h7 h13 q5 q8 q7 q13 B F X N T hk hd hu hret hexc FG' F' N' B' X' T' kG'
  w_strict (
   k_steps
   exact Flies.of (hexc trivial) (by assumption) (by assumption) (by assumption)
  )
theorem zall : ∀ z : Zst, Mine.take_bad_.zP1 (z.h 0) (z.n 0) (z.h 1) (z.n 1) := by refine @sk_all _ neZst _ ?_; with_unfolding_all exact zgo
end z1
theorem zgo : zA (zx.w) (zx.n 0) (zx.n 1) (zx.o 0) (zx.lu 0) (zx.n 2) (zx.n 3) (zx.n 4) (zx.ld 0) (zx.c) := zs.2 (by rw [← zp1]; exact fun y0 y1 y2 y3 => z1.zall (zmk zw zk0 [y1, y3] [] [] [] [] [] [y0, y2] [] [] [] [] [] [] [] [] []))
theorem zall : ∀ z : Zst, zA (z.w) (z.n 0) (z.n 1) (z.o 0) (z.lu 0) (z.n 2) (z.n 3) (z.n 4) (z.ld 0) (z.c) := by refine @sk_all _ neZst _ ?_; with_unfolding_all exact zgo
end take_bad_
theorem take_bad (w : World) (x d : Addr) (o : Obj) (row : List UInt8) (t : Tok) (k : Nat) (tn : Tok) (hb : row.length ≤ 4096) (hk9 : k ≤ 4)
  (h5 : row.take 5 ≠ [119, 97, 110, 116, 32]) (h8 : row.take 8 ≠ [115, 104, 97, 108, 108, 111, 119, 32]) (h7 : row.take 7 ≠ [100, 101, 101, 112, 101, 110, 32]) (h13 : row.take 13 ≠ [100, 101, 101, 112, 101, 110, 45, 115, 105, 110, 99, 101, 32]) (mine : List (Addr × Obj)) :
  Spec w 192 [.ref x, .bytes row.toArray t, .int (k : Int) tn] 20 200 mine (fun v n' => False) True := Spec.cut fun zk => Mine.take_bad_.zall (zmk w zk [x, d, t, k, tn] [] [] [] [] [o] [] [] [] [row] [] [] [] [mine] [] []) hb hk9 h5 h8 h7 h13
end sPp
theorem fl32 : True := by first | walk1 | trivial

theorem zset1 : True := by
  (k_with "NC0" => skip)
  trivial
section sPq

local macro_rules | `(tactic| walk_at $s:str) => `(tactic| k_extra $(Lean.Syntax.mkStrLit ("S90." ++ s.getString)))
theorem zm26 : True := by
  (k_with "S90.compareOp Eq bytes bytes" => k_extra "R52")
  trivial
theorem text_of_as (w : World) (b : List UInt8) (t : Tok) (hb : b.length ≤ 4096) (y : PySem.Str) (hy : strOf b = y) : Spec w 64 [.bytes b.toArray t] 2 20 [] (fun v n' => n' = [] ∧ ∃ t, v = .str y t) False := by
  subst hy
  exact text_of w b t hb
theorem no_long {v : List Value} (h : v.length ≤ 1000) : ¬(!v.toArray.isEmpty && Builtin.List.listTooLong (v.toArray.size + (#[] : Array Value).size)) = true := by
  have e : Builtin.List.listTooLong (v.toArray.size + (#[] : Array Value).size) = false := by
    unfold Builtin.List.listTooLong
    simp only [List.size_toArray, decide_eq_false_iff_not]
    show ¬ (v.length + 0 > _)
    rw [sizeLine_eq]
    omega
  rw [e, Bool.and_false]
  exact Bool.false_ne_true
theorem ext_z {v : List Value} (h : v.length ≤ 1000) : v.toArray.toList.length ≤ sizeLine := by rw [sizeLine_eq]; show v.length ≤ _; omega
theorem ext_y {v : List Value} (h : v.length ≤ 1000) : v.toArray.size + (#[] : Array Value).size ≤ sizeLine + 1 := by rw [sizeLine_eq]; show v.length + 0 ≤ _; omega
theorem zm27 : True := by
  (k_with "S90.call builtin:list.extend" => k_extra "R57")
  (k_with "S90.call ref" => k_extra "R58")
  (k_with "S90.call ref" => k_extra "R54")
  trivial
namespace take_want0_
def zA (w : World) (x : Addr) (d : Addr) (lw : Addr) (lo : Addr) (ls : Addr) (lt : Addr) (t1 : Tok) (t2 : Tok) (t3 : Tok) (t4 : Tok) (t5 : Tok) (t6 : Tok) (t7 : Tok) (n : Nat) (nw : Nat) (no : Nat) (ns : Nat) (dv : Value) (sv : Value) (done : Bool) (uw : List Value) (uo : List Value) (row : List UInt8) (b : List UInt8) (t : Tok) (k : Nat) (tn : Tok) (zk : Cal) : Prop := ∀ (hrow : row = [119, 97, 110, 116, 32] ++ b), ∀ (hb : b.length ≤ 2 * k), ∀ (hk9 : k ≤ 4), ∀ (huw : uw.length ≤ 1000), ∀ (huo : uo.length ≤ 1000), ∀ (hsd : [x, d, lw, lo].Nodup), SpecAt w 192 [.ref x, .bytes row.toArray t, .int (k : Int) tn] 20 200 [(x, instObj 205 d), (d, frD w lw lo ls lt t1 t2 t3 t4 t5 t6 t7 n dv sv done), (lw, listOf uw.toArray nw), (lo, listOf uo.toArray no)]
   (fun v n' => isPlain b (2 * k) = true ∧ v = .none ∧ ∃ tv, n' = [(x, instObj 205 d), (d, frD w lw lo ls lt t1 t2 t3 t4 t5 t6 t7 n dv sv done), (lw, listOf (uw.concat (.bytes (unhex b).toArray tv)).toArray (nw + 1)), (lo, listOf uo.toArray no)]) (isPlain b (2 * k) = false) zk
@[irreducible] noncomputable def zx : Zst := sk neZst fun z => zA (z.w) (z.n 0) (z.n 1) (z.n 2) (z.n 3) (z.n 4) (z.n 5) (z.n 6) (z.n 7) (z.n 8) (z.n 9) (z.n 10) (z.n 11) (z.n 12) (z.n 13) (z.n 14) (z.n 15) (z.n 16) (z.v 0) (z.v 1) (z.b 0) (z.lv 0) (z.lv 1) (z.lu 0) (z.lu 1) (z.n 17) (z.n 18) (z.n 19) (z.c)
def zT (P1 : World → Addr → Addr → Addr → Addr → Addr → Addr → Tok → Tok → Tok → Tok → Tok → Tok → Tok → Nat → Nat → Nat → Nat → Value → Value → Bool → (List Value) → (List Value) → (List UInt8) → (List UInt8) → Tok → Nat → Tok → Cal → Heap → Addr → Heap → Nat → Prop) : Prop := ∀ w x d lw lo ls lt t1 t2 t3 t4 t5 t6 t7 n nw no ns dv sv done uw uo row b t k tn zk, (∀ y0 y1 y2 y3, P1 w x d lw lo ls lt t1 t2 t3 t4 t5 t6 t7 n nw no ns dv sv done uw uo row b t k tn zk y0 y1 y2 y3) → zA w x d lw lo ls lt t1 t2 t3 t4 t5 t6 t7 n nw no ns dv sv done uw uo row b t k tn zk
noncomputable def zs : { P : Heap → Addr → Heap → Nat → Prop // (∀ y0 y1 y2 y3, P y0 y1 y2 y3) → zA (zx.w) (zx.n 0) (zx.n 1) (zx.n 2) (zx.n 3) (zx.n 4) (zx.n 5) (zx.n 6) (zx.n 7) (zx.n 8) (zx.n 9) (zx.n 10) (zx.n 11) (zx.n 12) (zx.n 13) (zx.n 14) (zx.n 15) (zx.n 16) (zx.v 0) (zx.v 1) (zx.b 0) (zx.lv 0) (zx.lv 1) (zx.lu 0) (zx.lu 1) (zx.n 17) (zx.n 18) (zx.n 19) (zx.c) } := by
  refine' ⟨_, (_ : zT _) (zx.w) (zx.n 0) (zx.n 1) (zx.n 2) (zx.n 3) (zx.n 4) (zx.n 5) (zx.n 6) (zx.n 7) (zx.n 8) (zx.n 9) (zx.n 10) (zx.n 11) (zx.n 12) (zx.n 13) (zx.n 14) (zx.n 15) (zx.n 16) (zx.v 0) (zx.v 1) (zx.b 0) (zx.lv 0) (zx.lv 1) (zx.lu 0) (zx.lu 1) (zx.n 17) (zx.n 18) (zx.n 19) (zx.c)⟩
  rotate_left 1
  · intro w x d lw lo ls lt t1 t2 t3 t4 t5 t6 t7 n nw no ns dv sv done uw uo row b t k tn zk zR1 hrow hb hk9 huw huo hsd
    w_strict (
     simp only [List.nodup_cons, List.mem_cons, List.not_mem_nil, or_false, not_or, List.nodup_nil, and_true, not_false_eq_true] at hsd
     obtain ⟨⟨sxd, sxw, sxo⟩, ⟨sdw, sdo⟩, swo⟩ := hsd
     have hbl : row.length = b.length + 5 := by rw [hrow]; simp only [List.length_append, List.length_cons, List.length_nil]; omega
     have q5 : (sliceL row none (some 5) == [119, 97, 110, 116, 32]) = true := by rw [sliceL_to row 5 5 rfl, hrow]; rfl
     have q55 : sliceL row (some 5) (some (5 + 2 * (k : Int))) = b := by
       rw [sliceL_mid row 5 (5 + 2 * k) 5 (5 + 2 * (k : Int)) rfl (by omega), hrow]
       show (b.take _) = b
       rw [List.take_of_length_le (by omega)]
     have q5r : sliceL row (some (5 + 2 * (k : Int))) none = [] := by
       rw [sliceL_from row (5 + 2 * k) (5 + 2 * (k : Int)) (by omega), List.drop_of_length_le (by omega)]
     have q5l : (sliceL row (some 5) (some (5 + 2 * (k : Int)))).length ≤ 4096 := by rw [q55]; omega
     have q5rl : (sliceL row (some (5 + 2 * (k : Int))) none).length ≤ 4096 := by rw [q5r]; decide
     have q5s : strOf (sliceL row (some (5 + 2 * (k : Int))) none) = Str.ofString "" := by rw [q5r]; decide +kernel
     intro B F X N T hk hd hu hret hexc
     walk_at "my enter"
     (revert hrow hb hk9 huw huo sxd sxw sxo swo sdw sdo hbl q5 q55 q5r q5l q5rl q5s B F X N T hk hd hu hret hexc FG' F' N' B' X' T' kG'; exact zR1 g' L' h' tk')
    )
@[irreducible] noncomputable def zP1 : Heap → Addr → Heap → Nat → Prop := Mine.take_want0_.zs.1
theorem zp1 : zP1 = Mine.take_want0_.zs.1 := by with_unfolding_all rfl
namespace z1
@[irreducible] noncomputable def zx : Zst := sk neZst fun z => Mine.take_want0_.zP1 (z.h 0) (z.n 0) (z.h 1) (z.n 1)
theorem zgo : Mine.take_want0_.zP1 (zx.h 0) (zx.n 0) (zx.h 1) (zx.n 1) := by
  refine' zcast Mine.take_want0_.zp1 (fun zf => zf (zx.h 0) (zx.n 0) (zx.h 1) (zx.n 1)) ((_ : ∀ g' L' h' tk', Mine.take_want0_.zs.1 g' L' h' tk') (zx.h 0) (zx.n 0) (zx.h 1) (zx.n 1))
  intro g' L' h' tk' hrow hb hk9 huw huo sxd sxw sxo swo sdw sdo hbl q5 q55 q5r q5l q5rl q5s B F X N T hk hd hu hret hexc FG' F' N' B' X' T' kG'
  w_strict (
   k_steps
   all_goals try (walk_at "call ref"; k_steps)
   · (refine' hret _ _ _ _ ⟨by rw [← q55]; assumption, rfl, _, by rw [← q55]⟩ ?zF57 ?zN57 ?zK57; (case zF57 => assumption); (case zN57 => (refine News.sub_J (by assumption) ?_; walk_at "sub here")); (case zK57 => exact kept_of (by assumption) (by assumption) (News.sub_J (by assumption) (by walk_at "sub here"))))
   · rename isPlain _ _ = false => hb'
     rw [q55] at hb'
     exact Flies.of (hexc hb') (by assumption) (by assumption) (by assumption)
  )
theorem zall : ∀ z : Zst, Mine.take_want0_.zP1 (z.h 0) (z.n 0) (z.h 1) (z.n 1) := by refine @sk_all _ neZst _ ?_; with_unfolding_all exact zgo
end z1
theorem zgo : zA (zx.w) (zx.n 0) (zx.n 1) (zx.n 2) (zx.n 3) (zx.n 4) (zx.n 5) (zx.n 6) (zx.n 7) (zx.n 8) (zx.n 9) (zx.n 10) (zx.n 11) (zx.n 12) (zx.n 13) (zx.n 14) (zx.n 15) (zx.n 16) (zx.v 0) (zx.v 1) (zx.b 0) (zx.lv 0) (zx.lv 1) (zx.lu 0) (zx.lu 1) (zx.n 17) (zx.n 18) (zx.n 19) (zx.c) := zs.2 (by rw [← zp1]; exact fun y0 y1 y2 y3 => z1.zall (zmk zw zk0 [y1, y3] [] [] [] [] [] [y0, y2] [] [] [] [] [] [] [] [] []))
theorem zall : ∀ z : Zst, zA (z.w) (z.n 0) (z.n 1) (z.n 2) (z.n 3) (z.n 4) (z.n 5) (z.n 6) (z.n 7) (z.n 8) (z.n 9) (z.n 10) (z.n 11) (z.n 12) (z.n 13) (z.n 14) (z.n 15) (z.n 16) (z.v 0) (z.v 1) (z.b 0) (z.lv 0) (z.lv 1) (z.lu 0) (z.lu 1) (z.n 17) (z.n 18) (z.n 19) (z.c) := by refine @sk_all _ neZst _ ?_; with_unfolding_all exact zgo
end take_want0_
theorem take_want0 (w : World) (x d lw lo ls lt : Addr) (t1 t2 t3 t4 t5 t6 t7 : Tok) (n nw no ns : Nat) (dv sv : Value) (done : Bool) (uw uo : List Value) (row b : List UInt8) (hrow : row = [119, 97, 110, 116, 32] ++ b) (t : Tok) (k : Nat) (tn : Tok) (hb : b.length ≤ 2 * k) (hk9 : k ≤ 4) (huw : uw.length ≤ 1000) (huo : uo.length ≤ 1000) (hsd : [x, d, lw, lo].Nodup) :
  Spec w 192 [.ref x, .bytes row.toArray t, .int (k : Int) tn] 20 200 [(x, instObj 205 d), (d, frD w lw lo ls lt t1 t2 t3 t4 t5 t6 t7 n dv sv done), (lw, listOf uw.toArray nw), (lo, listOf uo.toArray no)]
   (fun v n' => isPlain b (2 * k) = true ∧ v = .none ∧ ∃ tv, n' = [(x, instObj 205 d), (d, frD w lw lo ls lt t1 t2 t3 t4 t5 t6 t7 n dv sv done), (lw, listOf (uw.concat (.bytes (unhex b).toArray tv)).toArray (nw + 1)), (lo, listOf uo.toArray no)]) (isPlain b (2 * k) = false) := Spec.cut fun zk => Mine.take_want0_.zall (zmk w zk [x, d, lw, lo, ls, lt, t1, t2, t3, t4, t5, t6, t7, n, nw, no, ns, t, k, tn] [] [done] [] [dv, sv] [] [] [] [uw, uo] [row, b] [] [] [] [] [] []) hrow hb hk9 huw huo hsd
end sPq
theorem fl33 : True := by first | walk1 | trivial

section sPr

local macro_rules | `(tactic| walk_at $s:str) => `(tactic| k_extra $(Lean.Syntax.mkStrLit ("S93." ++ s.getString)))
theorem zm28 : True := by
  (k_with "S93.CompRestT" => k_extra "R0")
  (k_with "S93.compareOp Eq bytes bytes" => k_extra "R52")
  (k_with "S93.call builtin:len" => k_extra "R59")
  (k_with "S93.subscriptTail" => k_extra "R60")
  (k_with "S93.call builtin:str.split" => k_extra "R61")
  (k_with "S93.call builtin:list.extend" => k_extra "R3")
  (k_with "S93.CompSrcT" => k_extra "R3")
  trivial
theorem restT_news {prog : Program} {w : World} {A : Around} {h₀ : Heap} {L : Addr} {m : PySem.Str → Option Value} {env : Env} {s : Shared} {ct elt : PySem.Expr} {x : PySem.Str} {scope : Scope} {cl : List (PySem.Str × Addr)} {Sx : List (Addr × Obj) → Prop} {P : Nat → Value → Prop} {Fin : List Value → List (Addr × Obj) → Prop} {n : Nat} {news : List (Addr × Obj)}
    (inv : Nat → List Value → Prop) (h0 : inv 0 [])
    (turn : ∀ i ys v I oI C oC D m₂ h tk (E' : Value → Shared → Prop), i < n → inv i ys → P i v → NsObj oC m₂ → m₂ x = some v → Fr h₀ L h m → News h₀ L h ((I, oI) :: (C, oC) :: (D, lst ys) :: news) → LCg.Off3 I C D news → ((@Ne Nat I C) ∧ (@Ne Nat I D) ∧ (@Ne Nat C D)) →
      wpAny (model prog w) A (isTrue ct (compEnvC scope cl C env) (eval ct (compEnvC scope cl C env))) (fun ok s' => if ok = true then
        wpAny (model prog w) A (eval elt (compEnvC scope cl C env)) (LCg.CompEnd h₀ L m { s with heap := h, toks := tk } I oI C oC D (lst ys) Sx (fun y nw' => nw' = news ∧ inv (i + 1) (ys ++ [y]))) E' s'
        else LCg.CompEnd h₀ L m { s with heap := h, toks := tk } I oI C oC D (lst ys) Sx (fun _ nw' => nw' = news ∧ inv (i + 1) ys) Value.none s') E' { s with heap := h, toks := tk })
    (fin : ∀ ys, inv n ys → Fin ys news) : LCt.CompRestT prog w A h₀ L m env ct elt x scope cl s Sx P Fin n 0 [] news := by
  refine restT_inv (fun i ys nw => nw = news ∧ inv i ys) ⟨rfl, h0⟩ ?_ ?_
  · rintro i ys nw v I oI C oC D m₂ h tk E' hi ⟨rfl, hv⟩ hp hC hx F N off ne
    exact turn i ys v I oI C oC D m₂ h tk E' hi hv hp hC hx F N off ne
  · rintro ys nw ⟨rfl, hv⟩
    exact fin ys hv
abbrev cuts (l : List UInt8) : List PySem.Str := Txt.split (strOf l) (Str.ofString " ")
abbrev kept (l : List PySem.Str) : List PySem.Str := l.filter (· != Str.ofString "")
theorem kept_snoc {l : List PySem.Str} {i : Nat} {y : PySem.Str} (h : l[i]? = some y) : kept (l.take (i + 1)) = kept (l.take i) ++ (if y != Str.ofString "" then [y] else []) := by
  rw [take_succ h]
  show List.filter _ _ = _
  rw [List.filter_append, List.filter_cons, List.filter_nil]
theorem ne_known {prog : Program} {w : World} {A : Around} {E : Value → Shared → Prop} {s : Shared} {x y : PySem.Str} {v : Bool} {t u : Tok} {Q : Value → Shared → Prop} (h : (x != y) = v) (q : Q (.bool v) s) : wpAny (model prog w) A (compareOp .NotEq (.str x t) (.str y u)) Q E s := by
  refine ne_str ?_
  rw [h]
  exact q
theorem zm29 : True := by
  (k_with "S93.compareOp NotEq str str" => k_extra "R62")
  trivial
structure Ap (x d : Addr) : Prop where
  h : x ≠ d
theorem Ap.s {x d : Addr} (a : Ap x d) : d ≠ x := a.h.symm
local macro_rules | `(tactic| k_ne) => `(tactic| k_extra "R63")
theorem zm30 : True := by
  (k_with "S93.tidy" => k_extra "R64")
  trivial
theorem no_longG {v u : List Value} (h : v.length + u.length ≤ 16777216) : ¬(!v.toArray.isEmpty && Builtin.List.listTooLong (v.toArray.size + u.toArray.size)) = true := by
  have e : Builtin.List.listTooLong (v.toArray.size + u.toArray.size) = false := by
    unfold Builtin.List.listTooLong
    simp only [List.size_toArray, decide_eq_false_iff_not]
    rw [sizeLine_eq]
    omega
  rw [e, Bool.and_false]
  exact Bool.false_ne_true
theorem ext_yG {v u : List Value} (h : v.length + u.length ≤ 16777216) : v.toArray.size + u.toArray.size ≤ sizeLine + 1 := by rw [sizeLine_eq]; show v.length + u.length ≤ _; omega
theorem strOf_ne {c : List UInt8} (h : c ≠ []) : (strOf c != Str.ofString "") = true := by
  rw [bne_iff_ne]
  intro e
  have e2 := congrArg (fun z : PySem.Str => z.cps.size) e
  have e3 : (Str.ofString "").cps.size = 0 := by decide +kernel
  rw [e3] at e2
  have e4 : (strOf c).cps.size = c.length := by simp [strOf, S]
  rw [e4] at e2
  exact h (List.length_eq_zero_iff.mp e2)
theorem item0 {c : List UInt8} (h : c ≠ []) : (Txt.item (strOf c) 0 != Str.ofString " ") = !(c.take 1 == [32]) := by
  rcases c with _ | ⟨a, r⟩
  · exact absurd rfl h
  · have e : Txt.item (strOf (a :: r)) 0 = S [a.toNat] := by
      unfold Txt.item strOf S Txt.charAt
      have e3 : seqIndex? 0 (PySem.Str.length ⟨((a :: r).map UInt8.toNat).toArray⟩) = some 0 := by
        unfold seqIndex? PySem.Str.length
        simp
      rw [e3]
      simp
    have e2 : Str.ofString " " = S [32] := by decide +kernel
    rw [e, e2]
    simp only [List.take_succ_cons, List.take_zero]
    by_cases ha : a = 32
    · subst ha; decide
    · have hn : a.toNat ≠ 32 := fun hh => ha (UInt8.toNat_inj.mp hh)
      have h1 : (S [a.toNat] != S [32]) = true := by
        rw [bne_iff_ne]
        intro hh
        have := congrArg (fun z : PySem.Str => z.cps.toList) hh
        simp at this
        exact hn this
      rw [h1]
      simp [ha]
theorem zm31 : True := by
  (k_with "S93.call ref" => k_extra "R65")
  (k_with "S93.call ref" => k_extra "R54")
  trivial
namespace take_want1_
def zA (w : World) (x : Addr) (d : Addr) (lw : Addr) (lo : Addr) (ls : Addr) (lt : Addr) (t1 : Tok) (t2 : Tok) (t3 : Tok) (t4 : Tok) (t5 : Tok) (t6 : Tok) (t7 : Tok) (n : Nat) (nw : Nat) (no : Nat) (ns : Nat) (dv : Value) (sv : Value) (done : Bool) (uw : List Value) (uo : List Value) (row : List UInt8) (b : List UInt8) (c : List UInt8) (t : Tok) (k : Nat) (tn : Tok) (zk : Cal) : Prop := ∀ (hrow : row = [119, 97, 110, 116, 32] ++ (b ++ c)), ∀ (hb : b.length = 2 * k), ∀ (hc : c.length ≤ 4000), ∀ (hk9 : k ≤ 4), ∀ (hc0 : c ≠ []), ∀ (huw : uw.length ≤ 1000), ∀ (huo : uo.length ≤ 1000), ∀ (hsd : [x, d, lw, lo].Nodup), SpecAt w 192 [.ref x, .bytes row.toArray t, .int (k : Int) tn] 20 200 [(x, instObj 205 d), (d, frD w lw lo ls lt t1 t2 t3 t4 t5 t6 t7 n dv sv done), (lw, listOf uw.toArray nw), (lo, listOf uo.toArray no)]
   (fun v n' => (isPlain b (2 * k) = true ∧ uw = [] ∧ c.take 1 = [32]) ∧ v = .none ∧ ∃ tv ys no', StrsAre ys (kept (cuts c)) ∧ n' = [(x, instObj 205 d), (d, frD w lw lo ls lt t1 t2 t3 t4 t5 t6 t7 n dv sv done), (lw, listOf (uw.concat (.bytes (unhex b).toArray tv)).toArray (nw + 1)), (lo, listOf (uo ++ ys).toArray no')])
   (¬ (isPlain b (2 * k) = true ∧ uw = [] ∧ c.take 1 = [32])) zk
@[irreducible] noncomputable def zx : Zst := sk neZst fun z => zA (z.w) (z.n 0) (z.n 1) (z.n 2) (z.n 3) (z.n 4) (z.n 5) (z.n 6) (z.n 7) (z.n 8) (z.n 9) (z.n 10) (z.n 11) (z.n 12) (z.n 13) (z.n 14) (z.n 15) (z.n 16) (z.v 0) (z.v 1) (z.b 0) (z.lv 0) (z.lv 1) (z.lu 0) (z.lu 1) (z.lu 2) (z.n 17) (z.n 18) (z.n 19) (z.c)
@[irreducible] noncomputable def d : Addr := zx.n 1
@[irreducible] noncomputable def uw : List Value := zx.lv 0
@[irreducible] noncomputable def uo : List Value := zx.lv 1
@[irreducible] noncomputable def row : List UInt8 := zx.lu 0
@[irreducible] noncomputable def b : List UInt8 := zx.lu 1
@[irreducible] noncomputable def c : List UInt8 := zx.lu 2
@[irreducible] noncomputable def k : Nat := zx.n 18
def zT (P1 : World → Addr → Addr → Addr → Addr → Addr → Addr → Tok → Tok → Tok → Tok → Tok → Tok → Tok → Nat → Nat → Nat → Nat → Value → Value → Bool → (List Value) → (List Value) → (List UInt8) → (List UInt8) → (List UInt8) → Tok → Nat → Tok → Cal → Heap → Addr → Heap → Nat → Prop) : Prop := ∀ w x d lw lo ls lt t1 t2 t3 t4 t5 t6 t7 n nw no ns dv sv done uw uo row b c t k tn zk, (∀ y0 y1 y2 y3, P1 w x d lw lo ls lt t1 t2 t3 t4 t5 t6 t7 n nw no ns dv sv done uw uo row b c t k tn zk y0 y1 y2 y3) → zA w x d lw lo ls lt t1 t2 t3 t4 t5 t6 t7 n nw no ns dv sv done uw uo row b c t k tn zk
noncomputable def zs : { P : Heap → Addr → Heap → Nat → Prop // (∀ y0 y1 y2 y3, P y0 y1 y2 y3) → zA (zx.w) (zx.n 0) d (zx.n 2) (zx.n 3) (zx.n 4) (zx.n 5) (zx.n 6) (zx.n 7) (zx.n 8) (zx.n 9) (zx.n 10) (zx.n 11) (zx.n 12) (zx.n 13) (zx.n 14) (zx.n 15) (zx.n 16) (zx.v 0) (zx.v 1) (zx.b 0) uw uo row b c (zx.n 17) k (zx.n 19) (zx.c) } := by
  refine' ⟨_, (_ : zT _) (zx.w) (zx.n 0) d (zx.n 2) (zx.n 3) (zx.n 4) (zx.n 5) (zx.n 6) (zx.n 7) (zx.n 8) (zx.n 9) (zx.n 10) (zx.n 11) (zx.n 12) (zx.n 13) (zx.n 14) (zx.n 15) (zx.n 16) (zx.v 0) (zx.v 1) (zx.b 0) uw uo row b c (zx.n 17) k (zx.n 19) (zx.c)⟩
  rotate_left 1
  · intro w x d lw lo ls lt t1 t2 t3 t4 t5 t6 t7 n nw no ns dv sv done uw uo row b c t k tn zk zR1 hrow hb hc hk9 hc0 huw huo hsd
    w_strict (
     simp only [List.nodup_cons, List.mem_cons, List.not_mem_nil, or_false, not_or, List.nodup_nil, and_true, not_false_eq_true] at hsd
     obtain ⟨⟨sxd, sxw, sxo⟩, ⟨sdw, sdo⟩, swo⟩ := hsd
     replace sxd := Ap.mk sxd; replace sxw := Ap.mk sxw; replace sxo := Ap.mk sxo; replace sdw := Ap.mk sdw; replace sdo := Ap.mk sdo; replace swo := Ap.mk swo
     have hbl : row.length = b.length + c.length + 5 := by rw [hrow]; simp only [List.length_append, List.length_cons, List.length_nil]; omega
     have q5 : (sliceL row none (some 5) == [119, 97, 110, 116, 32]) = true := by rw [sliceL_to row 5 5 rfl, hrow]; rfl
     have q55 : sliceL row (some 5) (some (5 + 2 * (k : Int))) = b := by
       rw [sliceL_mid row 5 (5 + 2 * k) 5 (5 + 2 * (k : Int)) rfl (by omega), hrow]
       show ((b ++ c).take _) = b
       rw [List.take_append_of_le_length (by omega), List.take_of_length_le (by omega)]
     have q5r : sliceL row (some (5 + 2 * (k : Int))) none = c := by
       rw [sliceL_from row (5 + 2 * k) (5 + 2 * (k : Int)) (by omega), hrow, ← List.append_assoc, List.drop_left' (by simp only [List.length_append, List.length_cons, List.length_nil]; omega)]
     rw [show unhex b = unhex (sliceL row (some 5) (some (5 + 2 * (k : Int)))) by rw [q55]]
     have q5l : (sliceL row (some 5) (some (5 + 2 * (k : Int)))).length ≤ 4096 := by rw [q55]; omega
     have q5rl : (sliceL row (some (5 + 2 * (k : Int))) none).length ≤ 4096 := by rw [q5r]; omega
     have q5s : (strOf (sliceL row (some (5 + 2 * (k : Int))) none)).length + 2 ≤ sizeLine := by
       rw [sizeLine_eq]
       show ((sliceL row (some (5 + 2 * (k : Int))) none).map UInt8.toNat).length + 2 ≤ _
       rw [List.length_map]
       omega
     have q5n : (strOf (sliceL row (some (5 + 2 * (k : Int))) none) != Str.ofString "") = true := by
       rw [q5r]
       exact strOf_ne hc0
     intro B F X N T hk hd hu hret hexc
     walk_at "my enter"
     (revert hrow hb hc hk9 hc0 huw huo sxd sxw sxo sdw sdo swo hbl q5 q55 q5r q5l q5rl q5s q5n B F X N T hk hd hu hret hexc FG' F' N' B' X' T' kG'; exact zR1 g' L' h' tk')
    )
@[irreducible] noncomputable def zP1 : Heap → Addr → Heap → Nat → Prop := Mine.take_want1_.zs.1
theorem zp1 : zP1 = Mine.take_want1_.zs.1 := by with_unfolding_all rfl
namespace z1
@[irreducible] noncomputable def zx : Zst := sk neZst fun z => Mine.take_want1_.zP1 (z.h 0) (z.n 0) (z.h 1) (z.n 1)
@[irreducible] noncomputable def g' : Heap := zx.h 0
def zT (P1 : Heap → Addr → Heap → Nat → Tok → Tok → Heap → Nat → Addr → (List (PySem.Str × Tok)) → Heap → Nat → Prop) : Prop := ∀ g' L' h' tk', (∀ y0 y1 y2 y3 y4 y5 y6 y7, P1 g' L' h' tk' y0 y1 y2 y3 y4 y5 y6 y7) → Mine.take_want1_.zs.1 g' L' h' tk'
noncomputable def zs : { P : Tok → Tok → Heap → Nat → Addr → (List (PySem.Str × Tok)) → Heap → Nat → Prop // (∀ y0 y1 y2 y3 y4 y5 y6 y7, P y0 y1 y2 y3 y4 y5 y6 y7) → Mine.take_want1_.zs.1 g' (zx.n 0) (zx.h 1) (zx.n 1) } := by
  refine' ⟨_, (_ : zT _) g' (zx.n 0) (zx.h 1) (zx.n 1)⟩
  rotate_left 1
  · intro g' L' h' tk' zR1 hrow hb hc hk9 hc0 huw huo sxd sxw sxo sdw sdo swo hbl q5 q55 q5r q5l q5rl q5s q5n B F X N T hk hd hu hret hexc FG' F' N' B' X' T' kG'
    w_strict (
     k_steps
     all_goals try (walk_at "call ref"; k_steps)
     · rename 1 < (_ : Int) => hlt9
       refine Flies.of (hexc ?_) (by assumption) (by assumption) (by assumption)
       rintro ⟨_, huw0, _⟩
       rw [huw0] at hlt9
       simp at hlt9
     · rename (Txt.item _ _ != _) = true => hit9
       refine Flies.of (hexc ?_) (by assumption) (by assumption) (by assumption)
       rintro ⟨_, _, h32⟩
       rw [q5r, item0 hc0, h32] at hit9
       exact absurd hit9 (by decide)
     · unfold Hold
       rename List.map _ _ = Txt.split _ _ => he9
       rename StrsAre _ (List.map _ _) => ha9
       rename ¬ (1 < (_ : Int)) => hlt9
       rename (Txt.item _ _ != _) = false => hit9
       rename isPlain _ _ = true => hpl9
       rw [he9] at ha9
       rw [q55] at hpl9
       rw [q5r, item0 hc0] at hit9
       replace hit9 : c.take 1 = [32] := by simpa using hit9
       replace hlt9 : uw = [] := by
         simp at hlt9
         exact List.length_eq_zero_iff.mp (by omega)
       have hlen9 := ha9.length
       have hcl9 := split_le (strOf (sliceL row (some (5 + 2 * (k : Int))) none)) (Str.ofString " ")
       walk_at "tidy"
       (rename_i zi1x1 zi1x2 zi1x3 zi1x4 zi1x5 zi1x6 zi1x7 zi1x8 zi1x9 zi1x10 zi1x11 zi1x12 zi1x13 zi1x14 zi1x15 zi1x16 zi1x17 zi1x18 zi1x19 zi1x20 zi1x21 zi1x22 zi1x23 zi1x24; revert hrow hb hc hk9 hc0 huw huo sxd sxw sxo sdw sdo swo hbl q5 q55 q5r q5l q5rl q5s zi1x3 B X T hk hd hu hret hexc B' X' T' kG' hpl9 zi1x24 he9 ha9 l1 hit9 hlt9 hlen9 hcl9 z8 z7 lF9 lN9; exact zR1 zi1x11 t' zi1x22 tk D' l' h' k')
     · rename isPlain _ _ = false => hb9
       refine Flies.of (hexc ?_) (by assumption) (by assumption) (by assumption)
       rintro ⟨h1, _, _⟩
       rw [q55] at hb9
       rw [hb9] at h1
       exact absurd h1 (by decide)
    )
@[irreducible] noncomputable def zP1 : Tok → Tok → Heap → Nat → Addr → (List (PySem.Str × Tok)) → Heap → Nat → Prop := Mine.take_want1_.z1.zs.1
theorem zp1 : zP1 = Mine.take_want1_.z1.zs.1 := by with_unfolding_all rfl
namespace z1
@[irreducible] noncomputable def zx : Zst × (List (PySem.Str × Tok)) := sk ⟨(Classical.choice neZst, default)⟩ fun z => Mine.take_want1_.z1.zP1 (z.1.n 0) (z.1.n 1) (z.1.h 0) (z.1.n 2) (z.1.n 3) (z.2) (z.1.h 1) (z.1.n 4)
def zT (P1 : Tok → Tok → Heap → Nat → Addr → (List (PySem.Str × Tok)) → Heap → Nat → (List Value) → Addr → Heap → Nat → Prop) : Prop := ∀ zi1x11 t' zi1x22 tk D' l' h' k', (∀ y0 y1 y2 y3, P1 zi1x11 t' zi1x22 tk D' l' h' k' y0 y1 y2 y3) → Mine.take_want1_.z1.zs.1 zi1x11 t' zi1x22 tk D' l' h' k'
noncomputable def zs : { P : (List Value) → Addr → Heap → Nat → Prop // (∀ y0 y1 y2 y3, P y0 y1 y2 y3) → Mine.take_want1_.z1.zs.1 (zx.1.n 0) (zx.1.n 1) (zx.1.h 0) (zx.1.n 2) (zx.1.n 3) (zx.2) (zx.1.h 1) (zx.1.n 4) } := by
  refine' ⟨_, (_ : zT _) (zx.1.n 0) (zx.1.n 1) (zx.1.h 0) (zx.1.n 2) (zx.1.n 3) (zx.2) (zx.1.h 1) (zx.1.n 4)⟩
  rotate_left 1
  · intro zi1x11 t' zi1x22 tk D' l' h' k' zR1 hrow hb hc hk9 hc0 huw huo sxd sxw sxo sdw sdo swo hbl q5 q55 q5r q5l q5rl q5s zi1x3 B X T hk hd hu hret hexc B' X' T' kG' hpl9 zi1x24 he9 ha9 l1 hit9 hlt9 hlen9 hcl9 z8 z7 lF9 lN9
    w_strict (
     refine LCt.CompSrcT.ledger (by rfl) (by k_asm) (by k_asm) (by k_mem) (by rw [List.size_toArray]; omega) ?_
     intro g'
     refine restT_news (fun i ys => StrsAre ys (kept ((cuts (sliceL row (some (5 + 2 * (k : Int))) none)).take i))) .nil ?_ ?_
     · rintro i ys v I oI C oC D m₂ h tk E' hi hys hv hoC hx F₁ N₁ off ne
       obtain ⟨y9, t9, rfl, hy9⟩ := ha9.item i v (by simpa using hv)
       simp only [LCg.Off3, and_true] at off
       clear he9 hlt9 hit9 hpl9 q55 q5r q5l q5rl q5s q5 hbl hcl9 hrow hb hc hc0
       walk_at "tidy"
       k_steps
       · rename (y9 != _) = true => hy8
         rw [kept_snoc hy9, if_pos hy8]
         exact hys.append' (.cons _ _ .nil)
       · rename (y9 != _) = false => hy8
         rw [kept_snoc hy9, if_neg (by rw [hy8]; exact Bool.false_ne_true), List.append_nil]
         exact hys
     · intro ys hys
       walk_at "tidy"
       k_steps
       unfold Hold
       rw [List.size_toArray, hlen9, List.take_length] at hys
       rw [q5r] at hys hcl9
       have hyn9 : uo.length + ys.length ≤ 16777216 := by
         have h1 : ys.length = (kept (cuts c)).length := hys.length
         have h2 : (kept (cuts c)).length ≤ (cuts c).length := List.length_filter_le _ _
         have h3 : (cuts c).length ≤ (strOf c).length + 2 := hcl9
         have h4 : (strOf c).length = c.length := by
           show (c.map UInt8.toNat).length = _
           rw [List.length_map]
         omega
       (rename_i zi2x1 zi2x2 zi2x3 zi2x4 zi2x5 zi2x6; revert hrow hb hc hk9 hc0 huw huo sxd sxw sxo sdw sdo swo hbl q5 q55 q5r q5l q5rl q5s zi1x3 B X T hk hd hu hret hexc B' X' T' kG' hpl9 zi1x24 he9 ha9 l1 hit9 hlt9 hlen9 hcl9 z8 z7 hys lF9 lN9 zi2x4 zi2x5 zi2x6 hyn9; exact zR1 ys zi2x1 zi2x2 zi2x3)
    )
@[irreducible] noncomputable def zP1 : (List Value) → Addr → Heap → Nat → Prop := Mine.take_want1_.z1.z1.zs.1
theorem zp1 : zP1 = Mine.take_want1_.z1.z1.zs.1 := by with_unfolding_all rfl
namespace z1
@[irreducible] noncomputable def zx : Zst := sk neZst fun z => Mine.take_want1_.z1.z1.zP1 (z.lv 0) (z.n 0) (z.h 0) (z.n 1)
theorem zgo : Mine.take_want1_.z1.z1.zP1 (zx.lv 0) (zx.n 0) (zx.h 0) (zx.n 1) := by
  refine' zcast Mine.take_want1_.z1.z1.zp1 (fun zf => zf (zx.lv 0) (zx.n 0) (zx.h 0) (zx.n 1)) ((_ : ∀ ys zi2x1 zi2x2 zi2x3, Mine.take_want1_.z1.z1.zs.1 ys zi2x1 zi2x2 zi2x3) (zx.lv 0) (zx.n 0) (zx.h 0) (zx.n 1))
  intro ys zi2x1 zi2x2 zi2x3 hrow hb hc hk9 hc0 huw huo sxd sxw sxo sdw sdo swo hbl q5 q55 q5r q5l q5rl q5s zi1x3 B X T hk hd hu hret hexc B' X' T' kG' hpl9 zi1x24 he9 ha9 l1 hit9 hlt9 hlen9 hcl9 z8 z7 hys lF9 lN9 zi2x4 zi2x5 zi2x6 hyn9
  w_strict (
   by_cases hy0 : ys = []
   · subst hy0
     with_reducible refine' kxn_extend ?F ?N ?b ?e ?U ?d ?z ?y ?_
     case F => k_asm
     case N => k_asm
     case b => k_mem
     case e => exact rfl
     case U => k_upd
     case d => exact no_long (by assumption)
     case z => exact ext_z (by assumption)
     case y => exact ext_y (by assumption)
     k_steps
     (refine' hret _ _ _ _ ⟨⟨hpl9, hlt9, hit9⟩, rfl, _, _, _, hys, by rw [List.append_nil]⟩ ?zF233 ?zN233 ?zK233; (case zF233 => assumption); (case zN233 => (refine News.sub_J (by assumption) ?_; walk_at "sub here")); (case zK233 => exact kept_of (by assumption) (by assumption) (News.sub_J (by assumption) (by walk_at "sub here"))))
   · with_reducible refine' kl_extend ?F ?N ?b ?e ?ne ?U ?d ?z ?y ?_
     case F => k_asm
     case N => k_asm
     case b => k_mem
     case e => exact rfl
     case ne => exact fun hh => hy0 (List.length_eq_zero_iff.mp hh)
     case U => k_upd
     case d => exact no_longG hyn9
     case z => exact ext_z (by assumption)
     case y => exact ext_yG hyn9
     k_steps
     (refine' hret _ _ _ _ ⟨⟨hpl9, hlt9, hit9⟩, rfl, _, _, _, hys, rfl⟩ ?zF245 ?zN245 ?zK245; (case zF245 => assumption); (case zN245 => (refine News.sub_J (by assumption) ?_; walk_at "sub here")); (case zK245 => exact kept_of (by assumption) (by assumption) (News.sub_J (by assumption) (by walk_at "sub here"))))
  )
theorem zall : ∀ z : Zst, Mine.take_want1_.z1.z1.zP1 (z.lv 0) (z.n 0) (z.h 0) (z.n 1) := by refine @sk_all _ neZst _ ?_; with_unfolding_all exact zgo
end z1
theorem zgo : Mine.take_want1_.z1.zP1 (zx.1.n 0) (zx.1.n 1) (zx.1.h 0) (zx.1.n 2) (zx.1.n 3) (zx.2) (zx.1.h 1) (zx.1.n 4) := zcast Mine.take_want1_.z1.zp1 (fun zf => zf (zx.1.n 0) (zx.1.n 1) (zx.1.h 0) (zx.1.n 2) (zx.1.n 3) (zx.2) (zx.1.h 1) (zx.1.n 4)) (zs.2 (by rw [← zp1]; exact fun y0 y1 y2 y3 => z1.zall (zmk zw zk0 [y1, y3] [] [] [] [] [] [y2] [] [y0] [] [] [] [] [] [] [])))
theorem zall : ∀ z : Zst × (List (PySem.Str × Tok)), Mine.take_want1_.z1.zP1 (z.1.n 0) (z.1.n 1) (z.1.h 0) (z.1.n 2) (z.1.n 3) (z.2) (z.1.h 1) (z.1.n 4) := by refine @sk_all _ ⟨(Classical.choice neZst, default)⟩ _ ?_; with_unfolding_all exact zgo
end z1
theorem zgo : Mine.take_want1_.zP1 g' (zx.n 0) (zx.h 1) (zx.n 1) := zcast Mine.take_want1_.zp1 (fun zf => zf g' (zx.n 0) (zx.h 1) (zx.n 1)) (zs.2 (by rw [← zp1]; exact fun y0 y1 y2 y3 y4 y5 y6 y7 => z1.zall ((zmk zw zk0 [y0, y1, y3, y4, y7] [] [] [] [] [] [y2, y6] [] [] [] [] [] [] [] [] []), y5)))
theorem zall : ∀ z : Zst, Mine.take_want1_.zP1 (z.h 0) (z.n 0) (z.h 1) (z.n 1) := by refine @sk_all _ neZst _ ?_; with_unfolding_all exact zgo
end z1
theorem zgo : zA (zx.w) (zx.n 0) d (zx.n 2) (zx.n 3) (zx.n 4) (zx.n 5) (zx.n 6) (zx.n 7) (zx.n 8) (zx.n 9) (zx.n 10) (zx.n 11) (zx.n 12) (zx.n 13) (zx.n 14) (zx.n 15) (zx.n 16) (zx.v 0) (zx.v 1) (zx.b 0) uw uo row b c (zx.n 17) k (zx.n 19) (zx.c) := zs.2 (by rw [← zp1]; exact fun y0 y1 y2 y3 => z1.zall (zmk zw zk0 [y1, y3] [] [] [] [] [] [y0, y2] [] [] [] [] [] [] [] [] []))
theorem zall : ∀ z : Zst, zA (z.w) (z.n 0) (z.n 1) (z.n 2) (z.n 3) (z.n 4) (z.n 5) (z.n 6) (z.n 7) (z.n 8) (z.n 9) (z.n 10) (z.n 11) (z.n 12) (z.n 13) (z.n 14) (z.n 15) (z.n 16) (z.v 0) (z.v 1) (z.b 0) (z.lv 0) (z.lv 1) (z.lu 0) (z.lu 1) (z.lu 2) (z.n 17) (z.n 18) (z.n 19) (z.c) := by refine @sk_all _ neZst _ ?_; with_unfolding_all exact zgo
end take_want1_
theorem take_want1 (w : World) (x d lw lo ls lt : Addr) (t1 t2 t3 t4 t5 t6 t7 : Tok) (n nw no ns : Nat) (dv sv : Value) (done : Bool) (uw uo : List Value) (row b c : List UInt8) (hrow : row = [119, 97, 110, 116, 32] ++ (b ++ c)) (t : Tok) (k : Nat) (tn : Tok) (hb : b.length = 2 * k) (hc : c.length ≤ 4000) (hk9 : k ≤ 4) (hc0 : c ≠ []) (huw : uw.length ≤ 1000) (huo : uo.length ≤ 1000) (hsd : [x, d, lw, lo].Nodup) :
  Spec w 192 [.ref x, .bytes row.toArray t, .int (k : Int) tn] 20 200 [(x, instObj 205 d), (d, frD w lw lo ls lt t1 t2 t3 t4 t5 t6 t7 n dv sv done), (lw, listOf uw.toArray nw), (lo, listOf uo.toArray no)]
   (fun v n' => (isPlain b (2 * k) = true ∧ uw = [] ∧ c.take 1 = [32]) ∧ v = .none ∧ ∃ tv ys no', StrsAre ys (kept (cuts c)) ∧ n' = [(x, instObj 205 d), (d, frD w lw lo ls lt t1 t2 t3 t4 t5 t6 t7 n dv sv done), (lw, listOf (uw.concat (.bytes (unhex b).toArray tv)).toArray (nw + 1)), (lo, listOf (uo ++ ys).toArray no')])
   (¬ (isPlain b (2 * k) = true ∧ uw = [] ∧ c.take 1 = [32])) := Spec.cut fun zk => Mine.take_want1_.zall (zmk w zk [x, d, lw, lo, ls, lt, t1, t2, t3, t4, t5, t6, t7, n, nw, no, ns, t, k, tn] [] [done] [] [dv, sv] [] [] [] [uw, uo] [row, b, c] [] [] [] [] [] []) hrow hb hc hk9 hc0 huw huo hsd
end sPr
theorem fl34 : True := by first | walk1 | trivial

theorem zset2 : True := by
  (k_with "NC1" => skip)
  trivial
section sPs

theorem hide_mono {h : Heap} {as bs : List Addr} (hs : ∀ a ∈ as, a ∈ bs) (b : Addr) (o : Obj) (q : (hideAll h bs).get? b = some o) : (hideAll h as).get? b = some o := by
  refine hideAll_get _ (of_hideAll _ q) (fun m => ?_)
  rw [hideAll_none _ (hs b m)] at q
  cases q
theorem Flies.sub {base : Heap} {l : List Env} {s : Shared} {mine mine2 : List (Addr × Obj)} {E : Value → Shared → Prop} (H : Flies base l s mine2 E) (hs : ∀ a ∈ mine.map (·.1), a ∈ mine2.map (·.1)) : Flies base l s mine E := by
  intro e t vs h' tk R U
  refine H e t vs h' tk ?_ (fun b o q n => U b o (hide_mono hs b o q) n)
  obtain ⟨⟨Bh, h1, h2, h3, h4, h5⟩, h6⟩ := R
  refine ⟨⟨Bh, h1, fun b o q n => h2 b o (hide_mono hs b o q) n, ?_, h4, h5⟩, h6⟩
  intro _ hp
  cases hp
theorem Spec.frame {w : World} {f : Addr} {vs : List Value} {dn un : Nat} {mine rest : List (Addr × Obj)} {ok : Value → List (Addr × Obj) → Prop} {bad : Prop} (C : Spec w f vs dn un mine ok bad) (hs : ∀ p ∈ rest, p.1 ∉ mine.map (·.1)) :
    Spec w f vs dn un (mine ++ rest) (fun v n' => ∃ n1, n' = n1 ++ rest ∧ ok v n1) bad := by
  intro dp ut gd cn cs a ccd cl outer A₀ base h₀ L m mg mb mean s Q E B F X N T hk hd hu hret hexc
  refine C.use rest B F X N T hk hd hu (fun p hp => List.mem_append.mpr (.inl hp)) (fun p hp => List.mem_append.mpr (.inr hp)) hs (fun v h' tk' mine' hok F' N' K' => hret v h' tk' (mine' ++ rest) ⟨mine', rfl, hok⟩ F' N' ?_) (fun hb => (hexc hb).sub (fun a ha => by rw [List.map_append]; exact List.mem_append.mpr (.inl ha)))
  refine ⟨fun b o e n => K'.keep b o e (fun q => n (by rw [List.map_append]; exact List.mem_append.mpr (.inl q))), fun p hp => ?_⟩
  rw [List.map_append]
  rcases List.mem_append.mp hp with h1 | h1
  · rcases K'.fresh p h1 with h2 | h2
    · exact .inl (List.mem_append.mpr (.inl h2))
    · exact .inr h2
  · exact .inl (List.mem_append.mpr (.inr (List.mem_map.mpr ⟨p, h1, rfl⟩)))
structure St where
  wants : List (List UInt8)
  words : List PySem.Str
  shallow : List (List UInt8)
  depth : Option Int
  since : Option Int
inductive OptI : Option Int → Value → Prop
  | none : OptI none .none
  | some (i : Int) (t : Tok) : OptI (some i) (.int i t)
abbrev WANT : List UInt8 := [119, 97, 110, 116, 32]
abbrev SHAL : List UInt8 := [115, 104, 97, 108, 108, 111, 119, 32]
abbrev DEEP : List UInt8 := [100, 101, 101, 112, 101, 110, 32]
abbrev SINC : List UInt8 := [100, 101, 101, 112, 101, 110, 45, 115, 105, 110, 99, 101, 32]
def takeP (k : Nat) (st : St) (row : List UInt8) : Option St :=
  if row.take 5 = WANT then
    if isPlain ((row.drop 5).take (2 * k)) (2 * k) = true ∧ ((row.drop 5).drop (2 * k) = [] ∨ (st.wants = [] ∧ ((row.drop 5).drop (2 * k)).take 1 = [32])) then
      some { st with wants := st.wants ++ [unhex ((row.drop 5).take (2 * k))], words := st.words ++ kept (cuts ((row.drop 5).drop (2 * k))) }
    else none
  else if row.take 8 = SHAL then
    if isPlain (row.drop 8) (2 * k) = true then some { st with shallow := st.shallow ++ [unhex (row.drop 8)] } else none
  else if row.take 7 = DEEP then
    match Mine.numOf (row.drop 7) with
    | some m => if m = 0 then none else some { st with depth := some m }
    | none => none
  else if row.take 13 = SINC then
    match Mine.numOf (row.drop 13) with
    | some m => some { st with since := some m }
    | none => none
  else none
inductive StLed (w : World) (x d lw lo ls lt : Addr) (st : St) : List (Addr × Obj) → Prop
  | mk (t1 t2 t3 t4 t5 t6 t7 : Tok) (n nw no ns : Nat) (dv sv : Value) (uw uo us : List Value) : RowsAre uw st.wants → StrsAre uo st.words → RowsAre us st.shallow → OptI st.depth dv → OptI st.since sv →
    StLed w x d lw lo ls lt st [(x, instObj 205 d), (d, frD w lw lo ls lt t1 t2 t3 t4 t5 t6 t7 n dv sv false), (lw, listOf uw.toArray nw), (lo, listOf uo.toArray no), (ls, listOf us.toArray ns)]
theorem off_of {mine rest : List (Addr × Obj)} (h : ((mine ++ rest).map (·.1)).Nodup) : ∀ p ∈ rest, p.1 ∉ mine.map (·.1) := by
  rw [List.map_append, List.nodup_append] at h
  intro p hp hm
  exact h.2.2 _ hm _ (List.mem_map.mpr ⟨p, hp, rfl⟩) rfl
theorem kept_nil : kept (cuts []) = [] := by decide +kernel
theorem nd_take {l : List Addr} {n : Nat} (h : l.Nodup) : (l.take n).Nodup := h.sublist (List.take_sublist n l)
theorem take_split {α : Type} {l p : List α} {n : Nat} (h : l.take n = p) : l = p ++ l.drop n := by rw [← h, List.take_append_drop]
namespace take_allE_
def zA (w : World) (x : Addr) (d : Addr) (lw : Addr) (lo : Addr) (ls : Addr) (lt : Addr) (st : St) (t1 : Tok) (t2 : Tok) (t3 : Tok) (t4 : Tok) (t5 : Tok) (t6 : Tok) (t7 : Tok) (n : Nat) (nw : Nat) (no : Nat) (ns : Nat) (dv : Value) (sv : Value) (uw : List Value) (uo : List Value) (us : List Value) (row : List UInt8) (t : Tok) (k : Nat) (tn : Tok) : Prop := ∀ (hR : RowsAre uw st.wants), ∀ (hO : StrsAre uo st.words), ∀ (hS : RowsAre us st.shallow), ∀ (hD : OptI st.depth dv), ∀ (hN : OptI st.since sv), ∀ (hb : row.length ≤ 3000), ∀ (hk9 : k ≤ 4), ∀ (hw : st.wants.length ≤ 1000), ∀ (ho : st.words.length ≤ 1000), ∀ (hs : st.shallow.length ≤ 1000), ∀ (hsd : [x, d, lw, lo, ls].Nodup), Spec w 192 [.ref x, .bytes row.toArray t, .int (k : Int) tn] 20 200 [(x, instObj 205 d), (d, frD w lw lo ls lt t1 t2 t3 t4 t5 t6 t7 n dv sv false), (lw, listOf uw.toArray nw), (lo, listOf uo.toArray no), (ls, listOf us.toArray ns)] (fun v n' => v = .none ∧ ∃ st', takeP k st row = some st' ∧ StLed w x d lw lo ls lt st' n') (takeP k st row = none)
@[irreducible] noncomputable def zx : Zst × St := sk ⟨(Classical.choice neZst, ⟨[], [], [], none, none⟩)⟩ fun z => zA (z.1.w) (z.1.n 0) (z.1.n 1) (z.1.n 2) (z.1.n 3) (z.1.n 4) (z.1.n 5) (z.2) (z.1.n 6) (z.1.n 7) (z.1.n 8) (z.1.n 9) (z.1.n 10) (z.1.n 11) (z.1.n 12) (z.1.n 13) (z.1.n 14) (z.1.n 15) (z.1.n 16) (z.1.v 0) (z.1.v 1) (z.1.lv 0) (z.1.lv 1) (z.1.lv 2) (z.1.lu 0) (z.1.n 17) (z.1.n 18) (z.1.n 19)
theorem zgo : zA (zx.1.w) (zx.1.n 0) (zx.1.n 1) (zx.1.n 2) (zx.1.n 3) (zx.1.n 4) (zx.1.n 5) (zx.2) (zx.1.n 6) (zx.1.n 7) (zx.1.n 8) (zx.1.n 9) (zx.1.n 10) (zx.1.n 11) (zx.1.n 12) (zx.1.n 13) (zx.1.n 14) (zx.1.n 15) (zx.1.n 16) (zx.1.v 0) (zx.1.v 1) (zx.1.lv 0) (zx.1.lv 1) (zx.1.lv 2) (zx.1.lu 0) (zx.1.n 17) (zx.1.n 18) (zx.1.n 19) := by
  refine' (_ : ∀ w x d lw lo ls lt st t1 t2 t3 t4 t5 t6 t7 n nw no ns dv sv uw uo us row t k tn, zA w x d lw lo ls lt st t1 t2 t3 t4 t5 t6 t7 n nw no ns dv sv uw uo us row t k tn) (zx.1.w) (zx.1.n 0) (zx.1.n 1) (zx.1.n 2) (zx.1.n 3) (zx.1.n 4) (zx.1.n 5) (zx.2) (zx.1.n 6) (zx.1.n 7) (zx.1.n 8) (zx.1.n 9) (zx.1.n 10) (zx.1.n 11) (zx.1.n 12) (zx.1.n 13) (zx.1.n 14) (zx.1.n 15) (zx.1.n 16) (zx.1.v 0) (zx.1.v 1) (zx.1.lv 0) (zx.1.lv 1) (zx.1.lv 2) (zx.1.lu 0) (zx.1.n 17) (zx.1.n 18) (zx.1.n 19)
  intro w x d lw lo ls lt st t1 t2 t3 t4 t5 t6 t7 n nw no ns dv sv uw uo us row t k tn hR hO hS hD hN hb hk9 hw ho hs hsd
  have hwl := hR.length
  have hol := hO.length
  have hsl := hS.length
  unfold takeP
  by_cases h5 : row.take 5 = WANT
  · simp only [h5, if_true]
    have hrow := take_split h5
    by_cases hc : (row.drop 5).drop (2 * k) = []
    · have hcl := congrArg List.length hc
      simp only [List.length_drop, List.length_nil] at hcl
      have C := (take_want0 w x d lw lo ls lt t1 t2 t3 t4 t5 t6 t7 n nw no ns dv sv false uw uo row (row.drop 5) hrow t k tn (by rw [List.length_drop]; omega) hk9 (by omega) (by omega) (nd_take (n := 4) hsd)).frame (rest := [(ls, listOf us.toArray ns)]) (off_of (by exact hsd))
      have ht : (row.drop 5).take (2 * k) = row.drop 5 := List.take_of_length_le (by rw [List.length_drop]; omega)
      rw [ht, hc]
      refine C.mono ?_ ?_
      · rintro v n' ⟨n1, rfl, hp, rfl, tv, rfl⟩
        refine ⟨rfl, { st with wants := st.wants ++ [unhex (row.drop 5)], words := st.words ++ kept (cuts []) }, by rw [if_pos ⟨hp, .inl rfl⟩], _, _, _, _, _, _, _, n, nw + 1, no, ns, dv, sv, _, uo, us, ?_, ?_, hS, hD, hN⟩
        · rw [List.concat_eq_append]; exact hR.snoc _ _
        · dsimp only; rw [kept_nil, List.append_nil]; exact hO
      · intro hp
        rw [if_neg]
        rintro ⟨h1, _⟩
        rw [hp] at h1
        exact absurd h1 Bool.false_ne_true
    · have hcl : 2 * k < (row.drop 5).length := by
        rcases Nat.lt_or_ge (2 * k) (row.drop 5).length with h | h
        · exact h
        · exact absurd (List.drop_of_length_le h) hc
      have C := (take_want1 w x d lw lo ls lt t1 t2 t3 t4 t5 t6 t7 n nw no ns dv sv false uw uo row ((row.drop 5).take (2 * k)) ((row.drop 5).drop (2 * k)) (by rw [List.take_append_drop]; exact hrow) t k tn (by rw [List.length_take]; omega) (by rw [List.length_drop, List.length_drop]; omega) hk9 hc (by omega) (by omega) (nd_take (n := 4) hsd)).frame (rest := [(ls, listOf us.toArray ns)]) (off_of (by exact hsd))
      refine C.mono ?_ ?_
      · rintro v n' ⟨n1, rfl, ⟨hp, hu0, h32⟩, rfl, tv, ys, no', hys, rfl⟩
        have hw0 : st.wants = [] := List.length_eq_zero_iff.mp (by rw [← hwl, hu0]; rfl)
        refine ⟨rfl, { st with wants := st.wants ++ [unhex ((row.drop 5).take (2 * k))], words := st.words ++ kept (cuts ((row.drop 5).drop (2 * k))) }, by rw [if_pos ⟨hp, .inr ⟨hw0, h32⟩⟩], _, _, _, _, _, _, _, n, nw + 1, no', ns, dv, sv, _, uo ++ ys, us, ?_, ?_, hS, hD, hN⟩
        · rw [List.concat_eq_append]; exact hR.snoc _ _
        · exact hO.append' hys
      · intro hp
        rw [if_neg]
        rintro ⟨h1, h2 | ⟨h2, h3⟩⟩
        · exact hc h2
        · exact hp ⟨h1, List.length_eq_zero_iff.mp (by rw [hwl, h2]; rfl), h3⟩
  by_cases h8 : row.take 8 = SHAL
  · simp only [h5, h8, if_true, if_false]
    have hrow := take_split h8
    have C := take_shallow w x d lw lo ls lt t1 t2 t3 t4 t5 t6 t7 n nw no ns dv sv false uw uo us row (row.drop 8) hrow t k tn (by rw [List.length_drop]; omega) hk9 (by omega) hsd
    refine C.mono ?_ ?_
    · rintro v n' ⟨hp, rfl, tv, rfl⟩
      refine ⟨rfl, { st with shallow := st.shallow ++ [unhex (row.drop 8)] }, by rw [if_pos hp], _, _, _, _, _, _, _, n, nw, no, ns + 1, dv, sv, uw, uo, _, hR, hO, ?_, hD, hN⟩
      rw [List.concat_eq_append]; exact hS.snoc _ _
    · intro hp
      rw [if_neg (by rw [hp]; exact Bool.false_ne_true)]
  by_cases h7 : row.take 7 = DEEP
  · simp only [h5, h8, h7, if_true, if_false]
    have hrow := take_split h7
    have C := (take_deepen w x d lw lo ls lt t1 t2 t3 t4 t5 t6 t7 n dv sv false row (row.drop 7) hrow t k tn (by rw [List.length_drop]; omega) hk9 (nd_take (n := 2) hsd)).frame (rest := [(lw, listOf uw.toArray nw), (lo, listOf uo.toArray no), (ls, listOf us.toArray ns)]) (off_of (by exact hsd))
    refine C.mono ?_ ?_
    · rintro v n' ⟨n1, rfl, rfl, m, t4', tv, hm, h0, rfl⟩
      refine ⟨rfl, { st with depth := some m }, by rw [hm]; dsimp only; rw [if_neg h0], _, _, _, _, _, _, _, n, nw, no, ns, _, sv, uw, uo, us, hR, hO, hS, .some m tv, hN⟩
    · rintro (h | h) <;> rw [h]
      dsimp only
      rw [if_pos rfl]
  by_cases h13 : row.take 13 = SINC
  · simp only [h5, h8, h7, h13, if_true, if_false]
    have hrow := take_split h13
    have C := (take_since w x d lw lo ls lt t1 t2 t3 t4 t5 t6 t7 n dv sv false row (row.drop 13) hrow t k tn (by rw [List.length_drop]; omega) hk9 (nd_take (n := 2) hsd)).frame (rest := [(lw, listOf uw.toArray nw), (lo, listOf uo.toArray no), (ls, listOf us.toArray ns)]) (off_of (by exact hsd))
    refine C.mono ?_ ?_
    · rintro v n' ⟨n1, rfl, rfl, m, t4', tv, hm, rfl⟩
      refine ⟨rfl, { st with since := some m }, by rw [hm], _, _, _, _, _, _, _, n, nw, no, ns, dv, _, uw, uo, us, hR, hO, hS, hD, .some m tv⟩
    · intro h
      rw [h]
  · simp only [h5, h8, h7, h13, if_false]
    exact (take_bad w x d (instObj 205 d) row t k tn (by omega) hk9 h5 h8 h7 h13 _).mono (fun _ _ h => h.elim) (fun _ => trivial)
theorem zall : ∀ z : Zst × St, zA (z.1.w) (z.1.n 0) (z.1.n 1) (z.1.n 2) (z.1.n 3) (z.1.n 4) (z.1.n 5) (z.2) (z.1.n 6) (z.1.n 7) (z.1.n 8) (z.1.n 9) (z.1.n 10) (z.1.n 11) (z.1.n 12) (z.1.n 13) (z.1.n 14) (z.1.n 15) (z.1.n 16) (z.1.v 0) (z.1.v 1) (z.1.lv 0) (z.1.lv 1) (z.1.lv 2) (z.1.lu 0) (z.1.n 17) (z.1.n 18) (z.1.n 19) := by refine @sk_all _ ⟨(Classical.choice neZst, ⟨[], [], [], none, none⟩)⟩ _ ?_; with_unfolding_all exact zgo
end take_allE_
theorem take_allE (w : World) (x d lw lo ls lt : Addr) (st : St) (t1 t2 t3 t4 t5 t6 t7 : Tok) (n nw no ns : Nat) (dv sv : Value) (uw uo us : List Value) (hR : RowsAre uw st.wants) (hO : StrsAre uo st.words) (hS : RowsAre us st.shallow) (hD : OptI st.depth dv) (hN : OptI st.since sv) (row : List UInt8) (t : Tok) (k : Nat) (tn : Tok) (hb : row.length ≤ 3000) (hk9 : k ≤ 4)
    (hw : st.wants.length ≤ 1000) (ho : st.words.length ≤ 1000) (hs : st.shallow.length ≤ 1000) (hsd : [x, d, lw, lo, ls].Nodup) :
    Spec w 192 [.ref x, .bytes row.toArray t, .int (k : Int) tn] 20 200 [(x, instObj 205 d), (d, frD w lw lo ls lt t1 t2 t3 t4 t5 t6 t7 n dv sv false), (lw, listOf uw.toArray nw), (lo, listOf uo.toArray no), (ls, listOf us.toArray ns)] (fun v n' => v = .none ∧ ∃ st', takeP k st row = some st' ∧ StLed w x d lw lo ls lt st' n') (takeP k st row = none) := Mine.take_allE_.zall ((zmk w zk0 [x, d, lw, lo, ls, lt, t1, t2, t3, t4, t5, t6, t7, n, nw, no, ns, t, k, tn] [] [] [] [dv, sv] [] [] [] [uw, uo, us] [row] [] [] [] [] [] []), st) hR hO hS hD hN hb hk9 hw ho hs hsd
theorem take_all (w : World) (x d lw lo ls lt : Addr) (st : St) (mine : List (Addr × Obj)) (hl : StLed w x d lw lo ls lt st mine) (row : List UInt8) (t : Tok) (k : Nat) (tn : Tok) (hb : row.length ≤ 3000) (hk9 : k ≤ 4)
    (hw : st.wants.length ≤ 1000) (ho : st.words.length ≤ 1000) (hs : st.shallow.length ≤ 1000) (hsd : [x, d, lw, lo, ls].Nodup) :
    Spec w 192 [.ref x, .bytes row.toArray t, .int (k : Int) tn] 20 200 mine (fun v n' => v = .none ∧ ∃ st', takeP k st row = some st' ∧ StLed w x d lw lo ls lt st' n') (takeP k st row = none) := by
  obtain ⟨t1, t2, t3, t4, t5, t6, t7, n, nw, no, ns, dv, sv, uw, uo, us, hR, hO, hS, hD, hN⟩ := hl
  exact take_allE w x d lw lo ls lt st t1 t2 t3 t4 t5 t6 t7 n nw no ns dv sv uw uo us hR hO hS hD hN row t k tn hb hk9 hw ho hs hsd
end sPs
theorem fl35 : True := by first | walk1 | trivial

local macro_rules | `(tactic| k_ne) => `(tactic| k_extra "R66")
local macro_rules | `(tactic| walk_at $s:str) => `(tactic| k_extra $(Lean.Syntax.mkStrLit ("S100." ++ s.getString)))
theorem zm32 : True := by
  (k_with "S100.tidy" => k_extra "R67")
  trivial
section sPsa

theorem nd6s {a b c d e f : Addr} (h1 : a ≠ b) (h2 : a ≠ c) (h3 : a ≠ d) (h4 : a ≠ e) (h5 : a ≠ f) (i2 : b ≠ c) (i3 : b ≠ d) (i4 : b ≠ e) (i5 : b ≠ f) (j3 : c ≠ d) (j4 : c ≠ e) (j5 : c ≠ f) (k4 : d ≠ e) (k5 : d ≠ f) (l5 : e ≠ f) : [a, b, c, d, e, f].Nodup := by
  simp only [List.nodup_cons, List.mem_cons, List.not_mem_nil, or_false, not_or, List.nodup_nil, and_true, not_false_eq_true]
  exact ⟨⟨h1, h2, h3, h4, h5⟩, ⟨i2, i3, i4, i5⟩, ⟨j3, j4, j5⟩, ⟨k4, k5⟩, l5⟩
theorem off6 {news : List (Addr × Obj)} {x d lw lo ls lt : Addr} (h1 : ∀ p ∈ news, p.1 < d) (h2 : d < x) (h3 : ∀ p ∈ news, p.1 < lw) (h4 : ∀ p ∈ news, p.1 < lo) (h5 : ∀ p ∈ news, p.1 < ls) (h6 : ∀ p ∈ news, p.1 < lt) : ∀ q ∈ news, ∀ y ∈ [x, d, lw, lo, ls, lt], q.1 ≠ y := by
  intro q hq y hy
  simp only [List.mem_cons, List.not_mem_nil, or_false] at hy
  rcases hy with rfl | rfl | rfl | rfl | rfl | rfl
  · exact Nat.ne_of_lt (Nat.lt_trans (h1 q hq) h2)
  · exact Nat.ne_of_lt (h1 q hq)
  · exact Nat.ne_of_lt (h3 q hq)
  · exact Nat.ne_of_lt (h4 q hq)
  · exact Nat.ne_of_lt (h5 q hq)
  · exact Nat.ne_of_lt (h6 q hq)
theorem use_new {w : World} {dp ut : Nat} {gd : Option (List Code)} {cn : PySem.Str} {cs : Scope} {a : Addr} {ccd : Value} {cl : List (PySem.Str × Addr)} {outer : List Env} {A₀ : Around} {base h₀ : Heap} {L : Addr} {m mg mb : PySem.Str → Option Value} {mean : ExcName → Option Value} {s : Shared} {Q E : Value → Shared → Prop} {news : List (Addr × Obj)}
    (B : Below A₀ base outer h₀) (F : Fr h₀ L s.heap m) (X : (hd.heap_1 w.params).In h₀) (N : News h₀ L s.heap news) (T : Top VW LS mean mg mb h₀) (hk : cs.kind = .function)
    (hd : dp + 4 < recursionLimit) (hu : ut + 40 < cLine)
    (ret : ∀ (x d lw lo ls lt : Addr) (t1 t2 t3 t4 t5 t6 t7 : Tok) (n : Nat) (h' : Heap) (tk' : Nat), [x, d, lw, lo, ls, lt].Nodup → Fr h₀ L h' m → News h₀ L h' ((x, instObj 205 d) :: (d, frD w lw lo ls lt t1 t2 t3 t4 t5 t6 t7 n .none .none false) :: (lw, listOf #[] 0) :: (lo, listOf #[] 0) :: (ls, listOf #[] 0) :: (lt, listOf #[] 0) :: news) → (∀ q ∈ news, ∀ y ∈ [x, d, lw, lo, ls, lt], q.1 ≠ y) → Q (.ref x) { s with heap := h', toks := tk' }) :
    wpAny (model PG w) (ktrTop dp ut gd cn cs L a ccd cl outer) (call (.ref 205) []) Q E s := by
  w_strict (
   walk_at "call ref"
   k_steps
   (repeat ((with_reducible rename _ ∧ _ => z9); have z8 := z9.1; have z7 := z9.2; clear z9))
   refine' ret _ _ _ _ _ _ _ _ _ _ _ _ _ _ _ _ ?nd ?zF ?zN ?zo
   case zF => assumption
   case zN =>
     refine News.sub_J (by assumption) ?_
     walk_at "sub here"
     intro q hq
     repeat (first | exact hq | refine List.mem_cons_of_mem _ ?_)
   case nd => exact nd6s (by k_ne) (by k_ne) (by k_ne) (by k_ne) (by k_ne) (by k_ne) (by k_ne) (by k_ne) (by k_ne) (by k_ne) (by k_ne) (by k_ne) (by k_ne) (by k_ne) (by k_ne)
   case zo => exact off6 (by with_reducible assumption) (by with_reducible assumption) (fun q hq => (by with_reducible assumption : ∀ p ∈ _, p.1 < _) q (by repeat (first | exact hq | refine List.mem_cons_of_mem _ ?_))) (fun q hq => (by with_reducible assumption : ∀ p ∈ _, p.1 < _) q (by repeat (first | exact hq | refine List.mem_cons_of_mem _ ?_))) (fun q hq => (by with_reducible assumption : ∀ p ∈ _, p.1 < _) q (by repeat (first | exact hq | refine List.mem_cons_of_mem _ ?_))) (fun q hq => (by with_reducible assumption : ∀ p ∈ _, p.1 < _) q (by repeat (first | exact hq | refine List.mem_cons_of_mem _ ?_)))
  )
end sPsa
theorem fl36 : True := by first | walk1 | trivial

section sPt

open PySem.SeqAt in
theorem eq_nil {prog : Program} {w : World} {A : Around} {E : Value → Shared → Prop} {s : Shared} {l b : Addr} {vs : List Value} {Q : Value → Shared → Prop} (hl : s.heap.IsList l vs.toArray) (hb : s.heap.IsList b #[]) (hu : A.units < cLine) (q : Q (.bool (decide (vs.length = 0))) s) :
    wpAny (model prog w) A (compareOp .Eq (.ref l) (.ref b)) Q E s := by
  by_cases hz : vs.length = 0
  · have hv : vs = [] := List.length_eq_zero_iff.mp hz
    subst hv
    exact eq_listAt (e := fun _ => true) hl hb rfl hu (fun j h1 h2 => absurd h2 (Nat.not_lt_zero j)) q
  · refine eq_list_lengthsAt hl hb ?_ hu (by rw [decide_eq_false hz] at q; exact q)
    simp only [List.size_toArray, bne_iff_ne, ne_eq]
    exact hz
open PySem.SeqAt in
theorem ne_nil {prog : Program} {w : World} {A : Around} {E : Value → Shared → Prop} {s : Shared} {l b : Addr} {vs : List Value} {Q : Value → Shared → Prop} (hl : s.heap.IsList l vs.toArray) (hb : s.heap.IsList b #[]) (hu : A.units < cLine) (q : Q (.bool (!decide (vs.length = 0))) s) :
    wpAny (model prog w) A (compareOp .NotEq (.ref l) (.ref b)) Q E s := by
  by_cases hz : vs.length = 0
  · have hv : vs = [] := List.length_eq_zero_iff.mp hz
    subst hv
    exact RcNeAt.lists (e := fun _ => true) hl hb rfl hu (fun j h1 h2 => absurd h2 (Nat.not_lt_zero j)) _ _ _ _ q
  · refine RcNeAt.lists_lengths hl hb ?_ hu _ _ _ _ (by rw [decide_eq_false hz] at q; exact q)
    simp only [List.size_toArray, bne_iff_ne, ne_eq]
    exact hz
theorem eq_nil_no {prog : Program} {w : World} {A : Around} {E : Value → Shared → Prop} {s : Shared} {l b : Addr} {vs : List Value} {Q : Value → Shared → Prop} (hl : s.heap.IsList l vs.toArray) (hb : s.heap.IsList b #[]) (hu : A.units < cLine) (h0 : 0 < vs.length) (q : Q (.bool false) s) :
    wpAny (model prog w) A (compareOp .Eq (.ref l) (.ref b)) Q E s := by
  refine eq_nil hl hb hu ?_
  rw [decide_eq_false (by omega)]
  exact q
theorem item_last {prog : Program} {w : World} {A : Around} {E : Value → Shared → Prop} {s : Shared} {value slice : PySem.Expr} {l : Addr} {us : List Value} {x : Value} {k : Int} {u : Tok} {Q : Value → Shared → Prop} (hl : s.heap.IsList l (us.concat x).toArray) (hk : k = -1) (h : Q x s)
    (hs : subscripted slice false (.ref l) (.int k u) = operate [.ref l, .int k u] (getItem (.ref l) (.int k u)) := by with_unfolding_all rfl) (hg : ∀ r, letTemporaryGo value (.ref l) r = pure () := by intro _; with_unfolding_all rfl) :
    wpAny (model prog w) A (subscriptTail value slice (.ref l) (.int k u)) Q E s := by
  subst hk
  refine subscriptTail_builtin hl.typeIs slot_list_getitem.lookup (wpAny_getItem_list_neg hl (by decide) ?_ (by decide) ?_ h) hs hg
  · simp only [List.concat_eq_append, List.size_toArray, List.length_append, List.length_cons, List.length_nil]; omega
  · have e : ((-1 : Int) + ((us.concat x).toArray.size : Int)).toNat = us.length := by
      simp only [List.concat_eq_append, List.size_toArray, List.length_append, List.length_cons, List.length_nil]; omega
    rw [e]
    simp
theorem pick_init (us : List Value) (x : Value) : slicePick (us.concat x).toArray none (some (-1)) none = us.toArray := by
  have e : sliceBounds none (some (-1)) none (us.concat x).toArray.size = (((0 : Nat) : Int), ((us.length : Nat) : Int), 1) := by
    simp only [sliceBounds, Option.getD_none, show (1 : Int) > 0 by decide, if_true, show ((-1 : Int) < 0) by decide, List.concat_eq_append, List.size_toArray, List.length_append, List.length_cons, List.length_nil]
    congr 1
    congr 1
    omega
  rw [kmk_pick_nat _ e]
  simp
local macro_rules | `(tactic| walk_at $s:str) => `(tactic| k_extra $(Lean.Syntax.mkStrLit ("S102." ++ s.getString)))
theorem zm33 : True := by
  (k_with "S102.compareOp Eq ref ref" => k_extra "R68")
  (k_with "S102.compareOp Eq ref ref" => k_extra "R69")
  trivial
theorem isnot_opt {prog : Program} {w : World} {A : Around} {E : Value → Shared → Prop} {s : Shared} {o : Option Int} {v : Value} {b : Bool} {Q : Value → Shared → Prop} (h : OptI o v) (h2 : o.isSome = b) (q : Q (.bool b) s) : wpAny (model prog w) A (compareOp .IsNot v .none) Q E s := by
  subst h2
  cases h with
  | none => exact wpAny_pure q
  | some i t => exact wpAny_pure q
theorem join_test {prog : Program} {w : World} {A : Around} {E : Value → Shared → Prop} {s : Shared} {t : Sem Bool} {Q : Bool → Shared → Prop} {g : Heap} {L : Addr} {m : PySem.Str → Option Value} {news : List (Addr × Obj)} (b : Bool) (_ : Fr g L s.heap m) (_ : News g L s.heap news)
    (h1 : wpAny (model prog w) A t (fun c s' => c = b ∧ ∃ h tk, s' = { s with heap := h, toks := tk } ∧ Fr g L h m ∧ News g L h news) E s) (h2 : ∀ h tk, Fr g L h m → News g L h news → Q b { s with heap := h, toks := tk }) : wpAny (model prog w) A t Q E s :=
  wpAny_mono h1 (by rintro c s' ⟨rfl, h, tk, rfl, F, N⟩; exact h2 h tk F N) fun _ _ e => e
theorem lt_known {prog : Program} {w : World} {A : Around} {E : Value → Shared → Prop} {s : Shared} {a b : Int} {v : Bool} {t u : Tok} {Q : Value → Shared → Prop} (h : decide (a < b) = v) (q : Q (.bool v) s) : wpAny (model prog w) A (compareOp .Lt (.int a t) (.int b u)) Q E s := by
  subst h
  exact lt_int q
theorem zm34 : True := by
  (k_with "S102.compareOp Lt int int" => k_extra "R70")
  (k_with "S102.WhlIf" => k_extra "R71")
  (k_with "S102.compareOp Eq bytes bytes" => k_extra "R52")
  (k_with "S102.setAttr ref" => k_extra "R55")
  trivial
def Mark9 : Prop := True
theorem handed_opt {o : Option Int} {v : Value} (h : OptI o v) : handedIn v = true := by cases h <;> rfl
local macro_rules | `(tactic| k_handed) => `(tactic| k_extra "R72")
theorem zm35 : True := by
  (k_with "S102.compareOp IsNot none" => k_extra "R73")
  (k_with "S102.compareOp IsNot" => k_extra "R73")
  (k_with "S102.subscriptTail" => k_extra "R74")
  (k_with "S102.subscriptTail Name Slice ref ref" => k_extra "R3")
  trivial
theorem read_pktsO (w : World) (ups : List (List UInt8)) (more o : List UInt8) (hoe : enc' ups ++ ([48, 48, 48, 48] ++ more) = o) (t : Tok) (ho : o.length ≤ 65536) (hb : ∀ b ∈ ups, b.length ≤ 4000) :
    Spec w 140 [.bytes o.toArray t] 12 100 [] (fun v n' => ∃ D T us nn tz t2, T ≠ D ∧ RowsAre us ups ∧ n' = [(T, tup (.ref D) (.int (((enc' ups).length + 4 : Nat) : Int) t2)), (D, listOf (us.concat (Value.int 0 tz)).toArray nn)] ∧ v = .ref T) False := by
  subst hoe
  exact read_pkts1 w ups more t ho hb
inductive TalkAre : List Value → List Item → Prop
  | nil : TalkAre [] []
  | cons {v : Value} {it : Item} {us : List Value} {its : List Item} : ItemIs it v → TalkAre us its → TalkAre (v :: us) (it :: its)
theorem TalkAre.snoc {us : List Value} {its : List Item} (h : TalkAre us its) {v : Value} {it : Item} (hi : ItemIs it v) : TalkAre (us ++ [v]) (its ++ [it]) := by
  induction h with
  | nil => exact .cons hi .nil
  | cons h1 _ ih => exact .cons h1 ih
theorem TalkAre.length {us : List Value} {its : List Item} (h : TalkAre us its) : us.length = its.length := by
  induction h with
  | nil => rfl
  | cons _ _ ih => simp only [List.length_cons, ih]
inductive ReadOk (w : World) (out : Option (St × List Item × Bool)) : Value → List (Addr × Obj) → Prop
  | mk (x : Addr) (st : St) (tk : List Item) (done : Bool) (d lw lo ls lt : Addr) (t1 t2 t3 t4 t5 t6 t7 : Tok) (n nw no ns nt : Nat) (dv sv : Value) (uw uo us ut : List Value) : out = some (st, tk, done) → [x, d, lw, lo, ls, lt].Nodup → RowsAre uw st.wants → StrsAre uo st.words → RowsAre us st.shallow → OptI st.depth dv → OptI st.since sv → TalkAre ut tk →
    ReadOk w out (.ref x) [(x, instObj 205 d), (d, frD w lw lo ls lt t1 t2 t3 t4 t5 t6 t7 n dv sv done), (lw, listOf uw.toArray nw), (lo, listOf uo.toArray no), (ls, listOf us.toArray ns), (lt, listOf ut.toArray nt)]
structure WhS where
  tks : List Value
  tkI : List Item
  nn : Nat
  i : Nat
  p : Nat
  done : Bool
  t7 : Tok
  n : Nat
  ta : Tok
theorem enc_cut {l : List Item} {i : Nat} {it : Item} (h : l[i]? = some it) : enc l = enc (l.take i) ++ (pk it ++ enc (l.drop (i + 1))) := by
  conv => lhs; rw [← take_cons h]
  simp only [enc, List.flatMap_append, List.flatMap_cons]
theorem enc_snoc {l : List Item} {i : Nat} {it : Item} (h : l[i]? = some it) : enc (l.take (i + 1)) = enc (l.take i) ++ pk it := by
  rw [take_succ h]
  simp only [enc, List.flatMap_append, List.flatMap_cons, List.flatMap_nil, List.append_nil]
theorem drop_cons {α : Type} {l : List α} {i : Nat} {a : α} (h : l[i]? = some a) : l.drop i = a :: l.drop (i + 1) := by
  obtain ⟨hi, rfl⟩ := List.getElem?_eq_some_iff.mp h
  exact List.drop_eq_getElem_cons hi
theorem pk_pos (it : Item) : 4 ≤ (pk it).length := by
  cases it with
  | none => decide
  | some b =>
    show 4 ≤ (pktL b).length
    rw [pktL, List.length_append, hdrL_length]
    omega
theorem nd6 {x d lw lo ls lt : Addr} (h : [x, d, lw, lo, ls, lt].Nodup) : (Ap x d ∧ Ap x lw ∧ Ap x lo ∧ Ap x ls ∧ Ap x lt) ∧ (Ap d lw ∧ Ap d lo ∧ Ap d ls ∧ Ap d lt) ∧ (Ap lw lo ∧ Ap lw ls ∧ Ap lw lt) ∧ (Ap lo ls ∧ Ap lo lt) ∧ Ap ls lt := by
  simp only [List.nodup_cons, List.mem_cons, List.not_mem_nil, or_false, not_or, List.nodup_nil, and_true, not_false_eq_true] at h
  obtain ⟨⟨a1, a2, a3, a4, a5⟩, ⟨b1, b2, b3, b4⟩, ⟨c1, c2, c3⟩, ⟨d1, d2⟩, e1⟩ := h
  exact ⟨⟨⟨a1⟩, ⟨a2⟩, ⟨a3⟩, ⟨a4⟩, ⟨a5⟩⟩, ⟨⟨b1⟩, ⟨b2⟩, ⟨b3⟩, ⟨b4⟩⟩, ⟨⟨c1⟩, ⟨c2⟩, ⟨c3⟩⟩, ⟨⟨d1⟩, ⟨d2⟩⟩, ⟨e1⟩⟩
structure RdS where
  nx : List (Addr × Obj)
  st : St
noncomputable def foldT (k : Nat) (st : St) : List (List UInt8) → Option St
  | [] => some st
  | r :: rs => match takeP k st r with
    | some st' => foldT k st' rs
    | none => none
theorem foldT_snoc (k : Nat) : ∀ (l : List (List UInt8)) (st : St) (r : List UInt8), foldT k st (l ++ [r]) = (foldT k st l).bind fun s => takeP k s r := by
  intro l
  induction l with
  | nil =>
    intro st r
    show (match takeP k st r with | some st' => foldT k st' [] | none => none) = takeP k st r
    cases takeP k st r <;> rfl
  | cons a l ih =>
    intro st r
    show (match takeP k st a with | some st' => foldT k st' (l ++ [r]) | none => none) = (match takeP k st a with | some st' => foldT k st' l | none => none).bind _
    cases takeP k st a with
    | none => rfl
    | some s => exact ih s r
theorem foldT_none (k : Nat) : ∀ (l : List (List UInt8)) (st : St) (i : Nat), foldT k st (l.take i) = none → foldT k st l = none := by
  intro l
  induction l with
  | nil => intro st i h; simpa using h
  | cons a l ih =>
    intro st i h
    cases i with
    | zero => cases h
    | succ i =>
      show (match takeP k st a with | some st' => foldT k st' l | none => none) = none
      have h2 : (match takeP k st a with | some st' => foldT k st' (l.take i) | none => none) = none := h
      cases hq : takeP k st a with
      | none => rfl
      | some s =>
        rw [hq] at h2
        exact ih s i h2
theorem rowOf_len (b : List UInt8) : (rowOf b).length ≤ b.length := by
  unfold rowOf
  split
  · unfold sliceL
    rw [List.length_take, List.length_drop]
    omega
  · exact Nat.le_refl _
theorem RowsAre.get {us : List Value} {bs : List (List UInt8)} (h : RowsAre us bs) : ∀ {i : Nat} {v : Value}, us[i]? = some v → ∃ b t, v = .bytes b.toArray t ∧ bs[i]? = some b := by
  induction h with
  | nil => intro i v e; cases e
  | cons c u _ ih =>
    intro i v e
    cases i with
    | zero => exact ⟨c, u, (Option.some.inj e).symm, rfl⟩
    | succ i => exact ih e
theorem StLed.addrs {w : World} {x d lw lo ls lt : Addr} {st : St} {nx : List (Addr × Obj)} (h : StLed w x d lw lo ls lt st nx) : nx.map (·.1) = [x, d, lw, lo, ls] := by
  obtain ⟨t1, t2, t3, t4, t5, t6, t7, n, nw, no, ns, dv, sv, uw, uo, us, hR, hO, hS, hD, hN⟩ := h
  rfl
abbrev DONE : List UInt8 := [100, 111, 110, 101]
noncomputable def tailP (k : Nat) : List Item → List Item → Option (List Item × Bool)
  | [], tk => some (tk, false)
  | none :: r, tk => tailP k r (tk ++ [none])
  | some b :: r, tk =>
    if rowOf b = DONE then (if r = [] then some (tk, true) else none)
    else if (rowOf b).take 5 = haveL ∧ isPlain ((rowOf b).drop 5) (2 * k) = true then tailP k r (tk ++ [some (unhex ((rowOf b).drop 5))]) else none
def st0 : St := ⟨[], [], [], none, none⟩
def stripR (hs : List (List UInt8)) : List (List UInt8) := hs.map rowOf
noncomputable def readP (k : Nat) (hs : List (List UInt8)) (ts : List Item) : Option (St × List Item × Bool) :=
  match foldT k st0 (stripR hs) with
  | none => none
  | some st => if st.depth.isSome = true ∧ st.since.isSome = true then none else if st.wants = [] ∧ hs ≠ [] then none else (tailP k ts []).map fun p => (st, p.1, p.2)
theorem readP_bad {k : Nat} {hs : List (List UInt8)} {ts : List Item} {i : Nat} (h : foldT k st0 ((stripR hs).take i) = none) : readP k hs ts = none := by
  unfold readP
  rw [foldT_none k _ _ _ h]
theorem zm36 : True := by
  (k_with "S102.call ref" => k_extra "R75")
  (k_with "S102.isTrue BoolOp" => k_extra "R76")
  (k_with "S102.call builtin:len" => k_extra "R77")
  (k_with "S102.call ref" => k_extra "R78")
  (k_with "S102.call ref" => k_extra "R45")
  (k_with "S102.call ref" => k_extra "R46")
  (k_with "S102.call ref" => k_extra "R79")
  (k_with "S102.setAttr ref" => k_extra "R80")
  trivial
theorem hold_outT {P : Prop} (h : P) : Hold P := h
theorem zm37 : True := by
  (k_with "S102.split" => k_extra "R10")
  trivial
theorem use_pkts {w : World} {ups : List (List UInt8)} {more o : List UInt8} (hoe : enc' ups ++ ([48, 48, 48, 48] ++ more) = o) {t : Tok} (ho : o.length ≤ 65536) (hb : ∀ b ∈ ups, b.length ≤ 4000)
    {dp ut : Nat} {gd : Option (List Code)} {cn : PySem.Str} {cs : Scope} {a : Addr} {ccd : Value} {cl : List (PySem.Str × Addr)} {outer : List Env} {A₀ : Around} {base h₀ : Heap} {L : Addr} {m mg mb : PySem.Str → Option Value} {mean : ExcName → Option Value} {s : Shared} {Q E : Value → Shared → Prop} {news : List (Addr × Obj)}
    (B : Below A₀ base outer h₀) (F : Fr h₀ L s.heap m) (X : (hd.heap_1 w.params).In h₀) (N : News h₀ L s.heap news) (T : Top VW LS mean mg mb h₀) (hk : cs.kind = .function)
    (hd : dp + 12 < recursionLimit) (hu : ut + 100 < cLine)
    (ret : ∀ (D T : Addr) (us : List Value) (nn : Nat) (tz t2 : Tok) (h' : Heap) (tk' : Nat), Ap T D → RowsAre us ups → Fr h₀ L h' m → News h₀ L h' ((T, tup (.ref D) (.int (((enc' ups).length + 4 : Nat) : Int) t2)) :: (D, listOf (us.concat (Value.int 0 tz)).toArray nn) :: news) → Off news T → Off news D → Q (.ref T) { s with heap := h', toks := tk' }) :
    wpAny (model PG w) (ktrTop dp ut gd cn cs L a ccd cl outer) (call (.ref 140) [.bytes o.toArray t]) Q E s :=
  (read_pktsO w ups more o hoe t ho hb).use0 B F X N T hk hd hu (by
    rintro v h' tk' n' ⟨D, T, us, nn, tz, t2, hne, hR, rfl, rfl⟩ F' N' o' _
    exact ret D T us nn tz t2 h' tk' ⟨hne⟩ hR F' N' (o' _ List.mem_cons_self) (o' _ (List.mem_cons_of_mem _ List.mem_cons_self))) (fun h => h.elim)
theorem zm38 : True := by
  (k_with "S102.call ref" => k_extra "R81")
  (k_with "S102.call ref" => k_extra "R82")
  trivial
namespace read_flush_
def zA (w : World) (hs : List (List UInt8)) (ts : List Item) (o : List UInt8) (t : Tok) (k : Nat) (tn : Tok) (zk : Cal) : Prop := ∀ (hoe : enc' hs ++ ([48, 48, 48, 48] ++ enc ts) = o), ∀ (ho : o.length ≤ 65536), ∀ (hb : ∀ b ∈ hs, b.length ≤ 3000), ∀ (hb4 : ∀ b ∈ hs, b.length ≤ 4000), ∀ (hbt : ∀ b, some b ∈ ts → b.length ≤ 3000), ∀ (hk9 : k ≤ 4), ∀ (hh1 : hs.length ≤ 1000), ∀ (ht1 : ts.length ≤ 1000), ∀ (hbd : ∀ i st', foldT k st0 ((stripR hs).take i) = some st' → st'.wants.length ≤ 1000 ∧ st'.words.length ≤ 1000 ∧ st'.shallow.length ≤ 1000), SpecAt w 199 [.bytes o.toArray t, .int (k : Int) tn] 40 400 [] (ReadOk w (readP k hs ts)) (readP k hs ts = none) zk
@[irreducible] noncomputable def zx : Zst × (List Item) := sk ⟨(Classical.choice neZst, default)⟩ fun z => zA (z.1.w) (z.1.ll 0) (z.2) (z.1.lu 0) (z.1.n 0) (z.1.n 1) (z.1.n 2) (z.1.c)
@[irreducible] noncomputable def w : World := zx.1.w
@[irreducible] noncomputable def hs : List (List UInt8) := zx.1.ll 0
@[irreducible] noncomputable def ts : List Item := zx.2
@[irreducible] noncomputable def o : List UInt8 := zx.1.lu 0
@[irreducible] noncomputable def t : Tok := zx.1.n 0
@[irreducible] noncomputable def k : Nat := zx.1.n 1
@[irreducible] noncomputable def zk : Cal := zx.1.c
def zT (P1 : World → (List (List UInt8)) → (List Item) → (List UInt8) → Tok → Nat → Tok → Cal → Heap → Addr → Heap → Nat → Prop) : Prop := ∀ w hs ts o t k tn zk, (∀ y0 y1 y2 y3, P1 w hs ts o t k tn zk y0 y1 y2 y3) → zA w hs ts o t k tn zk
noncomputable def zs : { P : Heap → Addr → Heap → Nat → Prop // (∀ y0 y1 y2 y3, P y0 y1 y2 y3) → zA w hs ts o t k (zx.1.n 2) zk } := by
  refine' ⟨_, (_ : zT _) w hs ts o t k (zx.1.n 2) zk⟩
  rotate_left 1
  · intro w hs ts o t k tn zk zR1 hoe ho hb hb4 hbt hk9 hh1 ht1 hbd B F X N T hk hd hu hret hexc
    w_strict (
     have mk9 : Mark9 := trivial
     walk_at "my enter"
     (revert hoe ho hb hb4 hbt hk9 hh1 ht1 hbd B F X N T hk hd hu hret hexc mk9 FG' F' N' B' X' T' kG'; exact zR1 g' L' h' tk')
    )
@[irreducible] noncomputable def zP1 : Heap → Addr → Heap → Nat → Prop := Mine.read_flush_.zs.1
theorem zp1 : zP1 = Mine.read_flush_.zs.1 := by with_unfolding_all rfl
namespace z1
@[irreducible] noncomputable def zx : Zst := sk neZst fun z => Mine.read_flush_.zP1 (z.h 0) (z.n 0) (z.h 1) (z.n 1)
@[irreducible] noncomputable def h' : Heap := zx.h 1
@[irreducible] noncomputable def tk' : Nat := zx.n 1
def zT (P1 : Heap → Addr → Heap → Nat → Addr → Addr → Addr → Addr → Addr → Addr → Tok → Tok → Tok → Tok → Tok → Tok → Tok → Nat → Addr → Addr → (List Value) → Nat → Tok → Tok → Addr → Addr → Heap → Nat → Addr → Heap → Obj → Prop) : Prop := ∀ g' L' h' tk', (∀ y0 y1 y2 y3 y4 y5 y6 y7 y8 y9 y10 y11 y12 y13 y14 y15 y16 y17 y18 y19 y20 y21 y22 y23 y24 y25 y26, P1 g' L' h' tk' y0 y1 y2 y3 y4 y5 y6 y7 y8 y9 y10 y11 y12 y13 y14 y15 y16 y17 y18 y19 y20 y21 y22 y23 y24 y25 y26) → Mine.read_flush_.zs.1 g' L' h' tk'
noncomputable def zs : { P : Addr → Addr → Addr → Addr → Addr → Addr → Tok → Tok → Tok → Tok → Tok → Tok → Tok → Nat → Addr → Addr → (List Value) → Nat → Tok → Tok → Addr → Addr → Heap → Nat → Addr → Heap → Obj → Prop // (∀ y0 y1 y2 y3 y4 y5 y6 y7 y8 y9 y10 y11 y12 y13 y14 y15 y16 y17 y18 y19 y20 y21 y22 y23 y24 y25 y26, P y0 y1 y2 y3 y4 y5 y6 y7 y8 y9 y10 y11 y12 y13 y14 y15 y16 y17 y18 y19 y20 y21 y22 y23 y24 y25 y26) → Mine.read_flush_.zs.1 (zx.h 0) (zx.n 0) h' tk' } := by
  refine' ⟨_, (_ : zT _) (zx.h 0) (zx.n 0) h' tk'⟩
  rotate_left 1
  · intro g' L' h' tk' zR1 hoe ho hb hb4 hbt hk9 hh1 ht1 hbd B F X N T hk hd hu hret hexc mk9 FG' F' N' B' X' T' kG'
    w_strict (
     k_steps
     unfold Hold
     refine' use_new ?B1 ?F1 ?X1 ?N1 ?T1 rfl ?kd1 ?ku1 ?_
     case B1 => k_asm
     case F1 => k_asm
     case X1 => k_asm
     case N1 => k_asm
     case T1 => k_asm
     case kd1 => ktr_room
     case ku1 => ktr_units
     intro x d lw lo ls lt e1 e2 e3 e4 e5 e6 e7 en h' tk' hnd F' N' off6
     clear off6
     k_steps
     refine hold_outT ?_
     refine' use_pkts hoe ho hb4 ?B2 ?F2 ?X2 ?N2 ?T2 rfl ?kd2 ?ku2 ?_
     case B2 => k_asm
     case F2 => k_asm
     case X2 => k_asm
     case N2 => k_asm
     case T2 => k_asm
     case kd2 => ktr_room
     case ku2 => ktr_units
     intro D1 T us nn tz t2 h' tk' hTD hR9 F' N' oT oD
     have hA6 := nd6 hnd
     walk_at "split"
     k_steps
     refine hold_outT ?_
     rename Fr _ _ _ _ => sF9
     rename News _ _ _ _ => sN9
     have hl9 := hR9.length
     have hl8 := enc'_long hs
     have hl7 := congrArg List.length hoe
     rw [List.length_append] at hl7
     refine' kmk_slice (s := ⟨_, _, _, _, _⟩) sF9 sN9 ?k1 ?k2 ?k3 ?_ ?k5 ?k6 ?k7
     case k1 => exact News.isList sN9 (by k_mem)
     case k2 => constructor
     case k3 => constructor
     case k5 => with_unfolding_all rfl
     case k6 => (intro _; with_unfolding_all rfl)
     case k7 => (rw [sizeLine_eq, List.concat_eq_append, List.size_toArray, List.length_append, List.length_singleton]; omega)
     intro DS h' F' N' l1
     k_lt l1
     rw [pick_init] at N'
     clear sF9 sN9
     k_steps
     refine hold_outT ?_
     rename News _ _ _ _ => N9
     obtain ⟨od, hod⟩ : ∃ z, z = frD w lw lo ls lt e1 e2 e3 e4 e5 e6 e7 en .none .none false := ⟨_, rfl⟩
     have hS0 : StLed w x d lw lo ls lt st0 [(x, instObj 205 d), (d, od), (lw, listOf #[] 0), (lo, listOf #[] 0), (ls, listOf #[] 0)] := by
       subst hod
       exact ⟨_, _, _, _, _, _, _, _, _, _, _, _, _, [], [], [], .nil, .nil, .nil, .none, .none⟩
     rw [← hod] at N9
     have hsep : ∀ a ∈ [DS, D1, lt], a ∉ [x, d, lw, lo, ls] := by
       have hnd3 := nd6 hnd
       obtain ⟨⟨m1, m2, m3, m4, m5⟩, ⟨m6, m7, m8, m9⟩, ⟨m10, m11, m12⟩, ⟨m13, m14⟩, m15⟩ := hnd3
       intro a ha hm
       simp only [List.mem_cons, List.not_mem_nil, or_false] at ha hm
       rcases ha with rfl | rfl | rfl <;> rcases hm with h | h | h | h | h <;> exact absurd h (by first | k_ne | exact neN (by omega))
     rename Fr _ _ _ _ => lF
     (rename_i zi1x1 zi1x2 zi1x3 zi1x4 zi1x5 zi1x6 zi1x7 zi1x8 zi1x9 zi1x10 zi1x11 zi1x12 zi1x13 zi1x14 zi1x15 zi1x16 zi1x17 zi1x18 zi1x19 zi1x20 zi1x21 zi1x22 zi1x23 zi1x24 zi1x25 zi1x26 zi1x27 zi1x28 zi1x29 zi1x30 zi1x31; revert hoe ho hb hb4 hbt hk9 hh1 ht1 hbd B F X N zi1x3 hk hd hu hret hexc mk9 FG' B' X' T' kG' hnd hTD hR9 oT oD zi1x7 zi1x8 zi1x9 zi1x10 zi1x11 zi1x12 zi1x13 zi1x14 zi1x15 zi1x16 zi1x17 zi1x18 zi1x19 z8 z7 zi1x22 zi1x31 hl9 hl8 hl7 lF l1 N9 hod hS0 hsep; exact zR1 x d lw lo ls lt e1 e2 e3 e4 e5 e6 e7 en D1 T us nn tz t2 zi1x20 zi1x29 zi1x30 tk DS h' od)
    )
@[irreducible] noncomputable def zP1 : Addr → Addr → Addr → Addr → Addr → Addr → Tok → Tok → Tok → Tok → Tok → Tok → Tok → Nat → Addr → Addr → (List Value) → Nat → Tok → Tok → Addr → Addr → Heap → Nat → Addr → Heap → Obj → Prop := Mine.read_flush_.z1.zs.1
theorem zp1 : zP1 = Mine.read_flush_.z1.zs.1 := by with_unfolding_all rfl
namespace z1
@[irreducible] noncomputable def zx : Zst := sk neZst fun z => Mine.read_flush_.z1.zP1 (z.n 0) (z.n 1) (z.n 2) (z.n 3) (z.n 4) (z.n 5) (z.n 6) (z.n 7) (z.n 8) (z.n 9) (z.n 10) (z.n 11) (z.n 12) (z.n 13) (z.n 14) (z.n 15) (z.lv 0) (z.n 16) (z.n 17) (z.n 18) (z.n 19) (z.n 20) (z.h 0) (z.n 21) (z.n 22) (z.h 1) (z.o 0)
@[irreducible] noncomputable def x : Addr := zx.n 0
@[irreducible] noncomputable def d : Addr := zx.n 1
@[irreducible] noncomputable def lw : Addr := zx.n 2
@[irreducible] noncomputable def lo : Addr := zx.n 3
@[irreducible] noncomputable def ls : Addr := zx.n 4
@[irreducible] noncomputable def lt : Addr := zx.n 5
@[irreducible] noncomputable def D1 : Addr := zx.n 14
@[irreducible] noncomputable def us : List Value := zx.lv 0
@[irreducible] noncomputable def nn : Nat := zx.n 16
@[irreducible] noncomputable def tz : Tok := zx.n 17
@[irreducible] noncomputable def t2 : Tok := zx.n 18
@[irreducible] noncomputable def tk : Nat := zx.n 21
@[irreducible] noncomputable def DS : Addr := zx.n 22
@[irreducible] noncomputable def h' : Heap := zx.h 1
def zT (P1 : Addr → Addr → Addr → Addr → Addr → Addr → Tok → Tok → Tok → Tok → Tok → Tok → Tok → Nat → Addr → Addr → (List Value) → Nat → Tok → Tok → Addr → Addr → Heap → Nat → Addr → Heap → Obj → Nat → St → (PySem.Str → Option Value) → Heap → Nat → (List (Addr × Obj)) → (List UInt8) → Tok → Tok → Tok → Tok → Tok → Tok → Tok → Tok → Nat → Nat → Nat → Nat → Value → Value → (List Value) → (List Value) → (List Value) → Prop) (P2 : Addr → Addr → Addr → Addr → Addr → Addr → Tok → Tok → Tok → Tok → Tok → Tok → Tok → Nat → Addr → Addr → (List Value) → Nat → Tok → Tok → Addr → Addr → Heap → Nat → Addr → Heap → Obj → St → (PySem.Str → Option Value) → Heap → Nat → Tok → Tok → Tok → Tok → Tok → Tok → Tok → Nat → Nat → Nat → Nat → Value → Value → (List Value) → (List Value) → (List Value) → Bool → Bool → Prop) : Prop := ∀ x d lw lo ls lt e1 e2 e3 e4 e5 e6 e7 en D1 T us nn tz t2 zi1x20 zi1x29 zi1x30 tk DS h' od, (∀ y0 y1 y2 y3 y4 y5 y6 y7 y8 y9 y10 y11 y12 y13 y14 y15 y16 y17 y18 y19 y20 y21 y22 y23, P1 x d lw lo ls lt e1 e2 e3 e4 e5 e6 e7 en D1 T us nn tz t2 zi1x20 zi1x29 zi1x30 tk DS h' od y0 y1 y2 y3 y4 y5 y6 y7 y8 y9 y10 y11 y12 y13 y14 y15 y16 y17 y18 y19 y20 y21 y22 y23) → (∀ y0 y1 y2 y3 y4 y5 y6 y7 y8 y9 y10 y11 y12 y13 y14 y15 y16 y17 y18 y19 y20 y21, P2 x d lw lo ls lt e1 e2 e3 e4 e5 e6 e7 en D1 T us nn tz t2 zi1x20 zi1x29 zi1x30 tk DS h' od y0 y1 y2 y3 y4 y5 y6 y7 y8 y9 y10 y11 y12 y13 y14 y15 y16 y17 y18 y19 y20 y21) → Mine.read_flush_.z1.zs.1 x d lw lo ls lt e1 e2 e3 e4 e5 e6 e7 en D1 T us nn tz t2 zi1x20 zi1x29 zi1x30 tk DS h' od
noncomputable def zs : { P : (Nat → St → (PySem.Str → Option Value) → Heap → Nat → (List (Addr × Obj)) → (List UInt8) → Tok → Tok → Tok → Tok → Tok → Tok → Tok → Tok → Nat → Nat → Nat → Nat → Value → Value → (List Value) → (List Value) → (List Value) → Prop) × (St → (PySem.Str → Option Value) → Heap → Nat → Tok → Tok → Tok → Tok → Tok → Tok → Tok → Nat → Nat → Nat → Nat → Value → Value → (List Value) → (List Value) → (List Value) → Bool → Bool → Prop) // (∀ y0 y1 y2 y3 y4 y5 y6 y7 y8 y9 y10 y11 y12 y13 y14 y15 y16 y17 y18 y19 y20 y21 y22 y23, P.1 y0 y1 y2 y3 y4 y5 y6 y7 y8 y9 y10 y11 y12 y13 y14 y15 y16 y17 y18 y19 y20 y21 y22 y23) → (∀ y0 y1 y2 y3 y4 y5 y6 y7 y8 y9 y10 y11 y12 y13 y14 y15 y16 y17 y18 y19 y20 y21, P.2 y0 y1 y2 y3 y4 y5 y6 y7 y8 y9 y10 y11 y12 y13 y14 y15 y16 y17 y18 y19 y20 y21) → Mine.read_flush_.z1.zs.1 x d lw lo ls lt (zx.n 6) (zx.n 7) (zx.n 8) (zx.n 9) (zx.n 10) (zx.n 11) (zx.n 12) (zx.n 13) D1 (zx.n 15) us nn tz t2 (zx.n 19) (zx.n 20) (zx.h 0) tk DS h' (zx.o 0) } := by
  refine' ⟨(_, _), (_ : zT _ _) x d lw lo ls lt (zx.n 6) (zx.n 7) (zx.n 8) (zx.n 9) (zx.n 10) (zx.n 11) (zx.n 12) (zx.n 13) D1 (zx.n 15) us nn tz t2 (zx.n 19) (zx.n 20) (zx.h 0) tk DS h' (zx.o 0)⟩
  rotate_left 2
  · intro x d lw lo ls lt e1 e2 e3 e4 e5 e6 e7 en D1 T us nn tz t2 zi1x20 zi1x29 zi1x30 tk DS h' od zR1 zR2 hoe ho hb hb4 hbt hk9 hh1 ht1 hbd B F X N zi1x3 hk hd hu hret hexc mk9 FG' B' X' T' kG' hnd hTD hR9 oT oD zi1x7 zi1x8 zi1x9 zi1x10 zi1x11 zi1x12 zi1x13 zi1x14 zi1x15 zi1x16 zi1x17 zi1x18 zi1x19 z8 z7 zi1x22 zi1x31 hl9 hl8 hl7 lF l1 N9 hod hS0 hsep
    w_strict (
     refine' loopM (σ := RdS) (Iter.list rfl) (fun c => c.nx ++ [(DS, listOf us.toArray 0), (D1, listOf (us.concat (.int 0 tz)).toArray nn), (lt, listOf #[] 0)]) (fun c => []) [] (fun i c => StLed w x d lw lo ls lt c.st c.nx ∧ foldT k st0 ((stripR hs).take i) = some c.st) ⟨[(x, instObj 205 d), (d, od), (lw, listOf #[] 0), (lo, listOf #[] 0), (ls, listOf #[] 0)], st0⟩ lF N9 ?hn ?hkeep ?hkk ?hp ?turn ?done
     case hn =>
       dsimp only [List.cons_append, List.nil_append]
       walk_at "sub here"
     case hkeep =>
       rintro c p hp
       rw [List.mem_singleton.mp hp]
       exact List.mem_append.mpr (.inr (.head _))
     case hkk => intro p hp; cases hp
     case hp => exact ⟨hS0, rfl⟩
     case turn =>
       rintro i v ⟨nx, st⟩ u h tk own hi hv hoff hP F₁ N₁
       have hL := hP.1
       have hf := hP.2
       clear hP
       dsimp only at hL hf F₁ N₁ hoff
       obtain ⟨b, t9, rfl, hbi⟩ := hR9.get hv
       have hb9 := hb b (List.mem_of_getElem? hbi)
       have hb8 : b.length ≤ 65536 := by omega
       have hbb := hbd i st hf
       have hb1 := hbb.1
       have hb2 := hbb.2.1
       have hb3 := hbb.2.2
       clear hbb
       have hL2 := hL
       obtain ⟨t1, t2, t3, t4, t5, t6, t7, n, nw, no, ns, dv, sv, uw, uo, us2, hR, hO, hS, hD, hN⟩ := hL2
       simp only [List.nil_append, List.cons_append, List.map_cons, List.map_nil] at N₁ hoff
       clear lF N9 hS0 hod
       have hnd2 := nd6 hnd
       walk_at "tidy"
       (rename_i zi2x1 zi2x2 zi2x3 zi2x4 zi2x5 zi2x6 zi2x7 zi2x8 zi2x9 zi2x10 zi2x11 zi2x12 zi2x13 zi2x14 zi2x15 zi2x16 zi2x17; revert hoe ho hb hb4 hbt hk9 hh1 ht1 hbd B X zi1x3 hk hd hu hret hexc mk9 B' X' T' kG' hnd hTD hR9 oT oD zi1x7 zi1x8 zi1x9 zi1x10 zi1x11 zi1x12 zi1x13 zi1x14 zi1x15 zi1x16 zi1x17 zi1x18 zi1x19 zi2x3 zi2x4 zi1x22 zi1x31 hl9 hl8 hl7 l1 hsep hi hf hbi hv hb9 hb8 hb1 hb2 hb3 hR hO hS hD hN hL hoff zi2x5 zi2x6 zi2x7 zi2x8 zi2x9 zi2x10 zi2x11 zi2x12 zi2x13 zi2x14 zi2x15 zi2x16 zi2x17 z8 z7 lF9 lN9; exact zR1 i st u h tk own b t9 t1 t2 t3 t4 t5 t6 t7 n nw no ns dv sv uw uo us2)
     case done =>
       rintro ⟨nx, st⟩ u h tk hP F₁ N₁
       have hL := hP.1
       have hf := hP.2
       clear hP
       dsimp only at hL hf F₁ N₁
       have hL2 := hL
       obtain ⟨t1, t2, t3, t4, t5, t6, t7, n, nw, no, ns, dv, sv, uw, uo, us2, hR, hO, hS, hD, hN⟩ := hL2
       simp only [List.nil_append, List.cons_append] at N₁
       clear lF N9 hS0 hod
       have hnd2 := nd6 hnd
       have hbb := hbd _ st hf
       have hb1 := hbb.1
       have hb2 := hbb.2.1
       have hb3 := hbb.2.2
       clear hbb
       have hl5 := hR.length
       obtain ⟨bD, hbD⟩ : ∃ b, st.depth.isSome = b := ⟨_, rfl⟩
       obtain ⟨bS, hbS⟩ : ∃ b, st.since.isSome = b := ⟨_, rfl⟩
       rw [show us.length = (stripR hs).length by unfold stripR; rw [List.length_map, hl9], List.take_length] at hf
       walk_at "tidy"
       clear hsep mk9
       (rename_i zi2x1 zi2x2 zi2x3 zi2x4 zi2x5 zi2x6 zi2x7 zi2x8 zi2x9 zi2x10 zi2x11 zi2x12 zi2x13 zi2x14 zi2x15 zi2x16 zi2x17; revert hoe ho hb hb4 hbt hk9 hh1 ht1 hbd B X zi1x3 hk hd hu hret hexc B' X' T' kG' hnd hTD hR9 oT oD zi1x7 zi1x8 zi1x9 zi1x10 zi1x11 zi1x12 zi1x13 zi1x14 zi1x15 zi1x16 zi1x17 zi1x18 zi1x19 zi2x3 zi2x4 zi1x22 zi1x31 hl9 hl8 hl7 l1 hf hR hO hS hD hN hL hb1 hb2 hb3 hl5 hbD hbS zi2x5 zi2x6 zi2x7 zi2x8 zi2x9 zi2x10 zi2x11 zi2x12 zi2x13 zi2x14 zi2x15 zi2x16 zi2x17 z8 z7 lF9 lN9; exact zR2 st u h tk t1 t2 t3 t4 t5 t6 t7 n nw no ns dv sv uw uo us2 bD bS)
    )
@[irreducible] noncomputable def zP1 : Nat → St → (PySem.Str → Option Value) → Heap → Nat → (List (Addr × Obj)) → (List UInt8) → Tok → Tok → Tok → Tok → Tok → Tok → Tok → Tok → Nat → Nat → Nat → Nat → Value → Value → (List Value) → (List Value) → (List Value) → Prop := Mine.read_flush_.z1.z1.zs.1.1
theorem zp1 : zP1 = Mine.read_flush_.z1.z1.zs.1.1 := by with_unfolding_all rfl
namespace z1
@[irreducible] noncomputable def zx : Zst × St := sk ⟨(Classical.choice neZst, ⟨[], [], [], none, none⟩)⟩ fun z => Mine.read_flush_.z1.z1.zP1 (z.1.n 0) (z.2) (z.1.m 0) (z.1.h 0) (z.1.n 1) (z.1.ld 0) (z.1.lu 0) (z.1.n 2) (z.1.n 3) (z.1.n 4) (z.1.n 5) (z.1.n 6) (z.1.n 7) (z.1.n 8) (z.1.n 9) (z.1.n 10) (z.1.n 11) (z.1.n 12) (z.1.n 13) (z.1.v 0) (z.1.v 1) (z.1.lv 0) (z.1.lv 1) (z.1.lv 2)
theorem zgo : Mine.read_flush_.z1.z1.zP1 (zx.1.n 0) (zx.2) (zx.1.m 0) (zx.1.h 0) (zx.1.n 1) (zx.1.ld 0) (zx.1.lu 0) (zx.1.n 2) (zx.1.n 3) (zx.1.n 4) (zx.1.n 5) (zx.1.n 6) (zx.1.n 7) (zx.1.n 8) (zx.1.n 9) (zx.1.n 10) (zx.1.n 11) (zx.1.n 12) (zx.1.n 13) (zx.1.v 0) (zx.1.v 1) (zx.1.lv 0) (zx.1.lv 1) (zx.1.lv 2) := by
  refine' zcast Mine.read_flush_.z1.z1.zp1 (fun zf => zf (zx.1.n 0) (zx.2) (zx.1.m 0) (zx.1.h 0) (zx.1.n 1) (zx.1.ld 0) (zx.1.lu 0) (zx.1.n 2) (zx.1.n 3) (zx.1.n 4) (zx.1.n 5) (zx.1.n 6) (zx.1.n 7) (zx.1.n 8) (zx.1.n 9) (zx.1.n 10) (zx.1.n 11) (zx.1.n 12) (zx.1.n 13) (zx.1.v 0) (zx.1.v 1) (zx.1.lv 0) (zx.1.lv 1) (zx.1.lv 2)) ((_ : ∀ i st u h tk own b t9 t1 t2 t3 t4 t5 t6 t7 n nw no ns dv sv uw uo us2, Mine.read_flush_.z1.z1.zs.1.1 i st u h tk own b t9 t1 t2 t3 t4 t5 t6 t7 n nw no ns dv sv uw uo us2) (zx.1.n 0) (zx.2) (zx.1.m 0) (zx.1.h 0) (zx.1.n 1) (zx.1.ld 0) (zx.1.lu 0) (zx.1.n 2) (zx.1.n 3) (zx.1.n 4) (zx.1.n 5) (zx.1.n 6) (zx.1.n 7) (zx.1.n 8) (zx.1.n 9) (zx.1.n 10) (zx.1.n 11) (zx.1.n 12) (zx.1.n 13) (zx.1.v 0) (zx.1.v 1) (zx.1.lv 0) (zx.1.lv 1) (zx.1.lv 2))
  intro i st u h tk own b t9 t1 t2 t3 t4 t5 t6 t7 n nw no ns dv sv uw uo us2 hoe ho hb hb4 hbt hk9 hh1 ht1 hbd B X zi1x3 hk hd hu hret hexc mk9 B' X' T' kG' hnd hTD hR9 oT oD zi1x7 zi1x8 zi1x9 zi1x10 zi1x11 zi1x12 zi1x13 zi1x14 zi1x15 zi1x16 zi1x17 zi1x18 zi1x19 zi2x3 zi2x4 zi1x22 zi1x31 hl9 hl8 hl7 l1 hsep hi hf hbi hv hb9 hb8 hb1 hb2 hb3 hR hO hS hD hN hL hoff zi2x5 zi2x6 zi2x7 zi2x8 zi2x9 zi2x10 zi2x11 zi2x12 zi2x13 zi2x14 zi2x15 zi2x16 zi2x17 z8 z7 lF9 lN9
  w_strict (
   k_steps
   unfold Hold
   refine' Spec.use (take_all w x d lw lo ls lt st _ hL (rowOf b) _ k _ ?h1 hk9 hb1 hb2 hb3 (nd_take (n := 5) hnd)) ([(DS, listOf us.toArray 0), (D1, listOf (us.concat (.int 0 tz)).toArray nn), (lt, listOf #[] 0)] ++ own) ?k1 ?k2 ?k3 ?k4 ?k5 ?kK ?kd ?ku ?hm ?hr ?hs ?ret ?exc
   case h1 => have := rowOf_len b; omega
   case k1 => k_asm
   case k2 => k_asm
   case k3 => k_asm
   case k4 => k_asm
   case k5 => k_asm
   case kK => first | exact rfl | assumption
   case kd => ktr_room
   case ku => ktr_units
   case hm => walk_at "sub here"
   case hr =>
     intro p hp
     rcases List.mem_append.mp hp with hp | hp
     · exact List.mem_append_left own (List.mem_append_right [_, _, _, _, _] hp)
     · exact List.mem_append_right [_, _, _, _, _, _, _, _] hp
   case hs =>
     intro p hp hm
     rw [hL.addrs] at hm
     rcases List.mem_append.mp hp with hp | hp
     · exact hsep p.1 (List.mem_map.mpr ⟨p, hp, rfl⟩) hm
     · exact hoff p hp p.1 (List.mem_append_left [_, _, _] hm) rfl
   case ret =>
     rintro v' h' tk' mine' ⟨rfl, st', htk, hL'⟩ F' N' K'
     walk_at "tidy"
     k_steps
     refine At.end ⟨mine', st'⟩ hoff (by assumption) (by assumption) (by rw [List.map_append, hL'.addrs]; rfl) ?zn ?zw (fun _ h => nomatch h) (by intro z h1 h2 h3; simp +zetaDelta [h1, kstB]) ⟨hL', ?zf⟩
     case zn => intro p hp; rcases List.mem_append.mp hp with hp | hp; (· exact List.mem_append.mpr (.inl hp)); (· exact List.mem_append.mpr (.inr (List.mem_append.mpr (.inl hp))))
     case zw => intro p hp; exact List.mem_append.mpr (.inr (List.mem_append.mpr (.inr hp)))
     case zf =>
       have hri : (stripR hs)[i]? = some (rowOf b) := by unfold stripR; rw [List.getElem?_map, hbi]; rfl
       rw [take_succ hri, foldT_snoc, hf]
       exact htk
   case exc =>
     intro hbad e t vs h' tk R U
     have W' := OnWay.mk ⟨_, _, _, (by k_asm), (fun p hp => (by assumption : News _ _ _ _) p (List.mem_append_left _ hp)), R, U⟩
     clear R U
     k_steps
     refine Flies.of (hexc ?_) (by assumption) (by assumption) (by assumption)
     have hri : (stripR hs)[i]? = some (rowOf b) := by unfold stripR; rw [List.getElem?_map, hbi]; rfl
     refine readP_bad (i := i + 1) ?_
     rw [take_succ hri, foldT_snoc, hf]
     exact hbad
  )
theorem zall : ∀ z : Zst × St, Mine.read_flush_.z1.z1.zP1 (z.1.n 0) (z.2) (z.1.m 0) (z.1.h 0) (z.1.n 1) (z.1.ld 0) (z.1.lu 0) (z.1.n 2) (z.1.n 3) (z.1.n 4) (z.1.n 5) (z.1.n 6) (z.1.n 7) (z.1.n 8) (z.1.n 9) (z.1.n 10) (z.1.n 11) (z.1.n 12) (z.1.n 13) (z.1.v 0) (z.1.v 1) (z.1.lv 0) (z.1.lv 1) (z.1.lv 2) := by refine @sk_all _ ⟨(Classical.choice neZst, ⟨[], [], [], none, none⟩)⟩ _ ?_; with_unfolding_all exact zgo
end z1
@[irreducible] noncomputable def zP2 : St → (PySem.Str → Option Value) → Heap → Nat → Tok → Tok → Tok → Tok → Tok → Tok → Tok → Nat → Nat → Nat → Nat → Value → Value → (List Value) → (List Value) → (List Value) → Bool → Bool → Prop := Mine.read_flush_.z1.z1.zs.1.2
theorem zp2 : zP2 = Mine.read_flush_.z1.z1.zs.1.2 := by with_unfolding_all rfl
namespace z2
@[irreducible] noncomputable def zx : Zst × St := sk ⟨(Classical.choice neZst, ⟨[], [], [], none, none⟩)⟩ fun z => Mine.read_flush_.z1.z1.zP2 (z.2) (z.1.m 0) (z.1.h 0) (z.1.n 0) (z.1.n 1) (z.1.n 2) (z.1.n 3) (z.1.n 4) (z.1.n 5) (z.1.n 6) (z.1.n 7) (z.1.n 8) (z.1.n 9) (z.1.n 10) (z.1.n 11) (z.1.v 0) (z.1.v 1) (z.1.lv 0) (z.1.lv 1) (z.1.lv 2) (z.1.b 0) (z.1.b 1)
@[irreducible] noncomputable def st : St := zx.2
@[irreducible] noncomputable def u : PySem.Str → Option Value := zx.1.m 0
@[irreducible] noncomputable def h : Heap := zx.1.h 0
@[irreducible] noncomputable def tk : Nat := zx.1.n 0
@[irreducible] noncomputable def t1 : Tok := zx.1.n 1
@[irreducible] noncomputable def t2 : Tok := zx.1.n 2
@[irreducible] noncomputable def t3 : Tok := zx.1.n 3
@[irreducible] noncomputable def t4 : Tok := zx.1.n 4
@[irreducible] noncomputable def t5 : Tok := zx.1.n 5
@[irreducible] noncomputable def t6 : Tok := zx.1.n 6
@[irreducible] noncomputable def t7 : Tok := zx.1.n 7
@[irreducible] noncomputable def n : Nat := zx.1.n 8
@[irreducible] noncomputable def nw : Nat := zx.1.n 9
@[irreducible] noncomputable def no : Nat := zx.1.n 10
@[irreducible] noncomputable def ns : Nat := zx.1.n 11
@[irreducible] noncomputable def dv : Value := zx.1.v 0
@[irreducible] noncomputable def sv : Value := zx.1.v 1
@[irreducible] noncomputable def uw : List Value := zx.1.lv 0
@[irreducible] noncomputable def uo : List Value := zx.1.lv 1
@[irreducible] noncomputable def us2 : List Value := zx.1.lv 2
def zT (P1 : St → (PySem.Str → Option Value) → Heap → Nat → Tok → Tok → Tok → Tok → Tok → Tok → Tok → Nat → Nat → Nat → Nat → Value → Value → (List Value) → (List Value) → (List Value) → Bool → Bool → Heap → Nat → Prop) : Prop := ∀ st u h tk t1 t2 t3 t4 t5 t6 t7 n nw no ns dv sv uw uo us2 bD bS, (∀ y0 y1, P1 st u h tk t1 t2 t3 t4 t5 t6 t7 n nw no ns dv sv uw uo us2 bD bS y0 y1) → Mine.read_flush_.z1.z1.zs.1.2 st u h tk t1 t2 t3 t4 t5 t6 t7 n nw no ns dv sv uw uo us2 bD bS
noncomputable def zs : { P : Heap → Nat → Prop // (∀ y0 y1, P y0 y1) → Mine.read_flush_.z1.z1.zs.1.2 st u h tk t1 t2 t3 t4 t5 t6 t7 n nw no ns dv sv uw uo us2 (zx.1.b 0) (zx.1.b 1) } := by
  refine' ⟨_, (_ : zT _) st u h tk t1 t2 t3 t4 t5 t6 t7 n nw no ns dv sv uw uo us2 (zx.1.b 0) (zx.1.b 1)⟩
  rotate_left 1
  · intro st u h tk t1 t2 t3 t4 t5 t6 t7 n nw no ns dv sv uw uo us2 bD bS zR1 hoe ho hb hb4 hbt hk9 hh1 ht1 hbd B X zi1x3 hk hd hu hret hexc B' X' T' kG' hnd hTD hR9 oT oD zi1x7 zi1x8 zi1x9 zi1x10 zi1x11 zi1x12 zi1x13 zi1x14 zi1x15 zi1x16 zi1x17 zi1x18 zi1x19 zi2x3 zi2x4 zi1x22 zi1x31 hl9 hl8 hl7 l1 hf hR hO hS hD hN hL hb1 hb2 hb3 hl5 hbD hbS zi2x5 zi2x6 zi2x7 zi2x8 zi2x9 zi2x10 zi2x11 zi2x12 zi2x13 zi2x14 zi2x15 zi2x16 zi2x17 z8 z7 lF9 lN9
    w_strict (
     k_steps
     unfold Hold
     refine join_test (bD && bS) (by k_asm) (by k_asm) ?test1 ?cont1
     case test1 =>
       have mk9 : Mark9 := trivial
       k_steps
       all_goals first | assumption | (rename bD = _ => q7; first | (rename bS = _ => q8; rw [q7, q8]; rfl) | (rw [q7]; rfl))
     case cont1 =>
       intro h9 tk9 F9 N9
       walk_at "tidy"
       k_steps
       · rename (_ && _) = true => q7
         refine Flies.of (hexc ?_) (by assumption) (by assumption) (by assumption)
         unfold readP
         rw [hf]
         dsimp only
         rw [hbD, hbS, if_pos (by simpa using q7)]
       · rename (_ && _) = false => q7
         unfold Hold
         refine join_test (decide (uw.length = 0) && decide (0 < us.length)) (by k_asm) (by k_asm) ?test2 ?cont2
         case test2 =>
           have mk9 : Mark9 := trivial
           k_steps
           all_goals try assumption
           all_goals first | assumption | (refine News.sub_J (by assumption) ?_; walk_at "sub here") | skip
           · rename uw.length = 0 => q7
             rename (1 : Int) < _ => q8
             simp only [List.concat_eq_append, List.size_toArray, List.length_append, List.length_singleton] at q8
             rw [decide_eq_true q7, decide_eq_true (p := 0 < us.length) (by omega)]; rfl
           · rename ¬ ((1 : Int) < _) => q8
             simp only [List.concat_eq_append, List.size_toArray, List.length_append, List.length_singleton] at q8
             rw [decide_eq_false (p := 0 < us.length) (by omega), Bool.and_false]
           · rename ¬ uw.length = 0 => q7
             rw [decide_eq_false q7, Bool.false_and]
         case cont2 =>
           intro h8 tk8 F8 N8
           walk_at "tidy"
           k_steps
           · rename (_ && _) = true => q6
             refine Flies.of (hexc ?_) (by assumption) (by assumption) (by assumption)
             simp only [Bool.and_eq_true, decide_eq_true_eq] at q6
             unfold readP
             rw [hf]
             dsimp only
             rw [hbD, hbS, if_neg (by rw [← Bool.and_eq_true, q7]; exact Bool.false_ne_true), if_pos ⟨List.length_eq_zero_iff.mp (by omega), fun hh => by rw [hh] at hl9; simp at hl9; rw [hl9] at q6; exact absurd q6.2 (by decide)⟩]
           · rename (decide _ && _) = false => q6
             unfold Hold
             walk_at "tidy"
             have hrd : readP k hs ts = (tailP k ts []).map fun p => (st, p.1, p.2) := by
               unfold readP
               rw [hf]
               dsimp only
               rw [hbD, hbS, if_neg (by rw [← Bool.and_eq_true, q7]; exact Bool.false_ne_true), if_neg]
               rintro ⟨h1, h2⟩
               have h3 : 0 < us.length := by rw [hl9]; exact List.length_pos_iff.mpr h2
               rw [decide_eq_true (p := uw.length = 0) (by rw [hl5, h1]; rfl), decide_eq_true h3] at q6
               exact absurd q6 (by decide)
             rename Fr _ _ _ _ => lF
             rename News _ _ _ _ => lN
             (revert hoe ho hb hb4 hbt hk9 hh1 ht1 hbd B X zi1x3 hk hd hu hret hexc B' X' T' kG' hnd hTD hR9 oT oD zi1x7 zi1x8 zi1x9 zi1x10 zi1x11 zi1x12 zi1x13 zi1x14 zi1x15 zi1x16 zi1x17 zi1x18 zi1x19 zi2x3 zi2x4 zi1x22 zi1x31 hl9 hl8 hl7 l1 hf hR hO hS hD hN hL hb1 hb2 hb3 hl5 hbD hbS zi2x5 zi2x6 zi2x7 zi2x8 zi2x9 zi2x10 zi2x11 zi2x12 zi2x13 zi2x14 zi2x15 zi2x16 zi2x17 z8 z7 q7 q6 lF lN hrd; exact zR1 h8 tk8)
    )
@[irreducible] noncomputable def zP1 : Heap → Nat → Prop := Mine.read_flush_.z1.z1.z2.zs.1
theorem zp1 : zP1 = Mine.read_flush_.z1.z1.z2.zs.1 := by with_unfolding_all rfl
namespace z1
@[irreducible] noncomputable def zx : Zst := sk neZst fun z => Mine.read_flush_.z1.z1.z2.zP1 (z.h 0) (z.n 0)
def zT (P1 : Heap → Nat → Nat → (List Value) → (List Item) → Nat → Nat → Nat → Tok → Nat → Tok → (PySem.Str → Option Value) → Heap → Nat → Prop) (P2 : Heap → Nat → Nat → (List Value) → (List Item) → Nat → Nat → Nat → Tok → Nat → Tok → (PySem.Str → Option Value) → Heap → Nat → (List UInt8) → Prop) (P3 : Heap → Nat → Nat → (List Value) → (List Item) → Nat → Nat → Nat → Tok → Nat → Tok → (PySem.Str → Option Value) → Heap → Nat → (List UInt8) → Prop) : Prop := ∀ h8 tk8, (∀ y0 y1 y2 y3 y4 y5 y6 y7 y8 y9 y10 y11, P1 h8 tk8 y0 y1 y2 y3 y4 y5 y6 y7 y8 y9 y10 y11) → (∀ y0 y1 y2 y3 y4 y5 y6 y7 y8 y9 y10 y11 y12, P2 h8 tk8 y0 y1 y2 y3 y4 y5 y6 y7 y8 y9 y10 y11 y12) → (∀ y0 y1 y2 y3 y4 y5 y6 y7 y8 y9 y10 y11 y12, P3 h8 tk8 y0 y1 y2 y3 y4 y5 y6 y7 y8 y9 y10 y11 y12) → Mine.read_flush_.z1.z1.z2.zs.1 h8 tk8
noncomputable def zs : { P : (Nat → (List Value) → (List Item) → Nat → Nat → Nat → Tok → Nat → Tok → (PySem.Str → Option Value) → Heap → Nat → Prop) × (Nat → (List Value) → (List Item) → Nat → Nat → Nat → Tok → Nat → Tok → (PySem.Str → Option Value) → Heap → Nat → (List UInt8) → Prop) × (Nat → (List Value) → (List Item) → Nat → Nat → Nat → Tok → Nat → Tok → (PySem.Str → Option Value) → Heap → Nat → (List UInt8) → Prop) // (∀ y0 y1 y2 y3 y4 y5 y6 y7 y8 y9 y10 y11, P.1 y0 y1 y2 y3 y4 y5 y6 y7 y8 y9 y10 y11) → (∀ y0 y1 y2 y3 y4 y5 y6 y7 y8 y9 y10 y11 y12, P.2.1 y0 y1 y2 y3 y4 y5 y6 y7 y8 y9 y10 y11 y12) → (∀ y0 y1 y2 y3 y4 y5 y6 y7 y8 y9 y10 y11 y12, P.2.2 y0 y1 y2 y3 y4 y5 y6 y7 y8 y9 y10 y11 y12) → Mine.read_flush_.z1.z1.z2.zs.1 (zx.h 0) (zx.n 0) } := by
  refine' ⟨(_, _, _), (_ : zT _ _ _) (zx.h 0) (zx.n 0)⟩
  rotate_left 3
  · intro h8 tk8 zR1 zR2 zR3 hoe ho hb hb4 hbt hk9 hh1 ht1 hbd B X zi1x3 hk hd hu hret hexc B' X' T' kG' hnd hTD hR9 oT oD zi1x7 zi1x8 zi1x9 zi1x10 zi1x11 zi1x12 zi1x13 zi1x14 zi1x15 zi1x16 zi1x17 zi1x18 zi1x19 zi2x3 zi2x4 zi1x22 zi1x31 hl9 hl8 hl7 l1 hf hR hO hS hD hN hL hb1 hb2 hb3 hl5 hbD hbS zi2x5 zi2x6 zi2x7 zi2x8 zi2x9 zi2x10 zi2x11 zi2x12 zi2x13 zi2x14 zi2x15 zi2x16 zi2x17 z8 z7 q7 q6 lF lN hrd
    w_strict (
     refine' whileM (σ := WhS) (fun c => [(x, instObj 205 d), (d, frD w lw lo ls lt t1 t2 t3 t4 t5 t6 c.t7 c.n dv sv c.done), (lw, listOf uw.toArray nw), (lo, listOf uo.toArray no), (ls, listOf us2.toArray ns), (lt, listOf c.tks.toArray c.nn)]) (fun c => [("at", .int (c.p : Int) c.ta)]) ["item", "oid"] (fun n9 c => n9 = ts.length - c.i ∧ c.i ≤ ts.length ∧ TalkAre c.tks c.tkI ∧ c.tks.length ≤ c.i ∧ c.p = (enc' hs).length + 4 + (enc (ts.take c.i)).length ∧ (c.done = false → tailP k (ts.drop c.i) c.tkI = tailP k ts []) ∧ (c.done = true → tailP k ts [] = if ts.drop c.i = [] then some (c.tkI, true) else none)) ts.length ⟨[], [], 0, 0, (enc' hs).length + 4, false, t7, n, _⟩ lF lN ?hn ?hkk ?hp ?turn
     case hn => walk_at "sub here"
     case hkk => intro p hp; rw [List.mem_singleton.mp hp]; rfl
     case hp => exact ⟨rfl, Nat.zero_le _, .nil, Nat.le_refl _, rfl, fun _ => rfl, by intro hq; exact absurd (show false = true from hq) (by decide)⟩
     case turn =>
       rintro n9 ⟨tks, tkI, nn9, i, p, done, t79, n79, ta⟩ u h tk hP F₁ N₁ next
       have hn9 := hP.1
       have hi9 := hP.2.1
       have hT9 := hP.2.2.1
       have ht9 := hP.2.2.2.1
       have hp9 := hP.2.2.2.2.1
       have hf9 := hP.2.2.2.2.2.1
       have hd9 := hP.2.2.2.2.2.2
       clear hP
       dsimp only at hn9 hi9 hT9 ht9 hp9 hf9 hd9 F₁ N₁
       clear lF lN
       walk_at "tidy"
       have mk9 : Mark9 := trivial
       have hol := congrArg List.length hoe
       simp only [List.length_append, List.length_cons, List.length_nil] at hol
       rcases Nat.lt_or_ge i ts.length with hlt | hge
       · obtain ⟨it, hit⟩ : ∃ it, ts[i]? = some it := ⟨_, List.getElem?_eq_getElem hlt⟩
         have hcut := congrArg List.length (enc_cut hit)
         have hpk := pk_pos it
         simp only [List.length_append] at hcut
         have qlt : decide ((p : Int) < (o.toArray.size : Int)) = true := decide_eq_true (by rw [List.size_toArray]; omega)
         rw [drop_cons hit] at hf9 hd9
         rcases done with _ | _
         · have hg9 := hf9 rfl
           have hpre : p = (enc' hs ++ ([48, 48, 48, 48] ++ enc (ts.take i))).length := by
             simp only [List.length_append, List.length_cons, List.length_nil]
             omega
           have hsn := congrArg List.length (enc_snoc hit)
           rw [List.length_append] at hsn
           have hob := hoe.symm
           rw [enc_cut hit] at hob
           clear hf9 hd9
           rcases it with _ | b
           · have he9 : o = (enc' hs ++ ([48, 48, 48, 48] ++ enc (ts.take i))) ++ ([48, 48, 48, 48] ++ enc (ts.drop (i + 1))) := by
               rw [hob]
               simp only [pk, List.append_assoc]
             (revert hoe ho hb hb4 hbt hk9 hh1 ht1 hbd B X zi1x3 hk hd hu hret hexc B' X' T' kG' hnd hTD hR9 oT oD zi1x7 zi1x8 zi1x9 zi1x10 zi1x11 zi1x12 zi1x13 zi1x14 zi1x15 zi1x16 zi1x17 zi1x18 zi1x19 zi2x3 zi2x4 zi1x22 zi1x31 hl9 hl8 hl7 l1 hf hR hO hS hD hN hL hb1 hb2 hb3 hl5 hbD hbS zi2x5 zi2x6 zi2x7 zi2x8 zi2x9 zi2x10 zi2x11 zi2x12 zi2x13 zi2x14 zi2x15 zi2x16 zi2x17 z8 z7 q7 q6 hrd next hn9 hi9 hT9 ht9 hp9 lF9 mk9 hol hlt qlt lN9 hpre hit hpk hcut hg9 hsn hob he9; exact zR1 n9 tks tkI nn9 i p t79 n79 ta u h tk)
           · have hbb := hbt b (List.mem_of_getElem? hit)
             have hbb4 : b.length ≤ 4000 := by omega
             have he9 : o = (enc' hs ++ ([48, 48, 48, 48] ++ enc (ts.take i))) ++ (pktL b ++ enc (ts.drop (i + 1))) := by
               rw [hob]
               simp only [pk, List.append_assoc]
             have hpkb : (pk (some b)).length = b.length + 4 := by
               show (pktL b).length = _
               rw [pktL, List.length_append, hdrL_length]; omega
             have hbb6 : b.length ≤ 65536 := by omega
             have hrl := rowOf_len b
             have hrl4 : (rowOf b).length ≤ 4096 := by omega
             by_cases hdn : rowOf b = DONE
             · have qdn : (rowOf b == [100, 111, 110, 101]) = true := by rw [hdn]; rfl
               (revert hoe ho hb hb4 hbt hk9 hh1 ht1 hbd B X zi1x3 hk hd hu hret hexc B' X' T' kG' hnd hTD hR9 oT oD zi1x7 zi1x8 zi1x9 zi1x10 zi1x11 zi1x12 zi1x13 zi1x14 zi1x15 zi1x16 zi1x17 zi1x18 zi1x19 zi2x3 zi2x4 zi1x22 zi1x31 hl9 hl8 hl7 l1 hf hR hO hS hD hN hL hb1 hb2 hb3 hl5 hbD hbS zi2x5 zi2x6 zi2x7 zi2x8 zi2x9 zi2x10 zi2x11 zi2x12 zi2x13 zi2x14 zi2x15 zi2x16 zi2x17 z8 z7 q7 q6 hrd next hn9 hi9 hT9 ht9 hp9 lF9 mk9 hol hlt qlt lN9 hpre hit hpk hcut hg9 hsn hob hbb hbb4 he9 hpkb hbb6 hrl hrl4 hdn qdn; exact zR2 n9 tks tkI nn9 i p t79 n79 ta u h tk b)
             · have qdn : (rowOf b == [100, 111, 110, 101]) = false := by simpa using hdn
               (revert hoe ho hb hb4 hbt hk9 hh1 ht1 hbd B X zi1x3 hk hd hu hret hexc B' X' T' kG' hnd hTD hR9 oT oD zi1x7 zi1x8 zi1x9 zi1x10 zi1x11 zi1x12 zi1x13 zi1x14 zi1x15 zi1x16 zi1x17 zi1x18 zi1x19 zi2x3 zi2x4 zi1x22 zi1x31 hl9 hl8 hl7 l1 hf hR hO hS hD hN hL hb1 hb2 hb3 hl5 hbD hbS zi2x5 zi2x6 zi2x7 zi2x8 zi2x9 zi2x10 zi2x11 zi2x12 zi2x13 zi2x14 zi2x15 zi2x16 zi2x17 z8 z7 q7 q6 hrd next hn9 hi9 hT9 ht9 hp9 lF9 mk9 hol hlt qlt lN9 hpre hit hpk hcut hg9 hsn hob hbb hbb4 he9 hpkb hbb6 hrl hrl4 hdn qdn; exact zR3 n9 tks tkI nn9 i p t79 n79 ta u h tk b)
         · k_steps
           refine Flies.of (hexc ?_) (by assumption) (by assumption) (by assumption)
           rw [hrd, hd9 rfl, if_neg (by intro hh; cases hh)]
           rfl
       · obtain rfl : i = ts.length := Nat.le_antisymm hi9 hge
         rw [List.take_length] at hp9
         have hlen : p = o.length := by omega
         rw [List.drop_length] at hf9 hd9
         have qlt : decide ((p : Int) < (o.toArray.size : Int)) = false := decide_eq_false (by rw [List.size_toArray]; omega)
         k_steps
         have hres : readP k hs ts = some (st, tkI, done) := by
           rw [hrd]
           rcases done with _ | _
           · rw [← hf9 rfl]; rfl
           · rw [hd9 rfl, if_pos rfl]; rfl
         (refine' hret _ _ _ _ (ReadOk.mk x st tkI done d lw lo ls lt _ _ _ _ _ _ _ _ _ _ _ _ dv sv uw uo us2 tks hres hnd hR hO hS hD hN hT9) ?zF610 ?zN610 ?zK610; (case zF610 => assumption); (case zN610 => (refine News.sub_J (by assumption) ?_; walk_at "sub here")); (case zK610 => exact kept_of (by assumption) (by assumption) (News.sub_J (by assumption) (by walk_at "sub here"))))
    )
@[irreducible] noncomputable def zP1 : Nat → (List Value) → (List Item) → Nat → Nat → Nat → Tok → Nat → Tok → (PySem.Str → Option Value) → Heap → Nat → Prop := Mine.read_flush_.z1.z1.z2.z1.zs.1.1
theorem zp1 : zP1 = Mine.read_flush_.z1.z1.z2.z1.zs.1.1 := by with_unfolding_all rfl
namespace z1
@[irreducible] noncomputable def zx : Zst × (List Item) := sk ⟨(Classical.choice neZst, default)⟩ fun z => Mine.read_flush_.z1.z1.z2.z1.zP1 (z.1.n 0) (z.1.lv 0) (z.2) (z.1.n 1) (z.1.n 2) (z.1.n 3) (z.1.n 4) (z.1.n 5) (z.1.n 6) (z.1.m 0) (z.1.h 0) (z.1.n 7)
theorem zgo : Mine.read_flush_.z1.z1.z2.z1.zP1 (zx.1.n 0) (zx.1.lv 0) (zx.2) (zx.1.n 1) (zx.1.n 2) (zx.1.n 3) (zx.1.n 4) (zx.1.n 5) (zx.1.n 6) (zx.1.m 0) (zx.1.h 0) (zx.1.n 7) := by
  refine' zcast Mine.read_flush_.z1.z1.z2.z1.zp1 (fun zf => zf (zx.1.n 0) (zx.1.lv 0) (zx.2) (zx.1.n 1) (zx.1.n 2) (zx.1.n 3) (zx.1.n 4) (zx.1.n 5) (zx.1.n 6) (zx.1.m 0) (zx.1.h 0) (zx.1.n 7)) ((_ : ∀ n9 tks tkI nn9 i p t79 n79 ta u h tk, Mine.read_flush_.z1.z1.z2.z1.zs.1.1 n9 tks tkI nn9 i p t79 n79 ta u h tk) (zx.1.n 0) (zx.1.lv 0) (zx.2) (zx.1.n 1) (zx.1.n 2) (zx.1.n 3) (zx.1.n 4) (zx.1.n 5) (zx.1.n 6) (zx.1.m 0) (zx.1.h 0) (zx.1.n 7))
  intro n9 tks tkI nn9 i p t79 n79 ta u h tk hoe ho hb hb4 hbt hk9 hh1 ht1 hbd B X zi1x3 hk hd hu hret hexc B' X' T' kG' hnd hTD hR9 oT oD zi1x7 zi1x8 zi1x9 zi1x10 zi1x11 zi1x12 zi1x13 zi1x14 zi1x15 zi1x16 zi1x17 zi1x18 zi1x19 zi2x3 zi2x4 zi1x22 zi1x31 hl9 hl8 hl7 l1 hf hR hO hS hD hN hL hb1 hb2 hb3 hl5 hbD hbS zi2x5 zi2x6 zi2x7 zi2x8 zi2x9 zi2x10 zi2x11 zi2x12 zi2x13 zi2x14 zi2x15 zi2x16 zi2x17 z8 z7 q7 q6 hrd next hn9 hi9 hT9 ht9 hp9 lF9 mk9 hol hlt qlt lN9 hpre hit hpk hcut hg9 hsn hob he9
  w_strict (
   k_steps
   unfold Hold
   refine' next (n9 - 1) ⟨tks.concat (.int 0 _), tkI ++ [none], nn9 + 1, i + 1, p + 4, false, _, _, _⟩ _ _ _ _ ?zl ?zp (by assumption) (by assumption) ?zs ?zk ?zo
   case zo =>
     intro z h2 h3
     have h4 := h2 _ (List.mem_singleton.mpr rfl)
     simp only [List.contains_cons, List.contains_nil, Bool.or_false, Bool.or_eq_false_iff, beq_eq_false_iff_ne, ne_eq] at h3
     simp +zetaDelta [h3, h4, kstB]
   case zs => dsimp only; walk_at "sub here"
   case zk => intro q hq; rw [List.mem_singleton.mp hq]; rfl
   case zl => omega
   case zp => exact ⟨by dsimp only; omega, by dsimp only; omega, by dsimp only; rw [List.concat_eq_append]; exact hT9.snoc ⟨_, rfl⟩, by dsimp only; rw [List.concat_eq_append, List.length_append, List.length_singleton]; omega, by dsimp only; rw [hsn, hp9]; rfl, fun _ => by rw [← hg9]; rfl, by intro hq; exact absurd (show false = true from hq) (by decide)⟩
  )
theorem zall : ∀ z : Zst × (List Item), Mine.read_flush_.z1.z1.z2.z1.zP1 (z.1.n 0) (z.1.lv 0) (z.2) (z.1.n 1) (z.1.n 2) (z.1.n 3) (z.1.n 4) (z.1.n 5) (z.1.n 6) (z.1.m 0) (z.1.h 0) (z.1.n 7) := by refine @sk_all _ ⟨(Classical.choice neZst, default)⟩ _ ?_; with_unfolding_all exact zgo
end z1
@[irreducible] noncomputable def zP2 : Nat → (List Value) → (List Item) → Nat → Nat → Nat → Tok → Nat → Tok → (PySem.Str → Option Value) → Heap → Nat → (List UInt8) → Prop := Mine.read_flush_.z1.z1.z2.z1.zs.1.2.1
theorem zp2 : zP2 = Mine.read_flush_.z1.z1.z2.z1.zs.1.2.1 := by with_unfolding_all rfl
namespace z2
@[irreducible] noncomputable def zx : Zst × (List Item) := sk ⟨(Classical.choice neZst, default)⟩ fun z => Mine.read_flush_.z1.z1.z2.z1.zP2 (z.1.n 0) (z.1.lv 0) (z.2) (z.1.n 1) (z.1.n 2) (z.1.n 3) (z.1.n 4) (z.1.n 5) (z.1.n 6) (z.1.m 0) (z.1.h 0) (z.1.n 7) (z.1.lu 0)
theorem zgo : Mine.read_flush_.z1.z1.z2.z1.zP2 (zx.1.n 0) (zx.1.lv 0) (zx.2) (zx.1.n 1) (zx.1.n 2) (zx.1.n 3) (zx.1.n 4) (zx.1.n 5) (zx.1.n 6) (zx.1.m 0) (zx.1.h 0) (zx.1.n 7) (zx.1.lu 0) := by
  refine' zcast Mine.read_flush_.z1.z1.z2.z1.zp2 (fun zf => zf (zx.1.n 0) (zx.1.lv 0) (zx.2) (zx.1.n 1) (zx.1.n 2) (zx.1.n 3) (zx.1.n 4) (zx.1.n 5) (zx.1.n 6) (zx.1.m 0) (zx.1.h 0) (zx.1.n 7) (zx.1.lu 0)) ((_ : ∀ n9 tks tkI nn9 i p t79 n79 ta u h tk b, Mine.read_flush_.z1.z1.z2.z1.zs.1.2.1 n9 tks tkI nn9 i p t79 n79 ta u h tk b) (zx.1.n 0) (zx.1.lv 0) (zx.2) (zx.1.n 1) (zx.1.n 2) (zx.1.n 3) (zx.1.n 4) (zx.1.n 5) (zx.1.n 6) (zx.1.m 0) (zx.1.h 0) (zx.1.n 7) (zx.1.lu 0))
  intro n9 tks tkI nn9 i p t79 n79 ta u h tk b hoe ho hb hb4 hbt hk9 hh1 ht1 hbd B X zi1x3 hk hd hu hret hexc B' X' T' kG' hnd hTD hR9 oT oD zi1x7 zi1x8 zi1x9 zi1x10 zi1x11 zi1x12 zi1x13 zi1x14 zi1x15 zi1x16 zi1x17 zi1x18 zi1x19 zi2x3 zi2x4 zi1x22 zi1x31 hl9 hl8 hl7 l1 hf hR hO hS hD hN hL hb1 hb2 hb3 hl5 hbD hbS zi2x5 zi2x6 zi2x7 zi2x8 zi2x9 zi2x10 zi2x11 zi2x12 zi2x13 zi2x14 zi2x15 zi2x16 zi2x17 z8 z7 q7 q6 hrd next hn9 hi9 hT9 ht9 hp9 lF9 mk9 hol hlt qlt lN9 hpre hit hpk hcut hg9 hsn hob hbb hbb4 he9 hpkb hbb6 hrl hrl4 hdn qdn
  w_strict (
   k_steps
   unfold Hold
   refine' next (n9 - 1) ⟨tks, tkI, nn9, i + 1, p + (b.length + 4), true, _, _, _⟩ _ _ _ _ ?zl ?zp (by assumption) (by assumption) ?zs ?zk ?zo
   case zo =>
     intro z h2 h3
     have h4 := h2 _ (List.mem_singleton.mpr rfl)
     simp only [List.contains_cons, List.contains_nil, Bool.or_false, Bool.or_eq_false_iff, beq_eq_false_iff_ne, ne_eq] at h3
     simp +zetaDelta [h3, h4, kstB]
   case zs => dsimp only; walk_at "sub here"
   case zk => intro q hq; rw [List.mem_singleton.mp hq]; rfl
   case zl => omega
   case zp => exact ⟨by dsimp only; omega, by dsimp only; omega, hT9, by dsimp only; omega, by dsimp only; rw [hsn, hp9, hpkb]; omega, by intro hq; exact absurd (show true = false from hq) (by decide), fun _ => by rw [← hg9]; simp only [tailP, hdn, if_true]⟩
  )
theorem zall : ∀ z : Zst × (List Item), Mine.read_flush_.z1.z1.z2.z1.zP2 (z.1.n 0) (z.1.lv 0) (z.2) (z.1.n 1) (z.1.n 2) (z.1.n 3) (z.1.n 4) (z.1.n 5) (z.1.n 6) (z.1.m 0) (z.1.h 0) (z.1.n 7) (z.1.lu 0) := by refine @sk_all _ ⟨(Classical.choice neZst, default)⟩ _ ?_; with_unfolding_all exact zgo
end z2
@[irreducible] noncomputable def zP3 : Nat → (List Value) → (List Item) → Nat → Nat → Nat → Tok → Nat → Tok → (PySem.Str → Option Value) → Heap → Nat → (List UInt8) → Prop := Mine.read_flush_.z1.z1.z2.z1.zs.1.2.2
theorem zp3 : zP3 = Mine.read_flush_.z1.z1.z2.z1.zs.1.2.2 := by with_unfolding_all rfl
namespace z3
@[irreducible] noncomputable def zx : Zst × (List Item) := sk ⟨(Classical.choice neZst, default)⟩ fun z => Mine.read_flush_.z1.z1.z2.z1.zP3 (z.1.n 0) (z.1.lv 0) (z.2) (z.1.n 1) (z.1.n 2) (z.1.n 3) (z.1.n 4) (z.1.n 5) (z.1.n 6) (z.1.m 0) (z.1.h 0) (z.1.n 7) (z.1.lu 0)
theorem zgo : Mine.read_flush_.z1.z1.z2.z1.zP3 (zx.1.n 0) (zx.1.lv 0) (zx.2) (zx.1.n 1) (zx.1.n 2) (zx.1.n 3) (zx.1.n 4) (zx.1.n 5) (zx.1.n 6) (zx.1.m 0) (zx.1.h 0) (zx.1.n 7) (zx.1.lu 0) := by
  refine' zcast Mine.read_flush_.z1.z1.z2.z1.zp3 (fun zf => zf (zx.1.n 0) (zx.1.lv 0) (zx.2) (zx.1.n 1) (zx.1.n 2) (zx.1.n 3) (zx.1.n 4) (zx.1.n 5) (zx.1.n 6) (zx.1.m 0) (zx.1.h 0) (zx.1.n 7) (zx.1.lu 0)) ((_ : ∀ n9 tks tkI nn9 i p t79 n79 ta u h tk b, Mine.read_flush_.z1.z1.z2.z1.zs.1.2.2 n9 tks tkI nn9 i p t79 n79 ta u h tk b) (zx.1.n 0) (zx.1.lv 0) (zx.2) (zx.1.n 1) (zx.1.n 2) (zx.1.n 3) (zx.1.n 4) (zx.1.n 5) (zx.1.n 6) (zx.1.m 0) (zx.1.h 0) (zx.1.n 7) (zx.1.lu 0))
  intro n9 tks tkI nn9 i p t79 n79 ta u h tk b hoe ho hb hb4 hbt hk9 hh1 ht1 hbd B X zi1x3 hk hd hu hret hexc B' X' T' kG' hnd hTD hR9 oT oD zi1x7 zi1x8 zi1x9 zi1x10 zi1x11 zi1x12 zi1x13 zi1x14 zi1x15 zi1x16 zi1x17 zi1x18 zi1x19 zi2x3 zi2x4 zi1x22 zi1x31 hl9 hl8 hl7 l1 hf hR hO hS hD hN hL hb1 hb2 hb3 hl5 hbD hbS zi2x5 zi2x6 zi2x7 zi2x8 zi2x9 zi2x10 zi2x11 zi2x12 zi2x13 zi2x14 zi2x15 zi2x16 zi2x17 z8 z7 q7 q6 hrd next hn9 hi9 hT9 ht9 hp9 lF9 mk9 hol hlt qlt lN9 hpre hit hpk hcut hg9 hsn hob hbb hbb4 he9 hpkb hbb6 hrl hrl4 hdn qdn
  w_strict (
   k_steps
   · rename isPlain _ _ = true => q7
     rename List.take 5 _ = haveL => q8
     unfold Hold
     refine' next (n9 - 1) ⟨tks.concat (.bytes _ _), tkI ++ [some (unhex ((rowOf b).drop 5))], nn9 + 1, i + 1, p + (b.length + 4), false, _, _, _⟩ _ _ _ _ ?zl ?zp (by assumption) (by assumption) ?zs ?zk ?zo
     case zo =>
       intro z h2 h3
       have h4 := h2 _ (List.mem_singleton.mpr rfl)
       simp only [List.contains_cons, List.contains_nil, Bool.or_false, Bool.or_eq_false_iff, beq_eq_false_iff_ne, ne_eq] at h3
       simp +zetaDelta [h3, h4, kstB]
     case zs => dsimp only; walk_at "sub here"
     case zk => intro q hq; rw [List.mem_singleton.mp hq]; rfl
     case zl => omega
     case zp => exact ⟨by dsimp only; omega, by dsimp only; omega, by dsimp only; rw [List.concat_eq_append]; exact hT9.snoc ⟨_, rfl⟩, by dsimp only; rw [List.concat_eq_append, List.length_append, List.length_singleton]; omega, by dsimp only; rw [hsn, hp9, hpkb]; omega, fun _ => by rw [← hg9]; simp only [tailP]; rw [if_neg hdn, if_pos ⟨q8, q7⟩], by intro hq; exact absurd (show false = true from hq) (by decide)⟩
   · rename List.take 5 _ ≠ haveL => q8
     refine Flies.of (hexc ?_) (by assumption) (by assumption) (by assumption)
     rw [hrd, ← hg9]
     simp only [tailP]
     rw [if_neg hdn, if_neg (fun hh => q8 hh.1)]; rfl
   · rename _ ∧ isPlain _ _ = false => q8
     refine Flies.of (hexc ?_) (by assumption) (by assumption) (by assumption)
     rw [hrd, ← hg9]
     simp only [tailP]
     rw [if_neg hdn, if_neg (fun hh => by rw [hh.2] at q8; exact absurd q8.2 (by decide))]; rfl
  )
theorem zall : ∀ z : Zst × (List Item), Mine.read_flush_.z1.z1.z2.z1.zP3 (z.1.n 0) (z.1.lv 0) (z.2) (z.1.n 1) (z.1.n 2) (z.1.n 3) (z.1.n 4) (z.1.n 5) (z.1.n 6) (z.1.m 0) (z.1.h 0) (z.1.n 7) (z.1.lu 0) := by refine @sk_all _ ⟨(Classical.choice neZst, default)⟩ _ ?_; with_unfolding_all exact zgo
end z3
theorem zgo : Mine.read_flush_.z1.z1.z2.zP1 (zx.h 0) (zx.n 0) := zcast Mine.read_flush_.z1.z1.z2.zp1 (fun zf => zf (zx.h 0) (zx.n 0)) (zs.2 (by rw [← zp1]; exact fun y0 y1 y2 y3 y4 y5 y6 y7 y8 y9 y10 y11 => z1.zall ((zmk zw zk0 [y0, y3, y4, y5, y6, y7, y8, y11] [] [] [] [] [] [y10] [] [y1] [] [] [] [] [] [] [y9]), y2)) (by rw [← zp2]; exact fun y0 y1 y2 y3 y4 y5 y6 y7 y8 y9 y10 y11 y12 => z2.zall ((zmk zw zk0 [y0, y3, y4, y5, y6, y7, y8, y11] [] [] [] [] [] [y10] [] [y1] [y12] [] [] [] [] [] [y9]), y2)) (by rw [← zp3]; exact fun y0 y1 y2 y3 y4 y5 y6 y7 y8 y9 y10 y11 y12 => z3.zall ((zmk zw zk0 [y0, y3, y4, y5, y6, y7, y8, y11] [] [] [] [] [] [y10] [] [y1] [y12] [] [] [] [] [] [y9]), y2)))
theorem zall : ∀ z : Zst, Mine.read_flush_.z1.z1.z2.zP1 (z.h 0) (z.n 0) := by refine @sk_all _ neZst _ ?_; with_unfolding_all exact zgo
end z1
theorem zgo : Mine.read_flush_.z1.z1.zP2 st u h tk t1 t2 t3 t4 t5 t6 t7 n nw no ns dv sv uw uo us2 (zx.1.b 0) (zx.1.b 1) := zcast Mine.read_flush_.z1.z1.zp2 (fun zf => zf st u h tk t1 t2 t3 t4 t5 t6 t7 n nw no ns dv sv uw uo us2 (zx.1.b 0) (zx.1.b 1)) (zs.2 (by rw [← zp1]; exact fun y0 y1 => z1.zall (zmk zw zk0 [y1] [] [] [] [] [] [y0] [] [] [] [] [] [] [] [] [])))
theorem zall : ∀ z : Zst × St, Mine.read_flush_.z1.z1.zP2 (z.2) (z.1.m 0) (z.1.h 0) (z.1.n 0) (z.1.n 1) (z.1.n 2) (z.1.n 3) (z.1.n 4) (z.1.n 5) (z.1.n 6) (z.1.n 7) (z.1.n 8) (z.1.n 9) (z.1.n 10) (z.1.n 11) (z.1.v 0) (z.1.v 1) (z.1.lv 0) (z.1.lv 1) (z.1.lv 2) (z.1.b 0) (z.1.b 1) := by refine @sk_all _ ⟨(Classical.choice neZst, ⟨[], [], [], none, none⟩)⟩ _ ?_; with_unfolding_all exact zgo
end z2
theorem zgo : Mine.read_flush_.z1.zP1 x d lw lo ls lt (zx.n 6) (zx.n 7) (zx.n 8) (zx.n 9) (zx.n 10) (zx.n 11) (zx.n 12) (zx.n 13) D1 (zx.n 15) us nn tz t2 (zx.n 19) (zx.n 20) (zx.h 0) tk DS h' (zx.o 0) := zcast Mine.read_flush_.z1.zp1 (fun zf => zf x d lw lo ls lt (zx.n 6) (zx.n 7) (zx.n 8) (zx.n 9) (zx.n 10) (zx.n 11) (zx.n 12) (zx.n 13) D1 (zx.n 15) us nn tz t2 (zx.n 19) (zx.n 20) (zx.h 0) tk DS h' (zx.o 0)) (zs.2 (by rw [← zp1]; exact fun y0 y1 y2 y3 y4 y5 y6 y7 y8 y9 y10 y11 y12 y13 y14 y15 y16 y17 y18 y19 y20 y21 y22 y23 => z1.zall ((zmk zw zk0 [y0, y4, y7, y8, y9, y10, y11, y12, y13, y14, y15, y16, y17, y18] [] [] [] [y19, y20] [] [y3] [] [y21, y22, y23] [y6] [] [] [] [y5] [] [y2]), y1)) (by rw [← zp2]; exact fun y0 y1 y2 y3 y4 y5 y6 y7 y8 y9 y10 y11 y12 y13 y14 y15 y16 y17 y18 y19 y20 y21 => z2.zall ((zmk zw zk0 [y3, y4, y5, y6, y7, y8, y9, y10, y11, y12, y13, y14] [] [y20, y21] [] [y15, y16] [] [y2] [] [y17, y18, y19] [] [] [] [] [] [] [y1]), y0)))
theorem zall : ∀ z : Zst, Mine.read_flush_.z1.zP1 (z.n 0) (z.n 1) (z.n 2) (z.n 3) (z.n 4) (z.n 5) (z.n 6) (z.n 7) (z.n 8) (z.n 9) (z.n 10) (z.n 11) (z.n 12) (z.n 13) (z.n 14) (z.n 15) (z.lv 0) (z.n 16) (z.n 17) (z.n 18) (z.n 19) (z.n 20) (z.h 0) (z.n 21) (z.n 22) (z.h 1) (z.o 0) := by refine @sk_all _ neZst _ ?_; with_unfolding_all exact zgo
end z1
theorem zgo : Mine.read_flush_.zP1 (zx.h 0) (zx.n 0) h' tk' := zcast Mine.read_flush_.zp1 (fun zf => zf (zx.h 0) (zx.n 0) h' tk') (zs.2 (by rw [← zp1]; exact fun y0 y1 y2 y3 y4 y5 y6 y7 y8 y9 y10 y11 y12 y13 y14 y15 y16 y17 y18 y19 y20 y21 y22 y23 y24 y25 y26 => z1.zall (zmk zw zk0 [y0, y1, y2, y3, y4, y5, y6, y7, y8, y9, y10, y11, y12, y13, y14, y15, y17, y18, y19, y20, y21, y23, y24] [] [] [] [] [y26] [y22, y25] [] [y16] [] [] [] [] [] [] [])))
theorem zall : ∀ z : Zst, Mine.read_flush_.zP1 (z.h 0) (z.n 0) (z.h 1) (z.n 1) := by refine @sk_all _ neZst _ ?_; with_unfolding_all exact zgo
end z1
theorem zgo : zA w hs ts o t k (zx.1.n 2) zk := zs.2 (by rw [← zp1]; exact fun y0 y1 y2 y3 => z1.zall (zmk zw zk0 [y1, y3] [] [] [] [] [] [y0, y2] [] [] [] [] [] [] [] [] []))
theorem zall : ∀ z : Zst × (List Item), zA (z.1.w) (z.1.ll 0) (z.2) (z.1.lu 0) (z.1.n 0) (z.1.n 1) (z.1.n 2) (z.1.c) := by refine @sk_all _ ⟨(Classical.choice neZst, default)⟩ _ ?_; with_unfolding_all exact zgo
end read_flush_
theorem read_flush (w : World) (hs : List (List UInt8)) (ts : List Item) (o : List UInt8) (hoe : enc' hs ++ ([48, 48, 48, 48] ++ enc ts) = o) (t : Tok) (k : Nat) (tn : Tok) (ho : o.length ≤ 65536) (hb : ∀ b ∈ hs, b.length ≤ 3000) (hb4 : ∀ b ∈ hs, b.length ≤ 4000) (hbt : ∀ b, some b ∈ ts → b.length ≤ 3000) (hk9 : k ≤ 4) (hh1 : hs.length ≤ 1000) (ht1 : ts.length ≤ 1000)
    (hbd : ∀ i st', foldT k st0 ((stripR hs).take i) = some st' → st'.wants.length ≤ 1000 ∧ st'.words.length ≤ 1000 ∧ st'.shallow.length ≤ 1000) :
    Spec w 199 [.bytes o.toArray t, .int (k : Int) tn] 40 400 [] (ReadOk w (readP k hs ts)) (readP k hs ts = none) := Spec.cut fun zk => Mine.read_flush_.zall ((zmk w zk [t, k, tn] [] [] [] [] [] [] [] [] [o] [hs] [] [] [] [] []), ts) hoe ho hb hb4 hbt hk9 hh1 ht1 hbd
end sPt
theorem fl37 : True := by first | walk1 | trivial

section sPu

local macro_rules | `(tactic| walk_at $s:str) => `(tactic| k_extra $(Lean.Syntax.mkStrLit ("S112." ++ s.getString)))
theorem zm39 : True := by
  (k_with "S112.compareOp Eq ref ref" => k_extra "R68")
  (k_with "S112.compareOp Eq ref ref" => k_extra "R69")
  (k_with "S112.subscriptTail" => k_extra "R74")
  trivial
theorem RowsAre.last {us : List Value} {bs : List (List UInt8)} {b : List UInt8} (h : RowsAre us (bs ++ [b])) : ∃ us' t, us = us'.concat (.bytes b.toArray t) ∧ RowsAre us' bs := by
  induction bs generalizing us with
  | nil =>
    cases h with
    | cons c t h2 =>
      cases h2
      exact ⟨[], t, rfl, .nil⟩
  | cons a r ih =>
    cases h with
    | cons c t h2 =>
      obtain ⟨us', t', rfl, h3⟩ := ih h2
      exact ⟨_ :: us', t', rfl, .cons _ _ h3⟩
theorem read_pktsN (w : World) (ups : List (List UInt8)) (b : List UInt8) (t : Tok) (ho : (enc' (ups ++ [b])).length ≤ 65536) (hb : ∀ c ∈ ups ++ [b], c.length ≤ 4000) :
    Spec w 140 [.bytes (enc' (ups ++ [b])).toArray t] 12 100 [] (fun v n' => ∃ D T, ∃ us : List Value, ∃ nn t2 tb, T ≠ D ∧ n' = [(T, tup (.ref D) (.int (((enc' (ups ++ [b])).length : Nat) : Int) t2)), (D, listOf (us.concat (.bytes b.toArray tb)).toArray nn)] ∧ v = .ref T) False := by
  refine (read_pkts0 w (ups ++ [b]) t ho hb).mono ?_ id
  rintro v n' ⟨D, T, us, nn, t2, hTD, hR, rfl, rfl⟩
  obtain ⟨us', tb, rfl, _⟩ := hR.last
  exact ⟨D, T, us', nn, t2, tb, hTD, rfl, rfl⟩
theorem zm40 : True := by
  (k_with "S112.call ref" => k_extra "R83")
  trivial
namespace read_none_
def zA (w : World) (hs : List (List UInt8)) (b : List UInt8) (t : Tok) (k : Nat) (tn : Tok) (zk : Cal) : Prop := ∀ (ho : (enc' (hs ++ [b])).length ≤ 65536), ∀ (hb4 : ∀ c ∈ hs ++ [b], c.length ≤ 4000), SpecAt w 199 [.bytes (enc' (hs ++ [b])).toArray t, .int (k : Int) tn] 40 400 [] (fun v n' => False) True zk
@[irreducible] noncomputable def zx : Zst := sk neZst fun z => zA (z.w) (z.ll 0) (z.lu 0) (z.n 0) (z.n 1) (z.n 2) (z.c)
def zT (P1 : World → (List (List UInt8)) → (List UInt8) → Tok → Nat → Tok → Cal → Heap → Addr → Heap → Nat → Prop) : Prop := ∀ w hs b t k tn zk, (∀ y0 y1 y2 y3, P1 w hs b t k tn zk y0 y1 y2 y3) → zA w hs b t k tn zk
noncomputable def zs : { P : Heap → Addr → Heap → Nat → Prop // (∀ y0 y1 y2 y3, P y0 y1 y2 y3) → zA (zx.w) (zx.ll 0) (zx.lu 0) (zx.n 0) (zx.n 1) (zx.n 2) (zx.c) } := by
  refine' ⟨_, (_ : zT _) (zx.w) (zx.ll 0) (zx.lu 0) (zx.n 0) (zx.n 1) (zx.n 2) (zx.c)⟩
  rotate_left 1
  · intro w hs b t k tn zk zR1 ho hb4 B F X N T hk hd hu hret hexc
    w_strict (
     walk_at "my enter"
     (revert ho hb4 B F X N T hk hd hu hret hexc FG' F' N' B' X' T' kG'; exact zR1 g' L' h' tk')
    )
@[irreducible] noncomputable def zP1 : Heap → Addr → Heap → Nat → Prop := Mine.read_none_.zs.1
theorem zp1 : zP1 = Mine.read_none_.zs.1 := by with_unfolding_all rfl
namespace z1
@[irreducible] noncomputable def zx : Zst := sk neZst fun z => Mine.read_none_.zP1 (z.h 0) (z.n 0) (z.h 1) (z.n 1)
theorem zgo : Mine.read_none_.zP1 (zx.h 0) (zx.n 0) (zx.h 1) (zx.n 1) := by
  refine' zcast Mine.read_none_.zp1 (fun zf => zf (zx.h 0) (zx.n 0) (zx.h 1) (zx.n 1)) ((_ : ∀ g' L' h' tk', Mine.read_none_.zs.1 g' L' h' tk') (zx.h 0) (zx.n 0) (zx.h 1) (zx.n 1))
  intro g' L' h' tk' ho hb4 B F X N T hk hd hu hret hexc FG' F' N' B' X' T' kG'
  w_strict (
   k_steps
   exact Flies.of (hexc trivial) (by assumption) (by assumption) (by assumption)
  )
theorem zall : ∀ z : Zst, Mine.read_none_.zP1 (z.h 0) (z.n 0) (z.h 1) (z.n 1) := by refine @sk_all _ neZst _ ?_; with_unfolding_all exact zgo
end z1
theorem zgo : zA (zx.w) (zx.ll 0) (zx.lu 0) (zx.n 0) (zx.n 1) (zx.n 2) (zx.c) := zs.2 (by rw [← zp1]; exact fun y0 y1 y2 y3 => z1.zall (zmk zw zk0 [y1, y3] [] [] [] [] [] [y0, y2] [] [] [] [] [] [] [] [] []))
theorem zall : ∀ z : Zst, zA (z.w) (z.ll 0) (z.lu 0) (z.n 0) (z.n 1) (z.n 2) (z.c) := by refine @sk_all _ neZst _ ?_; with_unfolding_all exact zgo
end read_none_
theorem read_none (w : World) (hs : List (List UInt8)) (b : List UInt8) (t : Tok) (k : Nat) (tn : Tok) (ho : (enc' (hs ++ [b])).length ≤ 65536) (hb4 : ∀ c ∈ hs ++ [b], c.length ≤ 4000) :
    Spec w 199 [.bytes (enc' (hs ++ [b])).toArray t, .int (k : Int) tn] 40 400 [] (fun v n' => False) True := Spec.cut fun zk => Mine.read_none_.zall (zmk w zk [t, k, tn] [] [] [] [] [] [] [] [] [b] [hs] [] [] [] [] []) ho hb4
end sPu
theorem fl38 : True := by first | walk1 | trivial

section sPv

theorem eq_nil_kn {prog : Program} {w : World} {A : Around} {E : Value → Shared → Prop} {s : Shared} {l b : Addr} {vs : List Value} {v : Bool} {Q : Value → Shared → Prop} (hl : s.heap.IsList l vs.toArray) (hb : s.heap.IsList b #[]) (hu : A.units < cLine) (h : decide (vs.length = 0) = v) (q : Q (.bool v) s) :
    wpAny (model prog w) A (compareOp .Eq (.ref l) (.ref b)) Q E s := by
  subst h
  exact eq_nil hl hb hu q
local macro_rules | `(tactic| walk_at $s:str) => `(tactic| k_extra $(Lean.Syntax.mkStrLit ("S115." ++ s.getString)))
theorem zm41 : True := by
  (k_with "S115.compareOp Eq ref ref" => k_extra "R84")
  trivial
theorem rest_news {prog : Program} {w : World} {A : Around} {h₀ : Heap} {L : Addr} {m : PySem.Str → Option Value} {env : Env} {s : Shared} {elt : PySem.Expr} {x : PySem.Str} {scope : Scope} {cl : List (PySem.Str × Addr)} {Sx : List (Addr × Obj) → Prop} {P : Nat → Value → Prop} {Fin : List Value → List (Addr × Obj) → Prop} {n : Nat} {news : List (Addr × Obj)}
    (inv : Nat → List Value → Prop) (h0 : inv 0 [])
    (turn : ∀ i ys v I oI C oC D m₂ h tk (E' : Value → Shared → Prop), i < n → inv i ys → P i v → NsObj oC m₂ → m₂ x = some v → Fr h₀ L h m → News h₀ L h ((I, oI) :: (C, oC) :: (D, lst ys) :: news) → LCg.Off3 I C D news → ((@Ne Nat I C) ∧ (@Ne Nat I D) ∧ (@Ne Nat C D)) →
      wpAny (model prog w) A (eval elt (compEnvC scope cl C env)) (LCg.CompEnd h₀ L m { s with heap := h, toks := tk } I oI C oC D (lst ys) Sx (fun y nw' => nw' = news ∧ inv (i + 1) (ys ++ [y]))) E' { s with heap := h, toks := tk })
    (fin : ∀ ys, inv n ys → Fin ys news) : LCg.CompRest prog w A h₀ L m env elt x scope cl s Sx P Fin n 0 [] news := by
  refine rest_inv (fun i ys nw => nw = news ∧ inv i ys) ⟨rfl, h0⟩ ?_ ?_
  · rintro i ys nw v I oI C oC D m₂ h tk E' hi ⟨rfl, hv⟩ hp hC hx F N off ne
    exact turn i ys v I oI C oC D m₂ h tk E' hi hv hp hC hx F N off ne
  · rintro ys nw ⟨rfl, hv⟩
    exact fin ys hv
theorem add_S {prog : Program} {w : World} {A : Around} {E : Value → Shared → Prop} {s : Shared} {x y : PySem.Str} {t u : Tok} {Q : Value → Shared → Prop} (hx : x.length ≤ 100000) (hy : y.length ≤ 100000) (h : ∀ t' k, Q (.str (x ++ y) t') { s with toks := k }) : wpAny (model prog w) A (binaryOp .Add (.str x t) (.str y u)) Q E s :=
  PyProof.Rows.add_str h (by rw [sizeLine_eq]; omega)
theorem zm42 : True := by
  (k_with "S115.binaryOp Add str str" => k_extra "R85")
  trivial
theorem str_cat (a b : List UInt8) : strOf a ++ strOf b = strOf (a ++ b) := by
  refine PySem.Str.ext' (Array.toList_inj.mp ?_)
  rw [PySem.Str.cps_append, Array.toList_append]
  show a.map UInt8.toNat ++ b.map UInt8.toNat = (a ++ b).map UInt8.toNat
  rw [List.map_append]
def decB (n : Nat) : List UInt8 := if n < 10 then [(48 + n).toUInt8] else [(48 + n / 10).toUInt8, (48 + n % 10).toUInt8]
theorem dec_all : ∀ n : Nat, n < 100 → (Str.ofString (toString (n : Int))) = strOf (decB n) := by decide +kernel
theorem str_dec {prog : Program} {w : World} {A : Around} {E : Value → Shared → Prop} {s : Shared} {i : Int} {n : Nat} {t : Tok} {Q : Value → Shared → Prop} (hi : i = (n : Int)) (hn : n < 100) (h : Q (.str (strOf (decB n)) s.toks) { s with toks := s.toks + 1 }) : wpAny (model prog w) A (call (.type "str") [.int i t]) Q E s := by
  subst hi
  refine P.str_of_int ?_ ?_
  · have : Nat.log2 n < 1920 := Nat.lt_of_le_of_lt (Nat.log2_le_self n) (by omega)
    exact this
  · show Q (.str (Str.ofString (toString (n : Int))) _) _
    rw [dec_all n hn]
    exact h
theorem zm43 : True := by
  (k_with "S115.call type:str" => k_extra "R86")
  trivial
def decR (pre : List UInt8) (n : Nat) : List UInt8 := pre ++ decB n ++ [10]
theorem dec_len (n : Nat) : (decB n).length ≤ 2 := by
  unfold decB
  split <;> simp
def optR (pre : List UInt8) : Option Int → List (List UInt8)
  | none => []
  | some i => [decR pre i.toNat]
theorem octets_txt (w : World) (x : PySem.Str) (b : List UInt8) (t : Tok) (hx : x = strOf b) (hb : b.length ≤ 4096) : Spec w 69 [.str x t] 2 20 [] (fun v n' => n' = [] ∧ ∃ t, v = .bytes b.toArray t) False := by
  subst hx
  have C := octets_of w (b.map UInt8.toNat) t (by rw [List.length_map]; exact hb) (by
    intro c hc
    obtain ⟨a, _, rfl⟩ := List.mem_map.mp hc
    exact a.toNat_lt)
  rw [show bytesOf (b.map UInt8.toNat) = b by
    unfold bytesOf
    rw [List.map_map]
    conv => rhs; rw [← List.map_id b]
    refine List.map_congr_left fun c _ => ?_
    simp] at C
  exact C
def spc (y : PySem.Str) : PySem.Str := Str.ofString " " ++ y
theorem cat_spc (wb : List (List UInt8)) : catS ((wb.map strOf).map spc) = S ((wb.flatMap (32 :: ·)).map UInt8.toNat) := by
  unfold catS
  congr 1
  induction wb with
  | nil => rfl
  | cons a r ih =>
    rw [List.map_cons, List.map_cons, List.flatMap_cons, ih, List.flatMap_cons, List.map_append]
    congr 1
    show ((Str.ofString " " ++ strOf a).cps.toList) = _
    rw [PySem.Str.cps_append, Array.toList_append]
    have : (Str.ofString " ").cps.toList = [32] := by decide +kernel
    rw [this]
    rfl
theorem bytesOf_nat (b : List UInt8) : bytesOf (b.map UInt8.toNat) = b := by
  unfold bytesOf
  rw [List.map_map]
  conv => rhs; rw [← List.map_id b]
  refine List.map_congr_left fun c _ => ?_
  simp
theorem nat_lt (b : List UInt8) : ∀ c ∈ b.map UInt8.toNat, c < 256 := by
  intro c hc
  obtain ⟨a, _, rfl⟩ := List.mem_map.mp hc
  exact a.toNat_lt
theorem octets_nat (w : World) (b : List UInt8) (t : Tok) (hb : b.length ≤ 4096) : Spec w 69 [.str (S (b.map UInt8.toNat)) t] 2 20 [] (fun v n' => n' = [] ∧ ∃ t, v = .bytes b.toArray t) False := by
  have C := octets_of w (b.map UInt8.toNat) t (by rw [List.length_map]; exact hb) (nat_lt b)
  rw [bytesOf_nat] at C
  exact C
theorem TalkAre.get {us : List Value} {bs : List Item} (h : TalkAre us bs) : ∀ {i : Nat} {v : Value}, us[i]? = some v → ∃ it, ItemIs it v ∧ bs[i]? = some it := by
  induction h with
  | nil => intro i v e; cases e
  | cons c _ ih =>
    intro i v e
    cases i with
    | zero => exact ⟨_, (Option.some.inj e) ▸ c, rfl⟩
    | succ i => exact ih e
theorem RowsAre.pairs {us : List Value} {bs : List (List UInt8)} (h : RowsAre us bs) : ∃ ps : List (Array UInt8 × Tok), us = ps.map (fun p => Value.bytes p.1 p.2) ∧ ps.flatMap (·.1.toList) = bs.flatten := by
  induction h with
  | nil => exact ⟨[], rfl, rfl⟩
  | cons b t _ ih =>
    obtain ⟨ps, rfl, h2⟩ := ih
    exact ⟨(b.toArray, t) :: ps, rfl, by rw [List.flatMap_cons, h2, List.flatten_cons]⟩
abbrev FL : List UInt8 := [48, 48, 48, 48]
def haveR (b : List UInt8) : List UInt8 := [104, 97, 118, 101, 32] ++ bytesOf (hexL b) ++ [10]
def talkPk : Item → List UInt8
  | none => FL
  | some b => pktL (haveR b)
theorem zm44 : True := by
  (k_with "S115.getMethod bytes" => k_extra "R87")
  (k_with "S115.call builtin:bytes.join" => k_extra "R88")
  trivial
theorem hexB_length (b : List UInt8) : (bytesOf (hexL b)).length = 2 * b.length := by unfold bytesOf; rw [List.length_map, hexL_length]
theorem sum_spc (wb : List (List UInt8)) : (((wb.map strOf).map spc).map (·.length)).sum = (wb.flatMap (32 :: ·)).length := by
  induction wb with
  | nil => rfl
  | cons a r ih =>
    rw [List.map_cons, List.map_cons, List.map_cons, List.sum_cons, ih, List.flatMap_cons, List.length_append]
    congr 1
    show (Str.ofString " " ++ strOf a).cps.size = _
    rw [PySem.Str.cps_append, Array.size_append]
    have : (Str.ofString " ").cps.size = 1 := by decide +kernel
    rw [this]
    simp [strOf, S, Nat.add_comm]
theorem zm45 : True := by
  (k_with "S115.exec If" => k_extra "R76")
  trivial
theorem join_led {prog : Program} {w : World} {A : Around} {E : Value → Shared → Prop} {s : Shared} {t : Sem Flow} {Q : Flow → Shared → Prop} {g : Heap} {L : Addr} {m : PySem.Str → Option Value} (Led : List Value → Nat → List (Addr × Obj)) (P : List Value → Prop) (_ : Fr g L s.heap m)
    (h1 : wpAny (model prog w) A t (fun f s' => Hold (f = .next ∧ ∃ h tk us' nn', s' = { s with heap := h, toks := tk } ∧ Fr g L h m ∧ News g L h (Led us' nn') ∧ P us')) E s)
    (h2 : ∀ h tk us' nn', Fr g L h m → News g L h (Led us' nn') → P us' → Q .next { s with heap := h, toks := tk }) : wpAny (model prog w) A t Q E s :=
  wpAny_mono h1 (by rintro f s' ⟨rfl, h, tk, us', nn', rfl, F, N, p⟩; exact h2 h tk us' nn' F N p) fun _ _ e => e
abbrev hexB (b : List UInt8) : List UInt8 := bytesOf (hexL b)
def wordsB (wb : List (List UInt8)) : List UInt8 := wb.flatMap (32 :: ·)
def wantR (i : Nat) (wb : List (List UInt8)) (b : List UInt8) : List UInt8 := [119, 97, 110, 116, 32] ++ hexB b ++ (if i = 0 then wordsB wb else []) ++ [10]
def wantsR (wb : List (List UInt8)) (l : List (List UInt8)) : List (List UInt8) := l.zipIdx.map fun p => wantR p.2 wb p.1
theorem wantsR_get {wb l : List (List UInt8)} {i : Nat} {b : List UInt8} (h : l[i]? = some b) : ((wantsR wb l).map pktL)[i]? = some (pktL (wantR i wb b)) := by
  unfold wantsR
  rw [List.getElem?_map, List.getElem?_map, List.getElem?_zipIdx, h]
  simp
def shalR (b : List UInt8) : List UInt8 := [115, 104, 97, 108, 108, 111, 119, 32] ++ hexB b ++ [10]
def headR (st : St) (wb : List (List UInt8)) : List (List UInt8) := (((wantsR wb st.wants).map pktL ++ (st.shallow.map shalR).map pktL) ++ (optR DEEP st.depth).map pktL) ++ (optR SINC st.since).map pktL
def outB (st : St) (wb : List (List UInt8)) (tk : List Item) (done : Bool) : List UInt8 := ((headR st wb ++ [FL]) ++ tk.map talkPk).flatten ++ (if done = true then pktL [100, 111, 110, 101, 10] else [])
structure OcS where
  us : List Value
  nn : Nat
theorem zm46 : True := by
  (k_with "S115.call ref" => k_extra "R89")
  (k_with "S115.call ref" => k_extra "R90")
  (k_with "S115.call ref" => k_extra "R91")
  (k_with "S115.call ref" => k_extra "R92")
  (k_with "S115.call ref" => k_extra "R93")
  trivial
namespace octets_req_
def zA (w : World) (x : Addr) (d : Addr) (lw : Addr) (lo : Addr) (ls : Addr) (lt : Addr) (t1 : Tok) (t2 : Tok) (t3 : Tok) (t4 : Tok) (t5 : Tok) (t6 : Tok) (t7 : Tok) (n : Nat) (nw : Nat) (no : Nat) (ns : Nat) (nt : Nat) (dv : Value) (sv : Value) (uw : List Value) (uo : List Value) (us : List Value) (uk : List Value) (st : St) (wb : List (List UInt8)) (tkI : List Item) (done : Bool) (zk : Cal) : Prop := ∀ (hnd : [x, d, lw, lo, ls, lt].Nodup), ∀ (hR : RowsAre uw st.wants), ∀ (hO : StrsAre uo (wb.map strOf)), ∀ (hS : RowsAre us st.shallow), ∀ (hD : OptI st.depth dv), ∀ (hN : OptI st.since sv), ∀ (hT : TalkAre uk tkI), ∀ (hw : ∀ b ∈ st.wants, b.length ≤ 64), ∀ (hs : ∀ b ∈ st.shallow, b.length ≤ 64), ∀ (hwl : st.wants.length ≤ 100), ∀ (hsl : st.shallow.length ≤ 100), ∀ (hwb : (wordsB wb).length ≤ 1000), ∀ (hwbl : wb.length ≤ 100), ∀ (hwb1 : ∀ b ∈ wb, b.length ≤ 100), ∀ (hdr : ∀ i, st.depth = some i → 0 ≤ i ∧ i < 100), ∀ (hsr : ∀ i, st.since = some i → 0 ≤ i ∧ i < 100), ∀ (htl : tkI.length ≤ 100), ∀ (hti : ∀ b, some b ∈ tkI → b.length ≤ 64), ∀ (hz : (outB st wb tkI done).length ≤ 65536), SpecAt w 187 [.ref x] 30 300 [(x, instObj 205 d), (d, frD w lw lo ls lt t1 t2 t3 t4 t5 t6 t7 n dv sv done), (lw, listOf uw.toArray nw), (lo, listOf uo.toArray no), (ls, listOf us.toArray ns), (lt, listOf uk.toArray nt)]
      (fun v n' => (∃ t, v = .bytes (outB st wb tkI done).toArray t) ∧ n' = [(x, instObj 205 d), (d, frD w lw lo ls lt t1 t2 t3 t4 t5 t6 t7 n dv sv done), (lw, listOf uw.toArray nw), (lo, listOf uo.toArray no), (ls, listOf us.toArray ns), (lt, listOf uk.toArray nt)]) False zk
@[irreducible] noncomputable def zx : Zst × St × (List Item) := sk ⟨(Classical.choice neZst, ⟨[], [], [], none, none⟩, default)⟩ fun z => zA (z.1.w) (z.1.n 0) (z.1.n 1) (z.1.n 2) (z.1.n 3) (z.1.n 4) (z.1.n 5) (z.1.n 6) (z.1.n 7) (z.1.n 8) (z.1.n 9) (z.1.n 10) (z.1.n 11) (z.1.n 12) (z.1.n 13) (z.1.n 14) (z.1.n 15) (z.1.n 16) (z.1.n 17) (z.1.v 0) (z.1.v 1) (z.1.lv 0) (z.1.lv 1) (z.1.lv 2) (z.1.lv 3) (z.2.1) (z.1.ll 0) (z.2.2) (z.1.b 0) (z.1.c)
@[irreducible] noncomputable def w : World := zx.1.w
@[irreducible] noncomputable def x : Addr := zx.1.n 0
@[irreducible] noncomputable def d : Addr := zx.1.n 1
@[irreducible] noncomputable def lw : Addr := zx.1.n 2
@[irreducible] noncomputable def lo : Addr := zx.1.n 3
@[irreducible] noncomputable def ls : Addr := zx.1.n 4
@[irreducible] noncomputable def lt : Addr := zx.1.n 5
@[irreducible] noncomputable def t1 : Tok := zx.1.n 6
@[irreducible] noncomputable def t2 : Tok := zx.1.n 7
@[irreducible] noncomputable def t3 : Tok := zx.1.n 8
@[irreducible] noncomputable def t4 : Tok := zx.1.n 9
@[irreducible] noncomputable def t5 : Tok := zx.1.n 10
@[irreducible] noncomputable def t6 : Tok := zx.1.n 11
@[irreducible] noncomputable def t7 : Tok := zx.1.n 12
@[irreducible] noncomputable def n : Nat := zx.1.n 13
@[irreducible] noncomputable def nw : Nat := zx.1.n 14
@[irreducible] noncomputable def no : Nat := zx.1.n 15
@[irreducible] noncomputable def ns : Nat := zx.1.n 16
@[irreducible] noncomputable def nt : Nat := zx.1.n 17
@[irreducible] noncomputable def dv : Value := zx.1.v 0
@[irreducible] noncomputable def sv : Value := zx.1.v 1
@[irreducible] noncomputable def uw : List Value := zx.1.lv 0
@[irreducible] noncomputable def uo : List Value := zx.1.lv 1
@[irreducible] noncomputable def us : List Value := zx.1.lv 2
@[irreducible] noncomputable def uk : List Value := zx.1.lv 3
@[irreducible] noncomputable def st : St := zx.2.1
@[irreducible] noncomputable def wb : List (List UInt8) := zx.1.ll 0
@[irreducible] noncomputable def tkI : List Item := zx.2.2
@[irreducible] noncomputable def done : Bool := zx.1.b 0
def zT (P1 : World → Addr → Addr → Addr → Addr → Addr → Addr → Tok → Tok → Tok → Tok → Tok → Tok → Tok → Nat → Nat → Nat → Nat → Nat → Value → Value → (List Value) → (List Value) → (List Value) → (List Value) → St → (List (List UInt8)) → (List Item) → Bool → Cal → Heap → Addr → Heap → Nat → Prop) : Prop := ∀ w x d lw lo ls lt t1 t2 t3 t4 t5 t6 t7 n nw no ns nt dv sv uw uo us uk st wb tkI done zk, (∀ y0 y1 y2 y3, P1 w x d lw lo ls lt t1 t2 t3 t4 t5 t6 t7 n nw no ns nt dv sv uw uo us uk st wb tkI done zk y0 y1 y2 y3) → zA w x d lw lo ls lt t1 t2 t3 t4 t5 t6 t7 n nw no ns nt dv sv uw uo us uk st wb tkI done zk
noncomputable def zs : { P : Heap → Addr → Heap → Nat → Prop // (∀ y0 y1 y2 y3, P y0 y1 y2 y3) → zA w x d lw lo ls lt t1 t2 t3 t4 t5 t6 t7 n nw no ns nt dv sv uw uo us uk st wb tkI done (zx.1.c) } := by
  refine' ⟨_, (_ : zT _) w x d lw lo ls lt t1 t2 t3 t4 t5 t6 t7 n nw no ns nt dv sv uw uo us uk st wb tkI done (zx.1.c)⟩
  rotate_left 1
  · intro w x d lw lo ls lt t1 t2 t3 t4 t5 t6 t7 n nw no ns nt dv sv uw uo us uk st wb tkI done zk zR1 hnd hR hO hS hD hN hT hw hs hwl hsl hwb hwbl hwb1 hdr hsr htl hti hz
    w_strict (
     have hnd2 := nd6 hnd
     have hwl2 := hR.length
     intro B F X N T hk hd hu hret hexc
     walk_at "my enter"
     (revert hnd hR hO hS hD hN hT hw hs hwl hsl hwb hwbl hwb1 hdr hsr htl hti hz hnd2 hwl2 B F X N T hk hd hu hret hexc FG' F' N' B' X' T' kG'; exact zR1 g' L' h' tk')
    )
@[irreducible] noncomputable def zP1 : Heap → Addr → Heap → Nat → Prop := Mine.octets_req_.zs.1
theorem zp1 : zP1 = Mine.octets_req_.zs.1 := by with_unfolding_all rfl
namespace z1
@[irreducible] noncomputable def zx : Zst := sk neZst fun z => Mine.octets_req_.zP1 (z.h 0) (z.n 0) (z.h 1) (z.n 1)
@[irreducible] noncomputable def h' : Heap := zx.h 1
def zT (P1 : Heap → Addr → Heap → Nat → Heap → Addr → Nat → (List Value) → Nat → (PySem.Str → Option Value) → Heap → Nat → (List (Addr × Obj)) → (List UInt8) → Tok → Prop) (P2 : Heap → Addr → Heap → Nat → Heap → Addr → (List Value) → Nat → (PySem.Str → Option Value) → Heap → Nat → Prop) : Prop := ∀ g' L' h' tk', (∀ y0 y1 y2 y3 y4 y5 y6 y7 y8 y9 y10, P1 g' L' h' tk' y0 y1 y2 y3 y4 y5 y6 y7 y8 y9 y10) → (∀ y0 y1 y2 y3 y4 y5 y6, P2 g' L' h' tk' y0 y1 y2 y3 y4 y5 y6) → Mine.octets_req_.zs.1 g' L' h' tk'
noncomputable def zs : { P : (Heap → Addr → Nat → (List Value) → Nat → (PySem.Str → Option Value) → Heap → Nat → (List (Addr × Obj)) → (List UInt8) → Tok → Prop) × (Heap → Addr → (List Value) → Nat → (PySem.Str → Option Value) → Heap → Nat → Prop) // (∀ y0 y1 y2 y3 y4 y5 y6 y7 y8 y9 y10, P.1 y0 y1 y2 y3 y4 y5 y6 y7 y8 y9 y10) → (∀ y0 y1 y2 y3 y4 y5 y6, P.2 y0 y1 y2 y3 y4 y5 y6) → Mine.octets_req_.zs.1 (zx.h 0) (zx.n 0) h' (zx.n 1) } := by
  refine' ⟨(_, _), (_ : zT _ _) (zx.h 0) (zx.n 0) h' (zx.n 1)⟩
  rotate_left 2
  · intro g' L' h' tk' zR1 zR2 hnd hR hO hS hD hN hT hw hs hwl hsl hwb hwbl hwb1 hdr hsr htl hti hz hnd2 hwl2 B F X N T hk hd hu hret hexc FG' F' N' B' X' T' kG'
    w_strict (
     k_steps
     unfold Hold
     rename Fr _ _ _ _ => lF
     rename News _ _ _ _ => lN
     obtain ⟨D, rfl⟩ := name1 lN
     have hol := hO.length
     rw [List.length_map] at hol
     refine' loopM (σ := OcS) (Iter.list rfl) (fun c => [(D, listOf c.us.toArray c.nn), (x, instObj 205 d), (d, frD w lw lo ls lt t1 t2 t3 t4 t5 t6 t7 n dv sv done), (lw, listOf uw.toArray nw), (lo, listOf uo.toArray no), (ls, listOf us.toArray ns), (lt, listOf uk.toArray nt)]) (fun c => []) ["words"] (fun i c => RowsAre c.us ((wantsR wb st.wants).map pktL |>.take i)) ⟨[], 0⟩ lF lN ?hn ?hkeep ?hkk ?hp ?turn ?done
     case hn => exact fun _ h => h
     case hkeep =>
       rintro c p hp
       rw [List.mem_singleton.mp hp]
       exact List.mem_cons_of_mem _ (List.mem_cons_of_mem _ (List.mem_cons_of_mem _ List.mem_cons_self))
     case hkk => intro p hp; cases hp
     case hp => exact .nil
     case turn =>
       rintro i v ⟨us1, nn1⟩ u h tk8 own hi hv hoff hP F₁ N₁
       dsimp only at hP F₁ N₁ hoff
       simp only [List.nil_append, List.cons_append, List.map_cons, List.map_nil] at N₁ hoff
       clear lF lN
       obtain ⟨b, t9, rfl, hbi⟩ := hR.get hv
       have hb9 := hw b (List.mem_of_getElem? hbi)
       have hul := hP.length
       walk_at "tidy"
       have hxl := hexB_length b
       have hwl3 : (wb.flatMap (32 :: ·)).length ≤ 1000 := hwb
       have h8 : (wantsR wb st.wants).length = st.wants.length := by unfold wantsR; simp
       have hul3 : us1.length ≤ 1000 := by rw [hul, List.length_take, List.length_map, h8]; omega
       have hwq : ((wb.flatMap (32 :: ·)).map UInt8.toNat).length ≤ 4096 := by rw [List.length_map]; show (wordsB wb).length ≤ _; omega
       have hwn := nat_lt (wb.flatMap (32 :: ·))
       (rename_i zi1x1 zi1x2 zi1x3 zi1x4 zi1x5 zi1x6 zi1x7 zi1x8 zi1x9 zi1x10 zi1x11 zi1x12 zi1x13 zi1x14 zi1x15 zi1x16; revert hnd hR hO hS hD hN hT hw hs hwl hsl hwb hwbl hwb1 hdr hsr htl hti hz hwl2 B X T hk hd hu hret hexc B' X' T' kG' zi1x3 hol hi hP hoff hbi hv hb9 hul zi1x4 zi1x5 zi1x6 zi1x7 zi1x8 zi1x9 zi1x10 zi1x11 zi1x12 zi1x13 zi1x14 zi1x15 zi1x16 z8 z7 lF9 lN9 hxl hwl3 h8 hul3 hwq hwn; exact zR1 zi1x2 D i us1 nn1 u h tk8 own b t9)
     case done =>
       rintro ⟨us1, nn1⟩ u h tk8 hP F₁ N₁
       have h8 : (wantsR wb st.wants).length = st.wants.length := by unfold wantsR; simp
       have hwl5 : uw.length = ((wantsR wb st.wants).map pktL).length := by rw [List.length_map, h8, hwl2]
       rw [hwl5, List.take_length] at hP
       dsimp only at hP F₁ N₁
       clear lF lN
       walk_at "tidy"
       (rename_i zi1x1 zi1x2 zi1x3 zi1x4 zi1x5 zi1x6 zi1x7 zi1x8 zi1x9 zi1x10 zi1x11 zi1x12 zi1x13 zi1x14 zi1x15 zi1x16; revert hnd hR hO hS hD hN hT hw hs hwl hsl hwb hwbl hwb1 hdr hsr htl hti hz hwl2 B X T hk hd hu hret hexc B' X' T' kG' zi1x3 hol hP h8 hwl5 zi1x4 zi1x5 zi1x6 zi1x7 zi1x8 zi1x9 zi1x10 zi1x11 zi1x12 zi1x13 zi1x14 zi1x15 zi1x16 z8 z7 lF9 lN9; exact zR2 zi1x2 D us1 nn1 u h tk8)
    )
@[irreducible] noncomputable def zP1 : Heap → Addr → Nat → (List Value) → Nat → (PySem.Str → Option Value) → Heap → Nat → (List (Addr × Obj)) → (List UInt8) → Tok → Prop := Mine.octets_req_.z1.zs.1.1
theorem zp1 : zP1 = Mine.octets_req_.z1.zs.1.1 := by with_unfolding_all rfl
namespace z1
@[irreducible] noncomputable def zx : Zst := sk neZst fun z => Mine.octets_req_.z1.zP1 (z.h 0) (z.n 0) (z.n 1) (z.lv 0) (z.n 2) (z.m 0) (z.h 1) (z.n 3) (z.ld 0) (z.lu 0) (z.n 4)
theorem zgo : Mine.octets_req_.z1.zP1 (zx.h 0) (zx.n 0) (zx.n 1) (zx.lv 0) (zx.n 2) (zx.m 0) (zx.h 1) (zx.n 3) (zx.ld 0) (zx.lu 0) (zx.n 4) := by
  refine' zcast Mine.octets_req_.z1.zp1 (fun zf => zf (zx.h 0) (zx.n 0) (zx.n 1) (zx.lv 0) (zx.n 2) (zx.m 0) (zx.h 1) (zx.n 3) (zx.ld 0) (zx.lu 0) (zx.n 4)) ((_ : ∀ zi1x2 D i us1 nn1 u h tk8 own b t9, Mine.octets_req_.z1.zs.1.1 zi1x2 D i us1 nn1 u h tk8 own b t9) (zx.h 0) (zx.n 0) (zx.n 1) (zx.lv 0) (zx.n 2) (zx.m 0) (zx.h 1) (zx.n 3) (zx.ld 0) (zx.lu 0) (zx.n 4))
  intro zi1x2 D i us1 nn1 u h tk8 own b t9 hnd hR hO hS hD hN hT hw hs hwl hsl hwb hwbl hwb1 hdr hsr htl hti hz hwl2 B X T hk hd hu hret hexc B' X' T' kG' zi1x3 hol hi hP hoff hbi hv hb9 hul zi1x4 zi1x5 zi1x6 zi1x7 zi1x8 zi1x9 zi1x10 zi1x11 zi1x12 zi1x13 zi1x14 zi1x15 zi1x16 z8 z7 lF9 lN9 hxl hwl3 h8 hul3 hwq hwn
  w_strict (
   rcases Nat.eq_zero_or_pos i with h0 | h0
   · have hz9 : us1.length = 0 := by
       rw [hul, List.length_take]
       omega
     have qz : decide (us1.length = 0) = true := decide_eq_true hz9
     k_steps
     unfold Hold
     refine rest_news (fun j ys => StrsAre ys (((wb.map strOf).map spc).take j)) .nil ?_ ?_
     · rintro j ys v I oI C oC D' m₂ h' tkI' E' hj hys hvj hoC hx F₂ N₂ off ne
       obtain ⟨y9, t9, rfl, hy9⟩ := hO.item j v (by simpa using hvj)
       have hyl : y9.length ≤ 100000 := by
         rw [List.getElem?_map] at hy9
         cases hq : wb[j]? with
         | none => rw [hq] at hy9; cases hy9
         | some c =>
           rw [hq] at hy9
           obtain rfl := Option.some.inj hy9
           have := hwb1 c (List.mem_of_getElem? hq)
           show (c.map UInt8.toNat).length ≤ _
           rw [List.length_map]
           omega
       have off0 := off
       dsimp only [LCg.Off3] at off
       walk_at "tidy"
       k_steps
       refine LCg.CompEnd.intro (by k_asm) (by k_asm) _ (fun p hp => hp) off0 (.inr ⟨listOf uo.toArray no, by k_mem, rfl, _, rfl⟩) ⟨rfl, ?_⟩
       rw [take_succ (show ((wb.map strOf).map spc)[j]? = some (spc y9) by rw [List.getElem?_map, hy9]; rfl)]
       exact hys.append' (.cons _ _ .nil)
     · intro ys hys
       rw [show uo.toArray.size = ((wb.map strOf).map spc).length by simp [hol], List.take_length] at hys
       k_steps
       unfold Hold
       have hsz : ((((wb.map strOf).map spc).map (·.length)).sum) + ((wb.map strOf).map spc).length * 0 ≤ 16777216 := by
         rw [sum_spc]; show (wordsB wb).length + _ ≤ _; omega
       refine join_list (News.isList (by k_asm) (by k_mem)) hys (by exact hsz) ?_
       intro t9 k9
       rw [join_empty, cat_spc]
       k_steps
       refine' At.end ⟨us1.concat (.bytes _ _), nn1 + 1⟩ hoff (by assumption) (by assumption) rfl ?zn ?zw (fun _ h => nomatch h) ?zr ?zp
       case zn => dsimp only; walk_at "sub here"
       case zw => intro p hp; repeat (first | exact hp | refine List.mem_cons_of_mem _ ?_)
       case zr =>
         intro z h1 h2 h3
         simp only [List.contains_cons, List.contains_nil, Bool.or_false, beq_eq_false_iff_ne, ne_eq] at h3
         simp +zetaDelta [h1, h3, kstB]
       case zp =>
         dsimp only
         rw [take_succ (wantsR_get hbi), List.concat_eq_append, show wantR i wb b = 119 :: 97 :: 110 :: 116 :: 32 :: (bytesOf (hexL b) ++ wb.flatMap (32 :: ·) ++ [10]) by simp [wantR, h0, wordsB]]
         exact hP.snoc _ _
   · have hz9 : us1.length ≠ 0 := by
       rw [hul, List.length_take]
       rw [List.length_map, h8]
       omega
     have qz : decide (us1.length = 0) = false := decide_eq_false hz9
     k_steps
     refine' At.end ⟨us1.concat (.bytes _ _), nn1 + 1⟩ hoff (by assumption) (by assumption) rfl ?zn ?zw (fun _ h => nomatch h) ?zr ?zp
     case zn => dsimp only; walk_at "sub here"
     case zw => intro p hp; repeat (first | exact hp | refine List.mem_cons_of_mem _ ?_)
     case zr =>
       intro z h1 h2 h3
       simp only [List.contains_cons, List.contains_nil, Bool.or_false, beq_eq_false_iff_ne, ne_eq] at h3
       simp +zetaDelta [h1, h3, kstB]
     case zp =>
       dsimp only
       rw [take_succ (wantsR_get hbi), List.concat_eq_append, show wantR i wb b = 119 :: 97 :: 110 :: 116 :: 32 :: (bytesOf (hexL b) ++ [] ++ [10]) by simp [wantR, Nat.ne_of_gt h0]]
       exact hP.snoc _ _
  )
theorem zall : ∀ z : Zst, Mine.octets_req_.z1.zP1 (z.h 0) (z.n 0) (z.n 1) (z.lv 0) (z.n 2) (z.m 0) (z.h 1) (z.n 3) (z.ld 0) (z.lu 0) (z.n 4) := by refine @sk_all _ neZst _ ?_; with_unfolding_all exact zgo
end z1
@[irreducible] noncomputable def zP2 : Heap → Addr → (List Value) → Nat → (PySem.Str → Option Value) → Heap → Nat → Prop := Mine.octets_req_.z1.zs.1.2
theorem zp2 : zP2 = Mine.octets_req_.z1.zs.1.2 := by with_unfolding_all rfl
namespace z2
@[irreducible] noncomputable def zx : Zst := sk neZst fun z => Mine.octets_req_.z1.zP2 (z.h 0) (z.n 0) (z.lv 0) (z.n 1) (z.m 0) (z.h 1) (z.n 2)
@[irreducible] noncomputable def D : Addr := zx.n 0
@[irreducible] noncomputable def us1 : List Value := zx.lv 0
@[irreducible] noncomputable def nn1 : Nat := zx.n 1
@[irreducible] noncomputable def u : PySem.Str → Option Value := zx.m 0
@[irreducible] noncomputable def h : Heap := zx.h 1
@[irreducible] noncomputable def tk8 : Nat := zx.n 2
def zT (P1 : Heap → Addr → (List Value) → Nat → (PySem.Str → Option Value) → Heap → Nat → Nat → (List Value) → Nat → (PySem.Str → Option Value) → Heap → Nat → (List (Addr × Obj)) → (List UInt8) → Tok → Prop) (P2 : Heap → Addr → (List Value) → Nat → (PySem.Str → Option Value) → Heap → Nat → (List Value) → Nat → (PySem.Str → Option Value) → Heap → Nat → Prop) : Prop := ∀ zi1x2 D us1 nn1 u h tk8, (∀ y0 y1 y2 y3 y4 y5 y6 y7 y8, P1 zi1x2 D us1 nn1 u h tk8 y0 y1 y2 y3 y4 y5 y6 y7 y8) → (∀ y0 y1 y2 y3 y4, P2 zi1x2 D us1 nn1 u h tk8 y0 y1 y2 y3 y4) → Mine.octets_req_.z1.zs.1.2 zi1x2 D us1 nn1 u h tk8
noncomputable def zs : { P : (Nat → (List Value) → Nat → (PySem.Str → Option Value) → Heap → Nat → (List (Addr × Obj)) → (List UInt8) → Tok → Prop) × ((List Value) → Nat → (PySem.Str → Option Value) → Heap → Nat → Prop) // (∀ y0 y1 y2 y3 y4 y5 y6 y7 y8, P.1 y0 y1 y2 y3 y4 y5 y6 y7 y8) → (∀ y0 y1 y2 y3 y4, P.2 y0 y1 y2 y3 y4) → Mine.octets_req_.z1.zs.1.2 (zx.h 0) D us1 nn1 u h tk8 } := by
  refine' ⟨(_, _), (_ : zT _ _) (zx.h 0) D us1 nn1 u h tk8⟩
  rotate_left 2
  · intro zi1x2 D us1 nn1 u h tk8 zR1 zR2 hnd hR hO hS hD hN hT hw hs hwl hsl hwb hwbl hwb1 hdr hsr htl hti hz hwl2 B X T hk hd hu hret hexc B' X' T' kG' zi1x3 hol hP h8 hwl5 zi1x4 zi1x5 zi1x6 zi1x7 zi1x8 zi1x9 zi1x10 zi1x11 zi1x12 zi1x13 zi1x14 zi1x15 zi1x16 z8 z7 lF9 lN9
    w_strict (
     k_steps
     unfold Hold
     rename Fr _ _ _ _ => lF
     rename News _ _ _ _ => lN
     refine' loopM (σ := OcS) (Iter.list rfl) (fun c => [(D, listOf c.us.toArray c.nn), (x, instObj 205 d), (d, frD w lw lo ls lt t1 t2 t3 t4 t5 t6 t7 n dv sv done), (lw, listOf uw.toArray nw), (lo, listOf uo.toArray no), (ls, listOf us.toArray ns), (lt, listOf uk.toArray nt)]) (fun c => []) [] (fun i c => RowsAre c.us ((wantsR wb st.wants).map pktL ++ ((st.shallow.map shalR).map pktL |>.take i))) ⟨us1, nn1⟩ lF lN ?hn ?hkeep ?hkk ?hp ?turn ?done
     case hn => exact fun _ h => h
     case hkeep =>
       rintro c p hp
       rw [List.mem_singleton.mp hp]
       exact List.mem_cons_of_mem _ (List.mem_cons_of_mem _ (List.mem_cons_of_mem _ (List.mem_cons_of_mem _ (List.mem_cons_of_mem _ List.mem_cons_self))))
     case hkk => intro p hp; cases hp
     case hp => dsimp only; rw [List.take_zero, List.append_nil]; exact hP
     case turn =>
       clear hP
       rintro i v ⟨us1, nn1⟩ u h tk8 own hi hv hoff hP F₁ N₁
       dsimp only at hP F₁ N₁ hoff
       simp only [List.nil_append, List.cons_append, List.map_cons, List.map_nil] at N₁ hoff
       clear lF lN
       obtain ⟨b, t9, rfl, hbi⟩ := hS.get hv
       have hb9 := hs b (List.mem_of_getElem? hbi)
       have hul := hP.length
       walk_at "tidy"
       have hxl := hexB_length b
       have hul3 : us1.length ≤ 1000 := by
         rw [hul, List.length_append, List.length_take, List.length_map, List.length_map, List.length_map, h8]
         omega
       (rename_i zi2x1 zi2x2 zi2x3 zi2x4 zi2x5; revert hnd hR hO hS hD hN hT hw hs hwl hsl hwb hwbl hwb1 hdr hsr htl hti hz hwl2 B X T hk hd hu hret hexc B' X' T' kG' zi1x3 hol h8 hwl5 zi1x4 zi1x5 zi1x6 zi1x7 zi1x8 zi1x9 zi1x10 zi1x11 zi1x12 zi1x13 zi1x14 zi1x15 zi1x16 z8 z7 hi hP hoff hbi hv hb9 hul lF9 lN9 hxl hul3; exact zR1 i us1 nn1 u h tk8 own b t9)
     case done =>
       clear hP
       rintro ⟨us1, nn1⟩ u h tk8 hP F₁ N₁
       have hsl5 : us.length = ((st.shallow.map shalR).map pktL).length := by rw [List.length_map, List.length_map, hS.length]
       rw [hsl5, List.take_length] at hP
       dsimp only at hP F₁ N₁
       clear lF lN
       walk_at "tidy"
       (rename_i zi2x1 zi2x2 zi2x3 zi2x4 zi2x5; revert hnd hR hO hS hD hN hT hw hs hwl hsl hwb hwbl hwb1 hdr hsr htl hti hz hwl2 B X T hk hd hu hret hexc B' X' T' kG' zi1x3 hol h8 hwl5 zi1x4 zi1x5 zi1x6 zi1x7 zi1x8 zi1x9 zi1x10 zi1x11 zi1x12 zi1x13 zi1x14 zi1x15 zi1x16 z8 z7 hP hsl5 lF9 lN9; exact zR2 us1 nn1 u h tk8)
    )
@[irreducible] noncomputable def zP1 : Nat → (List Value) → Nat → (PySem.Str → Option Value) → Heap → Nat → (List (Addr × Obj)) → (List UInt8) → Tok → Prop := Mine.octets_req_.z1.z2.zs.1.1
theorem zp1 : zP1 = Mine.octets_req_.z1.z2.zs.1.1 := by with_unfolding_all rfl
namespace z1
@[irreducible] noncomputable def zx : Zst := sk neZst fun z => Mine.octets_req_.z1.z2.zP1 (z.n 0) (z.lv 0) (z.n 1) (z.m 0) (z.h 0) (z.n 2) (z.ld 0) (z.lu 0) (z.n 3)
theorem zgo : Mine.octets_req_.z1.z2.zP1 (zx.n 0) (zx.lv 0) (zx.n 1) (zx.m 0) (zx.h 0) (zx.n 2) (zx.ld 0) (zx.lu 0) (zx.n 3) := by
  refine' zcast Mine.octets_req_.z1.z2.zp1 (fun zf => zf (zx.n 0) (zx.lv 0) (zx.n 1) (zx.m 0) (zx.h 0) (zx.n 2) (zx.ld 0) (zx.lu 0) (zx.n 3)) ((_ : ∀ i us1 nn1 u h tk8 own b t9, Mine.octets_req_.z1.z2.zs.1.1 i us1 nn1 u h tk8 own b t9) (zx.n 0) (zx.lv 0) (zx.n 1) (zx.m 0) (zx.h 0) (zx.n 2) (zx.ld 0) (zx.lu 0) (zx.n 3))
  intro i us1 nn1 u h tk8 own b t9 hnd hR hO hS hD hN hT hw hs hwl hsl hwb hwbl hwb1 hdr hsr htl hti hz hwl2 B X T hk hd hu hret hexc B' X' T' kG' zi1x3 hol h8 hwl5 zi1x4 zi1x5 zi1x6 zi1x7 zi1x8 zi1x9 zi1x10 zi1x11 zi1x12 zi1x13 zi1x14 zi1x15 zi1x16 z8 z7 hi hP hoff hbi hv hb9 hul lF9 lN9 hxl hul3
  w_strict (
   k_steps
   refine' At.end ⟨us1.concat (.bytes _ _), nn1 + 1⟩ hoff (by assumption) (by assumption) rfl ?zn ?zw (fun _ h => nomatch h) ?zr ?zp
   case zn => dsimp only; walk_at "sub here"
   case zw => intro p hp; repeat (first | exact hp | refine List.mem_cons_of_mem _ ?_)
   case zr =>
     intro z h1 h2 h3
     simp only [List.contains_cons, List.contains_nil, Bool.or_false, beq_eq_false_iff_ne, ne_eq] at h3
     simp +zetaDelta [h1, h3, kstB]
   case zp =>
     dsimp only
     have hgi : ((st.shallow.map shalR).map pktL)[i]? = some (pktL (shalR b)) := by rw [List.getElem?_map, List.getElem?_map, hbi]; rfl
     rw [take_succ hgi, List.concat_eq_append, ← List.append_assoc]
     exact hP.snoc _ _
  )
theorem zall : ∀ z : Zst, Mine.octets_req_.z1.z2.zP1 (z.n 0) (z.lv 0) (z.n 1) (z.m 0) (z.h 0) (z.n 2) (z.ld 0) (z.lu 0) (z.n 3) := by refine @sk_all _ neZst _ ?_; with_unfolding_all exact zgo
end z1
@[irreducible] noncomputable def zP2 : (List Value) → Nat → (PySem.Str → Option Value) → Heap → Nat → Prop := Mine.octets_req_.z1.z2.zs.1.2
theorem zp2 : zP2 = Mine.octets_req_.z1.z2.zs.1.2 := by with_unfolding_all rfl
namespace z2
@[irreducible] noncomputable def zx : Zst := sk neZst fun z => Mine.octets_req_.z1.z2.zP2 (z.lv 0) (z.n 0) (z.m 0) (z.h 0) (z.n 1)
@[irreducible] noncomputable def us1 : List Value := zx.lv 0
@[irreducible] noncomputable def nn1 : Nat := zx.n 0
@[irreducible] noncomputable def u : PySem.Str → Option Value := zx.m 0
@[irreducible] noncomputable def h : Heap := zx.h 0
@[irreducible] noncomputable def tk8 : Nat := zx.n 1
def zT (P1 : (List Value) → Nat → (PySem.Str → Option Value) → Heap → Nat → Heap → Nat → (List Value) → Nat → Prop) : Prop := ∀ us1 nn1 u h tk8, (∀ y0 y1 y2 y3, P1 us1 nn1 u h tk8 y0 y1 y2 y3) → Mine.octets_req_.z1.z2.zs.1.2 us1 nn1 u h tk8
noncomputable def zs : { P : Heap → Nat → (List Value) → Nat → Prop // (∀ y0 y1 y2 y3, P y0 y1 y2 y3) → Mine.octets_req_.z1.z2.zs.1.2 us1 nn1 u h tk8 } := by
  refine' ⟨_, (_ : zT _) us1 nn1 u h tk8⟩
  rotate_left 1
  · intro us1 nn1 u h tk8 zR1 hnd hR hO hS hD hN hT hw hs hwl hsl hwb hwbl hwb1 hdr hsr htl hti hz hwl2 B X T hk hd hu hret hexc B' X' T' kG' zi1x3 hol h8 hwl5 zi1x4 zi1x5 zi1x6 zi1x7 zi1x8 zi1x9 zi1x10 zi1x11 zi1x12 zi1x13 zi1x14 zi1x15 zi1x16 z8 z7 hP hsl5 lF9 lN9
    w_strict (
     k_steps
     unfold Hold
     refine join_led (fun us' nn' => [(D, listOf us'.toArray nn'), (x, instObj 205 d), (d, frD w lw lo ls lt t1 t2 t3 t4 t5 t6 t7 n dv sv done), (lw, listOf uw.toArray nw), (lo, listOf uo.toArray no), (ls, listOf us.toArray ns), (lt, listOf uk.toArray nt)]) (fun us' => RowsAre us' (((wantsR wb st.wants).map pktL ++ (st.shallow.map shalR).map pktL) ++ (optR DEEP st.depth).map pktL)) (by k_asm) ?if1 ?if2
     case if1 =>
       have mk9 : Mark9 := trivial
       rename News _ _ _ _ => N7
       revert hD N7
       generalize dv = dv9
       intro hD N7
       obtain ⟨oD, hoD⟩ : ∃ q, q = st.depth := ⟨_, rfl⟩
       rw [← hoD] at hD
       cases hD with
       | none =>
         k_steps
         refine ⟨rfl, _, _, us1, nn1, rfl, (by k_asm), (by k_asm), ?_⟩
         rw [← hoD, show (optR DEEP none).map pktL = [] from rfl, List.append_nil]
         exact hP
       | some iD tD =>
         obtain ⟨hd1, hd2⟩ := hdr iD hoD.symm
         obtain ⟨nD, hnD⟩ : ∃ n : Nat, iD = (n : Int) := ⟨iD.toNat, by omega⟩
         have hnD2 : nD < 100 := by omega
         have hl9 := dec_len nD
         have hy1 : (strOf (decB nD)).length ≤ 100000 := by show ((decB nD).map UInt8.toNat).length ≤ _; rw [List.length_map]; omega
         have hyc : Str.ofString "deepen " ++ strOf (decB nD) = strOf (DEEP ++ decB nD) := by rw [← str_cat]; congr 1
         have hyd : Str.ofString "deepen " ++ strOf (decB nD) ++ Str.ofString "\n" = strOf (decR DEEP nD) := by
           rw [hyc, show Str.ofString "\n" = strOf [10] by decide +kernel, str_cat]; rfl
         have hy2 : (Str.ofString "deepen " ++ strOf (decB nD)).length ≤ 100000 := by rw [hyc]; show ((DEEP ++ decB nD).map UInt8.toNat).length ≤ _; rw [List.length_map, List.length_append]; show 7 + _ ≤ _; omega
         have hdl : (decR DEEP nD).length ≤ 100 := by unfold decR; rw [List.length_append, List.length_append]; show 7 + _ + 1 ≤ _; omega
         have hul := hP.length
         have hul3 : us1.length ≤ 1000 := by
           rw [hul, List.length_append, List.length_map, List.length_map, List.length_map, h8]
           omega
         k_steps
         refine ⟨rfl, _, _, us1.concat (.bytes _ _), nn1 + 1, rfl, (by k_asm), (by k_asm), ?_⟩
         rw [← hoD, List.concat_eq_append]
         show RowsAre _ (_ ++ [pktL (decR DEEP iD.toNat)])
         rw [hnD, Int.toNat_natCast]
         exact hP.snoc _ _
     case if2 =>
       clear hP
       intro h tk8 us2 nn2 F2 N2 hP
       walk_at "tidy"
       (rename_i zi3x1 zi3x2; revert hnd hR hO hS hD hN hT hw hs hwl hsl hwb hwbl hwb1 hdr hsr htl hti hz hwl2 B X T hk hd hu hret hexc B' X' T' kG' zi1x3 hol h8 hwl5 zi1x4 zi1x5 zi1x6 zi1x7 zi1x8 zi1x9 zi1x10 zi1x11 zi1x12 zi1x13 zi1x14 zi1x15 zi1x16 z8 z7 hsl5 hP lF9 lN9; exact zR1 h tk8 us2 nn2)
    )
@[irreducible] noncomputable def zP1 : Heap → Nat → (List Value) → Nat → Prop := Mine.octets_req_.z1.z2.z2.zs.1
theorem zp1 : zP1 = Mine.octets_req_.z1.z2.z2.zs.1 := by with_unfolding_all rfl
namespace z1
@[irreducible] noncomputable def zx : Zst := sk neZst fun z => Mine.octets_req_.z1.z2.z2.zP1 (z.h 0) (z.n 0) (z.lv 0) (z.n 1)
@[irreducible] noncomputable def h : Heap := zx.h 0
@[irreducible] noncomputable def us2 : List Value := zx.lv 0
@[irreducible] noncomputable def nn2 : Nat := zx.n 1
def zT (P1 : Heap → Nat → (List Value) → Nat → Heap → Nat → (List Value) → Nat → Prop) : Prop := ∀ h tk8 us2 nn2, (∀ y0 y1 y2 y3, P1 h tk8 us2 nn2 y0 y1 y2 y3) → Mine.octets_req_.z1.z2.z2.zs.1 h tk8 us2 nn2
noncomputable def zs : { P : Heap → Nat → (List Value) → Nat → Prop // (∀ y0 y1 y2 y3, P y0 y1 y2 y3) → Mine.octets_req_.z1.z2.z2.zs.1 h (zx.n 0) us2 nn2 } := by
  refine' ⟨_, (_ : zT _) h (zx.n 0) us2 nn2⟩
  rotate_left 1
  · intro h tk8 us2 nn2 zR1 hnd hR hO hS hD hN hT hw hs hwl hsl hwb hwbl hwb1 hdr hsr htl hti hz hwl2 B X T hk hd hu hret hexc B' X' T' kG' zi1x3 hol h8 hwl5 zi1x4 zi1x5 zi1x6 zi1x7 zi1x8 zi1x9 zi1x10 zi1x11 zi1x12 zi1x13 zi1x14 zi1x15 zi1x16 z8 z7 hsl5 hP lF9 lN9
    w_strict (
     k_steps
     unfold Hold
     refine join_led (fun us' nn' => [(D, listOf us'.toArray nn'), (x, instObj 205 d), (d, frD w lw lo ls lt t1 t2 t3 t4 t5 t6 t7 n dv sv done), (lw, listOf uw.toArray nw), (lo, listOf uo.toArray no), (ls, listOf us.toArray ns), (lt, listOf uk.toArray nt)]) (fun us' => RowsAre us' ((((wantsR wb st.wants).map pktL ++ (st.shallow.map shalR).map pktL) ++ (optR DEEP st.depth).map pktL) ++ (optR SINC st.since).map pktL)) (by k_asm) ?if3 ?if4
     case if3 =>
       have mk9 : Mark9 := trivial
       have hol1 : (optR DEEP st.depth).length ≤ 1 := by cases st.depth <;> simp [optR]
       rename News _ _ _ _ => N7
       revert hN N7
       generalize sv = sv9
       intro hN N7
       obtain ⟨oN, hoN⟩ : ∃ q, q = st.since := ⟨_, rfl⟩
       rw [← hoN] at hN
       cases hN with
       | none =>
         k_steps
         refine ⟨rfl, _, _, us2, nn2, rfl, (by k_asm), (by k_asm), ?_⟩
         rw [← hoN, show (optR SINC none).map pktL = [] from rfl, List.append_nil]
         exact hP
       | some iD tD =>
         obtain ⟨hd1, hd2⟩ := hsr iD hoN.symm
         obtain ⟨nD, hnD⟩ : ∃ n : Nat, iD = (n : Int) := ⟨iD.toNat, by omega⟩
         have hnD2 : nD < 100 := by omega
         have hl9 := dec_len nD
         have hy1 : (strOf (decB nD)).length ≤ 100000 := by show ((decB nD).map UInt8.toNat).length ≤ _; rw [List.length_map]; omega
         have hyc : Str.ofString "deepen-since " ++ strOf (decB nD) = strOf (SINC ++ decB nD) := by rw [← str_cat]; congr 1
         have hyd : Str.ofString "deepen-since " ++ strOf (decB nD) ++ Str.ofString "\n" = strOf (decR SINC nD) := by
           rw [hyc, show Str.ofString "\n" = strOf [10] by decide +kernel, str_cat]; rfl
         have hy2 : (Str.ofString "deepen-since " ++ strOf (decB nD)).length ≤ 100000 := by rw [hyc]; show ((SINC ++ decB nD).map UInt8.toNat).length ≤ _; rw [List.length_map, List.length_append]; show 13 + _ ≤ _; omega
         have hdl : (decR SINC nD).length ≤ 100 := by unfold decR; rw [List.length_append, List.length_append]; show 13 + _ + 1 ≤ _; omega
         have hul := hP.length
         have hul3 : us2.length ≤ 1000 := by
           rw [hul, List.length_append, List.length_append, List.length_map, List.length_map, List.length_map, List.length_map, h8]
           omega
         k_steps
         refine ⟨rfl, _, _, us2.concat (.bytes _ _), nn2 + 1, rfl, (by k_asm), (by k_asm), ?_⟩
         rw [← hoN, List.concat_eq_append]
         show RowsAre _ (_ ++ [pktL (decR SINC iD.toNat)])
         rw [hnD, Int.toNat_natCast]
         exact hP.snoc _ _
     case if4 =>
       clear hP
       intro h tk8 us2 nn2 F2 N2 hP
       walk_at "tidy"
       have hol1 : (optR DEEP st.depth).length ≤ 1 := by cases st.depth <;> simp [optR]
       have hol2 : (optR SINC st.since).length ≤ 1 := by cases st.since <;> simp [optR]
       have hul := hP.length
       have hul3 : us2.length ≤ 1000 := by
         rw [hul, List.length_append, List.length_append, List.length_append, List.length_map, List.length_map, List.length_map, List.length_map, List.length_map, h8]
         omega
       have hTl := hT.length
       (rename_i zi4x1 zi4x2 zi4x3 zi4x4; revert hnd hR hO hS hD hN hT hw hs hwl hsl hwb hwbl hwb1 hdr hsr htl hti hz hwl2 B X T hk hd hu hret hexc B' X' T' kG' zi1x3 hol h8 hwl5 zi1x4 zi1x5 zi1x6 zi1x7 zi1x8 zi1x9 zi1x10 zi1x11 zi1x12 zi1x13 zi1x14 zi1x15 zi1x16 z8 z7 hsl5 hP lF9 lN9 hol1 hol2 hul hul3 hTl; exact zR1 h tk8 us2 nn2)
    )
@[irreducible] noncomputable def zP1 : Heap → Nat → (List Value) → Nat → Prop := Mine.octets_req_.z1.z2.z2.z1.zs.1
theorem zp1 : zP1 = Mine.octets_req_.z1.z2.z2.z1.zs.1 := by with_unfolding_all rfl
namespace z1
@[irreducible] noncomputable def zx : Zst := sk neZst fun z => Mine.octets_req_.z1.z2.z2.z1.zP1 (z.h 0) (z.n 0) (z.lv 0) (z.n 1)
@[irreducible] noncomputable def h : Heap := zx.h 0
def zT (P1 : Heap → Nat → (List Value) → Nat → Heap → Nat → Nat → Value → (List Value) → Nat → (PySem.Str → Option Value) → Heap → Nat → (List (Addr × Obj)) → Item → Prop) : Prop := ∀ h tk8 us2 nn2, (∀ y0 y1 y2 y3 y4 y5 y6 y7 y8 y9 y10, P1 h tk8 us2 nn2 y0 y1 y2 y3 y4 y5 y6 y7 y8 y9 y10) → Mine.octets_req_.z1.z2.z2.z1.zs.1 h tk8 us2 nn2
noncomputable def zs : { P : Heap → Nat → Nat → Value → (List Value) → Nat → (PySem.Str → Option Value) → Heap → Nat → (List (Addr × Obj)) → Item → Prop // (∀ y0 y1 y2 y3 y4 y5 y6 y7 y8 y9 y10, P y0 y1 y2 y3 y4 y5 y6 y7 y8 y9 y10) → Mine.octets_req_.z1.z2.z2.z1.zs.1 h (zx.n 0) (zx.lv 0) (zx.n 1) } := by
  refine' ⟨_, (_ : zT _) h (zx.n 0) (zx.lv 0) (zx.n 1)⟩
  rotate_left 1
  · intro h tk8 us2 nn2 zR1 hnd hR hO hS hD hN hT hw hs hwl hsl hwb hwbl hwb1 hdr hsr htl hti hz hwl2 B X T hk hd hu hret hexc B' X' T' kG' zi1x3 hol h8 hwl5 zi1x4 zi1x5 zi1x6 zi1x7 zi1x8 zi1x9 zi1x10 zi1x11 zi1x12 zi1x13 zi1x14 zi1x15 zi1x16 z8 z7 hsl5 hP lF9 lN9 hol1 hol2 hul hul3 hTl
    w_strict (
     k_steps
     unfold Hold
     rename Fr _ _ _ _ => lF
     rename News _ _ _ _ => lN
     refine' loopM (σ := OcS) (Iter.list rfl) (fun c => [(D, listOf c.us.toArray c.nn), (x, instObj 205 d), (d, frD w lw lo ls lt t1 t2 t3 t4 t5 t6 t7 n dv sv done), (lw, listOf uw.toArray nw), (lo, listOf uo.toArray no), (ls, listOf us.toArray ns), (lt, listOf uk.toArray nt)]) (fun c => []) [] (fun i c => RowsAre c.us ((headR st wb ++ [FL]) ++ ((tkI.map talkPk).take i))) ⟨us2.concat (.bytes _ _), nn2 + 1⟩ lF lN ?hn ?hkeep ?hkk ?hp ?turn ?done
     case hn => dsimp only; walk_at "sub here"
     case hkeep =>
       rintro c p hp
       rw [List.mem_singleton.mp hp]
       exact List.mem_cons_of_mem _ (List.mem_cons_of_mem _ (List.mem_cons_of_mem _ (List.mem_cons_of_mem _ (List.mem_cons_of_mem _ (List.mem_cons_of_mem _ List.mem_cons_self)))))
     case hkk => intro p hp; cases hp
     case hp => dsimp only; rw [List.take_zero, List.append_nil, List.concat_eq_append]; exact hP.snoc FL _
     case turn =>
       clear hP hul hul3
       rintro i v ⟨us1, nn1⟩ u h tk9 own hi hv hoff hP F₁ N₁
       dsimp only at hP F₁ N₁ hoff
       simp only [List.nil_append, List.cons_append, List.map_cons, List.map_nil] at N₁ hoff
       clear lF lN
       obtain ⟨it, hit, hbi⟩ := hT.get hv
       have hul := hP.length
       walk_at "tidy"
       have hul3 : us1.length ≤ 1000 := by
         rw [hul, List.length_append, List.length_append, List.length_take, List.length_map]
         unfold headR
         rw [List.length_append, List.length_append, List.length_append, List.length_map, List.length_map, List.length_map, List.length_map, List.length_map, h8]
         show _ + 1 + _ ≤ _
         omega
       have hgi : (tkI.map talkPk)[i]? = some (talkPk it) := by rw [List.getElem?_map, hbi]; rfl
       (rename_i zi5x1 zi5x2; revert hnd hR hO hS hD hN hT hw hs hwl hsl hwb hwbl hwb1 hdr hsr htl hti hz hwl2 B X T hk hd hu hret hexc B' X' T' kG' zi1x3 hol h8 hwl5 zi1x4 zi1x5 zi1x6 zi1x7 zi1x8 zi1x9 zi1x10 zi1x11 zi1x12 zi1x13 zi1x14 zi1x15 zi1x16 z8 z7 hsl5 hol1 hol2 hTl hi hv hP hoff hit hbi hul lF9 lN9 hul3 hgi; exact zR1 zi5x2 tk i v us1 nn1 u h tk9 own it)
     case done =>
       clear hP hul hul3
       rintro ⟨us1, nn1⟩ u h tk9 hP F₁ N₁
       rw [show uk.length = (tkI.map talkPk).length by rw [List.length_map, hTl], List.take_length] at hP
       dsimp only at hP F₁ N₁
       clear lF lN
       have hpn0 := hP.length
       obtain ⟨ps, rfl, hps⟩ := hP.pairs
       have hpn : ps ≠ [] := by
         rintro rfl
         rw [List.length_append, List.length_append] at hpn0
         simp at hpn0
         omega
       clear hpn0
       have hz9 : (ps.flatMap (·.1.toList)).length ≤ 16777216 := by
         unfold outB at hz
         rw [List.length_append] at hz
         rw [hps]
         omega
       have hz8 : (ps.flatMap (·.1.toList)).length ≤ 65536 := by
         unfold outB at hz
         rw [List.length_append] at hz
         rw [hps]
         omega
       walk_at "tidy"
       have hpl9 : (pktL [100, 111, 110, 101, 10]).length = 9 := rfl
       rename News _ _ _ _ => N7
       revert hret N7
       generalize done = done9
       intro hret N7
       rcases done9 with _ | _
       · k_steps
         (refine' hret _ _ _ _ ⟨⟨_, by rw [hps]; rfl⟩, rfl⟩ ?zF587 ?zN587 ?zK587; (case zF587 => assumption); (case zN587 => (refine News.sub_J (by assumption) ?_; walk_at "sub here")); (case zK587 => exact kept_of (by assumption) (by assumption) (News.sub_J (by assumption) (by walk_at "sub here"))))
       · k_steps
         (refine' hret _ _ _ _ ⟨⟨_, by rw [hps]; rfl⟩, rfl⟩ ?zF589 ?zN589 ?zK589; (case zF589 => assumption); (case zN589 => (refine News.sub_J (by assumption) ?_; walk_at "sub here")); (case zK589 => exact kept_of (by assumption) (by assumption) (News.sub_J (by assumption) (by walk_at "sub here"))))
    )
@[irreducible] noncomputable def zP1 : Heap → Nat → Nat → Value → (List Value) → Nat → (PySem.Str → Option Value) → Heap → Nat → (List (Addr × Obj)) → Item → Prop := Mine.octets_req_.z1.z2.z2.z1.z1.zs.1
theorem zp1 : zP1 = Mine.octets_req_.z1.z2.z2.z1.z1.zs.1 := by with_unfolding_all rfl
namespace z1
@[irreducible] noncomputable def zx : Zst × Item := sk ⟨(Classical.choice neZst, default)⟩ fun z => Mine.octets_req_.z1.z2.z2.z1.z1.zP1 (z.1.h 0) (z.1.n 0) (z.1.n 1) (z.1.v 0) (z.1.lv 0) (z.1.n 2) (z.1.m 0) (z.1.h 1) (z.1.n 3) (z.1.ld 0) (z.2)
theorem zgo : Mine.octets_req_.z1.z2.z2.z1.z1.zP1 (zx.1.h 0) (zx.1.n 0) (zx.1.n 1) (zx.1.v 0) (zx.1.lv 0) (zx.1.n 2) (zx.1.m 0) (zx.1.h 1) (zx.1.n 3) (zx.1.ld 0) (zx.2) := by
  refine' zcast Mine.octets_req_.z1.z2.z2.z1.z1.zp1 (fun zf => zf (zx.1.h 0) (zx.1.n 0) (zx.1.n 1) (zx.1.v 0) (zx.1.lv 0) (zx.1.n 2) (zx.1.m 0) (zx.1.h 1) (zx.1.n 3) (zx.1.ld 0) (zx.2)) ((_ : ∀ zi5x2 tk i v us1 nn1 u h tk9 own it, Mine.octets_req_.z1.z2.z2.z1.z1.zs.1 zi5x2 tk i v us1 nn1 u h tk9 own it) (zx.1.h 0) (zx.1.n 0) (zx.1.n 1) (zx.1.v 0) (zx.1.lv 0) (zx.1.n 2) (zx.1.m 0) (zx.1.h 1) (zx.1.n 3) (zx.1.ld 0) (zx.2))
  intro zi5x2 tk i v us1 nn1 u h tk9 own it hnd hR hO hS hD hN hT hw hs hwl hsl hwb hwbl hwb1 hdr hsr htl hti hz hwl2 B X T hk hd hu hret hexc B' X' T' kG' zi1x3 hol h8 hwl5 zi1x4 zi1x5 zi1x6 zi1x7 zi1x8 zi1x9 zi1x10 zi1x11 zi1x12 zi1x13 zi1x14 zi1x15 zi1x16 z8 z7 hsl5 hol1 hol2 hTl hi hv hP hoff hit hbi hul lF9 lN9 hul3 hgi
  w_strict (
   rcases it with _ | b
   · obtain ⟨t9, rfl⟩ := hit
     k_steps
     refine' At.end ⟨us1.concat (.bytes _ _), nn1 + 1⟩ hoff (by assumption) (by assumption) rfl ?zn ?zw (fun _ h => nomatch h) ?zr ?zp
     case zn => dsimp only; walk_at "sub here"
     case zw => intro p hp; repeat (first | exact hp | refine List.mem_cons_of_mem _ ?_)
     case zr =>
       intro z h1 h2 h3
       simp only [List.contains_cons, List.contains_nil, Bool.or_false, beq_eq_false_iff_ne, ne_eq] at h3
       simp +zetaDelta [h1, h3, kstB]
     case zp =>
       dsimp only
       rw [take_succ hgi, List.concat_eq_append, ← List.append_assoc]
       exact hP.snoc _ _
   · obtain ⟨t9, rfl⟩ := hit
     have hb9 := hti b (List.mem_of_getElem? hbi)
     have hxl := hexB_length b
     k_steps
     refine' At.end ⟨us1.concat (.bytes _ _), nn1 + 1⟩ hoff (by assumption) (by assumption) rfl ?zn ?zw (fun _ h => nomatch h) ?zr ?zp
     case zn => dsimp only; walk_at "sub here"
     case zw => intro p hp; repeat (first | exact hp | refine List.mem_cons_of_mem _ ?_)
     case zr =>
       intro z h1 h2 h3
       simp only [List.contains_cons, List.contains_nil, Bool.or_false, beq_eq_false_iff_ne, ne_eq] at h3
       simp +zetaDelta [h1, h3, kstB]
     case zp =>
       dsimp only
       rw [take_succ hgi, List.concat_eq_append, ← List.append_assoc]
       exact hP.snoc _ _
  )
theorem zall : ∀ z : Zst × Item, Mine.octets_req_.z1.z2.z2.z1.z1.zP1 (z.1.h 0) (z.1.n 0) (z.1.n 1) (z.1.v 0) (z.1.lv 0) (z.1.n 2) (z.1.m 0) (z.1.h 1) (z.1.n 3) (z.1.ld 0) (z.2) := by refine @sk_all _ ⟨(Classical.choice neZst, default)⟩ _ ?_; with_unfolding_all exact zgo
end z1
theorem zgo : Mine.octets_req_.z1.z2.z2.z1.zP1 h (zx.n 0) (zx.lv 0) (zx.n 1) := zcast Mine.octets_req_.z1.z2.z2.z1.zp1 (fun zf => zf h (zx.n 0) (zx.lv 0) (zx.n 1)) (zs.2 (by rw [← zp1]; exact fun y0 y1 y2 y3 y4 y5 y6 y7 y8 y9 y10 => z1.zall ((zmk zw zk0 [y1, y2, y5, y8] [] [] [] [y3] [] [y0, y7] [] [y4] [] [] [] [] [y9] [] [y6]), y10)))
theorem zall : ∀ z : Zst, Mine.octets_req_.z1.z2.z2.z1.zP1 (z.h 0) (z.n 0) (z.lv 0) (z.n 1) := by refine @sk_all _ neZst _ ?_; with_unfolding_all exact zgo
end z1
theorem zgo : Mine.octets_req_.z1.z2.z2.zP1 h (zx.n 0) us2 nn2 := zcast Mine.octets_req_.z1.z2.z2.zp1 (fun zf => zf h (zx.n 0) us2 nn2) (zs.2 (by rw [← zp1]; exact fun y0 y1 y2 y3 => z1.zall (zmk zw zk0 [y1, y3] [] [] [] [] [] [y0] [] [y2] [] [] [] [] [] [] [])))
theorem zall : ∀ z : Zst, Mine.octets_req_.z1.z2.z2.zP1 (z.h 0) (z.n 0) (z.lv 0) (z.n 1) := by refine @sk_all _ neZst _ ?_; with_unfolding_all exact zgo
end z1
theorem zgo : Mine.octets_req_.z1.z2.zP2 us1 nn1 u h tk8 := zcast Mine.octets_req_.z1.z2.zp2 (fun zf => zf us1 nn1 u h tk8) (zs.2 (by rw [← zp1]; exact fun y0 y1 y2 y3 => z1.zall (zmk zw zk0 [y1, y3] [] [] [] [] [] [y0] [] [y2] [] [] [] [] [] [] [])))
theorem zall : ∀ z : Zst, Mine.octets_req_.z1.z2.zP2 (z.lv 0) (z.n 0) (z.m 0) (z.h 0) (z.n 1) := by refine @sk_all _ neZst _ ?_; with_unfolding_all exact zgo
end z2
theorem zgo : Mine.octets_req_.z1.zP2 (zx.h 0) D us1 nn1 u h tk8 := zcast Mine.octets_req_.z1.zp2 (fun zf => zf (zx.h 0) D us1 nn1 u h tk8) (zs.2 (by rw [← zp1]; exact fun y0 y1 y2 y3 y4 y5 y6 y7 y8 => z1.zall (zmk zw zk0 [y0, y2, y5, y8] [] [] [] [] [] [y4] [] [y1] [y7] [] [] [] [y6] [] [y3])) (by rw [← zp2]; exact fun y0 y1 y2 y3 y4 => z2.zall (zmk zw zk0 [y1, y4] [] [] [] [] [] [y3] [] [y0] [] [] [] [] [] [] [y2])))
theorem zall : ∀ z : Zst, Mine.octets_req_.z1.zP2 (z.h 0) (z.n 0) (z.lv 0) (z.n 1) (z.m 0) (z.h 1) (z.n 2) := by refine @sk_all _ neZst _ ?_; with_unfolding_all exact zgo
end z2
theorem zgo : Mine.octets_req_.zP1 (zx.h 0) (zx.n 0) h' (zx.n 1) := zcast Mine.octets_req_.zp1 (fun zf => zf (zx.h 0) (zx.n 0) h' (zx.n 1)) (zs.2 (by rw [← zp1]; exact fun y0 y1 y2 y3 y4 y5 y6 y7 y8 y9 y10 => z1.zall (zmk zw zk0 [y1, y2, y4, y7, y10] [] [] [] [] [] [y0, y6] [] [y3] [y9] [] [] [] [y8] [] [y5])) (by rw [← zp2]; exact fun y0 y1 y2 y3 y4 y5 y6 => z2.zall (zmk zw zk0 [y1, y3, y6] [] [] [] [] [] [y0, y5] [] [y2] [] [] [] [] [] [] [y4])))
theorem zall : ∀ z : Zst, Mine.octets_req_.zP1 (z.h 0) (z.n 0) (z.h 1) (z.n 1) := by refine @sk_all _ neZst _ ?_; with_unfolding_all exact zgo
end z1
theorem zgo : zA w x d lw lo ls lt t1 t2 t3 t4 t5 t6 t7 n nw no ns nt dv sv uw uo us uk st wb tkI done (zx.1.c) := zs.2 (by rw [← zp1]; exact fun y0 y1 y2 y3 => z1.zall (zmk zw zk0 [y1, y3] [] [] [] [] [] [y0, y2] [] [] [] [] [] [] [] [] []))
theorem zall : ∀ z : Zst × St × (List Item), zA (z.1.w) (z.1.n 0) (z.1.n 1) (z.1.n 2) (z.1.n 3) (z.1.n 4) (z.1.n 5) (z.1.n 6) (z.1.n 7) (z.1.n 8) (z.1.n 9) (z.1.n 10) (z.1.n 11) (z.1.n 12) (z.1.n 13) (z.1.n 14) (z.1.n 15) (z.1.n 16) (z.1.n 17) (z.1.v 0) (z.1.v 1) (z.1.lv 0) (z.1.lv 1) (z.1.lv 2) (z.1.lv 3) (z.2.1) (z.1.ll 0) (z.2.2) (z.1.b 0) (z.1.c) := by refine @sk_all _ ⟨(Classical.choice neZst, ⟨[], [], [], none, none⟩, default)⟩ _ ?_; with_unfolding_all exact zgo
end octets_req_
theorem octets_req (w : World) (x d lw lo ls lt : Addr) (t1 t2 t3 t4 t5 t6 t7 : Tok) (n nw no ns nt : Nat) (dv sv : Value) (uw uo us uk : List Value) (st : St) (wb : List (List UInt8)) (tkI : List Item) (done : Bool)
    (hnd : [x, d, lw, lo, ls, lt].Nodup) (hR : RowsAre uw st.wants) (hO : StrsAre uo (wb.map strOf)) (hS : RowsAre us st.shallow) (hD : OptI st.depth dv) (hN : OptI st.since sv) (hT : TalkAre uk tkI)
    (hw : ∀ b ∈ st.wants, b.length ≤ 64) (hs : ∀ b ∈ st.shallow, b.length ≤ 64) (hwl : st.wants.length ≤ 100) (hsl : st.shallow.length ≤ 100) (hwb : (wordsB wb).length ≤ 1000) (hwbl : wb.length ≤ 100) (hwb1 : ∀ b ∈ wb, b.length ≤ 100) (hdr : ∀ i, st.depth = some i → 0 ≤ i ∧ i < 100) (hsr : ∀ i, st.since = some i → 0 ≤ i ∧ i < 100) (htl : tkI.length ≤ 100) (hti : ∀ b, some b ∈ tkI → b.length ≤ 64) (hz : (outB st wb tkI done).length ≤ 65536) :
    Spec w 187 [.ref x] 30 300 [(x, instObj 205 d), (d, frD w lw lo ls lt t1 t2 t3 t4 t5 t6 t7 n dv sv done), (lw, listOf uw.toArray nw), (lo, listOf uo.toArray no), (ls, listOf us.toArray ns), (lt, listOf uk.toArray nt)]
      (fun v n' => (∃ t, v = .bytes (outB st wb tkI done).toArray t) ∧ n' = [(x, instObj 205 d), (d, frD w lw lo ls lt t1 t2 t3 t4 t5 t6 t7 n dv sv done), (lw, listOf uw.toArray nw), (lo, listOf uo.toArray no), (ls, listOf us.toArray ns), (lt, listOf uk.toArray nt)]) False := Spec.cut fun zk => Mine.octets_req_.zall ((zmk w zk [x, d, lw, lo, ls, lt, t1, t2, t3, t4, t5, t6, t7, n, nw, no, ns, nt] [] [done] [] [dv, sv] [] [] [] [uw, uo, us, uk] [] [wb] [] [] [] [] []), st, tkI) hnd hR hO hS hD hN hT hw hs hwl hsl hwb hwbl hwb1 hdr hsr htl hti hz
end sPv
theorem fl39 : True := by first | walk1 | trivial

local macro_rules | `(tactic| walk_at $s:str) => `(tactic| k_extra $(Lean.Syntax.mkStrLit ("S125." ++ s.getString)))
theorem zm47 : True := by
  (k_with "S125.binaryOp Add str str" => k_extra "R85")
  (k_with "S125.my cells" => k_extra "R94")
  trivial
local macro_rules | `(tactic| k_ne) => `(tactic| k_extra "R95")
section sPw

local macro_rules | `(tactic| walk_at $s:str) => `(tactic| k_extra $(Lean.Syntax.mkStrLit ("S126." ++ s.getString)))
theorem zm48 : True := by
  (k_with "S126.eval ListComp" => k_extra "R23")
  trivial
namespace law_octets_
def zA (w : World) (b : List UInt8) (t : Tok) (zk : Cal) : Prop := ∀ (hb : b.length ≤ 4096), SpecAt w 226 [.str (strOf b) t] 2 20 [] (fun v n' => n' = [] ∧ ∃ t, v = .bytes b.toArray t) False zk
@[irreducible] noncomputable def zx : Zst := sk neZst fun z => zA (z.w) (z.lu 0) (z.n 0) (z.c)
@[irreducible] noncomputable def b : List UInt8 := zx.lu 0
def zT (P1 : World → (List UInt8) → Tok → Cal → Heap → Addr → Heap → Nat → Prop) : Prop := ∀ w b t zk, (∀ y0 y1 y2 y3, P1 w b t zk y0 y1 y2 y3) → zA w b t zk
noncomputable def zs : { P : Heap → Addr → Heap → Nat → Prop // (∀ y0 y1 y2 y3, P y0 y1 y2 y3) → zA (zx.w) b (zx.n 0) (zx.c) } := by
  refine' ⟨_, (_ : zT _) (zx.w) b (zx.n 0) (zx.c)⟩
  rotate_left 1
  · intro w b t zk zR1 hb B F X N T hk hd hu hret hexc
    w_strict (
     walk_at "my enter"
     (revert hb B F X N T hk hd hu hret hexc FG' F' N' B' X' T' kG'; exact zR1 g' L' h' tk')
    )
@[irreducible] noncomputable def zP1 : Heap → Addr → Heap → Nat → Prop := Mine.law_octets_.zs.1
theorem zp1 : zP1 = Mine.law_octets_.zs.1 := by with_unfolding_all rfl
namespace z1
@[irreducible] noncomputable def zx : Zst := sk neZst fun z => Mine.law_octets_.zP1 (z.h 0) (z.n 0) (z.h 1) (z.n 1)
theorem zgo : Mine.law_octets_.zP1 (zx.h 0) (zx.n 0) (zx.h 1) (zx.n 1) := by
  refine' zcast Mine.law_octets_.zp1 (fun zf => zf (zx.h 0) (zx.n 0) (zx.h 1) (zx.n 1)) ((_ : ∀ g' L' h' tk', Mine.law_octets_.zs.1 g' L' h' tk') (zx.h 0) (zx.n 0) (zx.h 1) (zx.n 1))
  intro g' L' h' tk' hb B F X N T hk hd hu hret hexc FG' F' N' B' X' T' kG'
  w_strict (
   k_steps
   refine SrcW.mk (Src1.str (by rfl)) (by rfl) (by k_asm) (by k_asm) (by rw [sizeLine_eq]; simp [strOf, S]; omega) ?_
   intro g'
   refine rest_inv (fun i ys nw => nw = [] ∧ IntsAre ys (nats ((b.map UInt8.toNat).take i))) ⟨rfl, .nil⟩ ?_ ?_
   · rintro i ys nw v I oI C oC D m₂ h tk E' hi ⟨rfl, hys⟩ ⟨c, tc, hc, rfl⟩ hoC hx₂ F₁ N₁ off ne
     k_steps
     rw [take_succ (by simpa [strOf, S] using hc)]
     simp only [nats, List.map_append, List.map_cons, List.map_nil]
     exact intsAre_snoc hys
   · rintro ys nw ⟨rfl, hys⟩
     rw [show (strOf b).cps.size = (b.map UInt8.toNat).length by simp [strOf, S], List.take_length] at hys
     k_steps
     unfold Hold
     refine bytes_K (by k_asm) (by k_asm) (News.isList (by k_asm) (by k_mem)) hys (fun n hn => ?_) (by rw [hys.length, sizeLine_eq]; simp [nats]; omega) (by rfl) ?_
     · unfold nats at hn
       obtain ⟨c, hc, rfl⟩ := List.mem_map.mp hn
       have := nat_lt b c hc
       omega
     intro h' t' k' F' N' _
     rw [byteArr_nats, bytesOf_nat]
     k_steps
     exact hret _ _ _ [] ⟨rfl, _, rfl⟩ (by assumption) News.nil (kept_of (by assumption) (by assumption) News.nil)
  )
theorem zall : ∀ z : Zst, Mine.law_octets_.zP1 (z.h 0) (z.n 0) (z.h 1) (z.n 1) := by refine @sk_all _ neZst _ ?_; with_unfolding_all exact zgo
end z1
theorem zgo : zA (zx.w) b (zx.n 0) (zx.c) := zs.2 (by rw [← zp1]; exact fun y0 y1 y2 y3 => z1.zall (zmk zw zk0 [y1, y3] [] [] [] [] [] [y0, y2] [] [] [] [] [] [] [] [] []))
theorem zall : ∀ z : Zst, zA (z.w) (z.lu 0) (z.n 0) (z.c) := by refine @sk_all _ neZst _ ?_; with_unfolding_all exact zgo
end law_octets_
theorem law_octets (w : World) (b : List UInt8) (t : Tok) (hb : b.length ≤ 4096) : Spec w 226 [.str (strOf b) t] 2 20 [] (fun v n' => n' = [] ∧ ∃ t, v = .bytes b.toArray t) False := Spec.cut fun zk => Mine.law_octets_.zall (zmk w zk [t] [] [] [] [] [] [] [] [] [b] [] [] [] [] [] []) hb
theorem fdiv16 (n : Nat) : Int.fdiv (n : Int) 16 = ((n / 16 : Nat) : Int) := by rw [Int.fdiv_eq_ediv_of_nonneg _ (by decide)]; rfl
theorem fmod16 (n : Nat) : Int.fmod (n : Int) 16 = ((n % 16 : Nat) : Int) := by rw [Int.fmod_eq_emod_of_nonneg _ (by decide)]; rfl
theorem hex_itemN {prog : Program} {w : World} {A : Around} {E : Value → Shared → Prop} {s : Shared} {value slice : PySem.Expr} {i : Int} {j : Nat} {t u : Tok} {Q : Value → Shared → Prop} (hi : i = (j : Int)) (h1 : j < 16)
    (h : Q (.str (S [hexC j]) s.toks) { s with toks := s.toks + 1 })
    (hs : subscripted slice false (.str (Str.ofString "0123456789abcdef") t) (.int i u) = operate [.str (Str.ofString "0123456789abcdef") t, .int i u] (getItem (.str (Str.ofString "0123456789abcdef") t) (.int i u)) := by with_unfolding_all rfl)
    (ht : ∀ r, letTemporaryGo value (.str (Str.ofString "0123456789abcdef") t) r = pure () := by intro _; with_unfolding_all rfl) :
    wpAny (model prog w) A (subscriptTail value slice (.str (Str.ofString "0123456789abcdef") t) (.int i u)) Q E s := by
  subst hi
  exact hex_item (Int.natCast_nonneg j) (Int.ofNat_lt.mpr h1) (by rw [Int.toNat_natCast]; exact h) hs ht
theorem hex_sum (b : List UInt8) : ((b.map fun c => S [hexC (c.toNat / 16), hexC (c.toNat % 16)]).map (·.length)).sum = 2 * b.length := by
  induction b with
  | nil => rfl
  | cons c r ih =>
    rw [List.map_cons, List.map_cons, List.sum_cons, ih, List.length_cons]
    show 2 + 2 * r.length = _
    omega
theorem hex_cat (b : List UInt8) : catS (b.map fun c => S [hexC (c.toNat / 16), hexC (c.toNat % 16)]) = S (hexL b) := by
  unfold catS
  congr 1
  unfold hexL
  rw [List.flatMap_map]
  rfl
namespace law_hex_
def zA (w : World) (b : List UInt8) (t : Tok) (zk : Cal) : Prop := ∀ (hb : b.length ≤ 64), SpecAt w 231 [.bytes b.toArray t] 2 20 [] (fun v n' => n' = [] ∧ ∃ t, v = .str (S (hexL b)) t) False zk
@[irreducible] noncomputable def zx : Zst := sk neZst fun z => zA (z.w) (z.lu 0) (z.n 0) (z.c)
@[irreducible] noncomputable def b : List UInt8 := zx.lu 0
def zT (P1 : World → (List UInt8) → Tok → Cal → Heap → Addr → Heap → Nat → Prop) : Prop := ∀ w b t zk, (∀ y0 y1 y2 y3, P1 w b t zk y0 y1 y2 y3) → zA w b t zk
noncomputable def zs : { P : Heap → Addr → Heap → Nat → Prop // (∀ y0 y1 y2 y3, P y0 y1 y2 y3) → zA (zx.w) b (zx.n 0) (zx.c) } := by
  refine' ⟨_, (_ : zT _) (zx.w) b (zx.n 0) (zx.c)⟩
  rotate_left 1
  · intro w b t zk zR1 hb B F X N T hk hd hu hret hexc
    w_strict (
     walk_at "my enter"
     (revert hb B F X N T hk hd hu hret hexc FG' F' N' B' X' T' kG'; exact zR1 g' L' h' tk')
    )
@[irreducible] noncomputable def zP1 : Heap → Addr → Heap → Nat → Prop := Mine.law_hex_.zs.1
theorem zp1 : zP1 = Mine.law_hex_.zs.1 := by with_unfolding_all rfl
namespace z1
@[irreducible] noncomputable def zx : Zst := sk neZst fun z => Mine.law_hex_.zP1 (z.h 0) (z.n 0) (z.h 1) (z.n 1)
theorem zgo : Mine.law_hex_.zP1 (zx.h 0) (zx.n 0) (zx.h 1) (zx.n 1) := by
  refine' zcast Mine.law_hex_.zp1 (fun zf => zf (zx.h 0) (zx.n 0) (zx.h 1) (zx.n 1)) ((_ : ∀ g' L' h' tk', Mine.law_hex_.zs.1 g' L' h' tk') (zx.h 0) (zx.n 0) (zx.h 1) (zx.n 1))
  intro g' L' h' tk' hb B F X N T hk hd hu hret hexc FG' F' N' B' X' T' kG'
  w_strict (
   k_steps
   refine SrcW.mk (Src1.bytes (by rfl)) (by rfl) (by k_asm) (by k_asm) (by rw [sizeLine_eq]; simp; omega) ?_
   intro g'
   refine rest_inv (fun i ys nw => nw = [] ∧ StrsAre ys ((b.take i).map fun c => S [hexC (c.toNat / 16), hexC (c.toNat % 16)])) ⟨rfl, .nil⟩ ?_ ?_
   · rintro i ys nw v I oI C oC D m₂ h tk E' hi ⟨rfl, hys⟩ ⟨c, tc, hc, rfl⟩ hoC hx₂ F₁ N₁ off ne
     have hc9 := c.toNat_lt
     k_steps
     unfold Hold
     refine hex_itemN (fdiv16 c.toNat) (by omega) ?_
     k_steps
     unfold Hold
     refine hex_itemN (fmod16 c.toNat) (by omega) ?_
     k_steps
     rw [take_succ (by simpa using hc), List.map_append]
     exact hys.append' (.cons _ _ .nil)
   · rintro ys nw ⟨rfl, hys⟩
     rw [show b.toArray.size = b.length by simp, List.take_length] at hys
     k_steps
     unfold Hold
     simp only [List.cons_append, List.nil_append]
     refine join_list (News.isList (by k_asm) (by k_mem)) hys (by rw [hex_sum, List.length_map]; show _ + _ * 0 ≤ _; omega) ?_
     intro t9 k9
     rw [join_empty, hex_cat]
     k_steps
     exact hret _ _ _ [] ⟨rfl, _, rfl⟩ (by assumption) News.nil (kept_of (by assumption) (by assumption) News.nil)
  )
theorem zall : ∀ z : Zst, Mine.law_hex_.zP1 (z.h 0) (z.n 0) (z.h 1) (z.n 1) := by refine @sk_all _ neZst _ ?_; with_unfolding_all exact zgo
end z1
theorem zgo : zA (zx.w) b (zx.n 0) (zx.c) := zs.2 (by rw [← zp1]; exact fun y0 y1 y2 y3 => z1.zall (zmk zw zk0 [y1, y3] [] [] [] [] [] [y0, y2] [] [] [] [] [] [] [] [] []))
theorem zall : ∀ z : Zst, zA (z.w) (z.lu 0) (z.n 0) (z.c) := by refine @sk_all _ neZst _ ?_; with_unfolding_all exact zgo
end law_hex_
theorem law_hex (w : World) (b : List UInt8) (t : Tok) (hb : b.length ≤ 64) : Spec w 231 [.bytes b.toArray t] 2 20 [] (fun v n' => n' = [] ∧ ∃ t, v = .str (S (hexL b)) t) False := Spec.cut fun zk => Mine.law_hex_.zall (zmk w zk [t] [] [] [] [] [] [] [] [] [b] [] [] [] [] [] []) hb
end sPw
theorem fl40 : True := by first | walk1 | trivial

section sPx

inductive StrIs : Item → Value → Prop
  | none : StrIs none .none
  | some (b : List UInt8) (t : Tok) : StrIs (some b) (.str (strOf b) t)
inductive RowStrs : List Value → List Item → Prop
  | nil : RowStrs [] []
  | cons {v : Value} {it : Item} {us : List Value} {its : List Item} : StrIs it v → RowStrs us its → RowStrs (v :: us) (it :: its)
theorem RowStrs.length {us : List Value} {its : List Item} (h : RowStrs us its) : us.length = its.length := by
  induction h with
  | nil => rfl
  | cons _ _ ih => simp only [List.length_cons, ih]
theorem RowStrs.get {us : List Value} {bs : List Item} (h : RowStrs us bs) : ∀ {i : Nat} {v : Value}, us[i]? = some v → ∃ it, StrIs it v ∧ bs[i]? = some it := by
  induction h with
  | nil => intro i v e; cases e
  | cons c _ ih =>
    intro i v e
    cases i with
    | zero => exact ⟨_, (Option.some.inj e) ▸ c, rfl⟩
    | succ i => exact ih e
def framed (its : List Item) (f : List UInt8) : List UInt8 := enc (its.map fun it => it.map (· ++ f))
theorem len_S {prog : Program} {w : World} {A : Around} {E : Value → Shared → Prop} {s : Shared} {b : List UInt8} {t : Tok} {Q : Value → Shared → Prop} (hb : b.length ≤ 100000) (h : Q (.int ((b.length : Nat) : Int) (s.toks + 1)) { s with toks := s.toks + 1 + 1 }) : wpAny (model prog w) A (call (.builtin "len") [.str (strOf b) t]) Q E s := by
  refine PyProof.Rows.len_str (by rw [strOf_length]; omega) ?_
  rw [strOf_length]
  exact h
local macro_rules | `(tactic| walk_at $s:str) => `(tactic| k_extra $(Lean.Syntax.mkStrLit ("S131." ++ s.getString)))
theorem zm49 : True := by
  (k_with "S131.call builtin:len" => k_extra "R96")
  (k_with "S131.eval ListComp" => k_extra "R97")
  trivial
theorem pow16_1 {prog : Program} {w : World} {A : Around} {E : Value → Shared → Prop} {s : Shared} {t u : Tok} {Q : Value → Shared → Prop} (h : Q (.int 16 s.toks) { s with toks := s.toks + 1 }) : wpAny (model prog w) A (binaryOp .Pow (.int 16 t) (.int 1 u)) Q E s :=
  PySem.AutoIntOps.pow_4 (by decide) (by decide) (by decide) (by decide) (by decide +kernel) h
theorem pow16_2 {prog : Program} {w : World} {A : Around} {E : Value → Shared → Prop} {s : Shared} {t u : Tok} {Q : Value → Shared → Prop} (h : Q (.int 256 s.toks) { s with toks := s.toks + 1 }) : wpAny (model prog w) A (binaryOp .Pow (.int 16 t) (.int 2 u)) Q E s :=
  PySem.AutoIntOps.pow_4 (by decide) (by decide) (by decide) (by decide) (by decide +kernel) h
theorem pow16_3 {prog : Program} {w : World} {A : Around} {E : Value → Shared → Prop} {s : Shared} {t u : Tok} {Q : Value → Shared → Prop} (h : Q (.int 4096 s.toks) { s with toks := s.toks + 1 }) : wpAny (model prog w) A (binaryOp .Pow (.int 16 t) (.int 3 u)) Q E s :=
  PySem.AutoIntOps.pow_4 (by decide) (by decide) (by decide) (by decide) (by decide +kernel) h
theorem pow16_0 {prog : Program} {w : World} {A : Around} {E : Value → Shared → Prop} {s : Shared} {t u : Tok} {Q : Value → Shared → Prop} (h : Q (.int 1 s.toks) { s with toks := s.toks + 1 }) : wpAny (model prog w) A (binaryOp .Pow (.int 16 t) (.int 0 u)) Q E s :=
  PySem.AutoIntOps.pow_0 (by decide) (by decide) h
theorem zm50 : True := by
  (k_with "S131.binaryOp Pow" => k_extra "R3")
  (k_with "S131.binaryOp Pow int" => k_extra "R3")
  trivial
abbrev fx (n k : Int) : Int := ((([48, 49, 50, 51, 52, 53, 54, 55, 56, 57, 97, 98, 99, 100, 101, 102] : List UInt8)).getD ((n.fdiv k).fmod 16).toNat 0).toNat
abbrev figs4 (n : Int) : List Int := [fx n 4096, fx n 256, fx n 16, fx n 1]
theorem hdr_eq (n : Int) (h0 : 0 ≤ n) (h1 : n < 65536) : (hdrL n).map (fun c => (c.toNat : Int)) = figs4 n := by
  have e1 : (n.fdiv 4096).fmod 16 = n.fdiv 4096 := by
    rw [Int.fdiv_eq_ediv_of_nonneg _ (by decide), Int.fmod_eq_emod_of_nonneg _ (by decide)]
    omega
  have e2 : n.fdiv 1 = n := by rw [Int.fdiv_eq_ediv_of_nonneg _ (by decide)]; omega
  unfold hdrL
  simp only [List.map_cons, List.map_nil, figs4, fx, e1, e2]
theorem framed_cut {its : List Item} {i : Nat} {it : Item} (h : its[i]? = some it) (f : List UInt8) : framed its f = framed (its.take i) f ++ (pk (it.map (· ++ f)) ++ framed (its.drop (i + 1)) f) := by
  unfold framed
  rw [enc_cut (i := i) (it := it.map (· ++ f)) (by rw [List.getElem?_map, h]; rfl), List.map_take, List.map_drop]
theorem framed_snoc {its : List Item} {i : Nat} {it : Item} (h : its[i]? = some it) (f : List UInt8) : framed (its.take (i + 1)) f = framed (its.take i) f ++ pk (it.map (· ++ f)) := by
  unfold framed
  rw [List.map_take, enc_snoc (i := i) (it := it.map (· ++ f)) (by rw [List.getElem?_map, h]; rfl), List.map_take]
theorem law_octets_txt (w : World) (x : PySem.Str) (b : List UInt8) (t : Tok) (hx : x = strOf b) (hb : b.length ≤ 4096) : Spec w 226 [.str x t] 2 20 [] (fun v n' => n' = [] ∧ ∃ t, v = .bytes b.toArray t) False := by
  subst hx
  exact law_octets w b t hb
theorem ints_one {ys : List Value} {l l2 : List Int} {x : Int} {t : Tok} (h : IntsAre ys l) (e : l2 = l ++ [x]) : IntsAre (ys ++ [.int x t]) l2 := by
  rw [e]
  exact intsAre_snoc h
structure FrS where
  i : Nat
  t : Tok
  o : Obj
theorem zm51 : True := by
  (k_with "S131.call ref" => k_extra "R98")
  trivial
namespace law_framed_
def zA (w : World) (rl : Addr) (rs : List Value) (nr : Nat) (its : List Item) (f : List UInt8) (tf : Tok) (zk : Cal) : Prop := ∀ (hR : RowStrs rs its), ∀ (hf : f.length ≤ 1), ∀ (hil : its.length ≤ 100), ∀ (hib : ∀ b, some b ∈ its → b.length ≤ 500), ∀ (hz : (framed its f).length ≤ 60000), SpecAt w 236 [.ref rl, .str (strOf f) tf] 10 100 [(rl, listOf rs.toArray nr)] (fun v n' => (∃ t, v = .bytes (framed its f).toArray t) ∧ n' = [(rl, listOf rs.toArray nr)]) False zk
@[irreducible] noncomputable def zx : Zst × (List Item) := sk ⟨(Classical.choice neZst, default)⟩ fun z => zA (z.1.w) (z.1.n 0) (z.1.lv 0) (z.1.n 1) (z.2) (z.1.lu 0) (z.1.n 2) (z.1.c)
@[irreducible] noncomputable def rl : Addr := zx.1.n 0
@[irreducible] noncomputable def rs : List Value := zx.1.lv 0
@[irreducible] noncomputable def nr : Nat := zx.1.n 1
@[irreducible] noncomputable def its : List Item := zx.2
@[irreducible] noncomputable def f : List UInt8 := zx.1.lu 0
@[irreducible] noncomputable def zk : Cal := zx.1.c
def zT (P1 : World → Addr → (List Value) → Nat → (List Item) → (List UInt8) → Tok → Cal → Heap → Addr → Heap → Nat → Obj → Prop) : Prop := ∀ w rl rs nr its f tf zk, (∀ y0 y1 y2 y3 y4, P1 w rl rs nr its f tf zk y0 y1 y2 y3 y4) → zA w rl rs nr its f tf zk
noncomputable def zs : { P : Heap → Addr → Heap → Nat → Obj → Prop // (∀ y0 y1 y2 y3 y4, P y0 y1 y2 y3 y4) → zA (zx.1.w) rl rs nr its f (zx.1.n 2) zk } := by
  refine' ⟨_, (_ : zT _) (zx.1.w) rl rs nr its f (zx.1.n 2) zk⟩
  rotate_left 1
  · intro w rl rs nr its f tf zk zR1 hR hf hil hib hz B F X N T hk hd hu hret hexc
    w_strict (
     walk_at "my cells"
     (rename_i zi0x1 zi0x2; revert hR hf hil hib hz B F X N T hk hd hu hret hexc FG' F' B' X' T' l1 kG' zi0x2 N'; exact zR1 g' L' h' tk' zi0x1)
    )
@[irreducible] noncomputable def zP1 : Heap → Addr → Heap → Nat → Obj → Prop := Mine.law_framed_.zs.1
theorem zp1 : zP1 = Mine.law_framed_.zs.1 := by with_unfolding_all rfl
namespace z1
@[irreducible] noncomputable def zx : Zst := sk neZst fun z => Mine.law_framed_.zP1 (z.h 0) (z.n 0) (z.h 1) (z.n 1) (z.o 0)
@[irreducible] noncomputable def g' : Heap := zx.h 0
@[irreducible] noncomputable def h' : Heap := zx.h 1
@[irreducible] noncomputable def tk' : Nat := zx.n 1
def zT (P1 : Heap → Addr → Heap → Nat → Obj → Heap → Value → Nat → Tok → Obj → (PySem.Str → Option Value) → Heap → Nat → (List (Addr × Obj)) → (Option Value) → Item → (List UInt8) → Prop) : Prop := ∀ g' L' h' tk' zi0x1, (∀ y0 y1 y2 y3 y4 y5 y6 y7 y8 y9 y10 y11, P1 g' L' h' tk' zi0x1 y0 y1 y2 y3 y4 y5 y6 y7 y8 y9 y10 y11) → Mine.law_framed_.zs.1 g' L' h' tk' zi0x1
noncomputable def zs : { P : Heap → Value → Nat → Tok → Obj → (PySem.Str → Option Value) → Heap → Nat → (List (Addr × Obj)) → (Option Value) → Item → (List UInt8) → Prop // (∀ y0 y1 y2 y3 y4 y5 y6 y7 y8 y9 y10 y11, P y0 y1 y2 y3 y4 y5 y6 y7 y8 y9 y10 y11) → Mine.law_framed_.zs.1 g' (zx.n 0) h' tk' (zx.o 0) } := by
  refine' ⟨_, (_ : zT _) g' (zx.n 0) h' tk' (zx.o 0)⟩
  rotate_left 1
  · intro g' L' h' tk' zi0x1 zR1 hR hf hil hib hz B F X N T hk hd hu hret hexc FG' F' B' X' T' l1 kG' zi0x2 N'
    w_strict (
     k_steps
     unfold Hold
     rename Fr _ _ _ _ => lF
     rename News _ _ _ _ => lN
     rename Obj.data _ = _ => hcd9
     refine' loopM (σ := FrS) (Iter.list rfl) (fun c => [(L' + 1, c.o), (rl, listOf rs.toArray nr)]) (fun c => [("found", .bytes (framed (its.take c.i) f).toArray c.t)]) [] (fun i c => c.i = i ∧ ∃ v, c.o.data = .cell v) ⟨0, _, zi0x1⟩ lF lN ?hn ?hkeep ?hkk ?hp ?turn ?done
     case hn => exact fun _ h => h
     case hkeep => exact fun _ _ h => List.mem_cons_of_mem _ h
     case hkk => intro p hp; rw [List.mem_singleton.mp hp]; rfl
     case hp => exact ⟨rfl, _, hcd9⟩
     case turn =>
       rintro i v ⟨i2, tk2, o2⟩ u h tk8 own hi hv hoff ⟨hP, v2, hP2⟩ F₁ N₁
       dsimp only at hP hP2 F₁ N₁ hoff
       subst hP
       simp only [List.nil_append, List.cons_append, List.map_cons, List.map_nil] at N₁ hoff
       clear lF lN hcd9
       obtain ⟨it, hit, hbi⟩ := hR.get hv
       obtain ⟨fo, hfo⟩ : ∃ z, z = framed (its.take i2) f := ⟨_, rfl⟩
       rw [← hfo] at F₁
       have hcut := congrArg List.length (framed_cut hbi f)
       rw [List.length_append, ← hfo] at hcut
       have hfl : fo.length ≤ 60000 := by omega
       have hy1 : (strOf f).length ≤ 100000 := by rw [strOf_length]; omega
       (rename_i zi1x1; revert hR hf hil hib hz B F X N T hk hd hu hret hexc FG' B' X' T' l1 kG' hP2 N₁ hi hv hoff hit hbi F₁ hfo hcut hfl hy1; exact zR1 zi1x1 v i2 tk2 o2 u h tk8 own v2 it fo)
     case done =>
       rintro ⟨i2, tk2, o2⟩ u h tk8 ⟨hP, v2, hP2⟩ F₁ N₁
       dsimp only at hP hP2 F₁ N₁
       clear lF lN hcd9
       rw [hP, hR.length, List.take_length] at F₁
       k_steps
       (refine' hret _ _ _ _ ⟨⟨_, rfl⟩, rfl⟩ ?zF123 ?zN123 ?zK123; (case zF123 => assumption); (case zN123 => (refine News.sub_J (by assumption) ?_; walk_at "sub here")); (case zK123 => exact kept_of (by assumption) (by assumption) (News.sub_J (by assumption) (by walk_at "sub here"))))
    )
@[irreducible] noncomputable def zP1 : Heap → Value → Nat → Tok → Obj → (PySem.Str → Option Value) → Heap → Nat → (List (Addr × Obj)) → (Option Value) → Item → (List UInt8) → Prop := Mine.law_framed_.z1.zs.1
theorem zp1 : zP1 = Mine.law_framed_.z1.zs.1 := by with_unfolding_all rfl
namespace z1
@[irreducible] noncomputable def zx : Zst × (Option Value) × Item := sk ⟨(Classical.choice neZst, default, default)⟩ fun z => Mine.law_framed_.z1.zP1 (z.1.h 0) (z.1.v 0) (z.1.n 0) (z.1.n 1) (z.1.o 0) (z.1.m 0) (z.1.h 1) (z.1.n 2) (z.1.ld 0) (z.2.1) (z.2.2) (z.1.lu 0)
@[irreducible] noncomputable def v : Value := zx.1.v 0
@[irreducible] noncomputable def i2 : Nat := zx.1.n 0
def zT (P1 : Heap → Nat → Tok → Obj → (PySem.Str → Option Value) → Heap → Nat → (List (Addr × Obj)) → (Option Value) → (List UInt8) → (List UInt8) → Tok → Heap → Obj → Addr → Heap → Heap → Prop) : Prop := ∀ zi1x1 v i2 tk2 o2 u h tk8 own v2 it fo, (∀ y0 y1 y2 y3 y4 y5 y6, P1 zi1x1 i2 tk2 o2 u h tk8 own v2 fo y0 y1 y2 y3 y4 y5 y6) → Mine.law_framed_.z1.zs.1 zi1x1 v i2 tk2 o2 u h tk8 own v2 it fo
noncomputable def zs : { P : (List UInt8) → Tok → Heap → Obj → Addr → Heap → Heap → Prop // (∀ y0 y1 y2 y3 y4 y5 y6, P y0 y1 y2 y3 y4 y5 y6) → Mine.law_framed_.z1.zs.1 (zx.1.h 0) v i2 (zx.1.n 1) (zx.1.o 0) (zx.1.m 0) (zx.1.h 1) (zx.1.n 2) (zx.1.ld 0) (zx.2.1) (zx.2.2) (zx.1.lu 0) } := by
  refine' ⟨_, (_ : zT _) (zx.1.h 0) v i2 (zx.1.n 1) (zx.1.o 0) (zx.1.m 0) (zx.1.h 1) (zx.1.n 2) (zx.1.ld 0) (zx.2.1) (zx.2.2) (zx.1.lu 0)⟩
  rotate_left 1
  · intro zi1x1 v i2 tk2 o2 u h tk8 own v2 it fo zR1 hR hf hil hib hz B F X N T hk hd hu hret hexc FG' B' X' T' l1 kG' hP2 N₁ hi hv hoff hit hbi F₁ hfo hcut hfl hy1
    w_strict (
     cases hit with
     | none =>
       k_steps
       refine' At.end ⟨i2 + 1, _, o2⟩ hoff (by assumption) (by assumption) rfl ?zn ?zw ?zk ?zr ?zp
       case zn => dsimp only; walk_at "sub here"
       case zw => intro p hp; repeat (first | exact hp | refine List.mem_cons_of_mem _ ?_)
       case zk => intro q hq; rw [List.mem_singleton.mp hq]; dsimp only; rw [framed_snoc hbi, ← hfo]; rfl
       case zr => intro z h1 h2 h3; have h4 := h2 _ (List.mem_singleton.mpr rfl); simp +zetaDelta [h1, h4, kstB]
       case zp => exact ⟨rfl, _, by assumption⟩
     | some b t9 =>
       have hb9 := hib b (List.mem_of_getElem? hbi)
       have hy2 : (strOf b).length ≤ 100000 := by rw [strOf_length]; omega
       have hpk9 : pk ((some b).map (· ++ f)) = hdrL ((b.length : Int) + (f.length : Int) + 4) ++ (b ++ f) := by
         show pktL (b ++ f) = _
         unfold pktL
         rw [List.length_append, Int.natCast_add]
       have hyx : strOf b ++ strOf f = strOf (b ++ f) := str_cat b f
       k_steps
       refine ⟨_, _, _, rfl, rfl, (by k_asm), (by k_asm), ⟨_, _, (by k_mem), rfl, rfl⟩, (by rw [sizeLine_eq]; exact Nat.le_of_ble_eq_true rfl), ?_⟩
       rintro s₂ ⟨g', rfl⟩
       (rename_i zi2x1 zi2x2 zi2x3 zi2x4 zi2x5 zi2x6 zi2x7 zi2x8; revert hR hf hil hib hz B F X N T hk hd hu hret hexc FG' B' X' T' l1 kG' hP2 N₁ hi hoff hfo hfl hy1 hbi hcut hv F₁ hb9 hy2 hpk9 hyx zi2x3 zi2x6 zi2x7 zi2x8; exact zR1 b t9 zi2x1 zi2x2 zi2x4 zi2x5 g')
    )
@[irreducible] noncomputable def zP1 : (List UInt8) → Tok → Heap → Obj → Addr → Heap → Heap → Prop := Mine.law_framed_.z1.z1.zs.1
theorem zp1 : zP1 = Mine.law_framed_.z1.z1.zs.1 := by with_unfolding_all rfl
namespace z1
@[irreducible] noncomputable def zx : Zst := sk neZst fun z => Mine.law_framed_.z1.z1.zP1 (z.lu 0) (z.n 0) (z.h 0) (z.o 0) (z.n 1) (z.h 1) (z.h 2)
def zT (P1 : (List UInt8) → Tok → Heap → Obj → Addr → Heap → Heap → (List Value) → Addr → Heap → Nat → Heap → Tok → Nat → Prop) : Prop := ∀ b t9 zi2x1 zi2x2 zi2x4 zi2x5 g', (∀ y0 y1 y2 y3 y4 y5 y6, P1 b t9 zi2x1 zi2x2 zi2x4 zi2x5 g' y0 y1 y2 y3 y4 y5 y6) → Mine.law_framed_.z1.z1.zs.1 b t9 zi2x1 zi2x2 zi2x4 zi2x5 g'
noncomputable def zs : { P : (List Value) → Addr → Heap → Nat → Heap → Tok → Nat → Prop // (∀ y0 y1 y2 y3 y4 y5 y6, P y0 y1 y2 y3 y4 y5 y6) → Mine.law_framed_.z1.z1.zs.1 (zx.lu 0) (zx.n 0) (zx.h 0) (zx.o 0) (zx.n 1) (zx.h 1) (zx.h 2) } := by
  refine' ⟨_, (_ : zT _) (zx.lu 0) (zx.n 0) (zx.h 0) (zx.o 0) (zx.n 1) (zx.h 1) (zx.h 2)⟩
  rotate_left 1
  · intro b t9 zi2x1 zi2x2 zi2x4 zi2x5 g' zR1 hR hf hil hib hz B F X N T hk hd hu hret hexc FG' B' X' T' l1 kG' hP2 N₁ hi hoff hfo hfl hy1 hbi hcut hv F₁ hb9 hy2 hpk9 hyx zi2x3 zi2x6 zi2x7 zi2x8
    w_strict (
     refine rest_news (fun j ys => IntsAre ys ((figs4 ((b.length : Int) + (f.length : Int) + 4)).take j)) .nil ?_ ?_
     · rintro j ys v I oI C oC D' m₂ h' tk' E' hj hys hvj hoC hx F₂ N₂ off ne
       have off0 := off
       dsimp only [LCg.Off3] at off
       match j, hj, hvj, hys with
       | 0, _, hvj, hys =>
         obtain rfl := Option.some.inj hvj
         k_steps
         unfold Hold
         refine pow16_3 ?_
         k_steps
         refine LCg.CompEnd.intro (by k_asm) (by k_asm) _ (fun p hp => hp) off0 ⟨_, _, (by k_mem), rfl, rfl⟩ ⟨rfl, ?_⟩
         exact ints_one hys rfl
       | 1, _, hvj, hys =>
         obtain rfl := Option.some.inj hvj
         k_steps
         unfold Hold
         refine pow16_2 ?_
         k_steps
         refine LCg.CompEnd.intro (by k_asm) (by k_asm) _ (fun p hp => hp) off0 ⟨_, _, (by k_mem), rfl, rfl⟩ ⟨rfl, ?_⟩
         exact ints_one hys rfl
       | 2, _, hvj, hys =>
         obtain rfl := Option.some.inj hvj
         k_steps
         unfold Hold
         refine pow16_1 ?_
         k_steps
         refine LCg.CompEnd.intro (by k_asm) (by k_asm) _ (fun p hp => hp) off0 ⟨_, _, (by k_mem), rfl, rfl⟩ ⟨rfl, ?_⟩
         exact ints_one hys rfl
       | 3, _, hvj, hys =>
         obtain rfl := Option.some.inj hvj
         k_steps
         unfold Hold
         refine pow16_0 ?_
         k_steps
         refine LCg.CompEnd.intro (by k_asm) (by k_asm) _ (fun p hp => hp) off0 ⟨_, _, (by k_mem), rfl, rfl⟩ ⟨rfl, ?_⟩
         exact ints_one hys rfl
     · intro ys hys
       k_steps
       unfold Hold
       refine bytes_L (hdrL ((b.length : Int) + (f.length : Int) + 4)) (by k_asm) (by k_asm) (News.isList (by k_asm) (by k_mem)) ?hi (by rw [sizeLine_eq]; show 4 ≤ _; omega) (by rfl) ?_
       case hi =>
         rw [hdr_eq _ (by omega) (by omega)]
         exact hys
       intro h' t' k' F' N'
       have hh4 : (hdrL ((b.length : Int) + (f.length : Int) + 4)).length = 4 := rfl
       (rename_i zi3x1 zi3x2 zi3x3 zi3x4 zi3x5 zi3x6; revert hR hf hil hib hz B F X N T hk hd hu hret hexc FG' B' X' T' l1 kG' hP2 N₁ hi hoff hfo hfl hy1 hbi hcut hv F₁ hb9 hy2 hpk9 hyx zi2x3 zi2x6 zi2x7 zi2x8 hys zi3x4 zi3x5 zi3x6 F' N' hh4; exact zR1 ys zi3x1 zi3x2 zi3x3 h' t' k')
    )
@[irreducible] noncomputable def zP1 : (List Value) → Addr → Heap → Nat → Heap → Tok → Nat → Prop := Mine.law_framed_.z1.z1.z1.zs.1
theorem zp1 : zP1 = Mine.law_framed_.z1.z1.z1.zs.1 := by with_unfolding_all rfl
namespace z1
@[irreducible] noncomputable def zx : Zst := sk neZst fun z => Mine.law_framed_.z1.z1.z1.zP1 (z.lv 0) (z.n 0) (z.h 0) (z.n 1) (z.h 1) (z.n 2) (z.n 3)
theorem zgo : Mine.law_framed_.z1.z1.z1.zP1 (zx.lv 0) (zx.n 0) (zx.h 0) (zx.n 1) (zx.h 1) (zx.n 2) (zx.n 3) := by
  refine' zcast Mine.law_framed_.z1.z1.z1.zp1 (fun zf => zf (zx.lv 0) (zx.n 0) (zx.h 0) (zx.n 1) (zx.h 1) (zx.n 2) (zx.n 3)) ((_ : ∀ ys zi3x1 zi3x2 zi3x3 h' t' k', Mine.law_framed_.z1.z1.z1.zs.1 ys zi3x1 zi3x2 zi3x3 h' t' k') (zx.lv 0) (zx.n 0) (zx.h 0) (zx.n 1) (zx.h 1) (zx.n 2) (zx.n 3))
  intro ys zi3x1 zi3x2 zi3x3 h' t' k' hR hf hil hib hz B F X N T hk hd hu hret hexc FG' B' X' T' l1 kG' hP2 N₁ hi hoff hfo hfl hy1 hbi hcut hv F₁ hb9 hy2 hpk9 hyx zi2x3 zi2x6 zi2x7 zi2x8 hys zi3x4 zi3x5 zi3x6 F' N' hh4
  w_strict (
   k_steps
   refine' At.end ⟨i2 + 1, _, _⟩ hoff (by assumption) (by assumption) rfl ?zn ?zw ?zk ?zr ?zp
   case zn => dsimp only; walk_at "sub here"
   case zw => intro p hp; repeat (first | exact hp | refine List.mem_cons_of_mem _ ?_)
   case zk => intro q hq; rw [List.mem_singleton.mp hq]; dsimp only; rw [framed_snoc hbi, ← hfo, hpk9, ← List.append_assoc]; rfl
   case zr => intro z h1 h2 h3; have h4 := h2 _ (List.mem_singleton.mpr rfl); simp +zetaDelta [h1, h4, kstB]
   case zp => exact ⟨rfl, _, by assumption⟩
  )
theorem zall : ∀ z : Zst, Mine.law_framed_.z1.z1.z1.zP1 (z.lv 0) (z.n 0) (z.h 0) (z.n 1) (z.h 1) (z.n 2) (z.n 3) := by refine @sk_all _ neZst _ ?_; with_unfolding_all exact zgo
end z1
theorem zgo : Mine.law_framed_.z1.z1.zP1 (zx.lu 0) (zx.n 0) (zx.h 0) (zx.o 0) (zx.n 1) (zx.h 1) (zx.h 2) := zcast Mine.law_framed_.z1.z1.zp1 (fun zf => zf (zx.lu 0) (zx.n 0) (zx.h 0) (zx.o 0) (zx.n 1) (zx.h 1) (zx.h 2)) (zs.2 (by rw [← zp1]; exact fun y0 y1 y2 y3 y4 y5 y6 => z1.zall (zmk zw zk0 [y1, y3, y5, y6] [] [] [] [] [] [y2, y4] [] [y0] [] [] [] [] [] [] [])))
theorem zall : ∀ z : Zst, Mine.law_framed_.z1.z1.zP1 (z.lu 0) (z.n 0) (z.h 0) (z.o 0) (z.n 1) (z.h 1) (z.h 2) := by refine @sk_all _ neZst _ ?_; with_unfolding_all exact zgo
end z1
theorem zgo : Mine.law_framed_.z1.zP1 (zx.1.h 0) v i2 (zx.1.n 1) (zx.1.o 0) (zx.1.m 0) (zx.1.h 1) (zx.1.n 2) (zx.1.ld 0) (zx.2.1) (zx.2.2) (zx.1.lu 0) := zcast Mine.law_framed_.z1.zp1 (fun zf => zf (zx.1.h 0) v i2 (zx.1.n 1) (zx.1.o 0) (zx.1.m 0) (zx.1.h 1) (zx.1.n 2) (zx.1.ld 0) (zx.2.1) (zx.2.2) (zx.1.lu 0)) (zs.2 (by rw [← zp1]; exact fun y0 y1 y2 y3 y4 y5 y6 => z1.zall (zmk zw zk0 [y1, y4] [] [] [] [] [y3] [y2, y5, y6] [] [] [y0] [] [] [] [] [] [])))
theorem zall : ∀ z : Zst × (Option Value) × Item, Mine.law_framed_.z1.zP1 (z.1.h 0) (z.1.v 0) (z.1.n 0) (z.1.n 1) (z.1.o 0) (z.1.m 0) (z.1.h 1) (z.1.n 2) (z.1.ld 0) (z.2.1) (z.2.2) (z.1.lu 0) := by refine @sk_all _ ⟨(Classical.choice neZst, default, default)⟩ _ ?_; with_unfolding_all exact zgo
end z1
theorem zgo : Mine.law_framed_.zP1 g' (zx.n 0) h' tk' (zx.o 0) := zcast Mine.law_framed_.zp1 (fun zf => zf g' (zx.n 0) h' tk' (zx.o 0)) (zs.2 (by rw [← zp1]; exact fun y0 y1 y2 y3 y4 y5 y6 y7 y8 y9 y10 y11 => z1.zall ((zmk zw zk0 [y2, y3, y7] [] [] [] [y1] [y4] [y0, y6] [] [] [y11] [] [] [] [y8] [] [y5]), y9, y10)))
theorem zall : ∀ z : Zst, Mine.law_framed_.zP1 (z.h 0) (z.n 0) (z.h 1) (z.n 1) (z.o 0) := by refine @sk_all _ neZst _ ?_; with_unfolding_all exact zgo
end z1
theorem zgo : zA (zx.1.w) rl rs nr its f (zx.1.n 2) zk := zs.2 (by rw [← zp1]; exact fun y0 y1 y2 y3 y4 => z1.zall (zmk zw zk0 [y1, y3] [] [] [] [] [y4] [y0, y2] [] [] [] [] [] [] [] [] []))
theorem zall : ∀ z : Zst × (List Item), zA (z.1.w) (z.1.n 0) (z.1.lv 0) (z.1.n 1) (z.2) (z.1.lu 0) (z.1.n 2) (z.1.c) := by refine @sk_all _ ⟨(Classical.choice neZst, default)⟩ _ ?_; with_unfolding_all exact zgo
end law_framed_
theorem law_framed (w : World) (rl : Addr) (rs : List Value) (nr : Nat) (its : List Item) (hR : RowStrs rs its) (f : List UInt8) (tf : Tok) (hf : f.length ≤ 1) (hil : its.length ≤ 100) (hib : ∀ b, some b ∈ its → b.length ≤ 500) (hz : (framed its f).length ≤ 60000) :
    Spec w 236 [.ref rl, .str (strOf f) tf] 10 100 [(rl, listOf rs.toArray nr)] (fun v n' => (∃ t, v = .bytes (framed its f).toArray t) ∧ n' = [(rl, listOf rs.toArray nr)]) False := Spec.cut fun zk => Mine.law_framed_.zall ((zmk w zk [rl, nr, tf] [] [] [] [] [] [] [] [rs] [f] [] [] [] [] [] []), its) hR hf hil hib hz
end sPx
theorem fl41 : True := by first | walk1 | trivial

section sPy

theorem ne_nil_kn {prog : Program} {w : World} {A : Around} {E : Value → Shared → Prop} {s : Shared} {l b : Addr} {vs : List Value} {v : Bool} {Q : Value → Shared → Prop} (hl : s.heap.IsList l vs.toArray) (hb : s.heap.IsList b #[]) (hu : A.units < cLine) (h : (!decide (vs.length = 0)) = v) (q : Q (.bool v) s) :
    wpAny (model prog w) A (compareOp .NotEq (.ref l) (.ref b)) Q E s := by
  subst h
  exact ne_nil hl hb hu q
local macro_rules | `(tactic| walk_at $s:str) => `(tactic| k_extra $(Lean.Syntax.mkStrLit ("S137." ++ s.getString)))
theorem zm52 : True := by
  (k_with "S137.compareOp NotEq ref ref" => k_extra "R99")
  trivial
abbrev deckP (lf : Addr) (m : Int) (tm : Tok) : List (PySem.Str × Value) := [("left", .ref lf), ("mixed", .int m tm)]
def DeckOk (w : World) (d lf : Addr) (m : Int) (tm : Tok) (o : Obj) (us : List Value) (ns : List Int) : Prop :=
  o.IsDictOf (PySem.strKind PG w) (deckP lf m tm) ∧ IntsAre us ns ∧ 0 ≤ m ∧ m < 1000003 ∧ (∀ x ∈ ns, 0 ≤ x ∧ x < 1000003) ∧ ns.length ≤ 24
def DeckLed (w : World) (d lf : Addr) (nx : List (Addr × Obj)) : Prop := ∃ m tm o us ns nn, DeckOk w d lf m tm o us ns ∧ nx = [(d, o), (lf, listOf us.toArray nn)]
theorem mod_bound (x many : Int) (h1 : 1 ≤ many) : 0 ≤ x.fmod many ∧ x.fmod many < many := by
  rw [Int.fmod_eq_emod_of_nonneg _ (by omega)]
  exact ⟨Int.emod_nonneg _ (by omega), Int.emod_lt_of_pos _ (by omega)⟩
namespace law_draw0_
def zA (w : World) (d : Addr) (lf : Addr) (mx : Int) (tm : Tok) (o : Obj) (nn : Nat) (many : Int) (t : Tok) (zk : Cal) : Prop := ∀ (hD : DeckOk w d lf mx tm o [] []), ∀ (h1 : 1 ≤ many), ∀ (h2 : many ≤ 1000), ∀ (hne : d ≠ lf), SpecAt w 221 [.ref d, .int many t] 2 20 [(d, o), (lf, listOf ([] : List Value).toArray nn)] (fun v n' => (∃ r t, v = .int r t ∧ 0 ≤ r ∧ r < many) ∧ DeckLed w d lf n') False zk
@[irreducible] noncomputable def zx : Zst := sk neZst fun z => zA (z.w) (z.n 0) (z.n 1) (z.i 0) (z.n 2) (z.o 0) (z.n 3) (z.i 1) (z.n 4) (z.c)
@[irreducible] noncomputable def nn : Nat := zx.n 3
def zT (P1 : World → Addr → Addr → Int → Tok → Obj → Nat → Int → Tok → Cal → Heap → Addr → Heap → Nat → Prop) : Prop := ∀ w d lf mx tm o nn many t zk, (∀ y0 y1 y2 y3, P1 w d lf mx tm o nn many t zk y0 y1 y2 y3) → zA w d lf mx tm o nn many t zk
noncomputable def zs : { P : Heap → Addr → Heap → Nat → Prop // (∀ y0 y1 y2 y3, P y0 y1 y2 y3) → zA (zx.w) (zx.n 0) (zx.n 1) (zx.i 0) (zx.n 2) (zx.o 0) nn (zx.i 1) (zx.n 4) (zx.c) } := by
  refine' ⟨_, (_ : zT _) (zx.w) (zx.n 0) (zx.n 1) (zx.i 0) (zx.n 2) (zx.o 0) nn (zx.i 1) (zx.n 4) (zx.c)⟩
  rotate_left 1
  · intro w d lf mx tm o nn many t zk zR1 hD h1 h2 hne
    w_strict (
     obtain ⟨hd9, hI, hm0, hm1, hns, hnl⟩ := hD
     have q1 : (!decide (([] : List Value).length = 0)) = false := rfl
     intro B F X N T hk hd hu hret hexc
     walk_at "my enter"
     (revert h1 h2 hne hd9 hI hm0 hm1 hns hnl q1 B F X N T hk hd hu hret hexc FG' F' N' B' X' T' kG'; exact zR1 g' L' h' tk')
    )
@[irreducible] noncomputable def zP1 : Heap → Addr → Heap → Nat → Prop := Mine.law_draw0_.zs.1
theorem zp1 : zP1 = Mine.law_draw0_.zs.1 := by with_unfolding_all rfl
namespace z1
@[irreducible] noncomputable def zx : Zst := sk neZst fun z => Mine.law_draw0_.zP1 (z.h 0) (z.n 0) (z.h 1) (z.n 1)
theorem zgo : Mine.law_draw0_.zP1 (zx.h 0) (zx.n 0) (zx.h 1) (zx.n 1) := by
  refine' zcast Mine.law_draw0_.zp1 (fun zf => zf (zx.h 0) (zx.n 0) (zx.h 1) (zx.n 1)) ((_ : ∀ g' L' h' tk', Mine.law_draw0_.zs.1 g' L' h' tk') (zx.h 0) (zx.n 0) (zx.h 1) (zx.n 1))
  intro g' L' h' tk' h1 h2 hne hd9 hI hm0 hm1 hns hnl q1 B F X N T hk hd hu hret hexc FG' F' N' B' X' T' kG'
  w_strict (
   k_steps
   (refine' hret _ _ _ _ ⟨⟨_, _, rfl, mod_bound _ _ h1⟩, _, _, _, [], [], nn, ⟨by assumption, .nil, (mod_bound _ _ (by decide)).1, (mod_bound _ _ (by decide)).2, fun _ h => (nomatch h), by decide⟩, rfl⟩ ?zF37 ?zN37 ?zK37; (case zF37 => assumption); (case zN37 => (refine News.sub_J (by assumption) ?_; walk_at "sub here")); (case zK37 => exact kept_of (by assumption) (by assumption) (News.sub_J (by assumption) (by walk_at "sub here"))))
  )
theorem zall : ∀ z : Zst, Mine.law_draw0_.zP1 (z.h 0) (z.n 0) (z.h 1) (z.n 1) := by refine @sk_all _ neZst _ ?_; with_unfolding_all exact zgo
end z1
theorem zgo : zA (zx.w) (zx.n 0) (zx.n 1) (zx.i 0) (zx.n 2) (zx.o 0) nn (zx.i 1) (zx.n 4) (zx.c) := zs.2 (by rw [← zp1]; exact fun y0 y1 y2 y3 => z1.zall (zmk zw zk0 [y1, y3] [] [] [] [] [] [y0, y2] [] [] [] [] [] [] [] [] []))
theorem zall : ∀ z : Zst, zA (z.w) (z.n 0) (z.n 1) (z.i 0) (z.n 2) (z.o 0) (z.n 3) (z.i 1) (z.n 4) (z.c) := by refine @sk_all _ neZst _ ?_; with_unfolding_all exact zgo
end law_draw0_
theorem law_draw0 (w : World) (d lf : Addr) (mx : Int) (tm : Tok) (o : Obj) (nn : Nat) (hD : DeckOk w d lf mx tm o [] []) (many : Int) (t : Tok) (h1 : 1 ≤ many) (h2 : many ≤ 1000) (hne : d ≠ lf) :
    Spec w 221 [.ref d, .int many t] 2 20 [(d, o), (lf, listOf ([] : List Value).toArray nn)] (fun v n' => (∃ r t, v = .int r t ∧ 0 ≤ r ∧ r < many) ∧ DeckLed w d lf n') False := Spec.cut fun zk => Mine.law_draw0_.zall (zmk w zk [d, lf, tm, nn, t] [mx, many] [] [] [] [o] [] [] [] [] [] [] [] [] [] []) hD h1 h2 hne
theorem pop_0 {prog : Program} {w : World} {A : Around} {E : Value → Shared → Prop} {s : Shared} {h₀ : Heap} {L D : Addr} {m : PySem.Str → Option Value} {news news' : List (Addr × Obj)} {n : Nat} {u : Tok} {q : List Value} {y : Value} {Q : Value → Shared → Prop} (F : Fr h₀ L s.heap m) (N : News h₀ L s.heap news)
    (U : Upd D (listOf (y :: q).toArray n) (listOf q.toArray (n + 1)) news news') (hz : (y :: q).length ≤ 1000) (h : ∀ h', Fr h₀ L h' m → News h₀ L h' news' → Q y { s with heap := h' }) : wpAny (model prog w) A (call (.builtin "list.pop") [.ref D, .int 0 u]) Q E s :=
  kl_popAt (k := 0) (p := []) (q := q) (y := y) F N (by rfl) (by unfold seqIndex?; simp) (by rfl) U (by rw [sizeLine_eq]; show (y :: q).length ≤ _; omega) h
theorem zm53 : True := by
  (k_with "S137.call builtin:list.pop" => k_extra "R100")
  trivial
namespace law_draw1_
def zA (w : World) (d : Addr) (lf : Addr) (mx : Int) (tm : Tok) (o : Obj) (us : List Value) (x : Int) (tx : Tok) (ns : List Int) (nn : Nat) (many : Int) (t : Tok) (zk : Cal) : Prop := ∀ (hD : DeckOk w d lf mx tm o (.int x tx :: us) (x :: ns)), ∀ (h1 : 1 ≤ many), ∀ (h2 : many ≤ 1000), ∀ (hne : d ≠ lf), ∀ (hl : us.length ≤ 100), SpecAt w 221 [.ref d, .int many t] 2 20 [(d, o), (lf, listOf (.int x tx :: us).toArray nn)] (fun v n' => (∃ r t, v = .int r t ∧ 0 ≤ r ∧ r < many) ∧ DeckLed w d lf n') False zk
@[irreducible] noncomputable def zx : Zst := sk neZst fun z => zA (z.w) (z.n 0) (z.n 1) (z.i 0) (z.n 2) (z.o 0) (z.lv 0) (z.i 1) (z.n 3) (z.li 0) (z.n 4) (z.i 2) (z.n 5) (z.c)
@[irreducible] noncomputable def us : List Value := zx.lv 0
@[irreducible] noncomputable def ns : List Int := zx.li 0
def zT (P1 : World → Addr → Addr → Int → Tok → Obj → (List Value) → Int → Tok → (List Int) → Nat → Int → Tok → Cal → Heap → Addr → Heap → Nat → Prop) : Prop := ∀ w d lf mx tm o us x tx ns nn many t zk, (∀ y0 y1 y2 y3, P1 w d lf mx tm o us x tx ns nn many t zk y0 y1 y2 y3) → zA w d lf mx tm o us x tx ns nn many t zk
noncomputable def zs : { P : Heap → Addr → Heap → Nat → Prop // (∀ y0 y1 y2 y3, P y0 y1 y2 y3) → zA (zx.w) (zx.n 0) (zx.n 1) (zx.i 0) (zx.n 2) (zx.o 0) us (zx.i 1) (zx.n 3) ns (zx.n 4) (zx.i 2) (zx.n 5) (zx.c) } := by
  refine' ⟨_, (_ : zT _) (zx.w) (zx.n 0) (zx.n 1) (zx.i 0) (zx.n 2) (zx.o 0) us (zx.i 1) (zx.n 3) ns (zx.n 4) (zx.i 2) (zx.n 5) (zx.c)⟩
  rotate_left 1
  · intro w d lf mx tm o us x tx ns nn many t zk zR1 hD h1 h2 hne hl
    w_strict (
     obtain ⟨hd9, hI, hm0, hm1, hns, hnl⟩ := hD
     have q1 : (!decide ((Value.int x tx :: us).length = 0)) = true := rfl
     have hx := hns x List.mem_cons_self
     intro B F X N T hk hd hu hret hexc
     walk_at "my enter"
     (revert h1 h2 hne hl hd9 hI hm0 hm1 hns hnl q1 hx B F X N T hk hd hu hret hexc FG' F' N' B' X' T' kG'; exact zR1 g' L' h' tk')
    )
@[irreducible] noncomputable def zP1 : Heap → Addr → Heap → Nat → Prop := Mine.law_draw1_.zs.1
theorem zp1 : zP1 = Mine.law_draw1_.zs.1 := by with_unfolding_all rfl
namespace z1
@[irreducible] noncomputable def zx : Zst := sk neZst fun z => Mine.law_draw1_.zP1 (z.h 0) (z.n 0) (z.h 1) (z.n 1)
theorem zgo : Mine.law_draw1_.zP1 (zx.h 0) (zx.n 0) (zx.h 1) (zx.n 1) := by
  refine' zcast Mine.law_draw1_.zp1 (fun zf => zf (zx.h 0) (zx.n 0) (zx.h 1) (zx.n 1)) ((_ : ∀ g' L' h' tk', Mine.law_draw1_.zs.1 g' L' h' tk') (zx.h 0) (zx.n 0) (zx.h 1) (zx.n 1))
  intro g' L' h' tk' h1 h2 hne hl hd9 hI hm0 hm1 hns hnl q1 hx B F X N T hk hd hu hret hexc FG' F' N' B' X' T' kG'
  w_strict (
   k_steps
   (refine' hret _ _ _ _ ⟨⟨_, _, rfl, mod_bound _ _ h1⟩, _, _, _, us, ns, _, ⟨by assumption, by cases hI; assumption, hm0, hm1, fun y hy => hns y (List.mem_cons_of_mem _ hy), by rw [List.length_cons] at hnl; omega⟩, rfl⟩ ?zF77 ?zN77 ?zK77; (case zF77 => assumption); (case zN77 => (refine News.sub_J (by assumption) ?_; walk_at "sub here")); (case zK77 => exact kept_of (by assumption) (by assumption) (News.sub_J (by assumption) (by walk_at "sub here"))))
  )
theorem zall : ∀ z : Zst, Mine.law_draw1_.zP1 (z.h 0) (z.n 0) (z.h 1) (z.n 1) := by refine @sk_all _ neZst _ ?_; with_unfolding_all exact zgo
end z1
theorem zgo : zA (zx.w) (zx.n 0) (zx.n 1) (zx.i 0) (zx.n 2) (zx.o 0) us (zx.i 1) (zx.n 3) ns (zx.n 4) (zx.i 2) (zx.n 5) (zx.c) := zs.2 (by rw [← zp1]; exact fun y0 y1 y2 y3 => z1.zall (zmk zw zk0 [y1, y3] [] [] [] [] [] [y0, y2] [] [] [] [] [] [] [] [] []))
theorem zall : ∀ z : Zst, zA (z.w) (z.n 0) (z.n 1) (z.i 0) (z.n 2) (z.o 0) (z.lv 0) (z.i 1) (z.n 3) (z.li 0) (z.n 4) (z.i 2) (z.n 5) (z.c) := by refine @sk_all _ neZst _ ?_; with_unfolding_all exact zgo
end law_draw1_
theorem law_draw1 (w : World) (d lf : Addr) (mx : Int) (tm : Tok) (o : Obj) (us : List Value) (x : Int) (tx : Tok) (ns : List Int) (nn : Nat) (hD : DeckOk w d lf mx tm o (.int x tx :: us) (x :: ns)) (many : Int) (t : Tok) (h1 : 1 ≤ many) (h2 : many ≤ 1000) (hne : d ≠ lf) (hl : us.length ≤ 100) :
    Spec w 221 [.ref d, .int many t] 2 20 [(d, o), (lf, listOf (.int x tx :: us).toArray nn)] (fun v n' => (∃ r t, v = .int r t ∧ 0 ≤ r ∧ r < many) ∧ DeckLed w d lf n') False := Spec.cut fun zk => Mine.law_draw1_.zall (zmk w zk [d, lf, tm, tx, nn, t] [mx, x, many] [] [] [] [o] [] [] [us] [] [] [ns] [] [] [] []) hD h1 h2 hne hl
theorem law_draw (w : World) (d lf : Addr) (mx : Int) (tm : Tok) (o : Obj) (us : List Value) (ns : List Int) (nn : Nat) (hD : DeckOk w d lf mx tm o us ns) (many : Int) (t : Tok) (h1 : 1 ≤ many) (h2 : many ≤ 1000) (hne : d ≠ lf) :
    Spec w 221 [.ref d, .int many t] 2 20 [(d, o), (lf, listOf us.toArray nn)] (fun v n' => (∃ r t, v = .int r t ∧ 0 ≤ r ∧ r < many) ∧ DeckLed w d lf n') False := by
  have hI := hD.2.1
  cases hI with
  | nil => exact law_draw0 w d lf mx tm o nn hD many t h1 h2 hne
  | cons x tx h =>
    have h9 := hD.2.2.2.2.2
    have h8 := h.length
    rw [List.length_cons] at h9
    exact law_draw1 w d lf mx tm o _ _ _ _ nn hD many t h1 h2 hne (by omega)
inductive Del (a : Addr) (o : Obj) : List (Addr × Obj) → List (Addr × Obj) → Prop
  | head (l : List (Addr × Obj)) : Del a o ((a, o) :: l) l
  | tail {b : Addr} {o' : Obj} {l l' : List (Addr × Obj)} : Del a o l l' → Del a o ((b, o') :: l) ((b, o') :: l')
theorem Del.mem {a : Addr} {o : Obj} {l l' : List (Addr × Obj)} (h : Del a o l l') : (a, o) ∈ l := by
  induction h with
  | head l => exact List.mem_cons_self
  | tail _ ih => exact List.mem_cons_of_mem _ ih
theorem Del.sub {a : Addr} {o : Obj} {l l' : List (Addr × Obj)} (h : Del a o l l') : ∀ p ∈ l', p ∈ l := by
  induction h with
  | head l => exact fun p hp => List.mem_cons_of_mem _ hp
  | tail _ ih =>
    intro p hp
    rcases List.mem_cons.mp hp with rfl | hp
    · exact List.mem_cons_self
    · exact List.mem_cons_of_mem _ (ih p hp)
theorem Spec.use2 {w : World} {f : Addr} {vs : List Value} {dn un : Nat} {a b : Addr} {oa ob : Obj} {ok : Value → List (Addr × Obj) → Prop} {bad : Prop} (C : Spec w f vs dn un [(a, oa), (b, ob)] ok bad)
    {dp ut : Nat} {gd : Option (List Code)} {cn : PySem.Str} {cs : Scope} {a' : Addr} {ccd : Value} {cl : List (PySem.Str × Addr)} {outer : List Env} {A₀ : Around} {base h₀ : Heap} {L : Addr} {m mg mb : PySem.Str → Option Value} {mean : ExcName → Option Value} {s : Shared} {Q E : Value → Shared → Prop} {news n1 rest : List (Addr × Obj)}
    (B : Below A₀ base outer h₀) (F : Fr h₀ L s.heap m) (X : (hd.heap_1 w.params).In h₀) (N : News h₀ L s.heap news) (T : Top VW LS mean mg mb h₀) (hk : cs.kind = .function)
    (hd : dp + dn < recursionLimit) (hu : ut + un < cLine) (D1 : Del a oa news n1) (D2 : Del b ob n1 rest) (h1 : ∀ p ∈ rest, p.1 ≠ a) (h2 : ∀ p ∈ rest, p.1 ≠ b)
    (ret : ∀ (v : Value) (h' : Heap) (tk' : Nat) (mine' : List (Addr × Obj)), ok v mine' → Fr h₀ L h' m → News h₀ L h' (mine' ++ rest) → Kept s.heap h' [a, b] mine' → Q v { s with heap := h', toks := tk' })
    (exc : bad → Flies base (envX cn cs L a' ccd cl :: outer) s [(a, oa), (b, ob)] E) :
    wpAny (model PG w) (ktrTop dp ut gd cn cs L a' ccd cl outer) (call (.ref f) vs) Q E s :=
  C.use rest B F X N T hk hd hu (fun p hp => by
    rcases List.mem_cons.mp hp with rfl | hp
    · exact D1.mem
    · rw [List.mem_singleton.mp hp]; exact D1.sub _ D2.mem) (fun p hp => D1.sub _ (D2.sub _ hp)) (fun p hp hm => by
    rcases List.mem_cons.mp hm with e | hm
    · exact h1 p hp e
    · exact h2 p hp (List.mem_singleton.mp hm)) ret exc
end sPy
theorem fl42 : True := by first | walk1 | trivial

section sQa

theorem hexC_plain : ∀ n : Nat, n < 16 → plainC (hexC n).toUInt8 = true := by decide +kernel
theorem figN_hexC : ∀ n : Nat, n < 16 → figN ((hexC n).toUInt8).toNat = n := by decide +kernel
theorem hexB_cons (c : UInt8) (r : List UInt8) : hexB (c :: r) = (hexC (c.toNat / 16)).toUInt8 :: (hexC (c.toNat % 16)).toUInt8 :: hexB r := rfl
theorem hexB_all (b : List UInt8) : (hexB b).all plainC = true := by
  induction b with
  | nil => rfl
  | cons c r ih =>
    have := c.toNat_lt
    rw [hexB_cons, List.all_cons, List.all_cons, ih, hexC_plain _ (by omega), hexC_plain _ (by omega)]
    rfl
theorem hexB_plain (b : List UInt8) (k : Nat) (h : b.length = k) : isPlain (hexB b) (2 * k) = true := by
  unfold isPlain
  rw [hexB_all, hexB_length, h, Bool.and_true]
  exact decide_eq_true (by omega)
theorem unhex_hexB (b : List UInt8) : unhex (hexB b) = b := by
  induction b with
  | nil => rfl
  | cons c r ih =>
    have := c.toNat_lt
    rw [hexB_cons]
    unfold unhex
    rw [List.length_cons, List.length_cons, show (hexB r).length.succ.succ / 2 = (hexB r).length / 2 + 1 by omega, List.range_succ_eq_map, List.map_cons, List.map_map]
    congr 1
    · unfold unhexN
      show (16 * figN ((hexC (c.toNat / 16)).toUInt8).toNat + figN ((hexC (c.toNat % 16)).toUInt8).toNat).toUInt8 = c
      rw [figN_hexC _ (by omega), figN_hexC _ (by omega), show 16 * (c.toNat / 16) + c.toNat % 16 = c.toNat by omega]
      simp
theorem rowOf_feed (b : List UInt8) : rowOf (b ++ [10]) = b := by
  have e1 : clipAt (b ++ [10]).length (-1) = b.length := by
    unfold clipAt
    rw [List.length_append]
    simp
    try omega
  have e2 : sliceL (b ++ [10]) (some (-1)) none = [10] := by
    unfold sliceL
    simp only [Option.elim_some, Option.elim_none, e1]
    simp
  unfold rowOf
  rw [e2, if_pos (by decide)]
  unfold sliceL
  simp only [Option.elim_some, Option.elim_none, e1]
  simp
theorem rowOf_same (b : List UInt8) (h : b.getLast? ≠ some 10) : rowOf b = b := by
  have e2 : (sliceL b (some (-1)) none == [10]) = false := by
    rw [beq_eq_false_iff_ne]
    intro e
    rcases List.eq_nil_or_concat b with rfl | ⟨l, a, rfl⟩
    · exact absurd e (by decide)
    · have e1 : clipAt (l.concat a).length (-1) = l.length := by
        rw [List.concat_eq_append]
        unfold clipAt
        rw [List.length_append]
        simp
        try omega
      unfold sliceL at e
      simp only [Option.elim_some, Option.elim_none, e1] at e
      simp at e
      exact h (by rw [e]; simp)
  unfold rowOf
  rw [if_neg (by rw [e2]; exact Bool.false_ne_true)]
theorem take_want_row (k : Nat) (st : St) (b ws : List UInt8) (hb : b.length = k) (hw : ws = [] ∨ (st.wants = [] ∧ ws.take 1 = [32])) :
    takeP k st (WANT ++ hexB b ++ ws) = some { st with wants := st.wants ++ [b], words := st.words ++ kept (cuts ws) } := by
  have e1 : (WANT ++ hexB b ++ ws).take 5 = WANT := by rw [List.append_assoc]; rfl
  have e2 : (WANT ++ hexB b ++ ws).drop 5 = hexB b ++ ws := by rw [List.append_assoc]; rfl
  have e3 : (hexB b).length = 2 * k := by rw [hexB_length, hb]
  unfold takeP
  rw [if_pos e1, e2, show (hexB b ++ ws).take (2 * k) = hexB b by rw [← e3, List.take_left], show (hexB b ++ ws).drop (2 * k) = ws by rw [← e3, List.drop_left], if_pos ⟨hexB_plain b k hb, hw⟩, unhex_hexB]
theorem take_shal_row (k : Nat) (st : St) (b : List UInt8) (hb : b.length = k) : takeP k st (SHAL ++ hexB b) = some { st with shallow := st.shallow ++ [b] } := by
  have e1 : (SHAL ++ hexB b).take 5 ≠ WANT := by intro h; exact absurd h (by show ¬ ([115, 104, 97, 108, 108] : List UInt8) = _; decide)
  have e2 : (SHAL ++ hexB b).take 8 = SHAL := rfl
  have e3 : (SHAL ++ hexB b).drop 8 = hexB b := rfl
  unfold takeP
  rw [if_neg e1, if_pos e2, e3, if_pos (hexB_plain b k hb), unhex_hexB]
theorem num_dec : ∀ n : Nat, n < 100 → Mine.numOf (decB n) = some (n : Int) := by decide +kernel
theorem take_deep_row (k : Nat) (st : St) (n : Nat) (h0 : 0 < n) (hn : n < 100) : takeP k st (DEEP ++ decB n) = some { st with depth := some (n : Int) } := by
  have e1 : (DEEP ++ decB n).take 5 ≠ WANT := by intro h; exact absurd h (by show ¬ ([100, 101, 101, 112, 101] : List UInt8) = _; decide)
  have e2 : (DEEP ++ decB n).take 8 ≠ SHAL := by intro h; have := congrArg (·.head?) h; exact absurd this (by show ¬ (some (100 : UInt8)) = some 115; decide)
  have e3 : (DEEP ++ decB n).take 7 = DEEP := rfl
  have e4 : (DEEP ++ decB n).drop 7 = decB n := rfl
  unfold takeP
  rw [if_neg e1, if_neg e2, if_pos e3, e4, num_dec n hn]
  dsimp only
  rw [if_neg (by omega)]
theorem take_sinc_row (k : Nat) (st : St) (n : Nat) (hn : n < 100) : takeP k st (SINC ++ decB n) = some { st with since := some (n : Int) } := by
  have e1 : (SINC ++ decB n).take 5 ≠ WANT := by intro h; exact absurd h (by show ¬ ([100, 101, 101, 112, 101] : List UInt8) = _; decide)
  have e2 : (SINC ++ decB n).take 8 ≠ SHAL := by intro h; exact absurd h (by show ¬ ([100, 101, 101, 112, 101, 110, 45, 115] : List UInt8) = _; decide)
  have e3 : (SINC ++ decB n).take 7 ≠ DEEP := by intro h; exact absurd h (by show ¬ ([100, 101, 101, 112, 101, 110, 45] : List UInt8) = _; decide)
  have e5 : (SINC ++ decB n).take 13 = SINC := rfl
  have e4 : (SINC ++ decB n).drop 13 = decB n := rfl
  unfold takeP
  rw [if_neg e1, if_neg e2, if_neg e3, if_pos e5, e4, num_dec n hn]
def wantsL (wb l : List (List UInt8)) : List (List UInt8) := l.zipIdx.map fun p => WANT ++ hexB p.1 ++ (if p.2 = 0 then wordsB wb else [])
def shalL (l : List (List UInt8)) : List (List UInt8) := l.map fun b => SHAL ++ hexB b
def optL (pre : List UInt8) : Option Int → List (List UInt8)
  | none => []
  | some i => [pre ++ decB i.toNat]
def headsL (st : St) (wb : List (List UInt8)) : List (List UInt8) := ((wantsL wb st.wants ++ shalL st.shallow) ++ optL DEEP st.depth) ++ optL SINC st.since
def tailsL (tk : List Item) (done : Bool) : List Item := tk.map (fun it => it.map fun b => haveL ++ hexB b) ++ (if done = true then [some DONE] else [])
abbrev WB3 : List (List UInt8) := [[116, 104, 105, 110, 45, 112, 97, 99, 107], [111, 102, 115, 45, 100, 101, 108, 116, 97], [97, 103, 101, 110, 116, 61, 120, 47, 49]]
structure WOk (k : Nat) (st : St) (wb : List (List UInt8)) (tk : List Item) : Prop where
  words : st.words = wb.map strOf
  wbp : ∃ n, n ≤ 3 ∧ wb = WB3.take n
  wl : ∀ b ∈ st.wants, b.length = k
  sl : ∀ b ∈ st.shallow, b.length = k
  tl : ∀ b, some b ∈ tk → b.length = k
  wn : st.wants.length ≤ 3
  sn : st.shallow.length ≤ 2
  tn : tk.length ≤ 3
  dep : ∀ i, st.depth = some i → 0 < i ∧ i < 100
  sin : ∀ i, st.since = some i → 0 ≤ i ∧ i < 100
  one : st.depth = none ∨ st.since = none
  emp : st.wants = [] → wb = [] ∧ st.shallow = [] ∧ st.depth = none ∧ st.since = none
theorem foldT_append (k : Nat) : ∀ (l r : List (List UInt8)) (st : St), foldT k st (l ++ r) = (foldT k st l).bind fun s => foldT k s r := by
  intro l r
  induction l with
  | nil => intro st; rfl
  | cons a l ih =>
    intro st
    show (match takeP k st a with | some st' => foldT k st' (l ++ r) | none => none) = (match takeP k st a with | some st' => foldT k st' l | none => none).bind _
    cases takeP k st a with
    | none => rfl
    | some s => exact ih s
theorem foldT_cons (k : Nat) {st st' : St} {a : List UInt8} (l : List (List UInt8)) (h : takeP k st a = some st') : foldT k st (a :: l) = foldT k st' l := by
  show (match takeP k st a with | some st' => foldT k st' l | none => none) = _
  rw [h]
theorem foldT_cons_none (k : Nat) {st : St} {a : List UInt8} (l : List (List UInt8)) (h : takeP k st a = none) : foldT k st (a :: l) = none := by
  show (match takeP k st a with | some st' => foldT k st' l | none => none) = _
  rw [h]
theorem fold_shal (k : Nat) : ∀ (l : List (List UInt8)) (st : St), (∀ b ∈ l, b.length = k) → foldT k st (shalL l) = some { st with shallow := st.shallow ++ l } := by
  intro l
  induction l with
  | nil => intro st _; show some st = _; rw [List.append_nil]
  | cons a l ih =>
    intro st h
    show foldT k st ((SHAL ++ hexB a) :: shalL l) = _
    rw [foldT_cons k _ (take_shal_row k st a (h a List.mem_cons_self)), ih _ fun b hb => h b (List.mem_cons_of_mem _ hb)]
    simp only [List.append_assoc, List.cons_append, List.nil_append]
theorem fold_wants1 (k : Nat) (wb : List (List UInt8)) : ∀ (l : List (List UInt8)) (n : Nat) (st : St), (∀ b ∈ l, b.length = k) → foldT k st ((l.zipIdx (n + 1)).map fun p => WANT ++ hexB p.1 ++ (if p.2 = 0 then wordsB wb else [])) = some { st with wants := st.wants ++ l } := by
  intro l
  induction l with
  | nil => intro n st _; show some st = _; rw [List.append_nil]
  | cons a l ih =>
    intro n st h
    rw [List.zipIdx_cons, List.map_cons, foldT_cons k _ (take_want_row k st a _ (h a List.mem_cons_self) (.inl (if_neg (Nat.succ_ne_zero n)))), ih _ _ fun b hb => h b (List.mem_cons_of_mem _ hb), if_neg (Nat.succ_ne_zero n), kept_nil]
    simp only [List.append_assoc, List.cons_append, List.nil_append, List.append_nil]
theorem kept_words : ∀ n : Nat, n ≤ 3 → kept (cuts (wordsB (WB3.take n))) = (WB3.take n).map strOf := by decide +kernel
theorem take1_words : ∀ n : Nat, n ≤ 3 → wordsB (WB3.take n) = [] ∨ (wordsB (WB3.take n)).take 1 = [32] := by decide +kernel
theorem fold_wants (k : Nat) (wb : List (List UInt8)) (hw : ∃ n, n ≤ 3 ∧ wb = WB3.take n) (l : List (List UInt8)) (st : St) (h0 : st.wants = []) (h : ∀ b ∈ l, b.length = k) (he : l = [] → wb = []) :
    foldT k st (wantsL wb l) = some { st with wants := l, words := st.words ++ wb.map strOf } := by
  obtain ⟨n, hn, rfl⟩ := hw
  cases l with
  | nil =>
    show some st = _
    rw [he rfl, List.map_nil, List.append_nil, ← h0]
  | cons a l =>
    unfold wantsL
    rw [List.zipIdx_cons, List.map_cons, foldT_cons k _ (take_want_row k st a _ (h a List.mem_cons_self) (by
      rw [if_pos rfl]
      rcases take1_words n hn with e | e
      · exact .inl e
      · exact .inr ⟨h0, e⟩)), fold_wants1 k _ l 0 _ fun b hb => h b (List.mem_cons_of_mem _ hb), if_pos rfl, kept_words n hn, h0]
    rfl
theorem fold_deep (k : Nat) (o : Option Int) (st : St) (h : ∀ i, o = some i → 0 < i ∧ i < 100) : foldT k st (optL DEEP o) = some { st with depth := o.or st.depth } := by
  cases o with
  | none => rfl
  | some i =>
    obtain ⟨h1, h2⟩ := h i rfl
    obtain ⟨n, rfl⟩ : ∃ n : Nat, i = (n : Int) := ⟨i.toNat, by omega⟩
    show foldT k st [DEEP ++ decB n] = _
    rw [foldT_cons k _ (take_deep_row k st n (by omega) (by omega))]
    rfl
theorem fold_sinc (k : Nat) (o : Option Int) (st : St) (h : ∀ i, o = some i → 0 ≤ i ∧ i < 100) : foldT k st (optL SINC o) = some { st with since := o.or st.since } := by
  cases o with
  | none => rfl
  | some i =>
    obtain ⟨h1, h2⟩ := h i rfl
    obtain ⟨n, rfl⟩ : ∃ n : Nat, i = (n : Int) := ⟨i.toNat, by omega⟩
    show foldT k st [SINC ++ decB n] = _
    rw [foldT_cons k _ (take_sinc_row k st n (by omega))]
    rfl
theorem fold_heads {k : Nat} {st : St} {wb : List (List UInt8)} {tk : List Item} (H : WOk k st wb tk) : foldT k st0 (headsL st wb) = some st := by
  unfold headsL
  rw [foldT_append, foldT_append, foldT_append, fold_wants k wb H.wbp st.wants st0 rfl H.wl fun h => (H.emp h).1]
  simp only [Option.bind_some]
  rw [fold_shal k _ _ H.sl]
  simp only [Option.bind_some]
  rw [fold_deep k _ _ H.dep]
  simp only [Option.bind_some]
  rw [fold_sinc k _ _ H.sin]
  obtain ⟨a, b, c, d, e⟩ := st
  have := H.words
  dsimp only at this
  subst this
  simp [st0]
def lateL (st : St) (wb : List (List UInt8)) : List (List UInt8) := ((shalL st.shallow ++ optL DEEP st.depth) ++ optL SINC st.since) ++ wantsL wb st.wants
theorem fold_late {k : Nat} {st : St} {wb : List (List UInt8)} {tk : List Item} (H : WOk k st wb tk) : foldT k st0 (lateL st wb) = some st := by
  unfold lateL
  rw [foldT_append, foldT_append, foldT_append, fold_shal k _ _ H.sl]
  simp only [Option.bind_some]
  rw [fold_deep k _ _ H.dep]
  simp only [Option.bind_some]
  rw [fold_sinc k _ _ H.sin]
  simp only [Option.bind_some]
  rw [fold_wants k wb H.wbp st.wants _ rfl H.wl fun h => (H.emp h).1]
  obtain ⟨a, b, c, d, e⟩ := st
  have := H.words
  dsimp only at this
  subst this
  simp [st0]
theorem wantsL_want (wb l : List (List UInt8)) : ∀ r ∈ wantsL wb l, r.take 5 = WANT := by
  intro r hr
  unfold wantsL at hr
  obtain ⟨p, _, rfl⟩ := List.mem_map.mp hr
  rw [List.append_assoc]
  rfl
theorem shalL_want (l : List (List UInt8)) : ∀ r ∈ shalL l, r.take 5 ≠ WANT := by
  intro r hr
  unfold shalL at hr
  obtain ⟨p, _, rfl⟩ := List.mem_map.mp hr
  intro h
  exact absurd h (by show ¬ ([115, 104, 97, 108, 108] : List UInt8) = _; decide)
theorem optL_want (pre : List UInt8) (hp : ∀ x : List UInt8, (pre ++ x).take 5 ≠ WANT) (o : Option Int) : ∀ r ∈ optL pre o, r.take 5 ≠ WANT := by
  intro r hr
  cases o with
  | none => cases hr
  | some i => rw [List.mem_singleton.mp hr]; exact hp _
def isWant (r : List UInt8) : Bool := r.take 5 == WANT
theorem late_eq (st : St) (wb : List (List UInt8)) : lateL st wb = (headsL st wb).filter (fun r => !isWant r) ++ (headsL st wb).filter isWant := by
  have a1 : ∀ r ∈ wantsL wb st.wants, isWant r = true := fun r h => by unfold isWant; rw [wantsL_want _ _ r h]; rfl
  have a2 : ∀ r ∈ shalL st.shallow, isWant r = false := fun r h => by unfold isWant; exact beq_eq_false_iff_ne.mpr (shalL_want _ r h)
  have a3 : ∀ r ∈ optL DEEP st.depth, isWant r = false := fun r h => by
    unfold isWant
    exact beq_eq_false_iff_ne.mpr (optL_want _ (fun x h => absurd h (by show ¬ ([100, 101, 101, 112, 101] : List UInt8) = _; decide)) _ r h)
  have a4 : ∀ r ∈ optL SINC st.since, isWant r = false := fun r h => by
    unfold isWant
    exact beq_eq_false_iff_ne.mpr (optL_want _ (fun x h => absurd h (by show ¬ ([100, 101, 101, 112, 101] : List UInt8) = _; decide)) _ r h)
  have ft : ∀ (l : List (List UInt8)), (∀ r ∈ l, isWant r = true) → l.filter isWant = l ∧ l.filter (fun r => !isWant r) = [] := by
    intro l hl
    refine ⟨List.filter_eq_self.mpr hl, List.filter_eq_nil_iff.mpr fun r hr => ?_⟩
    rw [hl r hr]; decide
  have ff : ∀ (l : List (List UInt8)), (∀ r ∈ l, isWant r = false) → l.filter isWant = [] ∧ l.filter (fun r => !isWant r) = l := by
    intro l hl
    refine ⟨List.filter_eq_nil_iff.mpr fun r hr => ?_, List.filter_eq_self.mpr fun r hr => ?_⟩
    · rw [hl r hr]; decide
    · rw [hl r hr]; decide
  unfold headsL lateL
  simp only [List.filter_append, (ft _ a1).1, (ft _ a1).2, (ff _ a2).1, (ff _ a2).2, (ff _ a3).1, (ff _ a3).2, (ff _ a4).1, (ff _ a4).2, List.nil_append, List.append_nil]
theorem row_have (b : List UInt8) (k : Nat) (h : b.length = k) : (haveL ++ hexB b).take 5 = haveL ∧ isPlain ((haveL ++ hexB b).drop 5) (2 * k) = true ∧ unhex ((haveL ++ hexB b).drop 5) = b ∧ haveL ++ hexB b ≠ DONE := by
  refine ⟨rfl, hexB_plain b k h, unhex_hexB b, fun e => ?_⟩
  have := congrArg (·.head?) e
  exact absurd this (by show ¬ (some (104 : UInt8)) = some 100; decide)
theorem tail_reads (k : Nat) (f : List UInt8) (hr : ∀ b : List UInt8, b.length = k → rowOf (haveL ++ hexB b ++ f) = haveL ++ hexB b) (hd : rowOf (DONE ++ f) = DONE) (done : Bool) : ∀ (l acc : List Item), (∀ b, some b ∈ l → b.length = k) →
    tailP k ((tailsL l done).map fun it => it.map (· ++ f)) acc = some (acc ++ l, done) := by
  intro l
  induction l with
  | nil =>
    intro acc _
    cases done with
    | false => show some (acc, false) = _; rw [List.append_nil]
    | true =>
      show (if rowOf (DONE ++ f) = DONE then (if ([] : List Item) = [] then some (acc, true) else none) else _) = _
      rw [if_pos hd, if_pos rfl, List.append_nil]
  | cons a l ih =>
    intro acc h
    have ih2 := fun acc2 => ih acc2 fun b hb => h b (List.mem_cons_of_mem _ hb)
    cases a with
    | none =>
      show tailP k ((tailsL l done).map fun it => it.map (· ++ f)) (acc ++ [none]) = _
      rw [ih2, List.append_assoc]
      rfl
    | some b =>
      have hb := h b List.mem_cons_self
      obtain ⟨h1, h2, h3, h4⟩ := row_have b k hb
      show (if rowOf (haveL ++ hexB b ++ f) = DONE then _ else if (rowOf (haveL ++ hexB b ++ f)).take 5 = haveL ∧ isPlain ((rowOf (haveL ++ hexB b ++ f)).drop 5) (2 * k) = true then tailP k ((tailsL l done).map fun it => it.map (· ++ f)) (acc ++ [some (unhex ((rowOf (haveL ++ hexB b ++ f)).drop 5))]) else none) = _
      rw [hr b hb, if_neg h4, if_pos ⟨h1, h2⟩, h3, ih2, List.append_assoc]
      rfl
theorem last_no (l : List UInt8) (h : l.all (· != 10) = true) : l.getLast? ≠ some 10 := by
  intro e
  have := List.all_eq_true.mp h _ (List.mem_of_getLast? e)
  exact absurd this (by decide)
theorem hexC_no : ∀ n : Nat, n < 16 → ((hexC n).toUInt8 != 10) = true := by decide +kernel
theorem hexB_no (b : List UInt8) : (hexB b).all (· != 10) = true := by
  induction b with
  | nil => rfl
  | cons c r ih =>
    have := c.toNat_lt
    rw [hexB_cons, List.all_cons, List.all_cons, ih, hexC_no _ (by omega), hexC_no _ (by omega)]
    rfl
theorem words_no : ∀ n : Nat, n ≤ 3 → (wordsB (WB3.take n)).all (· != 10) = true := by decide +kernel
theorem dec_no : ∀ n : Nat, n < 100 → (decB n).all (· != 10) = true := by decide +kernel
def NoNl (rows : List (List UInt8)) : Prop := ∀ r ∈ rows, r.all (· != 10) = true
theorem NoNl.append {a b : List (List UInt8)} (x : NoNl a) (y : NoNl b) : NoNl (a ++ b) := fun r h => (List.mem_append.mp h).elim (x r) (y r)
theorem wantsL_no (wb : List (List UInt8)) (hw : ∃ n, n ≤ 3 ∧ wb = WB3.take n) (l : List (List UInt8)) : NoNl (wantsL wb l) := by
  intro r hr
  obtain ⟨n, hn, rfl⟩ := hw
  unfold wantsL at hr
  obtain ⟨p, _, rfl⟩ := List.mem_map.mp hr
  rw [List.all_append, List.all_append, hexB_no]
  split
  · rw [words_no n hn]; rfl
  · rfl
theorem shalL_no (l : List (List UInt8)) : NoNl (shalL l) := by
  intro r hr
  unfold shalL at hr
  obtain ⟨p, _, rfl⟩ := List.mem_map.mp hr
  rw [List.all_append, hexB_no]
  rfl
theorem optL_no (pre : List UInt8) (hp : pre.all (· != 10) = true) (o : Option Int) (h : ∀ i, o = some i → 0 ≤ i ∧ i < 100) : NoNl (optL pre o) := by
  intro r hr
  cases o with
  | none => cases hr
  | some i =>
    have := h i rfl
    rw [List.mem_singleton.mp hr, List.all_append, hp, dec_no _ (by omega)]
    rfl
theorem lateL_no {k : Nat} {st : St} {wb : List (List UInt8)} {tk : List Item} (H : WOk k st wb tk) : NoNl (lateL st wb) :=
  (((shalL_no _).append (optL_no _ (by decide) _ fun i e => by have := H.dep i e; omega)).append (optL_no _ (by decide) _ H.sin)).append (wantsL_no wb H.wbp _)
theorem strip_nl (rows : List (List UInt8)) : stripR (rows.map (· ++ [10])) = rows := by
  unfold stripR
  rw [List.map_map]
  conv => rhs; rw [← List.map_id rows]
  exact List.map_congr_left fun r _ => rowOf_feed r
theorem strip_no (rows : List (List UInt8)) (h : NoNl rows) : stripR (rows.map (· ++ [])) = rows := by
  unfold stripR
  rw [List.map_map]
  conv => rhs; rw [← List.map_id rows]
  refine List.map_congr_left fun r hr => ?_
  show rowOf (r ++ []) = r
  rw [List.append_nil]
  exact rowOf_same r (last_no r (h r hr))
theorem tail_nl (k : Nat) (done : Bool) (l : List Item) (h : ∀ b, some b ∈ l → b.length = k) : tailP k ((tailsL l done).map fun it => it.map (· ++ [10])) [] = some (l, done) := by
  have := tail_reads k [10] (fun b _ => rowOf_feed _) (rowOf_feed _) done l [] h
  rwa [List.nil_append] at this
theorem tail_no (k : Nat) (done : Bool) (l : List Item) (h : ∀ b, some b ∈ l → b.length = k) : tailP k ((tailsL l done).map fun it => it.map (· ++ [])) [] = some (l, done) := by
  have := tail_reads k [] (fun b _ => by
    rw [List.append_nil]
    refine rowOf_same _ (last_no _ ?_)
    rw [List.all_append, hexB_no]
    rfl) (by rw [List.append_nil]; exact rowOf_same _ (by decide)) done l [] h
  rwa [List.nil_append] at this
theorem readP_of {k : Nat} {hs : List (List UInt8)} {ts : List Item} {st : St} {tk : List Item} {done : Bool} (h1 : foldT k st0 (stripR hs) = some st) (h2 : tailP k ts [] = some (tk, done)) (h3 : st.depth = none ∨ st.since = none) (h4 : st.wants = [] → hs = []) : readP k hs ts = some (st, tk, done) := by
  unfold readP
  rw [h1]
  dsimp only
  rw [if_neg (by
    rintro ⟨a, b⟩
    rcases h3 with e | e
    · rw [e] at a; cases a
    · rw [e] at b; cases b), if_neg (by rintro ⟨a, b⟩; exact b (h4 a)), h2]
  rfl
theorem heads_nil {k : Nat} {st : St} {wb : List (List UInt8)} {tk : List Item} (H : WOk k st wb tk) (h : st.wants = []) : headsL st wb = [] ∧ lateL st wb = [] := by
  obtain ⟨h1, h2, h3, h4⟩ := H.emp h
  unfold headsL lateL
  rw [h, h1, h2, h3, h4]
  exact ⟨rfl, rfl⟩
theorem read_heads {k : Nat} {st : St} {wb : List (List UInt8)} {tk : List Item} (H : WOk k st wb tk) (done : Bool) : readP k ((headsL st wb).map (· ++ [10])) ((tailsL tk done).map fun it => it.map (· ++ [10])) = some (st, tk, done) :=
  readP_of (by rw [strip_nl]; exact fold_heads H) (tail_nl k done tk H.tl) H.one fun h => by rw [(heads_nil H h).1]; rfl
theorem read_late {k : Nat} {st : St} {wb : List (List UInt8)} {tk : List Item} (H : WOk k st wb tk) (done : Bool) : readP k ((lateL st wb).map (· ++ [])) ((tailsL tk done).map fun it => it.map (· ++ [])) = some (st, tk, done) :=
  readP_of (by rw [strip_no _ (lateL_no H)]; exact fold_late H) (tail_no k done tk H.tl) H.one fun h => by rw [(heads_nil H h).2]; rfl
theorem framed_parts (rows : List (List UInt8)) (its : List Item) (f : List UInt8) : framed (rows.map some ++ [none] ++ its) f = enc' (rows.map (· ++ f)) ++ ([48, 48, 48, 48] ++ enc (its.map fun it => it.map (· ++ f))) := by
  unfold framed enc enc'
  rw [List.map_append, List.map_append, List.flatMap_append, List.flatMap_append, List.append_assoc]
  congr 1
  rw [List.map_map, List.flatMap_map, List.flatMap_map]
  rfl
theorem framed_rows (rows : List (List UInt8)) (f : List UInt8) : framed (rows.map some) f = enc' (rows.map (· ++ f)) := by
  unfold framed enc enc'
  rw [List.map_map, List.flatMap_map, List.flatMap_map]
  rfl
theorem wantsR_eq (wb l : List (List UInt8)) : wantsR wb l = (wantsL wb l).map (· ++ [10]) := by
  unfold wantsR wantsL
  rw [List.map_map]
  rfl
theorem shalR_eq (l : List (List UInt8)) : l.map shalR = (shalL l).map (· ++ [10]) := by
  unfold shalL
  rw [List.map_map]
  rfl
theorem optR_eq (pre : List UInt8) (o : Option Int) : optR pre o = (optL pre o).map (· ++ [10]) := by cases o <;> rfl
theorem headR_eq (st : St) (wb : List (List UInt8)) : headR st wb = ((headsL st wb).map (· ++ [10])).map pktL := by
  unfold headR headsL
  rw [wantsR_eq, shalR_eq, optR_eq, optR_eq]
  simp only [List.map_append]
theorem outB_eq (st : St) (wb : List (List UInt8)) (tk : List Item) (done : Bool) : outB st wb tk done = framed ((headsL st wb).map some ++ [none] ++ tailsL tk done) [10] := by
  rw [framed_parts]
  unfold outB
  rw [headR_eq, List.flatten_append, List.flatten_append, List.append_assoc, List.append_assoc]
  show (((headsL st wb).map (· ++ [10])).map pktL).flatten ++ (FL ++ [] ++ (_ ++ _)) = _
  rw [← List.flatMap_def]
  congr 1
  rw [List.append_nil]
  show FL ++ _ = FL ++ _
  congr 1
  unfold tailsL enc
  rw [List.map_append, List.flatMap_append, List.map_map, ← List.flatMap_def, List.flatMap_map]
  congr 1
  · congr 1
    funext it
    cases it <;> rfl
  · cases done <;> rfl
def ID0 (k : Nat) : List UInt8 := [171, 205, 7, 16].take k
def oneL (k : Nat) : List UInt8 := hexB (ID0 k)
def upL (l : List UInt8) : List UInt8 := l.map fun c => if 97 ≤ c ∧ c ≤ 122 then c - 32 else c
def oddL (k : Nat) : List (List (List UInt8)) := [[WANT ++ (oneL k).dropLast], [WANT ++ upL (oneL k)], [WANT ++ oneL k ++ [120]], [DEEP ++ [48]], [DEEP ++ [48, 49]], [DEEP ++ [45, 49]], [haveL ++ oneL k], [SHAL ++ oneL k ++ [32]], [WANT ++ oneL k ++ [32, 109, 111, 114, 101]], [DEEP ++ [49], SINC ++ [53]], [DONE]]
def sureL (k : Nat) (st : St) (wb : List (List UInt8)) : List (List UInt8) := if headsL st wb = [] then [WANT ++ oneL k] else headsL st wb
def isN {α : Type} : Option α → Bool
  | none => true
  | some _ => false
theorem takeP_wants (k : Nat) (st : St) (h : st.wants ≠ []) (row : List UInt8) : (takeP k ⟨[[]], [], [], none, none⟩ row = none) → takeP k st row = none := by
  unfold takeP
  intro h2
  split
  · rename_i h5
    rw [if_pos h5] at h2
    split
    · rename_i h6
      rcases h6.2 with e | ⟨e, _⟩
      · rw [if_pos ⟨h6.1, .inl e⟩] at h2; cases h2
      · exact absurd e h
    · rfl
  · rename_i h5
    rw [if_neg h5] at h2
    split
    · rename_i h8
      rw [if_pos h8] at h2
      split
      · rename_i h9; rw [if_pos h9] at h2; cases h2
      · rfl
    · rename_i h8
      rw [if_neg h8] at h2
      split
      · rename_i h7
        rw [if_pos h7] at h2
        cases hq : Mine.numOf (row.drop 7) with
        | none => rfl
        | some m =>
          rw [hq] at h2
          dsimp only at h2 ⊢
          split
          · rfl
          · rename_i h9; rw [if_neg h9] at h2; cases h2
      · rename_i h7
        rw [if_neg h7] at h2
        split
        · rename_i h13
          rw [if_pos h13] at h2
          cases hq : Mine.numOf (row.drop 13) with
          | none => rfl
          | some m => rw [hq] at h2; cases h2
        · rfl
theorem odd_none : ∀ k : Nat, k = 3 ∨ k = 4 → ∀ i : Nat, i < 11 → i ≠ 9 → ∃ r, (oddL k)[i]? = some [r] ∧ isN (takeP k ⟨[[]], [], [], none, none⟩ r) = true := by
  have key : ∀ k : Nat, k < 5 → 3 ≤ k → ∀ i : Nat, i < 11 → i ≠ 9 → (match (oddL k)[i]? with | some [r] => isN (takeP k ⟨[[]], [], [], none, none⟩ r) | _ => false) = true := by decide +kernel
  intro k hk i hi h9
  have := key k (by omega) (by omega) i hi h9
  split at this
  · rename_i r hr; exact ⟨r, hr, this⟩
  · cases this
theorem sure_fold {k : Nat} {st : St} {wb : List (List UInt8)} {tk : List Item} (H : WOk k st wb tk) (hk : k = 3 ∨ k = 4) : ∃ st1, foldT k st0 (sureL k st wb) = some st1 ∧ st1.wants ≠ [] := by
  unfold sureL
  by_cases h : headsL st wb = []
  · rw [if_pos h]
    have hl : (ID0 k).length = k := by rcases hk with rfl | rfl <;> rfl
    have := take_want_row k st0 (ID0 k) [] hl (.inl rfl)
    rw [List.append_nil] at this
    refine ⟨_, foldT_cons k [] this, ?_⟩
    simp
  · rw [if_neg h]
    refine ⟨st, fold_heads H, fun e => h (heads_nil H e).1⟩
theorem bad_odd {k : Nat} {st : St} {wb : List (List UInt8)} {tk : List Item} (H : WOk k st wb tk) (hk : k = 3 ∨ k = 4) (i : Nat) (hi : i < 11) (o : List (List UInt8)) (ho : (oddL k)[i]? = some o) (ts : List Item) : readP k ((sureL k st wb ++ o).map (· ++ [10])) ts = none := by
  obtain ⟨st1, hs, hw⟩ := sure_fold H hk
  unfold readP
  rw [strip_nl, foldT_append, hs, Option.bind_some]
  by_cases h9 : i = 9
  · subst h9
    have e : o = [DEEP ++ decB 1, SINC ++ decB 5] := by
      have : (oddL k)[9]? = some [DEEP ++ decB 1, SINC ++ decB 5] := rfl
      rw [this] at ho
      exact (Option.some.inj ho).symm
    rw [e, foldT_cons k _ (take_deep_row k st1 1 (by omega) (by omega)), foldT_cons k _ (take_sinc_row k _ 5 (by omega))]
    rfl
  · obtain ⟨r, hr, hn⟩ := odd_none k hk i hi h9
    rw [hr] at ho
    obtain rfl := Option.some.inj ho
    have h1 : takeP k ⟨[[]], [], [], none, none⟩ r = none := by
      cases hq : takeP k ⟨[[]], [], [], none, none⟩ r with
      | none => rfl
      | some _ => rw [hq] at hn; cases hn
    rw [foldT_cons_none k _ (takeP_wants k st1 hw r h1)]
theorem bad_shal {k : Nat} (hk : k = 3 ∨ k = 4) (ts : List Item) : readP k (([SHAL ++ oneL k] : List (List UInt8)).map (· ++ [10])) ts = none := by
  have hl : (ID0 k).length = k := by rcases hk with rfl | rfl <;> rfl
  unfold readP
  unfold oneL
  rw [strip_nl, foldT_cons k [] (take_shal_row k st0 (ID0 k) hl)]
  rfl
theorem tail_bad (k : Nat) (b : List UInt8) : ∀ (l acc : List Item), (∀ c, some c ∈ l → c.length = k) → tailP k ((l.map (fun it => it.map fun b => haveL ++ hexB b) ++ [some DONE, some b]).map fun it => it.map (· ++ [10])) acc = none := by
  intro l
  induction l with
  | nil =>
    intro acc _
    show (if rowOf (DONE ++ [10]) = DONE then (if ([some (b ++ [10])] : List Item) = [] then some (acc, true) else none) else _) = _
    rw [rowOf_feed, if_pos rfl, if_neg (by intro e; cases e)]
  | cons a l ih =>
    intro acc h
    have ih2 := fun acc2 => ih acc2 fun b hb => h b (List.mem_cons_of_mem _ hb)
    cases a with
    | none => exact ih2 (acc ++ [none])
    | some c =>
      obtain ⟨h1, h2, h3, h4⟩ := row_have c k (h c List.mem_cons_self)
      show (if rowOf (haveL ++ hexB c ++ [10]) = DONE then _ else if (rowOf (haveL ++ hexB c ++ [10])).take 5 = haveL ∧ isPlain ((rowOf (haveL ++ hexB c ++ [10])).drop 5) (2 * k) = true then tailP k _ _ else none) = _
      rw [rowOf_feed, if_neg h4, if_pos ⟨h1, h2⟩]
      exact ih2 _
theorem bad_done {k : Nat} {st : St} {wb : List (List UInt8)} {tk : List Item} (H : WOk k st wb tk) (hs : List (List UInt8)) : readP k hs ((tk.map (fun it => it.map fun b => haveL ++ hexB b) ++ [some DONE, some (haveL ++ oneL k)]).map fun it => it.map (· ++ [10])) = none := by
  unfold readP
  rw [tail_bad k _ tk [] H.tl]
  cases foldT k st0 (stripR hs) with
  | none => rfl
  | some st1 =>
    dsimp only
    split
    · rfl
    · split <;> rfl
end sQa
theorem fl43 : True := by first | walk1 | trivial

section sQb

local macro_rules | `(tactic| walk_at $s:str) => `(tactic| k_extra $(Lean.Syntax.mkStrLit ("S143." ++ s.getString)))
theorem zm54 : True := by
  (k_with "S143.my try" => k_extra "R101")
  (k_with "S143.exec Try" => k_extra "R102")
  (k_with "S143.exec Try cons cons nil nil" => k_extra "R102")
  trivial
inductive ToldLed (w : World) (d : Addr) (st : St) (tk : List Item) (done : Bool) : List (Addr × Obj) → Prop
  | mk (o : Obj) (lw lo ls lt : Addr) (nw no ns nt : Nat) (dv sv : Value) (uw uo us ut : List Value) : o.IsDictOf (PySem.strKind PG w) [("wants", .ref lw), ("words", .ref lo), ("shallow", .ref ls), ("depth", dv), ("since", sv), ("talk", .ref lt), ("is_done", .bool done)] → (d == sysModules) = false → RowsAre uw st.wants → StrsAre uo st.words → RowsAre us st.shallow → OptI st.depth dv → OptI st.since sv → TalkAre ut tk →
    ToldLed w d st tk done [(d, o), (lw, listOf uw.toArray nw), (lo, listOf uo.toArray no), (ls, listOf us.toArray ns), (lt, listOf ut.toArray nt)]
theorem copy_L {prog : Program} {w : World} {A : Around} {E : Value → Shared → Prop} {s : Shared} {h₀ : Heap} {L l : Addr} {m : PySem.Str → Option Value} {news : List (Addr × Obj)} {us : List Value} {n : Nat} {Q : Value → Shared → Prop} (F : Fr h₀ L s.heap m) (N : News h₀ L s.heap news) (hm : (l, listOf us.toArray n) ∈ news) (hz : us.length ≤ 10000)
    (h : ∀ D c h', Fr h₀ L h' m → News h₀ L h' ((D, listOf us.toArray c) :: news) → (∀ q ∈ news, q.1 < D) → Q (.ref D) { s with heap := h' }) : wpAny (model prog w) A (call (.type "list") [.ref l]) Q E s :=
  list_copyK F N (News.isList N hm) h (by rw [sizeLine_eq, List.size_toArray]; omega)
theorem zm55 : True := by
  (k_with "S143.call type:list" => k_extra "R103")
  trivial
theorem tailP_len (k : Nat) : ∀ (ts acc tk : List Item) (done : Bool), tailP k ts acc = some (tk, done) → tk.length ≤ acc.length + ts.length := by
  intro ts
  induction ts with
  | nil =>
    intro acc tk done h
    have h2 : some (acc, false) = some (tk, done) := h
    obtain ⟨rfl, _⟩ := Prod.mk.inj (Option.some.inj h2)
    exact Nat.le_refl _
  | cons a ts ih =>
    intro acc tk done h
    rw [List.length_cons]
    cases a with
    | none =>
      have := ih (acc ++ [none]) tk done h
      rw [List.length_append, List.length_singleton] at this
      omega
    | some b =>
      simp only [tailP] at h
      split at h
      · split at h
        · obtain ⟨rfl, _⟩ := Prod.mk.inj (Option.some.inj h)
          omega
        · cases h
      · split at h
        · have := ih _ tk done h
          rw [List.length_append, List.length_singleton] at this
          omega
        · cases h
theorem readP_fold {k : Nat} {hs : List (List UInt8)} {ts : List Item} {st : St} {tk : List Item} {done : Bool} (h : readP k hs ts = some (st, tk, done)) : foldT k st0 (stripR hs) = some st ∧ tailP k ts [] = some (tk, done) := by
  unfold readP at h
  split at h
  · cases h
  · rename_i s e
    split at h
    · cases h
    · split at h
      · cases h
      · cases hq : tailP k ts [] with
        | none => rw [hq] at h; cases h
        | some p =>
          rw [hq] at h
          have := Option.some.inj h
          obtain ⟨a, b⟩ := p
          obtain ⟨rfl, h2⟩ := Prod.mk.inj this
          obtain ⟨rfl, rfl⟩ := Prod.mk.inj h2
          exact ⟨e, rfl⟩
theorem use_read {w : World} {hs : List (List UInt8)} {ts : List Item} {o : List UInt8} (hoe : enc' hs ++ ([48, 48, 48, 48] ++ enc ts) = o) {t : Tok} {k : Nat} {tn : Tok} (ho : o.length ≤ 65536) (hb : ∀ b ∈ hs, b.length ≤ 3000) (hb4 : ∀ b ∈ hs, b.length ≤ 4000) (hbt : ∀ b, some b ∈ ts → b.length ≤ 3000) (hk9 : k ≤ 4) (hh1 : hs.length ≤ 1000) (ht1 : ts.length ≤ 1000)
    (hbd : ∀ i st', foldT k st0 ((stripR hs).take i) = some st' → st'.wants.length ≤ 1000 ∧ st'.words.length ≤ 1000 ∧ st'.shallow.length ≤ 1000)
    {dp ut : Nat} {gd : Option (List Code)} {cn : PySem.Str} {cs : Scope} {a : Addr} {ccd : Value} {cl : List (PySem.Str × Addr)} {outer : List Env} {A₀ : Around} {base h₀ : Heap} {L : Addr} {m mg mb : PySem.Str → Option Value} {mean : ExcName → Option Value} {s : Shared} {Q E : Value → Shared → Prop} {news : List (Addr × Obj)}
    (B : Below A₀ base outer h₀) (F : Fr h₀ L s.heap m) (X : (hd.heap_1 w.params).In h₀) (N : News h₀ L s.heap news) (T : Top VW LS mean mg mb h₀) (hk : cs.kind = .function)
    (hd : dp + 40 < recursionLimit) (hu : ut + 400 < cLine)
    (ret : ∀ (x : Addr) (st : St) (tk : List Item) (done : Bool) (d lw lo ls lt : Addr) (t1 t2 t3 t4 t5 t6 t7 : Tok) (n nw no ns nt : Nat) (dv sv : Value) (uw uo us ut : List Value) (h' : Heap) (tk' : Nat), readP k hs ts = some (st, tk, done) → handedIn dv = true → handedIn sv = true → uw.length ≤ 1000 → uo.length ≤ 1000 → us.length ≤ 1000 → ut.length ≤ 1000 → [x, d, lw, lo, ls, lt].Nodup → RowsAre uw st.wants → StrsAre uo st.words → RowsAre us st.shallow → OptI st.depth dv → OptI st.since sv → TalkAre ut tk → Fr h₀ L h' m →
      News h₀ L h' ((x, instObj 205 d) :: (d, frD w lw lo ls lt t1 t2 t3 t4 t5 t6 t7 n dv sv done) :: (lw, listOf uw.toArray nw) :: (lo, listOf uo.toArray no) :: (ls, listOf us.toArray ns) :: (lt, listOf ut.toArray nt) :: news) → Q (.ref x) { s with heap := h', toks := tk' })
    (exc : readP k hs ts = none → Flies base (envX cn cs L a ccd cl :: outer) s [] E) :
    wpAny (model PG w) (ktrTop dp ut gd cn cs L a ccd cl outer) (call (.ref 199) [.bytes o.toArray t, .int (k : Int) tn]) Q E s :=
  (read_flush w hs ts o hoe t k tn ho hb hb4 hbt hk9 hh1 ht1 hbd).use0 B F X N T hk hd hu (by
    rintro v h' tk' n' ⟨x, st, tk, done, d, lw, lo, ls, lt, t1, t2, t3, t4, t5, t6, t7, n, nw, no, ns, nt, dv, sv, uw, uo, us, ut, hr, hnd, hR, hO, hS, hD, hN, hT⟩ F' N' _ _
    obtain ⟨h1, h2⟩ := readP_fold hr
    have h3 := tailP_len k _ _ _ _ h2
    obtain ⟨b1, b2, b3⟩ := hbd (stripR hs).length st (by rw [List.take_length]; exact h1)
    rw [List.length_nil] at h3
    exact ret x st tk done d lw lo ls lt t1 t2 t3 t4 t5 t6 t7 n nw no ns nt dv sv uw uo us ut h' tk' hr (handed_opt hD) (handed_opt hN) (by rw [hR.length]; exact b1) (by rw [hO.length]; exact b2) (by rw [hS.length]; exact b3) (by rw [hT.length]; omega) hnd hR hO hS hD hN hT F' N') exc
local macro_rules | `(tactic| k_handed) => `(tactic| k_extra "R104")
theorem told_ok {w : World} {out : Option (St × List Item × Bool)} {st : St} {tk : List Item} {done : Bool} {v : Value} {nx : List (Addr × Obj)} (e : out = some (st, tk, done)) (h : ∃ d, v = .ref d ∧ ToldLed w d st tk done nx) :
    (out = none → v = .none ∧ nx = []) ∧ (∀ st tk done, out = some (st, tk, done) → ∃ d, v = .ref d ∧ ToldLed w d st tk done nx) := by
  subst e
  refine ⟨(fun e => by cases e), fun st tk done e => ?_⟩
  obtain ⟨rfl, e2⟩ := Prod.mk.inj (Option.some.inj e)
  obtain ⟨rfl, rfl⟩ := Prod.mk.inj e2
  exact h
theorem told_no {w : World} {out : Option (St × List Item × Bool)} {v : Value} (e : out = none) (h : v = .none) :
    (out = none → v = .none ∧ ([] : List (Addr × Obj)) = []) ∧ (∀ st tk done, out = some (st, tk, done) → ∃ d, v = .ref d ∧ ToldLed w d st tk done []) := by
  subst e
  exact ⟨(fun _ => ⟨h, rfl⟩), fun st tk done e => by cases e⟩
theorem zm56 : True := by
  (k_with "S143.call ref" => k_extra "R105")
  trivial
def SpecTAt (w : World) (f : Addr) (vs : List Value) (dn un : Nat) (ok : Value → List (Addr × Obj) → Prop) (c : Cal) : Prop :=
  Below c.A₀ c.base [] c.h₀ → Fr c.h₀ c.L c.s.heap c.m → (hd.heap_1 w.params).In c.h₀ → Top VW LS c.mean c.mg c.mb c.h₀ → (hd.heap_1 w.params).In c.base → Top VW LS c.mean c.mg c.mb c.base → c.cs.kind = .function →
    c.dp + dn < recursionLimit → c.ut + un < cLine →
    (∀ (v : Value) (h' : Heap) (tk' : Nat) (mine' : List (Addr × Obj)), ok v mine' → Fr c.h₀ c.L h' c.m → News c.h₀ c.L h' mine' → (∀ b o, c.s.heap.get? b = some o → b ≠ c.L → h'.get? b = some o) → (∀ p ∈ mine', c.s.heap.get? p.1 = none) → c.Q v { c.s with heap := h', toks := tk' }) →
    wpAny (model PG w) (ktrTop c.dp c.ut c.gd c.cn c.cs c.L c.a c.ccd [] []) (call (.ref f) vs) c.Q c.E c.s
theorem SpecT.cut {w : World} {f : Addr} {vs : List Value} {dn un : Nat} {ok : Value → List (Addr × Obj) → Prop} (h : ∀ c, SpecTAt w f vs dn un ok c) : SpecT w f vs dn un ok :=
  fun dp ut gd cn cs a ccd A₀ base h₀ L m mg mb mean s Q E => h ⟨dp, ut, gd, cn, cs, a, ccd, [], [], A₀, base, h₀, L, m, mg, mb, mean, s, Q, E⟩
namespace told_flush_
def zA (w : World) (hs : List (List UInt8)) (ts : List Item) (o : List UInt8) (t : Tok) (k : Nat) (tn : Tok) (out : Option (St × List Item × Bool)) (zk : Cal) : Prop := ∀ (hoe : enc' hs ++ ([48, 48, 48, 48] ++ enc ts) = o), ∀ (ho : o.length ≤ 65536), ∀ (hb : ∀ b ∈ hs, b.length ≤ 3000), ∀ (hb4 : ∀ b ∈ hs, b.length ≤ 4000), ∀ (hbt : ∀ b, some b ∈ ts → b.length ≤ 3000), ∀ (hk9 : k ≤ 4), ∀ (hh1 : hs.length ≤ 1000), ∀ (ht1 : ts.length ≤ 1000), ∀ (hbd : ∀ i st', foldT k st0 ((stripR hs).take i) = some st' → st'.wants.length ≤ 1000 ∧ st'.words.length ≤ 1000 ∧ st'.shallow.length ≤ 1000), ∀ (hrd : readP k hs ts = out), SpecTAt w 258 [.bytes o.toArray t, .int (k : Int) tn] 50 500 (fun v n' => (out = none → v = .none ∧ n' = []) ∧ (∀ st tk done, out = some (st, tk, done) → ∃ d, v = .ref d ∧ ToldLed w d st tk done n')) zk
@[irreducible] noncomputable def zx : Zst × (List Item) × (Option (St × List Item × Bool)) := sk ⟨(Classical.choice neZst, default, default)⟩ fun z => zA (z.1.w) (z.1.ll 0) (z.2.1) (z.1.lu 0) (z.1.n 0) (z.1.n 1) (z.1.n 2) (z.2.2) (z.1.c)
@[irreducible] noncomputable def hs : List (List UInt8) := zx.1.ll 0
@[irreducible] noncomputable def ts : List Item := zx.2.1
@[irreducible] noncomputable def k : Nat := zx.1.n 1
def zT (P1 : World → (List (List UInt8)) → (List Item) → (List UInt8) → Tok → Nat → Tok → (Option (St × List Item × Bool)) → Cal → Heap → Addr → Heap → Prop) : Prop := ∀ w hs ts o t k tn out zk, (∀ y0 y1 y2, P1 w hs ts o t k tn out zk y0 y1 y2) → zA w hs ts o t k tn out zk
noncomputable def zs : { P : Heap → Addr → Heap → Prop // (∀ y0 y1 y2, P y0 y1 y2) → zA (zx.1.w) hs ts (zx.1.lu 0) (zx.1.n 0) k (zx.1.n 2) (zx.2.2) (zx.1.c) } := by
  refine' ⟨_, (_ : zT _) (zx.1.w) hs ts (zx.1.lu 0) (zx.1.n 0) k (zx.1.n 2) (zx.2.2) (zx.1.c)⟩
  rotate_left 1
  · intro w hs ts o t k tn out zk zR1 hoe ho hb hb4 hbt hk9 hh1 ht1 hbd hrd B F X T XB TB hk hd hu hret
    w_strict (
     refine wpAny_call ?_
     refine' enterT ?k1 ?k2 ?k3 ?k5 ?kA ?k6 ?k7 ?k8 ?k9 ?kB ?_ ?kK ?c2 ?c3 ?c4 ?c5
     case kA => exact rfl
     case kK => assumption
     case k1 => k_asm
     case k2 => k_asm
     case k3 => k_asm
     case k5 => k_asm
     case k6 => k_dflt k_is
     case k7 => k_dflt k_is
     case k8 => ktr_room
     case k9 => exact BindsTo.of_eq rfl
     case c5 => decide
     case kB => exact locs rfl
     case c2 => exact rfl
     case c3 => exact rfl
     case c4 => exact rfl
     intro g' L' h' eg' FG' F' B' X' T' D'
     have N' : News g' L' h' [] := News.nil
     try dsimp only
     try k_lift B'
     (revert hoe ho hb hb4 hbt hk9 hh1 ht1 hbd hrd B F X T XB TB hk hd hu hret eg' FG' F' B' X' T' D' N'; exact zR1 g' L' h')
    )
@[irreducible] noncomputable def zP1 : Heap → Addr → Heap → Prop := Mine.told_flush_.zs.1
theorem zp1 : zP1 = Mine.told_flush_.zs.1 := by with_unfolding_all rfl
namespace z1
@[irreducible] noncomputable def zx : Zst := sk neZst fun z => Mine.told_flush_.zP1 (z.h 0) (z.n 0) (z.h 1)
theorem zgo : Mine.told_flush_.zP1 (zx.h 0) (zx.n 0) (zx.h 1) := by
  refine' zcast Mine.told_flush_.zp1 (fun zf => zf (zx.h 0) (zx.n 0) (zx.h 1)) ((_ : ∀ g' L' h', Mine.told_flush_.zs.1 g' L' h') (zx.h 0) (zx.n 0) (zx.h 1))
  intro g' L' h' hoe ho hb hb4 hbt hk9 hh1 ht1 hbd hrd B F X T XB TB hk hd hu hret eg' FG' F' B' X' T' D' N'
  w_strict (
   k_steps
   case kE_q =>
     rename OnWay _ _ _ _ _ _ _ _ => W9
     obtain ⟨hh9, mm9, mi9, Fm9, Nm9, R9, U9⟩ := W9.at_
     refine caught_SO0 R9 (fr_hide Fm9 Nm9) B' U9 XB TB D' KtsTurn.refl (by k_dflt k_is) (by rfl) ?_
     intro h9 g9 news9 T9 F9 N9 G9 _ B9 X9 P9 D9
     have N8 : News g9 L' h9 [] := News.nil
     k_steps
     show LeaveT _ _ _ _ _ _ _
     rename readP k hs ts = none => q7
     refine' leaveT_end hret eg' (told_no (hrd.symm.trans q7) rfl) T9 ?zF ?zN (fun _ h => h)
     case zF => assumption
     case zN => exact News.nil
   rename readP k hs ts = some _ => q7
   show LeaveT _ _ _ _ _ _ _
   refine' leaveT_end hret eg' (told_ok (hrd.symm.trans q7) ⟨_, rfl, _, _, _, _, _, _, _, _, _, _, _, _, _, _, _, by assumption, by assumption, by assumption, by assumption, by assumption, by assumption, by assumption, by assumption⟩) KtsTurn.refl ?zF ?zN (fun _ h => h)
   case zF => assumption
   case zN => (refine News.sub_J (by assumption) ?_; walk_at "sub here")
  )
theorem zall : ∀ z : Zst, Mine.told_flush_.zP1 (z.h 0) (z.n 0) (z.h 1) := by refine @sk_all _ neZst _ ?_; with_unfolding_all exact zgo
end z1
theorem zgo : zA (zx.1.w) hs ts (zx.1.lu 0) (zx.1.n 0) k (zx.1.n 2) (zx.2.2) (zx.1.c) := zs.2 (by rw [← zp1]; exact fun y0 y1 y2 => z1.zall (zmk zw zk0 [y1] [] [] [] [] [] [y0, y2] [] [] [] [] [] [] [] [] []))
theorem zall : ∀ z : Zst × (List Item) × (Option (St × List Item × Bool)), zA (z.1.w) (z.1.ll 0) (z.2.1) (z.1.lu 0) (z.1.n 0) (z.1.n 1) (z.1.n 2) (z.2.2) (z.1.c) := by refine @sk_all _ ⟨(Classical.choice neZst, default, default)⟩ _ ?_; with_unfolding_all exact zgo
end told_flush_
theorem told_flush (w : World) (hs : List (List UInt8)) (ts : List Item) (o : List UInt8) (hoe : enc' hs ++ ([48, 48, 48, 48] ++ enc ts) = o) (t : Tok) (k : Nat) (tn : Tok) (ho : o.length ≤ 65536) (hb : ∀ b ∈ hs, b.length ≤ 3000) (hb4 : ∀ b ∈ hs, b.length ≤ 4000) (hbt : ∀ b, some b ∈ ts → b.length ≤ 3000) (hk9 : k ≤ 4) (hh1 : hs.length ≤ 1000) (ht1 : ts.length ≤ 1000)
    (hbd : ∀ i st', foldT k st0 ((stripR hs).take i) = some st' → st'.wants.length ≤ 1000 ∧ st'.words.length ≤ 1000 ∧ st'.shallow.length ≤ 1000) (out : Option (St × List Item × Bool)) (hrd : readP k hs ts = out) :
    SpecT w 258 [.bytes o.toArray t, .int (k : Int) tn] 50 500 (fun v n' => (out = none → v = .none ∧ n' = []) ∧ (∀ st tk done, out = some (st, tk, done) → ∃ d, v = .ref d ∧ ToldLed w d st tk done n')) := SpecT.cut fun zk => Mine.told_flush_.zall ((zmk w zk [t, k, tn] [] [] [] [] [] [] [] [] [o] [hs] [] [] [] [] []), ts, out) hoe ho hb hb4 hbt hk9 hh1 ht1 hbd hrd
end sQb
theorem fl44 : True := by first | walk1 | trivial

section sQc

local macro_rules | `(tactic| walk_at $s:str) => `(tactic| k_extra $(Lean.Syntax.mkStrLit ("S146." ++ s.getString)))
theorem zm57 : True := by
  (k_with "S146.my try" => k_extra "R101")
  (k_with "S146.exec Try" => k_extra "R102")
  (k_with "S146.exec Try cons cons nil nil" => k_extra "R102")
  trivial
theorem read_noneB (w : World) (hs : List (List UInt8)) (b : List UInt8) (t : Tok) (k : Nat) (tn : Tok) (ho : (enc' (hs ++ [b])).length ≤ 65536) (hb4 : ∀ c ∈ hs ++ [b], c.length ≤ 4000) :
    Spec w 199 [.bytes (enc' (hs ++ [b])).toArray t, .int (k : Int) tn] 40 400 [] (fun v n' => False ∧ v = .none ∧ n' = []) True := (read_none w hs b t k tn ho hb4).mono (fun _ _ h => h.elim) id
theorem zm58 : True := by
  (k_with "S146.call ref" => k_extra "R106")
  trivial
namespace told_none_
def zA (w : World) (hs : List (List UInt8)) (b : List UInt8) (t : Tok) (k : Nat) (tn : Tok) (zk : Cal) : Prop := ∀ (ho : (enc' (hs ++ [b])).length ≤ 65536), ∀ (hb4 : ∀ c ∈ hs ++ [b], c.length ≤ 4000), SpecTAt w 258 [.bytes (enc' (hs ++ [b])).toArray t, .int (k : Int) tn] 50 500 (fun v n' => v = .none ∧ n' = []) zk
@[irreducible] noncomputable def zx : Zst := sk neZst fun z => zA (z.w) (z.ll 0) (z.lu 0) (z.n 0) (z.n 1) (z.n 2) (z.c)
def zT (P1 : World → (List (List UInt8)) → (List UInt8) → Tok → Nat → Tok → Cal → Heap → Addr → Heap → Prop) : Prop := ∀ w hs b t k tn zk, (∀ y0 y1 y2, P1 w hs b t k tn zk y0 y1 y2) → zA w hs b t k tn zk
noncomputable def zs : { P : Heap → Addr → Heap → Prop // (∀ y0 y1 y2, P y0 y1 y2) → zA (zx.w) (zx.ll 0) (zx.lu 0) (zx.n 0) (zx.n 1) (zx.n 2) (zx.c) } := by
  refine' ⟨_, (_ : zT _) (zx.w) (zx.ll 0) (zx.lu 0) (zx.n 0) (zx.n 1) (zx.n 2) (zx.c)⟩
  rotate_left 1
  · intro w hs b t k tn zk zR1 ho hb4 B F X T XB TB hk hd hu hret
    w_strict (
     refine wpAny_call ?_
     refine' enterT ?k1 ?k2 ?k3 ?k5 ?kA ?k6 ?k7 ?k8 ?k9 ?kB ?_ ?kK ?c2 ?c3 ?c4 ?c5
     case kA => exact rfl
     case kK => assumption
     case k1 => k_asm
     case k2 => k_asm
     case k3 => k_asm
     case k5 => k_asm
     case k6 => k_dflt k_is
     case k7 => k_dflt k_is
     case k8 => ktr_room
     case k9 => exact BindsTo.of_eq rfl
     case c5 => decide
     case kB => exact locs rfl
     case c2 => exact rfl
     case c3 => exact rfl
     case c4 => exact rfl
     intro g' L' h' eg' FG' F' B' X' T' D'
     have N' : News g' L' h' [] := News.nil
     try dsimp only
     try k_lift B'
     (revert ho hb4 B F X T XB TB hk hd hu hret eg' FG' F' B' X' T' D' N'; exact zR1 g' L' h')
    )
@[irreducible] noncomputable def zP1 : Heap → Addr → Heap → Prop := Mine.told_none_.zs.1
theorem zp1 : zP1 = Mine.told_none_.zs.1 := by with_unfolding_all rfl
namespace z1
@[irreducible] noncomputable def zx : Zst := sk neZst fun z => Mine.told_none_.zP1 (z.h 0) (z.n 0) (z.h 1)
theorem zgo : Mine.told_none_.zP1 (zx.h 0) (zx.n 0) (zx.h 1) := by
  refine' zcast Mine.told_none_.zp1 (fun zf => zf (zx.h 0) (zx.n 0) (zx.h 1)) ((_ : ∀ g' L' h', Mine.told_none_.zs.1 g' L' h') (zx.h 0) (zx.n 0) (zx.h 1))
  intro g' L' h' ho hb4 B F X T XB TB hk hd hu hret eg' FG' F' B' X' T' D' N'
  w_strict (
   k_steps
   · exact False.elim (by assumption)
   · skip
     rename OnWay _ _ _ _ _ _ _ _ => W9
     obtain ⟨hh9, mm9, mi9, Fm9, Nm9, R9, U9⟩ := W9.at_
     refine caught_SO0 R9 (fr_hide Fm9 Nm9) B' U9 XB TB D' KtsTurn.refl (by k_dflt k_is) (by rfl) ?_
     intro h9 g9 news9 T9 F9 N9 G9 _ B9 X9 P9 D9
     have N8 : News g9 L' h9 [] := News.nil
     k_steps
     show LeaveT _ _ _ _ _ _ _
     refine' leaveT_end hret eg' ⟨rfl, rfl⟩ T9 ?zF ?zN (fun _ h => h)
     case zF => assumption
     case zN => exact News.nil
  )
theorem zall : ∀ z : Zst, Mine.told_none_.zP1 (z.h 0) (z.n 0) (z.h 1) := by refine @sk_all _ neZst _ ?_; with_unfolding_all exact zgo
end z1
theorem zgo : zA (zx.w) (zx.ll 0) (zx.lu 0) (zx.n 0) (zx.n 1) (zx.n 2) (zx.c) := zs.2 (by rw [← zp1]; exact fun y0 y1 y2 => z1.zall (zmk zw zk0 [y1] [] [] [] [] [] [y0, y2] [] [] [] [] [] [] [] [] []))
theorem zall : ∀ z : Zst, zA (z.w) (z.ll 0) (z.lu 0) (z.n 0) (z.n 1) (z.n 2) (z.c) := by refine @sk_all _ neZst _ ?_; with_unfolding_all exact zgo
end told_none_
theorem told_none (w : World) (hs : List (List UInt8)) (b : List UInt8) (t : Tok) (k : Nat) (tn : Tok) (ho : (enc' (hs ++ [b])).length ≤ 65536) (hb4 : ∀ c ∈ hs ++ [b], c.length ≤ 4000) :
    SpecT w 258 [.bytes (enc' (hs ++ [b])).toArray t, .int (k : Int) tn] 50 500 (fun v n' => v = .none ∧ n' = []) := SpecT.cut fun zk => Mine.told_none_.zall (zmk w zk [t, k, tn] [] [] [] [] [] [] [] [] [b] [hs] [] [] [] [] []) ho hb4
end sQc
theorem fl45 : True := by first | walk1 | trivial

local macro_rules | `(tactic| walk_at $s:str) => `(tactic| k_extra $(Lean.Syntax.mkStrLit ("S149." ++ s.getString)))
theorem zm59 : True := by
  (k_with "S149.CompEnd" => k_extra "R107")
  (k_with "S149.binaryOp Add str str" => k_extra "R108")
  trivial
section sQd

theorem hexS_eq (b : List UInt8) : S (hexL b) = strOf (hexB b) := by
  unfold strOf hexB bytesOf
  congr 1
  rw [List.map_map]
  conv => lhs; rw [← List.map_id (hexL b)]
  refine List.map_congr_left fun c hc => ?_
  show c = (c.toUInt8).toNat
  have h : c < 256 := by
    unfold hexL at hc
    obtain ⟨x, _, hx⟩ := List.mem_flatMap.mp hc
    have hx9 := x.toNat_lt
    unfold hex2 at hx
    have key : ∀ n : Nat, n < 16 → hexC n < 256 := by decide
    simp only [List.mem_cons, List.not_mem_nil, or_false] at hx
    rcases hx with rfl | rfl
    · exact key _ (by omega)
    · exact key _ (by omega)
  simp [Nat.mod_eq_of_lt h]
theorem law_hexB (w : World) (b : List UInt8) (t : Tok) (hb : b.length ≤ 64) : Spec w 231 [.bytes b.toArray t] 2 20 [] (fun v n' => n' = [] ∧ ∃ t, v = .str (strOf (hexB b)) t) False :=
  (law_hex w b t hb).mono (by rintro v n' ⟨rfl, t, rfl⟩; exact ⟨rfl, t, by rw [hexS_eq]⟩) id
abbrev wP (lw lo ls lt : Addr) (dv sv : Value) (done : Bool) : List (PySem.Str × Value) := [("wants", .ref lw), ("words", .ref lo), ("shallow", .ref ls), ("depth", dv), ("since", sv), ("talk", .ref lt), ("is_done", .bool done)]
theorem cat_L {prog : Program} {w : World} {A : Around} {E : Value → Shared → Prop} {s : Shared} {h₀ : Heap} {L a b : Addr} {m : PySem.Str → Option Value} {news : List (Addr × Obj)} {vs ws : List Value} {n n2 : Nat} {Q : Value → Shared → Prop} (F : Fr h₀ L s.heap m) (N : News h₀ L s.heap news) (ha : (a, listOf vs.toArray n) ∈ news) (hb : (b, listOf ws.toArray n2) ∈ news) (hz : vs.length + ws.length ≤ 10000)
    (h : ∀ D h', Fr h₀ L h' m → News h₀ L h' ((D, listOf (vs ++ ws).toArray 0) :: news) → (∀ p ∈ news, p.1 < D) → Q (.ref D) { s with heap := h' }) : wpAny (model prog w) A (binaryOp .Add (.ref a) (.ref b)) Q E s :=
  kmk_add_lit F N (News.isList N ha) (News.isList N hb) rfl h (by rw [sizeLine_eq]; show vs.length + ws.length ≤ _; omega)
theorem item_at {prog : Program} {w : World} {A : Around} {E : Value → Shared → Prop} {s : Shared} {value slice : PySem.Expr} {l : Addr} {us : List Value} {x : Value} {k : Int} {u : Tok} {Q : Value → Shared → Prop} (hl : s.heap.IsList l us.toArray) (h0 : 0 ≤ k) (h1 : k < 1000) (hx : us[k.toNat]? = some x) (h : Q x s)
    (hs : subscripted slice false (.ref l) (.int k u) = operate [.ref l, .int k u] (getItem (.ref l) (.int k u)) := by with_unfolding_all rfl) :
    wpAny (model prog w) A (subscriptTail value slice (.ref l) (.int k u)) Q E s :=
  tail_any hl.typeIs slot_list_getitem.lookup (wpAny_getItem_list hl h0 (by omega) (by simpa using hx) h) hs
local macro_rules | `(tactic| walk_at $s:str) => `(tactic| k_extra $(Lean.Syntax.mkStrLit ("S150." ++ s.getString)))
theorem zm60 : True := by
  (k_with "S150.binaryOp Add ref ref" => k_extra "R109")
  (k_with "S150.subscriptTail" => k_extra "R110")
  (k_with "S150.eval ListComp" => k_extra "R111")
  (k_with "S150.exec If" => k_extra "R76")
  (k_with "S150.compareOp NotEq ref ref" => k_extra "R99")
  trivial
theorem lit_want : Str.ofString "want " = strOf WANT := by decide +kernel
theorem lit_shal : Str.ofString "shallow " = strOf SHAL := by decide +kernel
theorem lit_deep : Str.ofString "deepen " = strOf DEEP := by decide +kernel
theorem lit_sinc : Str.ofString "deepen-since " = strOf SINC := by decide +kernel
def wantW (b : List UInt8) : List UInt8 := WANT ++ hexB b
theorem nameD {h₀ h : Heap} {L D : Addr} {o : Obj} {r : List (Addr × Obj)} (_ : News h₀ L h ((D, o) :: r)) : ∃ D', D' = D := ⟨D, rfl⟩
theorem cat_cons (y : PySem.Str) (ys : List PySem.Str) : catS (y :: ys) = y ++ catS ys := by
  refine PySem.Str.ext' (Array.toList_inj.mp ?_)
  rw [PySem.Str.cps_append, Array.toList_append]
  rfl
theorem words_len (wb : List (List UInt8)) (h : ∀ b ∈ wb, b.length ≤ 100) (hn : wb.length ≤ 3) : (wordsB wb).length ≤ 303 := by
  have key : ∀ l : List (List UInt8), (∀ b ∈ l, b.length ≤ 100) → (wordsB l).length ≤ 101 * l.length := by
    intro l
    induction l with
    | nil => intro _; exact Nat.le_refl _
    | cons a l ih =>
      intro h
      have h1 := ih fun b hb => h b (List.mem_cons_of_mem _ hb)
      have h2 := h a List.mem_cons_self
      show ((32 :: a) ++ wordsB l).length ≤ _
      rw [List.length_append, List.length_cons, List.length_cons]
      omega
  have := key wb h
  omega
theorem wantsL_cons (wb : List (List UInt8)) (b : List UInt8) (r : List (List UInt8)) : (wantsL wb (b :: r)).map strOf = strOf (wantW b ++ wordsB wb) :: r.map (fun b => strOf (wantW b)) := by
  unfold wantsL
  rw [List.zipIdx_cons, List.map_cons, List.map_cons]
  congr 1
  have key : ∀ (l : List (List UInt8)) (n : Nat), ((l.zipIdx (n + 1)).map fun p => WANT ++ hexB p.1 ++ (if p.2 = 0 then wordsB wb else [])) = l.map wantW := by
    intro l
    induction l with
    | nil => intro n; rfl
    | cons a l ih =>
      intro n
      rw [List.zipIdx_cons, List.map_cons, List.map_cons, ih]
      congr 1
      rw [if_neg (Nat.succ_ne_zero n), List.append_nil]
      rfl
  rw [key, List.map_map]
  rfl
theorem optS {i : Int} {n : Nat} {x : PySem.Str} {t : Tok} (pre : List UInt8) (h : i = (n : Int)) (e : x = strOf (pre ++ decB n)) : StrsAre [.str x t] ((optL pre (some i)).map strOf) := by
  subst h e
  exact .cons _ _ .nil
theorem heads_map (st : St) (wb : List (List UInt8)) {oD oN : Option Int} (hD : oD = st.depth) (hN : oN = st.since) : (headsL st wb).map strOf = (((wantsL wb st.wants).map strOf ++ st.shallow.map fun b => strOf (SHAL ++ hexB b)) ++ (optL DEEP oD).map strOf) ++ (optL SINC oN).map strOf := by
  subst hD hN
  unfold headsL shalL
  simp only [List.map_append, List.map_map]
  rfl
theorem heads_ok {rs : List Value} {ys zs : List PySem.Str} (e : ys = zs) (h : StrsAre rs zs) : StrsAre rs ys := e ▸ h
theorem zm61 : True := by
  (k_with "S150.call type:str" => k_extra "R86")
  trivial
theorem join_exp {prog : Program} {w : World} {A : Around} {E : Value → Shared → Prop} {s : Shared} {t : Sem Value} {Q : Value → Shared → Prop} {g : Heap} {L : Addr} {m : PySem.Str → Option Value} (Led : Addr → List Value → Nat → List (Addr × Obj)) (P : Addr → List Value → Prop) (_ : Fr g L s.heap m)
    (h1 : wpAny (model prog w) A t (fun v s' => Hold (∃ D us nn h tk, v = .ref D ∧ s' = { s with heap := h, toks := tk } ∧ Fr g L h m ∧ News g L h (Led D us nn) ∧ P D us)) E s)
    (h2 : ∀ D us nn h tk, Fr g L h m → News g L h (Led D us nn) → P D us → Q (.ref D) { s with heap := h, toks := tk }) : wpAny (model prog w) A t Q E s :=
  wpAny_mono h1 (by rintro v s' ⟨D, us, nn, h, tk, rfl, rfl, F, N, p⟩; exact h2 D us nn h tk F N p) fun _ _ e => e
theorem join_new {prog : Program} {w : World} {A : Around} {E : Value → Shared → Prop} {s : Shared} {t : Sem Value} {Q : Value → Shared → Prop} {g : Heap} {L : Addr} {m : PySem.Str → Option Value} {rest : List (Addr × Obj)} (P : List Value → Prop) (F : Fr g L s.heap m) (_ : News g L s.heap rest)
    (h1 : wpAny (model prog w) A t (fun v s' => Hold (∃ D us nn h tk, v = .ref D ∧ s' = { s with heap := h, toks := tk } ∧ Fr g L h m ∧ News g L h ((D, listOf us.toArray nn) :: rest) ∧ P us)) E s)
    (h2 : ∀ D us nn h tk, Fr g L h m → News g L h ((D, listOf us.toArray nn) :: rest) → P us → Q (.ref D) { s with heap := h, toks := tk }) : wpAny (model prog w) A t Q E s :=
  join_exp (fun D us nn => (D, listOf us.toArray nn) :: rest) (fun _ us => P us) F h1 h2
theorem zm62 : True := by
  (k_with "S150.eval IfExp" => k_extra "R76")
  (k_with "S150.call ref" => k_extra "R112")
  trivial
namespace law_heads0_
def zA (w : World) (d : Addr) (lw : Addr) (lo : Addr) (ls : Addr) (lt : Addr) (o : Obj) (dv : Value) (sv : Value) (done : Bool) (nw : Nat) (no : Nat) (ns : Nat) (uw : List Value) (uo : List Value) (us : List Value) (st : St) (wb : List (List UInt8)) (zk : Cal) : Prop := ∀ (hd9 : o.IsDictOf (PySem.strKind PG w) (wP lw lo ls lt dv sv done)), ∀ (hR : RowsAre uw st.wants), ∀ (hO : StrsAre uo (wb.map strOf)), ∀ (hS : RowsAre us st.shallow), ∀ (hD : OptI st.depth dv), ∀ (hN : OptI st.since sv), ∀ (hwl : ∀ b ∈ st.wants, b.length ≤ 64), ∀ (hsl : ∀ b ∈ st.shallow, b.length ≤ 64), ∀ (hwb1 : ∀ b ∈ wb, b.length ≤ 100), ∀ (hwbn : wb.length ≤ 3), ∀ (hwn : st.wants.length ≤ 3), ∀ (hsn : st.shallow.length ≤ 3), ∀ (hdr : ∀ i, st.depth = some i → 0 ≤ i ∧ i < 100), ∀ (hsr : ∀ i, st.since = some i → 0 ≤ i ∧ i < 100), ∀ (hne : [d, lw, lo, ls].Nodup), SpecAt w 241 [.ref d] 5 50 [(d, o), (lw, listOf uw.toArray nw), (lo, listOf uo.toArray no), (ls, listOf us.toArray ns)]
      (fun v n' => ∃ D rs nr, v = .ref D ∧ StrsAre rs ((headsL st wb).map strOf) ∧ n' = [(D, listOf rs.toArray nr), (d, o), (lw, listOf uw.toArray nw), (lo, listOf uo.toArray no), (ls, listOf us.toArray ns)]) False zk
@[irreducible] noncomputable def zx : Zst × St := sk ⟨(Classical.choice neZst, ⟨[], [], [], none, none⟩)⟩ fun z => zA (z.1.w) (z.1.n 0) (z.1.n 1) (z.1.n 2) (z.1.n 3) (z.1.n 4) (z.1.o 0) (z.1.v 0) (z.1.v 1) (z.1.b 0) (z.1.n 5) (z.1.n 6) (z.1.n 7) (z.1.lv 0) (z.1.lv 1) (z.1.lv 2) (z.2) (z.1.ll 0) (z.1.c)
@[irreducible] noncomputable def d : Addr := zx.1.n 0
@[irreducible] noncomputable def lw : Addr := zx.1.n 1
@[irreducible] noncomputable def lo : Addr := zx.1.n 2
@[irreducible] noncomputable def ls : Addr := zx.1.n 3
@[irreducible] noncomputable def o : Obj := zx.1.o 0
@[irreducible] noncomputable def dv : Value := zx.1.v 0
@[irreducible] noncomputable def sv : Value := zx.1.v 1
@[irreducible] noncomputable def nw : Nat := zx.1.n 5
@[irreducible] noncomputable def no : Nat := zx.1.n 6
@[irreducible] noncomputable def ns : Nat := zx.1.n 7
@[irreducible] noncomputable def uw : List Value := zx.1.lv 0
@[irreducible] noncomputable def uo : List Value := zx.1.lv 1
@[irreducible] noncomputable def us : List Value := zx.1.lv 2
@[irreducible] noncomputable def st : St := zx.2
@[irreducible] noncomputable def wb : List (List UInt8) := zx.1.ll 0
def zT (P1 : World → Addr → Addr → Addr → Addr → Addr → Obj → Bool → Nat → Nat → Nat → (List Value) → (List Value) → (List Value) → St → (List (List UInt8)) → Cal → Value → Value → Heap → Addr → Heap → Nat → Prop) : Prop := ∀ w d lw lo ls lt o dv sv done nw no ns uw uo us st wb zk, (∀ y0 y1 y2 y3 y4 y5, P1 w d lw lo ls lt o done nw no ns uw uo us st wb zk y0 y1 y2 y3 y4 y5) → zA w d lw lo ls lt o dv sv done nw no ns uw uo us st wb zk
noncomputable def zs : { P : Value → Value → Heap → Addr → Heap → Nat → Prop // (∀ y0 y1 y2 y3 y4 y5, P y0 y1 y2 y3 y4 y5) → zA (zx.1.w) d lw lo ls (zx.1.n 4) o dv sv (zx.1.b 0) nw no ns uw uo us st wb (zx.1.c) } := by
  refine' ⟨_, (_ : zT _) (zx.1.w) d lw lo ls (zx.1.n 4) o dv sv (zx.1.b 0) nw no ns uw uo us st wb (zx.1.c)⟩
  rotate_left 1
  · intro w d lw lo ls lt o dv sv done nw no ns uw uo us st wb zk zR1 hd9 hR hO hS hD hN hwl hsl hwb1 hwbn hwn hsn hdr hsr hne
    w_strict (
     have hwl2 := hR.length
     have hol2 := hO.length
     rw [List.length_map] at hol2
     intro B F X N T hk hd hu hret hexc
     walk_at "my enter"
     (revert hd9 hR hO hS hD hN hwl hsl hwb1 hwbn hwn hsn hdr hsr hne hwl2 hol2 B F X N T hk hd hu hret hexc FG' F' N' B' X' T' kG'; exact zR1 dv sv g' L' h' tk')
    )
@[irreducible] noncomputable def zP1 : Value → Value → Heap → Addr → Heap → Nat → Prop := Mine.law_heads0_.zs.1
theorem zp1 : zP1 = Mine.law_heads0_.zs.1 := by with_unfolding_all rfl
namespace z1
@[irreducible] noncomputable def zx : Zst := sk neZst fun z => Mine.law_heads0_.zP1 (z.v 0) (z.v 1) (z.h 0) (z.n 0) (z.h 1) (z.n 1)
@[irreducible] noncomputable def dv : Value := zx.v 0
@[irreducible] noncomputable def sv : Value := zx.v 1
@[irreducible] noncomputable def h' : Heap := zx.h 1
def zT (P1 : Heap → Addr → Heap → Nat → Value → Value → (List Value) → Heap → Nat → Addr → Prop) : Prop := ∀ dv sv g' L' h' tk', (∀ y0 y1 y2 y3 y4 y5, P1 g' L' h' tk' y0 y1 y2 y3 y4 y5) → Mine.law_heads0_.zs.1 dv sv g' L' h' tk'
noncomputable def zs : { P : Value → Value → (List Value) → Heap → Nat → Addr → Prop // (∀ y0 y1 y2 y3 y4 y5, P y0 y1 y2 y3 y4 y5) → Mine.law_heads0_.zs.1 dv sv (zx.h 0) (zx.n 0) h' (zx.n 1) } := by
  refine' ⟨_, (_ : zT _) dv sv (zx.h 0) (zx.n 0) h' (zx.n 1)⟩
  rotate_left 1
  · intro dv sv g' L' h' tk' zR1 hd9 hR hO hS hD hN hwl hsl hwb1 hwbn hwn hsn hdr hsr hne hwl2 hol2 B F X N T hk hd hu hret hexc FG' F' N' B' X' T' kG'
    w_strict (
     k_steps
     unfold Hold
     refine rest_news (fun j ys => StrsAre ys ((st.wants.take j).map fun b => strOf (wantW b))) .nil ?_ ?_
     · rintro j ys v I oI C oC D' m₂ h' tkI' E' hj hys hvj hoC hx F₂ N₂ off ne
       obtain ⟨b, tb, rfl, hb⟩ := hR.get (by simpa using hvj)
       have hb64 := hwl b (List.mem_of_getElem? hb)
       have hxl : (strOf (hexB b)).length ≤ 100000 := by rw [strOf_length, hexB_length]; omega
       k_steps
       rw [take_succ hb, List.map_append, lit_want, str_cat]
       exact hys.append' (.cons _ _ .nil)
     · intro ys hys
       rw [show uw.toArray.size = st.wants.length by simp [hwl2], List.take_length] at hys
       k_steps
       unfold Hold
       rename News _ _ _ _ => N9
       obtain ⟨D, rfl⟩ := nameD N9
       (rename_i zi1x1 zi1x2 zi1x3 zi1x4 zi1x5; revert hd9 hR hO hS hD hN hwl hsl hwb1 hwbn hwn hsn hdr hsr hne hwl2 hol2 B F X N T hk hd hu hret hexc FG' F' N' B' X' T' kG' hys zi1x4 N9 zi1x5; exact zR1 dv sv ys zi1x2 zi1x3 D)
    )
@[irreducible] noncomputable def zP1 : Value → Value → (List Value) → Heap → Nat → Addr → Prop := Mine.law_heads0_.z1.zs.1
theorem zp1 : zP1 = Mine.law_heads0_.z1.zs.1 := by with_unfolding_all rfl
namespace z1
@[irreducible] noncomputable def zx : Zst := sk neZst fun z => Mine.law_heads0_.z1.zP1 (z.v 0) (z.v 1) (z.lv 0) (z.h 0) (z.n 0) (z.n 1)
@[irreducible] noncomputable def ys : List Value := zx.lv 0
def zT (P1 : Value → Value → Heap → Nat → Addr → (List UInt8) → (List (List UInt8)) → Tok → (List Value) → Prop) (P2 : (List Value) → Heap → Nat → Addr → Value → Value → Heap → Nat → (List Value) → Nat → Prop) : Prop := ∀ dv sv ys zi1x2 zi1x3 D, (∀ y0 y1 y2 y3, P1 dv sv zi1x2 zi1x3 D y0 y1 y2 y3) → (∀ y0 y1 y2 y3 y4 y5, P2 ys zi1x2 zi1x3 D y0 y1 y2 y3 y4 y5) → Mine.law_heads0_.z1.zs.1 dv sv ys zi1x2 zi1x3 D
noncomputable def zs : { P : ((List UInt8) → (List (List UInt8)) → Tok → (List Value) → Prop) × (Value → Value → Heap → Nat → (List Value) → Nat → Prop) // (∀ y0 y1 y2 y3, P.1 y0 y1 y2 y3) → (∀ y0 y1 y2 y3 y4 y5, P.2 y0 y1 y2 y3 y4 y5) → Mine.law_heads0_.z1.zs.1 (zx.v 0) (zx.v 1) ys (zx.h 0) (zx.n 0) (zx.n 1) } := by
  refine' ⟨(_, _), (_ : zT _ _) (zx.v 0) (zx.v 1) ys (zx.h 0) (zx.n 0) (zx.n 1)⟩
  rotate_left 2
  · intro dv sv ys zi1x2 zi1x3 D zR1 zR2 hd9 hR hO hS hD hN hwl hsl hwb1 hwbn hwn hsn hdr hsr hne hwl2 hol2 B F X N T hk hd hu hret hexc FG' F' N' B' X' T' kG' hys zi1x4 N9 zi1x5
    w_strict (
     refine join_led (fun us' nn' => [(D, listOf us'.toArray nn'), (d, o), (lw, listOf uw.toArray nw), (lo, listOf uo.toArray no), (ls, listOf us.toArray ns)]) (fun us' => StrsAre us' ((wantsL wb st.wants).map strOf)) (by k_asm) ?if1 ?if2
     case if1 =>
       have mk9 : Mark9 := trivial
       obtain ⟨l0, hl0⟩ : ∃ l0, l0 = st.wants := ⟨_, rfl⟩
       rw [← hl0] at hys
       cases l0 with
       | nil =>
         cases hys
         have q1 : (!decide (([] : List Value).length = 0)) = false := rfl
         k_steps
         refine ⟨rfl, _, _, [], _, rfl, (by k_asm), (by refine News.sub_J (by assumption) ?_; walk_at "sub here"), ?_⟩
         rw [← hl0]
         exact .nil
       | cons b0 r0 =>
         rw [List.map_cons] at hys
         cases hys with
         | cons c0 t0 hys2 =>
           rename List Value => ys2
           have q1 : (!decide ((Value.str (strOf (wantW b0)) t0 :: ys2).length = 0)) = true := rfl
           (revert hd9 hR hO hS hD hN hwl hsl hwb1 hwbn hwn hsn hdr hsr hne hwl2 hol2 B F X N T hk hd hu hret hexc FG' F' N' B' X' T' kG' zi1x4 zi1x5 mk9 hl0 N9 hys2 q1; exact zR1 b0 r0 t0 ys2)
     case if2 =>
       intro h tkI us1 nn1 F₁ N₁ hP
       clear N9
       have hPl := hP.length
       rw [List.length_map] at hPl
       have hwl3 : (wantsL wb st.wants).length = st.wants.length := by unfold wantsL; simp
       have hsl2 := hS.length
       walk_at "tidy"
       (rename_i zi2x1 zi2x2 zi2x3; revert hd9 hR hO hS hD hN hwl hsl hwb1 hwbn hwn hsn hdr hsr hne hwl2 hol2 B X T hk hd hu hret hexc B' X' T' kG' hys hP hPl hwl3 hsl2 zi2x1 zi2x2 zi2x3 z6 lF9 lN9; exact zR2 dv sv h tkI us1 nn1)
    )
@[irreducible] noncomputable def zP1 : (List UInt8) → (List (List UInt8)) → Tok → (List Value) → Prop := Mine.law_heads0_.z1.z1.zs.1.1
theorem zp1 : zP1 = Mine.law_heads0_.z1.z1.zs.1.1 := by with_unfolding_all rfl
namespace z1
@[irreducible] noncomputable def zx : Zst := sk neZst fun z => Mine.law_heads0_.z1.z1.zP1 (z.lu 0) (z.ll 0) (z.n 0) (z.lv 0)
theorem zgo : Mine.law_heads0_.z1.z1.zP1 (zx.lu 0) (zx.ll 0) (zx.n 0) (zx.lv 0) := by
  refine' zcast Mine.law_heads0_.z1.z1.zp1 (fun zf => zf (zx.lu 0) (zx.ll 0) (zx.n 0) (zx.lv 0)) ((_ : ∀ b0 r0 t0 ys2, Mine.law_heads0_.z1.z1.zs.1.1 b0 r0 t0 ys2) (zx.lu 0) (zx.ll 0) (zx.n 0) (zx.lv 0))
  intro b0 r0 t0 ys2 hd9 hR hO hS hD hN hwl hsl hwb1 hwbn hwn hsn hdr hsr hne hwl2 hol2 B F X N T hk hd hu hret hexc FG' F' N' B' X' T' kG' zi1x4 zi1x5 mk9 hl0 N9 hys2 q1
  w_strict (
   k_steps
   unfold Hold
   refine rest_news (fun j ys => StrsAre ys (((wb.map strOf).map spc).take j)) .nil ?_ ?_
   · rintro j ys v I oI C oC D' m₂ h' tkI' E' hj hys hvj hoC hx F₂ N₂ off ne
     obtain ⟨y9, t9, rfl, hy9⟩ := hO.item j v (by simpa using hvj)
     have hyl : y9.length ≤ 100000 := by
       rw [List.getElem?_map] at hy9
       cases hq : wb[j]? with
       | none => rw [hq] at hy9; cases hy9
       | some c =>
         rw [hq] at hy9
         obtain rfl := Option.some.inj hy9
         have := hwb1 c (List.mem_of_getElem? hq)
         rw [strOf_length]
         omega
     walk_at "tidy"
     k_steps
     rw [take_succ (show ((wb.map strOf).map spc)[j]? = some (spc y9) by rw [List.getElem?_map, hy9]; rfl)]
     exact hys.append' (.cons _ _ .nil)
   · intro ys hys
     rw [show uo.toArray.size = ((wb.map strOf).map spc).length by simp [hol2], List.take_length] at hys
     have hyl2 := hys.length
     rw [List.length_map, List.length_map] at hyl2
     k_steps
     unfold Hold
     simp only [List.cons_append, List.nil_append]
     have hws := words_len wb hwb1 hwbn
     have hhl : (hexB b0).length = 2 * b0.length := hexB_length b0
     have hb0 := hwl b0 (by rw [← hl0]; exact List.mem_cons_self)
     refine join_list (ys := strOf (wantW b0) :: (wb.map strOf).map spc) (News.isList (by k_asm) (by k_mem)) (.cons _ _ hys) ?sz ?_
     case sz =>
       rw [List.map_cons, List.sum_cons, sum_spc, strOf_length]
       show (wantW b0).length + (wordsB wb).length + _ * 0 ≤ _
       have hW5 : WANT.length = 5 := rfl
       unfold wantW
       rw [List.length_append, hW5, Nat.mul_zero]
       omega
     intro t9 k9
     rw [join_empty, cat_cons, cat_spc, show S ((wb.flatMap (32 :: ·)).map UInt8.toNat) = strOf (wordsB wb) from rfl, str_cat]
     k_steps
     · assumption
     · (refine News.sub_J (by assumption) ?_; walk_at "sub here")
     · rw [← hl0, wantsL_cons]
       exact .cons _ _ hys2
  )
theorem zall : ∀ z : Zst, Mine.law_heads0_.z1.z1.zP1 (z.lu 0) (z.ll 0) (z.n 0) (z.lv 0) := by refine @sk_all _ neZst _ ?_; with_unfolding_all exact zgo
end z1
@[irreducible] noncomputable def zP2 : Value → Value → Heap → Nat → (List Value) → Nat → Prop := Mine.law_heads0_.z1.z1.zs.1.2
theorem zp2 : zP2 = Mine.law_heads0_.z1.z1.zs.1.2 := by with_unfolding_all rfl
namespace z2
@[irreducible] noncomputable def zx : Zst := sk neZst fun z => Mine.law_heads0_.z1.z1.zP2 (z.v 0) (z.v 1) (z.h 0) (z.n 0) (z.lv 0) (z.n 1)
theorem zgo : Mine.law_heads0_.z1.z1.zP2 (zx.v 0) (zx.v 1) (zx.h 0) (zx.n 0) (zx.lv 0) (zx.n 1) := by
  refine' zcast Mine.law_heads0_.z1.z1.zp2 (fun zf => zf (zx.v 0) (zx.v 1) (zx.h 0) (zx.n 0) (zx.lv 0) (zx.n 1)) ((_ : ∀ dv sv h tkI us1 nn1, Mine.law_heads0_.z1.z1.zs.1.2 dv sv h tkI us1 nn1) (zx.v 0) (zx.v 1) (zx.h 0) (zx.n 0) (zx.lv 0) (zx.n 1))
  intro dv sv h tkI us1 nn1 hd9 hR hO hS hD hN hwl hsl hwb1 hwbn hwn hsn hdr hsr hne hwl2 hol2 B X T hk hd hu hret hexc B' X' T' kG' hys hP hPl hwl3 hsl2 zi2x1 zi2x2 zi2x3 z6 lF9 lN9
  w_strict (
   k_steps
   unfold Hold
   refine rest_news (fun j ys => StrsAre ys ((st.shallow.take j).map fun b => strOf (SHAL ++ hexB b))) .nil ?_ ?_
   · rintro j ys v I oI C oC D' m₂ h' tkI' E' hj hys hvj hoC hx F₂ N₂ off ne
     obtain ⟨b, tb, rfl, hb⟩ := hS.get (by simpa using hvj)
     have hb64 := hsl b (List.mem_of_getElem? hb)
     have hxl : (strOf (hexB b)).length ≤ 100000 := by rw [strOf_length, hexB_length]; omega
     k_steps
     rw [take_succ hb, List.map_append, lit_shal, str_cat]
     exact hys.append' (.cons _ _ .nil)
   · intro ys hys
     rw [show us.toArray.size = st.shallow.length by simp [hsl2], List.take_length] at hys
     have hyl := hys.length
     rw [List.length_map] at hyl
     obtain ⟨oD, hoD⟩ : ∃ q, q = st.depth := ⟨_, rfl⟩
     obtain ⟨oN, hoN⟩ : ∃ q, q = st.since := ⟨_, rfl⟩
     rw [← hoD] at hD
     rw [← hoN] at hN
     have hHe := heads_map st wb hoD hoN
     k_steps
     unfold Hold
     refine join_new (fun us => StrsAre us ((optL DEEP oD).map strOf)) (by k_asm) (by k_asm) ?ie1 ?ie2
     case ie1 =>
       have mk9 : Mark9 := trivial
       cases hD with
       | none =>
         k_steps
         unfold Hold
         exact ⟨_, _, _, _, _, rfl, rfl, by k_asm, by k_asm, .nil⟩
       | some iD tD =>
         obtain ⟨hd1, hd2⟩ := hdr iD hoD.symm
         obtain ⟨nD, hnD⟩ : ∃ n : Nat, iD = (n : Int) := ⟨iD.toNat, by omega⟩
         have hnD2 : nD < 100 := by omega
         have hyD : (strOf (decB nD)).length ≤ 100000 := by rw [strOf_length]; have := dec_len nD; omega
         k_steps
         unfold Hold
         exact ⟨_, _, _, _, _, rfl, rfl, by k_asm, by k_asm, optS (DEEP) hnD (show Str.ofString "deepen " ++ strOf (decB nD) = _ by rw [lit_deep, str_cat])⟩
     case ie2 =>
       intro D5 us5 nn5 h5 tk5 F5 N5 hP5
       have hP5l : us5.length ≤ 1 := by rw [hP5.length, List.length_map]; cases oD <;> first | decide | exact Nat.le_refl _
       walk_at "tidy"
       k_steps
       unfold Hold
       refine join_new (fun us => StrsAre us ((optL SINC oN).map strOf)) (by k_asm) (by k_asm) ?if5 ?if6
       case if5 =>
         have mk9 : Mark9 := trivial
         cases hN with
         | none =>
           k_steps
           unfold Hold
           exact ⟨_, _, _, _, _, rfl, rfl, by k_asm, by k_asm, .nil⟩
         | some iN tN =>
           obtain ⟨hn1, hn2⟩ := hsr iN hoN.symm
           obtain ⟨nN, hnN⟩ : ∃ n : Nat, iN = (n : Int) := ⟨iN.toNat, by omega⟩
           have hnN2 : nN < 100 := by omega
           have hyN : (strOf (decB nN)).length ≤ 100000 := by rw [strOf_length]; have := dec_len nN; omega
           k_steps
           unfold Hold
           exact ⟨_, _, _, _, _, rfl, rfl, by k_asm, by k_asm, optS (SINC) hnN (show Str.ofString "deepen-since " ++ strOf (decB nN) = _ by rw [lit_sinc, str_cat])⟩
       case if6 =>
         intro D6 us6 nn6 h6 tk6 F6 N6 hP6
         have hP6l : us6.length ≤ 1 := by rw [hP6.length, List.length_map]; cases oN <;> first | decide | exact Nat.le_refl _
         walk_at "tidy"
         k_steps
         (refine' hret _ _ _ _ ⟨_, _, _, rfl, heads_ok hHe (((hP.append' (by assumption)).append' hP5).append' hP6), rfl⟩ ?zF325 ?zN325 ?zK325; (case zF325 => assumption); (case zN325 => (refine News.sub_J (by assumption) ?_; walk_at "sub here")); (case zK325 => exact kept_of (by assumption) (by assumption) (News.sub_J (by assumption) (by walk_at "sub here"))))
  )
theorem zall : ∀ z : Zst, Mine.law_heads0_.z1.z1.zP2 (z.v 0) (z.v 1) (z.h 0) (z.n 0) (z.lv 0) (z.n 1) := by refine @sk_all _ neZst _ ?_; with_unfolding_all exact zgo
end z2
theorem zgo : Mine.law_heads0_.z1.zP1 (zx.v 0) (zx.v 1) ys (zx.h 0) (zx.n 0) (zx.n 1) := zcast Mine.law_heads0_.z1.zp1 (fun zf => zf (zx.v 0) (zx.v 1) ys (zx.h 0) (zx.n 0) (zx.n 1)) (zs.2 (by rw [← zp1]; exact fun y0 y1 y2 y3 => z1.zall (zmk zw zk0 [y2] [] [] [] [] [] [] [] [y3] [y0] [y1] [] [] [] [] [])) (by rw [← zp2]; exact fun y0 y1 y2 y3 y4 y5 => z2.zall (zmk zw zk0 [y3, y5] [] [] [] [y0, y1] [] [y2] [] [y4] [] [] [] [] [] [] [])))
theorem zall : ∀ z : Zst, Mine.law_heads0_.z1.zP1 (z.v 0) (z.v 1) (z.lv 0) (z.h 0) (z.n 0) (z.n 1) := by refine @sk_all _ neZst _ ?_; with_unfolding_all exact zgo
end z1
theorem zgo : Mine.law_heads0_.zP1 dv sv (zx.h 0) (zx.n 0) h' (zx.n 1) := zcast Mine.law_heads0_.zp1 (fun zf => zf dv sv (zx.h 0) (zx.n 0) h' (zx.n 1)) (zs.2 (by rw [← zp1]; exact fun y0 y1 y2 y3 y4 y5 => z1.zall (zmk zw zk0 [y4, y5] [] [] [] [y0, y1] [] [y3] [] [y2] [] [] [] [] [] [] [])))
theorem zall : ∀ z : Zst, Mine.law_heads0_.zP1 (z.v 0) (z.v 1) (z.h 0) (z.n 0) (z.h 1) (z.n 1) := by refine @sk_all _ neZst _ ?_; with_unfolding_all exact zgo
end z1
theorem zgo : zA (zx.1.w) d lw lo ls (zx.1.n 4) o dv sv (zx.1.b 0) nw no ns uw uo us st wb (zx.1.c) := zs.2 (by rw [← zp1]; exact fun y0 y1 y2 y3 y4 y5 => z1.zall (zmk zw zk0 [y3, y5] [] [] [] [y0, y1] [] [y2, y4] [] [] [] [] [] [] [] [] []))
theorem zall : ∀ z : Zst × St, zA (z.1.w) (z.1.n 0) (z.1.n 1) (z.1.n 2) (z.1.n 3) (z.1.n 4) (z.1.o 0) (z.1.v 0) (z.1.v 1) (z.1.b 0) (z.1.n 5) (z.1.n 6) (z.1.n 7) (z.1.lv 0) (z.1.lv 1) (z.1.lv 2) (z.2) (z.1.ll 0) (z.1.c) := by refine @sk_all _ ⟨(Classical.choice neZst, ⟨[], [], [], none, none⟩)⟩ _ ?_; with_unfolding_all exact zgo
end law_heads0_
theorem law_heads0 (w : World) (d lw lo ls lt : Addr) (o : Obj) (dv sv : Value) (done : Bool) (nw no ns : Nat) (uw uo us : List Value) (st : St) (wb : List (List UInt8)) (hd9 : o.IsDictOf (PySem.strKind PG w) (wP lw lo ls lt dv sv done))
    (hR : RowsAre uw st.wants) (hO : StrsAre uo (wb.map strOf)) (hS : RowsAre us st.shallow) (hD : OptI st.depth dv) (hN : OptI st.since sv) (hwl : ∀ b ∈ st.wants, b.length ≤ 64) (hsl : ∀ b ∈ st.shallow, b.length ≤ 64) (hwb1 : ∀ b ∈ wb, b.length ≤ 100) (hwbn : wb.length ≤ 3) (hwn : st.wants.length ≤ 3) (hsn : st.shallow.length ≤ 3)
    (hdr : ∀ i, st.depth = some i → 0 ≤ i ∧ i < 100) (hsr : ∀ i, st.since = some i → 0 ≤ i ∧ i < 100) (hne : [d, lw, lo, ls].Nodup) : 
    Spec w 241 [.ref d] 5 50 [(d, o), (lw, listOf uw.toArray nw), (lo, listOf uo.toArray no), (ls, listOf us.toArray ns)]
      (fun v n' => ∃ D rs nr, v = .ref D ∧ StrsAre rs ((headsL st wb).map strOf) ∧ n' = [(D, listOf rs.toArray nr), (d, o), (lw, listOf uw.toArray nw), (lo, listOf uo.toArray no), (ls, listOf us.toArray ns)]) False := Spec.cut fun zk => Mine.law_heads0_.zall ((zmk w zk [d, lw, lo, ls, lt, nw, no, ns] [] [done] [] [dv, sv] [o] [] [] [uw, uo, us] [] [wb] [] [] [] [] []), st) hd9 hR hO hS hD hN hwl hsl hwb1 hwbn hwn hsn hdr hsr hne
end sQd
theorem fl46 : True := by first | walk1 | trivial

section sQe

local macro_rules | `(tactic| walk_at $s:str) => `(tactic| k_extra $(Lean.Syntax.mkStrLit ("S156." ++ s.getString)))
theorem zm63 : True := by
  (k_with "S156.binaryOp Add ref ref" => k_extra "R109")
  (k_with "S156.eval ListComp" => k_extra "R111")
  trivial
theorem RowStrs.append' {us vs : List Value} {xs ys : List Item} (h : RowStrs us xs) (k : RowStrs vs ys) : RowStrs (us ++ vs) (xs ++ ys) := by
  induction h with
  | nil => exact k
  | cons c _ ih => exact .cons c ih
theorem lit_have : Str.ofString "have " = strOf haveL := by decide +kernel
theorem lit_done : Str.ofString "done" = strOf DONE := by decide +kernel
theorem strIs_done (t : Tok) : StrIs (some DONE) (.str (Str.ofString "done") t) := by rw [lit_done]; exact .some _ _
theorem rows_ok {rs : List Value} {ys zs : List Item} (e : ys = zs) (h : RowStrs rs zs) : RowStrs rs ys := e ▸ h
theorem zm64 : True := by
  (k_with "S156.call ref" => k_extra "R112")
  trivial
namespace law_tails_
def zA (w : World) (d : Addr) (lw : Addr) (lo : Addr) (ls : Addr) (lt : Addr) (o : Obj) (dv : Value) (sv : Value) (done : Bool) (nt : Nat) (uk : List Value) (tkI : List Item) (zk : Cal) : Prop := ∀ (hd9 : o.IsDictOf (PySem.strKind PG w) (wP lw lo ls lt dv sv done)), ∀ (hT : TalkAre uk tkI), ∀ (htl : ∀ b, some b ∈ tkI → b.length ≤ 64), ∀ (htn : tkI.length ≤ 3), ∀ (hne : d ≠ lt), SpecAt w 246 [.ref d] 5 50 [(d, o), (lt, listOf uk.toArray nt)]
      (fun v n' => ∃ D rs nr, v = .ref D ∧ RowStrs rs (tailsL tkI done) ∧ n' = [(D, listOf rs.toArray nr), (d, o), (lt, listOf uk.toArray nt)]) False zk
@[irreducible] noncomputable def zx : Zst × (List Item) := sk ⟨(Classical.choice neZst, default)⟩ fun z => zA (z.1.w) (z.1.n 0) (z.1.n 1) (z.1.n 2) (z.1.n 3) (z.1.n 4) (z.1.o 0) (z.1.v 0) (z.1.v 1) (z.1.b 0) (z.1.n 5) (z.1.lv 0) (z.2) (z.1.c)
@[irreducible] noncomputable def done : Bool := zx.1.b 0
@[irreducible] noncomputable def uk : List Value := zx.1.lv 0
@[irreducible] noncomputable def tkI : List Item := zx.2
def zT (P1 : World → Addr → Addr → Addr → Addr → Addr → Obj → Value → Value → Nat → (List Value) → (List Item) → Cal → Bool → Heap → Addr → Heap → Nat → Prop) : Prop := ∀ w d lw lo ls lt o dv sv done nt uk tkI zk, (∀ y0 y1 y2 y3 y4, P1 w d lw lo ls lt o dv sv nt uk tkI zk y0 y1 y2 y3 y4) → zA w d lw lo ls lt o dv sv done nt uk tkI zk
noncomputable def zs : { P : Bool → Heap → Addr → Heap → Nat → Prop // (∀ y0 y1 y2 y3 y4, P y0 y1 y2 y3 y4) → zA (zx.1.w) (zx.1.n 0) (zx.1.n 1) (zx.1.n 2) (zx.1.n 3) (zx.1.n 4) (zx.1.o 0) (zx.1.v 0) (zx.1.v 1) done (zx.1.n 5) uk tkI (zx.1.c) } := by
  refine' ⟨_, (_ : zT _) (zx.1.w) (zx.1.n 0) (zx.1.n 1) (zx.1.n 2) (zx.1.n 3) (zx.1.n 4) (zx.1.o 0) (zx.1.v 0) (zx.1.v 1) done (zx.1.n 5) uk tkI (zx.1.c)⟩
  rotate_left 1
  · intro w d lw lo ls lt o dv sv done nt uk tkI zk zR1 hd9 hT htl htn hne
    w_strict (
     have htl2 := hT.length
     intro B F X N T hk hd hu hret hexc
     walk_at "my enter"
     (revert hd9 hT htl htn hne htl2 B F X N T hk hd hu hret hexc FG' F' N' B' X' T' kG'; exact zR1 done g' L' h' tk')
    )
@[irreducible] noncomputable def zP1 : Bool → Heap → Addr → Heap → Nat → Prop := Mine.law_tails_.zs.1
theorem zp1 : zP1 = Mine.law_tails_.zs.1 := by with_unfolding_all rfl
namespace z1
@[irreducible] noncomputable def zx : Zst := sk neZst fun z => Mine.law_tails_.zP1 (z.b 0) (z.h 0) (z.n 0) (z.h 1) (z.n 1)
theorem zgo : Mine.law_tails_.zP1 (zx.b 0) (zx.h 0) (zx.n 0) (zx.h 1) (zx.n 1) := by
  refine' zcast Mine.law_tails_.zp1 (fun zf => zf (zx.b 0) (zx.h 0) (zx.n 0) (zx.h 1) (zx.n 1)) ((_ : ∀ done g' L' h' tk', Mine.law_tails_.zs.1 done g' L' h' tk') (zx.b 0) (zx.h 0) (zx.n 0) (zx.h 1) (zx.n 1))
  intro done g' L' h' tk' hd9 hT htl htn hne htl2 B F X N T hk hd hu hret hexc FG' F' N' B' X' T' kG'
  w_strict (
   k_steps
   unfold Hold
   refine rest_news (fun j ys => RowStrs ys ((tkI.take j).map (fun it => it.map fun b => haveL ++ hexB b))) .nil ?_ ?_
   · rintro j ys v I oI C oC D' m₂ h' tkI' E' hj hys hvj hoC hx F₂ N₂ off ne
     obtain ⟨it, hit, hb⟩ := hT.get (by simpa using hvj)
     rw [take_succ hb, List.map_append]
     cases it with
     | none =>
       obtain ⟨tb, rfl⟩ := hit
       k_steps
       exact hys.append' (.cons .none .nil)
     | some b =>
       obtain ⟨tb, rfl⟩ := hit
       have hb64 := htl b (List.mem_of_getElem? hb)
       have hxl : (strOf (hexB b)).length ≤ 100000 := by rw [strOf_length, hexB_length]; omega
       k_steps
       refine hys.append' (.cons ?_ .nil)
       rw [lit_have, str_cat]
       exact .some _ _
   · intro ys hys
     rw [show uk.toArray.size = tkI.length by simp [htl2], List.take_length] at hys
     have hyl := hys.length
     rw [List.length_map] at hyl
     cases done with
     | true =>
       k_steps
       (refine' hret _ _ _ _ ⟨_, _, _, rfl, rows_ok (show tailsL tkI true = (tkI.map fun it => it.map fun b => haveL ++ hexB b) ++ [some DONE] from rfl) (RowStrs.append' (by assumption) (.cons (strIs_done _) .nil)), rfl⟩ ?zF64 ?zN64 ?zK64; (case zF64 => assumption); (case zN64 => (refine News.sub_J (by assumption) ?_; walk_at "sub here")); (case zK64 => exact kept_of (by assumption) (by assumption) (News.sub_J (by assumption) (by walk_at "sub here"))))
     | false =>
       k_steps
       (refine' hret _ _ _ _ ⟨_, _, _, rfl, rows_ok (show tailsL tkI false = (tkI.map fun it => it.map fun b => haveL ++ hexB b) ++ [] from rfl) (RowStrs.append' (by assumption) .nil), rfl⟩ ?zF67 ?zN67 ?zK67; (case zF67 => assumption); (case zN67 => (refine News.sub_J (by assumption) ?_; walk_at "sub here")); (case zK67 => exact kept_of (by assumption) (by assumption) (News.sub_J (by assumption) (by walk_at "sub here"))))
  )
theorem zall : ∀ z : Zst, Mine.law_tails_.zP1 (z.b 0) (z.h 0) (z.n 0) (z.h 1) (z.n 1) := by refine @sk_all _ neZst _ ?_; with_unfolding_all exact zgo
end z1
theorem zgo : zA (zx.1.w) (zx.1.n 0) (zx.1.n 1) (zx.1.n 2) (zx.1.n 3) (zx.1.n 4) (zx.1.o 0) (zx.1.v 0) (zx.1.v 1) done (zx.1.n 5) uk tkI (zx.1.c) := zs.2 (by rw [← zp1]; exact fun y0 y1 y2 y3 y4 => z1.zall (zmk zw zk0 [y2, y4] [] [y0] [] [] [] [y1, y3] [] [] [] [] [] [] [] [] []))
theorem zall : ∀ z : Zst × (List Item), zA (z.1.w) (z.1.n 0) (z.1.n 1) (z.1.n 2) (z.1.n 3) (z.1.n 4) (z.1.o 0) (z.1.v 0) (z.1.v 1) (z.1.b 0) (z.1.n 5) (z.1.lv 0) (z.2) (z.1.c) := by refine @sk_all _ ⟨(Classical.choice neZst, default)⟩ _ ?_; with_unfolding_all exact zgo
end law_tails_
theorem law_tails (w : World) (d lw lo ls lt : Addr) (o : Obj) (dv sv : Value) (done : Bool) (nt : Nat) (uk : List Value) (tkI : List Item) (hd9 : o.IsDictOf (PySem.strKind PG w) (wP lw lo ls lt dv sv done))
    (hT : TalkAre uk tkI) (htl : ∀ b, some b ∈ tkI → b.length ≤ 64) (htn : tkI.length ≤ 3) (hne : d ≠ lt) : 
    Spec w 246 [.ref d] 5 50 [(d, o), (lt, listOf uk.toArray nt)]
      (fun v n' => ∃ D rs nr, v = .ref D ∧ RowStrs rs (tailsL tkI done) ∧ n' = [(D, listOf rs.toArray nr), (d, o), (lt, listOf uk.toArray nt)]) False := Spec.cut fun zk => Mine.law_tails_.zall ((zmk w zk [d, lw, lo, ls, lt, nt] [] [done] [] [dv, sv] [o] [] [] [uk] [] [] [] [] [] [] []), tkI) hd9 hT htl htn hne
end sQe
theorem fl47 : True := by first | walk1 | trivial

local macro_rules | `(tactic| k_ne) => `(tactic| k_extra "R113")
local macro_rules | `(tactic| walk_at $s:str) => `(tactic| k_extra $(Lean.Syntax.mkStrLit ("S159." ++ s.getString)))
theorem zm65 : True := by
  (k_with "S159.del" => k_extra "R114")
  (k_with "S159.exec Assign cons ListComp" => k_extra "R115")
  (k_with "S159.tidy2" => k_extra "R116")
  (k_with "S159.compareOp NotEq ref ref" => k_extra "R99")
  (k_with "S159.compareOp Eq ref ref" => k_extra "R84")
  (k_with "S159.binaryOp Add ref ref" => k_extra "R117")
  (k_with "S159.call type:list" => k_extra "R118")
  (k_with "S159.split" => k_extra "R10")
  (k_with "S159.tidy" => k_extra "R119")
  trivial
section sQf

def Mark8 : Prop := True
theorem sep_cons {a : Addr} {p : Addr × Obj} {l : List (Addr × Obj)} (h : p.1 ≠ a) (hl : ∀ q ∈ l, q.1 ≠ a) : ∀ q ∈ p :: l, q.1 ≠ a := by
  intro q hq
  rcases List.mem_cons.mp hq with rfl | hq
  · exact h
  · exact hl q hq
theorem sep_nil {a : Addr} : ∀ q ∈ ([] : List (Addr × Obj)), q.1 ≠ a := fun _ h => nomatch h
local macro_rules | `(tactic| walk_at $s:str) => `(tactic| k_extra $(Lean.Syntax.mkStrLit ("S160." ++ s.getString)))
theorem zm66 : True := by
  (k_with "S160.sep" => k_extra "R120")
  trivial
theorem Spec.use2S {w : World} {f : Addr} {vs : List Value} {dn un : Nat} {a b : Addr} {oa ob : Obj} {ok : Value → List (Addr × Obj) → Prop} {bad : Prop} (C : Spec w f vs dn un [(a, oa), (b, ob)] ok bad)
    {dp ut : Nat} {gd : Option (List Code)} {cn : PySem.Str} {cs : Scope} {a' : Addr} {ccd : Value} {cl : List (PySem.Str × Addr)} {outer : List Env} {A₀ : Around} {base h₀ : Heap} {L : Addr} {m mg mb : PySem.Str → Option Value} {mean : ExcName → Option Value} {s : Shared} {Q E : Value → Shared → Prop} {news n1 rest : List (Addr × Obj)}
    (B : Below A₀ base outer h₀) (F : Fr h₀ L s.heap m) (X : (hd.heap_1 w.params).In h₀) (N : News h₀ L s.heap news) (T : Top VW LS mean mg mb h₀) (hk : cs.kind = .function)
    (hd : dp + dn < recursionLimit) (hu : ut + un < cLine) (D1 : Del a oa news n1) (D2 : Del b ob n1 rest) (h1 : ∀ p ∈ rest, p.1 ≠ a) (h2 : ∀ p ∈ rest, p.1 ≠ b)
    (ret : ∀ (v : Value) (h' : Heap) (tk' : Nat) (mine' : List (Addr × Obj)), ok v mine' → Fr h₀ L h' m → News h₀ L h' (mine' ++ rest) → (∀ p ∈ rest, p.1 ≠ a) → (∀ p ∈ rest, p.1 ≠ b) → Q v { s with heap := h', toks := tk' })
    (exc : bad → Flies base (envX cn cs L a' ccd cl :: outer) s [(a, oa), (b, ob)] E) :
    wpAny (model PG w) (ktrTop dp ut gd cn cs L a' ccd cl outer) (call (.ref f) vs) Q E s :=
  C.use2 B F X N T hk hd hu D1 D2 h1 h2 (fun v h' tk' mine' ho F' N' _ => ret v h' tk' mine' ho F' N' h1 h2) exc
theorem use_draw {w : World} {d lf : Addr} {mx : Int} {tm : Tok} {o : Obj} {us : List Value} {ns : List Int} {nn : Nat} (hD : DeckOk w d lf mx tm o us ns) {many : Int} {t : Tok} (h1 : 1 ≤ many) (h2 : many ≤ 1000) (hne : d ≠ lf)
    {dp ut : Nat} {gd : Option (List Code)} {cn : PySem.Str} {cs : Scope} {a' : Addr} {ccd : Value} {cl : List (PySem.Str × Addr)} {outer : List Env} {A₀ : Around} {base h₀ : Heap} {L : Addr} {m mg mb : PySem.Str → Option Value} {mean : ExcName → Option Value} {s : Shared} {Q E : Value → Shared → Prop} {news n1 rest : List (Addr × Obj)}
    (B : Below A₀ base outer h₀) (F : Fr h₀ L s.heap m) (X : (hd.heap_1 w.params).In h₀) (N : News h₀ L s.heap news) (T : Top VW LS mean mg mb h₀) (hk : cs.kind = .function)
    (hd : dp + 2 < recursionLimit) (hu : ut + 20 < cLine) (D1 : Del d o news n1) (D2 : Del lf (listOf us.toArray nn) n1 rest) (s1 : ∀ p ∈ rest, p.1 ≠ d) (s2 : ∀ p ∈ rest, p.1 ≠ lf)
    (ret : ∀ (r : Int) (t' : Tok) (h' : Heap) (tk' : Nat) (mx' : Int) (tm' : Tok) (o' : Obj) (us' : List Value) (ns' : List Int) (nn' : Nat), 0 ≤ r → r < many → DeckOk w d lf mx' tm' o' us' ns' → Fr h₀ L h' m → News h₀ L h' ((d, o') :: (lf, listOf us'.toArray nn') :: rest) → (∀ p ∈ rest, p.1 ≠ d) → (∀ p ∈ rest, p.1 ≠ lf) → Q (.int r t') { s with heap := h', toks := tk' }) :
    wpAny (model PG w) (ktrTop dp ut gd cn cs L a' ccd cl outer) (call (.ref 221) [.ref d, .int many t]) Q E s :=
  (law_draw w d lf mx tm o us ns nn hD many t h1 h2 hne).use2 B F X N T hk hd hu D1 D2 s1 s2 (by
    rintro v h' tk' mine' ⟨⟨r, t', rfl, r0, r1⟩, mx', tm', o', us', ns', nn', hD', rfl⟩ F' N' _
    exact ret r t' h' tk' mx' tm' o' us' ns' nn' r0 r1 hD' F' N' s1 s2) (fun h => h.elim)
theorem zm67 : True := by
  (k_with "S160.call ref" => k_extra "R121")
  trivial
abbrev wV (v1 v2 v3 v4 v5 v6 v7 : Value) : List (PySem.Str × Value) := [("wants", v1), ("words", v2), ("shallow", v3), ("depth", v4), ("since", v5), ("talk", v6), ("is_done", v7)]
section
variable {v1 v2 v3 v4 v5 v6 v7 v : Value}
theorem sto1 : stored (wV v1 v2 v3 v4 v5 v6 v7) "wants" v = wV v v2 v3 v4 v5 v6 v7 := by with_unfolding_all rfl
theorem sto2 : stored (wV v1 v2 v3 v4 v5 v6 v7) "words" v = wV v1 v v3 v4 v5 v6 v7 := by with_unfolding_all rfl
theorem sto3 : stored (wV v1 v2 v3 v4 v5 v6 v7) "shallow" v = wV v1 v2 v v4 v5 v6 v7 := by with_unfolding_all rfl
theorem sto4 : stored (wV v1 v2 v3 v4 v5 v6 v7) "depth" v = wV v1 v2 v3 v v5 v6 v7 := by with_unfolding_all rfl
theorem sto5 : stored (wV v1 v2 v3 v4 v5 v6 v7) "since" v = wV v1 v2 v3 v4 v v6 v7 := by with_unfolding_all rfl
theorem sto6 : stored (wV v1 v2 v3 v4 v5 v6 v7) "talk" v = wV v1 v2 v3 v4 v5 v v7 := by with_unfolding_all rfl
theorem sto7 : stored (wV v1 v2 v3 v4 v5 v6 v7) "is_done" v = wV v1 v2 v3 v4 v5 v6 v := by with_unfolding_all rfl
end
theorem set_w {prog : Program} {w : World} {A : Around} {E : Value → Shared → Prop} {s : Shared} {h₀ : Heap} {L d : Addr} {m : PySem.Str → Option Value} {news : List (Addr × Obj)} {g : Obj → List (Addr × Obj)} {o : Obj} {kvs kvs' : List (PySem.Str × Value)} {k : PySem.Str} {t : Tok} {v : Value} {Q : Unit → Shared → Prop} (F : Fr h₀ L s.heap m) (N : News h₀ L s.heap news) (U : UpdF d o news g) (hd : o.IsDictOf (PySem.strKind prog w) kvs) (hst : stored kvs k v = kvs') (hsz : kvs.length ≤ 100)
    (h : ∀ h' o', Fr h₀ L h' m → News h₀ L h' (g o') → o'.IsDictOf (PySem.strKind prog w) kvs' → Q () { s with heap := h', toks := s.toks + 1 }) : wpAny (model prog w) A (setItem (.ref d) (.str k t) v) Q E s :=
  kda_set F N U hd (strKind_is _ _ _ _) (by rw [sizeLine_eq]; omega) (fun h' o' F' N' hd' => h h' o' F' N' (hst ▸ hd'))
theorem zm68 : True := by
  (k_with "S160.setItem ref str" => k_extra "R122")
  (k_with "S160.setItem ref str" => k_extra "R123")
  (k_with "S160.setItem ref str" => k_extra "R124")
  (k_with "S160.setItem ref str" => k_extra "R125")
  (k_with "S160.setItem ref str" => k_extra "R126")
  (k_with "S160.setItem ref str" => k_extra "R127")
  (k_with "S160.setItem ref str" => k_extra "R128")
  (k_with "S160.eval ListComp" => k_extra "R111")
  (k_with "S160.CompSrc" => k_extra "R3")
  trivial
theorem rest_draws {prog : Program} {w : World} {A : Around} {h₀ : Heap} {L : Addr} {m : PySem.Str → Option Value} {env : Env} {s : Shared} {elt : PySem.Expr} {x : PySem.Str} {scope : Scope} {cl : List (PySem.Str × Addr)} {Sx : List (Addr × Obj) → Prop} {P : Nat → Value → Prop} {Fin : List Value → List (Addr × Obj) → Prop} {n : Nat} {d lf : Addr} {rest : List (Addr × Obj)}
    {mx : Int} {tm : Tok} {o : Obj} {us : List Value} {ns : List Int} {nn : Nat} (inv : Nat → List Value → Prop) (h0 : inv 0 []) (hD : DeckOk w d lf mx tm o us ns)
    (turn : ∀ i ys v I oI C oC D m₂ h tk (E' : Value → Shared → Prop) mx tm o us ns nn, i < n → inv i ys → P i v → DeckOk w d lf mx tm o us ns → NsObj oC m₂ → m₂ x = some v → Fr h₀ L h m → News h₀ L h ((I, oI) :: (C, oC) :: (D, lst ys) :: (d, o) :: (lf, listOf us.toArray nn) :: rest) → LCg.Off3 I C D ((d, o) :: (lf, listOf us.toArray nn) :: rest) → ((@Ne Nat I C) ∧ (@Ne Nat I D) ∧ (@Ne Nat C D)) →
      wpAny (model prog w) A (eval elt (compEnvC scope cl C env)) (LCg.CompEnd h₀ L m { s with heap := h, toks := tk } I oI C oC D (lst ys) Sx (fun y nw' => (∃ mx tm o us ns nn, DeckOk w d lf mx tm o us ns ∧ nw' = (d, o) :: (lf, listOf us.toArray nn) :: rest) ∧ inv (i + 1) (ys ++ [y]))) E' { s with heap := h, toks := tk })
    (fin : ∀ ys mx tm o us ns nn, inv n ys → DeckOk w d lf mx tm o us ns → Fin ys ((d, o) :: (lf, listOf us.toArray nn) :: rest)) : LCg.CompRest prog w A h₀ L m env elt x scope cl s Sx P Fin n 0 [] ((d, o) :: (lf, listOf us.toArray nn) :: rest) := by
  refine rest_inv (fun i ys nw => (∃ mx tm o us ns nn, DeckOk w d lf mx tm o us ns ∧ nw = (d, o) :: (lf, listOf us.toArray nn) :: rest) ∧ inv i ys) ⟨⟨_, _, _, _, _, _, hD, rfl⟩, h0⟩ ?_ ?_
  · rintro i ys nw v I oI C oC D m₂ h tk E' hi ⟨⟨mx, tm, o, us, ns, nn, hD, rfl⟩, hv⟩ hp hC hx F N off ne
    exact turn i ys v I oI C oC D m₂ h tk E' mx tm o us ns nn hi hv hp hD hC hx F N off ne
  · rintro ys nw ⟨⟨mx, tm, o, us, ns, nn, hD, rfl⟩, hv⟩
    exact fin ys mx tm o us ns nn hv hD
theorem item_pick {prog : Program} {w : World} {A : Around} {E : Value → Shared → Prop} {s : Shared} {value slice : PySem.Expr} {l : Addr} {us : List Value} {ids : List (List UInt8)} {k : Int} {u : Tok} {Q : Value → Shared → Prop} (hl : s.heap.IsList l us.toArray) (hR : RowsAre us ids) (h0 : 0 ≤ k) (h1 : k < 3) (hi : ids.length = 3) (h : ∀ b t, b ∈ ids → Q (.bytes b.toArray t) s)
    (hs : subscripted slice false (.ref l) (.int k u) = operate [.ref l, .int k u] (getItem (.ref l) (.int k u)) := by with_unfolding_all rfl) :
    wpAny (model prog w) A (subscriptTail value slice (.ref l) (.int k u)) Q E s := by
  have hlen := hR.length
  have hk : k.toNat < us.length := by omega
  obtain ⟨b, t, e, hb⟩ := hR.get (List.getElem?_eq_getElem hk)
  exact item_at hl h0 (by omega) (by rw [List.getElem?_eq_getElem hk, e]) (h b t (List.mem_of_getElem? hb)) hs
def Picks (ids : List (List UInt8)) (i : Nat) (ys : List Value) : Prop := ys.length = i ∧ ∃ bs, RowsAre ys bs ∧ ∀ b ∈ bs, b ∈ ids
theorem Picks.snoc {ids : List (List UInt8)} {i : Nat} {ys : List Value} {b : List UInt8} {t : Tok} (h : Picks ids i ys) (hb : b ∈ ids) : Picks ids (i + 1) (ys ++ [.bytes b.toArray t]) := by
  obtain ⟨rfl, bs, hR, hm⟩ := h
  refine ⟨by rw [List.length_append, List.length_singleton], bs ++ [b], hR.snoc _ _, fun c hc => ?_⟩
  rcases List.mem_append.mp hc with h1 | h1
  · exact hm c h1
  · rw [List.mem_singleton.mp h1]; exact hb
theorem zm69 : True := by
  (k_with "S160.subscriptTail" => k_extra "R129")
  (k_with "S160.exec If" => k_extra "R76")
  (k_with "S160.exec Assign cons Tuple" => k_extra "R130")
  (k_with "S160.CompEnd" => k_extra "R0")
  trivial
theorem pick_to (us : List Value) (k : Int) (h0 : 0 ≤ k) (h1 : k ≤ us.length) : slicePick us.toArray none (some k) none = (us.take k.toNat).toArray := by
  have e : sliceBounds none (some k) none us.toArray.size = (((0 : Nat) : Int), ((k.toNat : Nat) : Int), 1) := by
    simp only [sliceBounds, Option.getD_none, show (1 : Int) > 0 by decide, if_true, List.size_toArray]
    congr 1
    congr 1
    rw [if_neg (by omega)]
    omega
  rw [kmk_pick_nat _ e]
  simp
theorem slice_to {prog : Program} {w : World} {A : Around} {E : Value → Shared → Prop} {s : Shared} {h₀ : Heap} {L l : Addr} {m : PySem.Str → Option Value} {news : List (Addr × Obj)} {value slice : PySem.Expr} {us : List Value} {vl vu : Value} {n : Nat} {k : Int} {Q : Value → Shared → Prop} (F : Fr h₀ L s.heap m) (N : News h₀ L s.heap news) (hl : (l, listOf us.toArray n) ∈ news) (pl : IsPart vl none) (pu : IsPart vu (some k)) (h0 : 0 ≤ k) (h1 : k ≤ us.length) (hz : us.length ≤ 10000)
    (h : ∀ D h', Fr h₀ L h' m → News h₀ L h' ((D, listOf (us.take k.toNat).toArray 0) :: news) → (∀ p ∈ news, p.1 < D) → Q (.ref D) { s with heap := h' })
    (hs : subscripted slice false (.ref l) (.ref s.heap.objs.size) = operate [.ref s.heap.objs.size, .ref l] (getItem (.ref l) (.ref s.heap.objs.size))) (ht : ∀ r, letTemporaryGo value (.ref l) r = pure ()) :
    wpAny (model prog w) A (subscriptTail value slice (.ref l) (.ref s.heap.objs.size)) Q E { s with heap := s.heap.push { cls := .type "slice", data := .fields #[vl, vu, .none] } } := by
  refine kmk_slice F N (News.isList N hl) pl pu (fun D h' F' N' l1 => h D h' F' ?_ l1) hs ht (by rw [sizeLine_eq, List.size_toArray]; omega)
  rw [← pick_to us k h0 h1]
  exact N'
theorem zm70 : True := by
  (k_with "S160.subscriptTail" => k_extra "R131")
  (k_with "S160.subscriptTail" => k_extra "R132")
  (k_with "S160.subscriptTail Name Slice ref ref" => k_extra "R131")
  trivial
theorem small_n {r : Int} (h0 : 0 ≤ r) (h1 : r < 4) : Builtin.Range.small 0 r 1 = true := by
  obtain ⟨n, rfl⟩ : ∃ n : Nat, r = (n : Int) := ⟨r.toNat, by omega⟩
  have key : ∀ n : Nat, n < 4 → Builtin.Range.small 0 (n : Int) 1 = true := by decide
  exact key n (by omega)
theorem size_n {r : Int} (h0 : 0 ≤ r) : Builtin.Range.rangeSize 0 r 1 = ((r.toNat : Nat) : Int) := by
  obtain ⟨n, rfl⟩ : ∃ n : Nat, r = (n : Int) := ⟨r.toNat, by omega⟩
  unfold Builtin.Range.rangeSize
  simp
  omega
theorem size_le {r : Int} (h0 : 0 ≤ r) (h1 : r < 4) : r.toNat ≤ sizeLine := by rw [sizeLine_eq]; omega
theorem off3_upd {I C D d lf : Addr} {o l o' l' : Obj} {rest : List (Addr × Obj)} (h : LCg.Off3 I C D ((d, o) :: (lf, l) :: rest)) : LCg.Off3 I C D ((d, o') :: (lf, l') :: rest) := h
theorem lt3 {r : Int} (h : r < 3) : r < 4 := by omega
theorem zm71 : True := by
  (k_with "S160.comp src" => k_extra "R133")
  trivial
def TPick (ids : List (List UInt8)) (it : Item) : Prop := ∀ b, it = some b → b ∈ ids
theorem item_talk {prog : Program} {w : World} {A : Around} {E : Value → Shared → Prop} {s : Shared} {value slice : PySem.Expr} {l : Addr} {us : List Value} {ids : List (List UInt8)} {k : Int} {u tz : Tok} {Q : Value → Shared → Prop} (hl : s.heap.IsList l (.int 0 tz :: us).toArray) (hR : RowsAre us ids) (h0 : 0 ≤ k) (h1 : k < 4) (hi : ids.length = 3) (h : ∀ v it, ItemIs it v → TPick ids it → Q v s)
    (hs : subscripted slice false (.ref l) (.int k u) = operate [.ref l, .int k u] (getItem (.ref l) (.int k u)) := by with_unfolding_all rfl) :
    wpAny (model prog w) A (subscriptTail value slice (.ref l) (.int k u)) Q E s := by
  have hlen := hR.length
  by_cases hp : 0 < k
  · have hk : k.toNat - 1 < us.length := by omega
    obtain ⟨b, t, e, hb⟩ := hR.get (List.getElem?_eq_getElem hk)
    refine item_at hl h0 (by omega) (x := .bytes b.toArray t) ?_ (h _ (some b) ⟨t, rfl⟩ (fun c hc => ?_)) hs
    · rw [show k.toNat = (k.toNat - 1) + 1 by omega, List.getElem?_cons_succ, List.getElem?_eq_getElem hk, e]
    · obtain rfl := Option.some.inj hc
      exact List.mem_of_getElem? hb
  · obtain rfl : k = 0 := by omega
    exact item_at hl h0 (by omega) (x := .int 0 tz) rfl (h _ none ⟨tz, rfl⟩ (fun c hc => nomatch hc)) hs
theorem zm72 : True := by
  (k_with "S160.subscriptTail" => k_extra "R134")
  trivial
def TPicks (ids : List (List UInt8)) (i : Nat) (ys : List Value) : Prop := ys.length = i ∧ ∃ tk, TalkAre ys tk ∧ ∀ it ∈ tk, TPick ids it
theorem TPicks.snoc {ids : List (List UInt8)} {i : Nat} {ys : List Value} {v : Value} {it : Item} (h : TPicks ids i ys) (hv : ItemIs it v) (hb : TPick ids it) : TPicks ids (i + 1) (ys ++ [v]) := by
  obtain ⟨rfl, bs, hR, hm⟩ := h
  refine ⟨by rw [List.length_append, List.length_singleton], bs ++ [it], hR.snoc hv, fun c hc => ?_⟩
  rcases List.mem_append.mp hc with h1 | h1
  · exact hm c h1
  · rw [List.mem_singleton.mp h1]; exact hb
theorem strs_take {us : List Value} {ys : List PySem.Str} (h : StrsAre us ys) : ∀ n, StrsAre (us.take n) (ys.take n) := by
  induction h with
  | nil => intro n; simp; exact .nil
  | cons y t _ ih =>
    intro n
    cases n with
    | zero => exact .nil
    | succ n => exact .cons y t (ih n)
theorem words3 (a b c : Tok) : StrsAre [.str (Str.ofString "thin-pack") a, .str (Str.ofString "ofs-delta") b, .str (Str.ofString "agent=x/1") c] (WB3.map strOf) := by
  have e : WB3.map strOf = [Str.ofString "thin-pack", Str.ofString "ofs-delta", Str.ofString "agent=x/1"] := by decide +kernel
  rw [e]
  exact .cons _ _ (.cons _ _ (.cons _ _ .nil))
theorem wordsK {P : Prop} {h₀ h : Heap} {L Ds Do : Addr} {p1 p2 : Addr × Obj} {oDs : Obj} {rest : List (Addr × Obj)} {r : Int} {a b c : Tok} (N : News h₀ L h ((Ds, oDs) :: p1 :: p2 :: (Do, listOf (List.take r.toNat [.str (Str.ofString "thin-pack") a, .str (Str.ofString "ofs-delta") b, .str (Str.ofString "agent=x/1") c]).toArray 0) :: rest)) (hr : r < 4)
    (k : ∀ wo wb, StrsAre wo (wb.map strOf) → (∃ n, n ≤ 3 ∧ wb = WB3.take n) → News h₀ L h ((Ds, oDs) :: p1 :: p2 :: (Do, listOf wo.toArray 0) :: rest) → P) : P :=
  k _ (WB3.take r.toNat) (by rw [List.map_take]; exact strs_take (words3 a b c) _) ⟨r.toNat, by omega, rfl⟩ N
structure DrS where
  mx : Int
  tm : Tok
  o : Obj
  us : List Value
  ns : List Int
  nn : Nat
  ow : Obj
  dv : Value
  sv : Value
  dp : Option Int
  si : Option Int
theorem join_dr {prog : Program} {w : World} {A : Around} {E : Value → Shared → Prop} {s : Shared} {t : Sem Flow} {Q : Flow → Shared → Prop} {g : Heap} {L : Addr} {m : PySem.Str → Option Value} {σ : Type} {Ds Do Dw lt dw La Lb : Addr} {p1 p2 p4 p5 p8 p9 p10 : Addr × Obj} {q1 q2 q3 q4 oc1 oc2 q5 : Obj} {rest : List (Addr × Obj)}
    (Led : Addr → Addr → Addr → Addr → Addr → Addr → Addr → Obj → Obj → σ → List (Addr × Obj)) (P : Addr → Addr → Addr → Addr → σ → Prop) (_ : Fr g L s.heap m)
    (_ : News g L s.heap ((Ds, q1) :: p1 :: p2 :: (Do, q2) :: p4 :: p5 :: (Dw, q3) :: (lt, q4) :: p8 :: p9 :: p10 :: (dw, q5) :: (La, oc1) :: (Lb, oc2) :: rest))
    (h1 : wpAny (model prog w) A t (fun f s' => Hold (f = .next ∧ ∃ h tk c, s' = { s with heap := h, toks := tk } ∧ Fr g L h m ∧ News g L h (Led Ds Do Dw lt dw La Lb oc1 oc2 c) ∧ P Ds Do Dw lt c)) E s)
    (h2 : ∀ h tk c, Fr g L h m → News g L h (Led Ds Do Dw lt dw La Lb oc1 oc2 c) → P Ds Do Dw lt c → Q .next { s with heap := h, toks := tk }) : wpAny (model prog w) A t Q E s :=
  wpAny_mono h1 (by rintro f s' ⟨rfl, h, tk, c, rfl, F, N, p⟩; exact h2 h tk c F N p) fun _ _ e => e
theorem nd8 {a b c d e f g h : Addr} (h1 : a ≠ b) (h2 : a ≠ c) (h3 : a ≠ d) (h4 : a ≠ e) (h5 : a ≠ f) (h6 : a ≠ g) (h7 : a ≠ h) (i2 : b ≠ c) (i3 : b ≠ d) (i4 : b ≠ e) (i5 : b ≠ f) (i6 : b ≠ g) (i7 : b ≠ h) (j3 : c ≠ d) (j4 : c ≠ e) (j5 : c ≠ f) (j6 : c ≠ g) (j7 : c ≠ h) (k4 : d ≠ e) (k5 : d ≠ f) (k6 : d ≠ g) (k7 : d ≠ h) (l5 : e ≠ f) (l6 : e ≠ g) (l7 : e ≠ h) (m6 : f ≠ g) (m7 : f ≠ h) (n7 : g ≠ h) : [a, b, c, d, e, f, g, h].Nodup := by
  simp only [List.nodup_cons, List.mem_cons, List.not_mem_nil, or_false, not_or, List.nodup_nil, and_true, not_false_eq_true]
  exact ⟨⟨h1, h2, h3, h4, h5, h6, h7⟩, ⟨i2, i3, i4, i5, i6, i7⟩, ⟨j3, j4, j5, j6, j7⟩, ⟨k4, k5, k6, k7⟩, ⟨l5, l6, l7⟩, ⟨m6, m7⟩, n7⟩
inductive DrawnLed (w : World) (k : Nat) (d lf li : Addr) (ni : Nat) (ui : List Value) : Value → List (Addr × Obj) → Prop
  | mk (dw : Addr) (ow : Obj) (lw lo ls lt : Addr) (nw no ns nt : Nat) (dv sv : Value) (uw uo us uk : List Value) (st : St) (wb : List (List UInt8)) (tk : List Item) (done : Bool) (mx : Int) (tm : Tok) (o : Obj) (uf : List Value) (nsD : List Int) (nn : Nat) : Obj.IsDictOf (PySem.strKind PG w) ow (wP lw lo ls lt dv sv done) → (dw == sysModules) = false → RowsAre uw st.wants → StrsAre uo (wb.map strOf) → RowsAre us st.shallow → OptI st.depth dv → OptI st.since sv → TalkAre uk tk → WOk k st wb tk →
    DeckOk w d lf mx tm o uf nsD → [d, lf, li, dw, lw, lo, ls, lt].Nodup → DrawnLed w k d lf li ni ui (.ref dw) [(d, o), (lf, listOf uf.toArray nn), (li, listOf ui.toArray ni), (dw, ow), (lw, listOf uw.toArray nw), (lo, listOf uo.toArray no), (ls, listOf us.toArray ns), (lt, listOf uk.toArray nt)]
theorem wok0 (k : Nat) : WOk k ⟨[], [], [], none, none⟩ [] [] :=
  ⟨rfl, ⟨0, by omega, rfl⟩, (fun _ h => nomatch h), (fun _ h => nomatch h), (fun _ h => nomatch h), by decide, by decide, by decide, (fun _ h => nomatch h), (fun _ h => nomatch h), .inl rfl, fun _ => ⟨rfl, rfl, rfl, rfl⟩⟩
theorem wok1 {k : Nat} {ids bs bs2 wb : List (List UInt8)} {tk : List Item} {dp si : Option Int} {r1 r2 r3 : Int} {ys ys2 ys3 : List Value} (hik : ∀ b ∈ ids, b.length = k) (hR1 : RowsAre ys bs) (hl1 : ys.length = r1.toNat) (hm1 : ∀ b ∈ bs, b ∈ ids) (h1 : r1 < 4) (hR2 : RowsAre ys2 bs2) (hl2 : ys2.length = r2.toNat) (hm2 : ∀ b ∈ bs2, b ∈ ids) (h2 : r2 < 3)
    (hT : TalkAre ys3 tk) (hl3 : ys3.length = r3.toNat) (hm3 : ∀ it ∈ tk, TPick ids it) (h3 : r3 < 4) (hwb : ∃ n, n ≤ 3 ∧ wb = WB3.take n) (hdb : ∀ i, dp = some i → 0 < i ∧ i < 100) (hsb : ∀ i, si = some i → 0 ≤ i ∧ i < 100) (hon : dp = none ∨ si = none) (hz : ¬ ys.length = 0) : WOk k ⟨bs, wb.map strOf, bs2, dp, si⟩ wb tk := by
  have e1 := hR1.length
  have e2 := hR2.length
  have e3 := hT.length
  refine ⟨rfl, hwb, fun b hb => hik b (hm1 b hb), fun b hb => hik b (hm2 b hb), fun b hb => hik b (hm3 _ hb b rfl), ?_, ?_, ?_, hdb, hsb, hon, fun h => ?_⟩
  · show bs.length ≤ 3; omega
  · show bs2.length ≤ 2; omega
  · omega
  · have h9 : bs = [] := h
    rw [h9] at e1
    exact absurd e1 hz
namespace law_drawn_
def zA (w : World) (d : Addr) (lf : Addr) (li : Addr) (mx : Int) (tm : Tok) (o : Obj) (uf : List Value) (ui : List Value) (ns : List Int) (nn : Nat) (ni : Nat) (ids : List (List UInt8)) (k : Nat) (zk : Cal) : Prop := ∀ (hD9 : DeckOk w d lf mx tm o uf ns), ∀ (hk9 : True), ∀ (hI : RowsAre ui ids), ∀ (hi3 : ids.length = 3), ∀ (hik : ∀ b ∈ ids, b.length = k), ∀ (hdl : d ≠ lf), ∀ (hdi : d ≠ li), ∀ (hli : lf ≠ li), SpecAt w 251 [.ref d, .ref li] 10 100 [(d, o), (lf, listOf uf.toArray nn), (li, listOf ui.toArray ni)] (fun v n' => DrawnLed w k d lf li ni ui v n') False zk
@[irreducible] noncomputable def zx : Zst := sk neZst fun z => zA (z.w) (z.n 0) (z.n 1) (z.n 2) (z.i 0) (z.n 3) (z.o 0) (z.lv 0) (z.lv 1) (z.li 0) (z.n 4) (z.n 5) (z.ll 0) (z.n 6) (z.c)
@[irreducible] noncomputable def w : World := zx.w
@[irreducible] noncomputable def d : Addr := zx.n 0
@[irreducible] noncomputable def lf : Addr := zx.n 1
@[irreducible] noncomputable def li : Addr := zx.n 2
@[irreducible] noncomputable def ui : List Value := zx.lv 1
@[irreducible] noncomputable def ni : Nat := zx.n 5
@[irreducible] noncomputable def ids : List (List UInt8) := zx.ll 0
@[irreducible] noncomputable def k : Nat := zx.n 6
def zT (P1 : World → Addr → Addr → Addr → Int → Tok → Obj → (List Value) → (List Value) → (List Int) → Nat → Nat → (List (List UInt8)) → Nat → Cal → Heap → Addr → Heap → Nat → Obj → Obj → Prop) : Prop := ∀ w d lf li mx tm o uf ui ns nn ni ids k zk, (∀ y0 y1 y2 y3 y4 y5, P1 w d lf li mx tm o uf ui ns nn ni ids k zk y0 y1 y2 y3 y4 y5) → zA w d lf li mx tm o uf ui ns nn ni ids k zk
noncomputable def zs : { P : Heap → Addr → Heap → Nat → Obj → Obj → Prop // (∀ y0 y1 y2 y3 y4 y5, P y0 y1 y2 y3 y4 y5) → zA w d lf li (zx.i 0) (zx.n 3) (zx.o 0) (zx.lv 0) ui (zx.li 0) (zx.n 4) ni ids k (zx.c) } := by
  refine' ⟨_, (_ : zT _) w d lf li (zx.i 0) (zx.n 3) (zx.o 0) (zx.lv 0) ui (zx.li 0) (zx.n 4) ni ids k (zx.c)⟩
  rotate_left 1
  · intro w d lf li mx tm o uf ui ns nn ni ids k zk zR1 hD9 hk9 hI hi3 hik hdl hdi hli
    w_strict (
     have hil : ui.length = 3 := by rw [hI.length, hi3]
     intro B F X N T hk hd hu hret hexc
     walk_at "my cells"
     (rename_i zi0x1 zi0x2 zi0x3 zi0x4; revert hD9 hk9 hI hi3 hik hdl hdi hli hil B F X N T hk hd hu hret hexc FG' F' B' X' T' l1 kG' zi0x3 zi0x4 N'; exact zR1 g' L' h' tk' zi0x1 zi0x2)
    )
@[irreducible] noncomputable def zP1 : Heap → Addr → Heap → Nat → Obj → Obj → Prop := Mine.law_drawn_.zs.1
theorem zp1 : zP1 = Mine.law_drawn_.zs.1 := by with_unfolding_all rfl
namespace z1
@[irreducible] noncomputable def zx : Zst := sk neZst fun z => Mine.law_drawn_.zP1 (z.h 0) (z.n 0) (z.h 1) (z.n 1) (z.o 0) (z.o 1)
@[irreducible] noncomputable def g' : Heap := zx.h 0
def zT (P1 : Heap → Addr → Heap → Nat → Obj → Obj → Addr → Heap → Obj → Addr → Heap → Addr → Heap → Addr → Heap → Addr → Heap → Obj → Int → Int → Tok → Obj → (List Value) → (List Int) → (List Value) → Int → Tok → Obj → (List Value) → (List Int) → Addr → Obj → Int → Tok → Int → Tok → Obj → (List Value) → (List Int) → Nat → Heap → Nat → Prop) : Prop := ∀ g' L' h' tk' zi0x1 zi0x2, (∀ y0 y1 y2 y3 y4 y5 y6 y7 y8 y9 y10 y11 y12 y13 y14 y15 y16 y17 y18 y19 y20 y21 y22 y23 y24 y25 y26 y27 y28 y29 y30 y31 y32 y33 y34 y35, P1 g' L' h' tk' zi0x1 zi0x2 y0 y1 y2 y3 y4 y5 y6 y7 y8 y9 y10 y11 y12 y13 y14 y15 y16 y17 y18 y19 y20 y21 y22 y23 y24 y25 y26 y27 y28 y29 y30 y31 y32 y33 y34 y35) → Mine.law_drawn_.zs.1 g' L' h' tk' zi0x1 zi0x2
noncomputable def zs : { P : Addr → Heap → Obj → Addr → Heap → Addr → Heap → Addr → Heap → Addr → Heap → Obj → Int → Int → Tok → Obj → (List Value) → (List Int) → (List Value) → Int → Tok → Obj → (List Value) → (List Int) → Addr → Obj → Int → Tok → Int → Tok → Obj → (List Value) → (List Int) → Nat → Heap → Nat → Prop // (∀ y0 y1 y2 y3 y4 y5 y6 y7 y8 y9 y10 y11 y12 y13 y14 y15 y16 y17 y18 y19 y20 y21 y22 y23 y24 y25 y26 y27 y28 y29 y30 y31 y32 y33 y34 y35, P y0 y1 y2 y3 y4 y5 y6 y7 y8 y9 y10 y11 y12 y13 y14 y15 y16 y17 y18 y19 y20 y21 y22 y23 y24 y25 y26 y27 y28 y29 y30 y31 y32 y33 y34 y35) → Mine.law_drawn_.zs.1 g' (zx.n 0) (zx.h 1) (zx.n 1) (zx.o 0) (zx.o 1) } := by
  refine' ⟨_, (_ : zT _) g' (zx.n 0) (zx.h 1) (zx.n 1) (zx.o 0) (zx.o 1)⟩
  rotate_left 1
  · intro g' L' h' tk' zi0x1 zi0x2 zR1 hD9 hk9 hI hi3 hik hdl hdi hli hil B F X N T hk hd hu hret hexc FG' F' B' X' T' l1 kG' zi0x3 zi0x4 N'
    w_strict (
     k_steps
     unfold Hold
     walk_at "comp src"
     intro g'
     refine rest_draws (Picks ids) ⟨rfl, [], .nil, fun _ h => nomatch h⟩ (by assumption) ?_ ?_
     · rintro i ys v I oI C oC D9 m₂ h9 tk9 E9 mx9 tm9 o9 us9 ns9 nn9 hi hys ⟨tv, rfl⟩ hD9 hoC hx F₂ N₂ off ne
       have off0 := off
       dsimp only [LCg.Off3] at off
       k_steps
       unfold Hold
       refine' LCg.CompEnd.intro (by k_asm) (by k_asm) ((d, _) :: (lf, _) :: _) ?zs (off3_upd off0) trivial ⟨⟨_, _, _, _, _, _, by assumption, rfl⟩, hys.snoc (by assumption)⟩
       case zs => walk_at "sub here"
     · rintro ys mx9 tm9 o9 us9 ns9 nn9 hys hD9
       k_steps
       unfold Hold
       walk_at "tidy2"
       have mk9 : Mark9 := trivial
       (rename_i zi1x1 zi1x2 zi1x3 zi1x4 zi1x5 zi1x6 zi1x7 zi1x8 zi1x9 zi1x10 zi1x11 zi1x12 zi1x13 zi1x14 zi1x15 zi1x16 zi1x17 zi1x18 zi1x19 zi1x20 zi1x21 zi1x22 zi1x23 zi1x24 zi1x25 zi1x26 zi1x27 zi1x28 zi1x29 zi1x30 zi1x31 zi1x32 zi1x33 zi1x34 zi1x35 zi1x36 zi1x37 zi1x38 zi1x39 zi1x40 zi1x41 zi1x42 zi1x43 zi1x44 zi1x45 zi1x46 zi1x47 zi1x48 zi1x49 zi1x50 zi1x51 zi1x52 zi1x53 zi1x54 zi1x55 zi1x56 zi1x57 zi1x58 zi1x59 zi1x60 zi1x61 zi1x62 zi1x63 zi1x64 zi1x65 zi1x66 zi1x67; revert zi1x4 hk9 hI hi3 hik hil B X T hk hd hu hret hexc B' X' T' l1 kG' zi0x3 zi0x4 zi1x8 zi1x9 zi1x10 zi1x13 zi1x16 zi1x19 zi1x22 zi1x25 zi1x27 zi1x28 zi1x29 zi1x40 zi1x41 zi1x42 zi1x43 zi1x44 hys hD9 hd' zi1x58 zi1x59 zi1x60 zi1x61 zi1x62 zi1x63 zi1x64 zi1x65 zi1x66 z6 hr0' hr1' hD' hsa' hsb' lF9 lN9 mk9; exact zR1 zi1x5 zi1x6 zi1x7 zi1x11 zi1x12 zi1x14 zi1x15 zi1x17 zi1x18 zi1x20 zi1x21 zi1x24 zi1x30 zi1x34 zi1x35 zi1x36 zi1x37 zi1x38 ys mx9 tm9 o9 us9 ns9 zi1x52 zi1x56 r' t' mx' tm' o' us' ns' nn' zi1x67 tk)
    )
@[irreducible] noncomputable def zP1 : Addr → Heap → Obj → Addr → Heap → Addr → Heap → Addr → Heap → Addr → Heap → Obj → Int → Int → Tok → Obj → (List Value) → (List Int) → (List Value) → Int → Tok → Obj → (List Value) → (List Int) → Addr → Obj → Int → Tok → Int → Tok → Obj → (List Value) → (List Int) → Nat → Heap → Nat → Prop := Mine.law_drawn_.z1.zs.1
theorem zp1 : zP1 = Mine.law_drawn_.z1.zs.1 := by with_unfolding_all rfl
namespace z1
@[irreducible] noncomputable def zx : Zst := sk neZst fun z => Mine.law_drawn_.z1.zP1 (z.n 0) (z.h 0) (z.o 0) (z.n 1) (z.h 1) (z.n 2) (z.h 2) (z.n 3) (z.h 3) (z.n 4) (z.h 4) (z.o 1) (z.i 0) (z.i 1) (z.n 5) (z.o 2) (z.lv 0) (z.li 0) (z.lv 1) (z.i 2) (z.n 6) (z.o 3) (z.lv 2) (z.li 1) (z.n 7) (z.o 4) (z.i 3) (z.n 8) (z.i 4) (z.n 9) (z.o 5) (z.lv 3) (z.li 2) (z.n 10) (z.h 5) (z.n 11)
@[irreducible] noncomputable def ys : List Value := zx.lv 1
@[irreducible] noncomputable def mx9 : Int := zx.i 2
@[irreducible] noncomputable def tm9 : Tok := zx.n 6
@[irreducible] noncomputable def o9 : Obj := zx.o 3
@[irreducible] noncomputable def us9 : List Value := zx.lv 2
@[irreducible] noncomputable def ns9 : List Int := zx.li 1
def zT (P1 : Addr → Heap → Obj → Addr → Heap → Addr → Heap → Addr → Heap → Addr → Heap → Obj → Int → Int → Tok → Obj → (List Value) → (List Int) → (List Value) → Int → Tok → Obj → (List Value) → (List Int) → Addr → Obj → Int → Tok → Int → Tok → Obj → (List Value) → (List Int) → Nat → Heap → Nat → Addr → Heap → Nat → Addr → Int → Int → Tok → Obj → (List Value) → (List Int) → Nat → Addr → Obj → Int → Int → Tok → Obj → (List Value) → (List Int) → (List Value) → Int → Tok → Obj → (List Value) → (List Int) → Nat → Addr → Heap → Obj → Nat → (List Value) → (List (List UInt8)) → Prop) : Prop := ∀ zi1x5 zi1x6 zi1x7 zi1x11 zi1x12 zi1x14 zi1x15 zi1x17 zi1x18 zi1x20 zi1x21 zi1x24 zi1x30 zi1x34 zi1x35 zi1x36 zi1x37 zi1x38 ys mx9 tm9 o9 us9 ns9 zi1x52 zi1x56 r' t' mx' tm' o' us' ns' nn' zi1x67 tk, (∀ y0 y1 y2 y3 y4 y5 y6 y7 y8 y9 y10 y11 y12 y13 y14 y15 y16 y17 y18 y19 y20 y21 y22 y23 y24 y25 y26 y27 y28 y29 y30 y31, P1 zi1x5 zi1x6 zi1x7 zi1x11 zi1x12 zi1x14 zi1x15 zi1x17 zi1x18 zi1x20 zi1x21 zi1x24 zi1x30 zi1x34 zi1x35 zi1x36 zi1x37 zi1x38 ys mx9 tm9 o9 us9 ns9 zi1x52 zi1x56 r' t' mx' tm' o' us' ns' nn' zi1x67 tk y0 y1 y2 y3 y4 y5 y6 y7 y8 y9 y10 y11 y12 y13 y14 y15 y16 y17 y18 y19 y20 y21 y22 y23 y24 y25 y26 y27 y28 y29 y30 y31) → Mine.law_drawn_.z1.zs.1 zi1x5 zi1x6 zi1x7 zi1x11 zi1x12 zi1x14 zi1x15 zi1x17 zi1x18 zi1x20 zi1x21 zi1x24 zi1x30 zi1x34 zi1x35 zi1x36 zi1x37 zi1x38 ys mx9 tm9 o9 us9 ns9 zi1x52 zi1x56 r' t' mx' tm' o' us' ns' nn' zi1x67 tk
noncomputable def zs : { P : Addr → Heap → Nat → Addr → Int → Int → Tok → Obj → (List Value) → (List Int) → Nat → Addr → Obj → Int → Int → Tok → Obj → (List Value) → (List Int) → (List Value) → Int → Tok → Obj → (List Value) → (List Int) → Nat → Addr → Heap → Obj → Nat → (List Value) → (List (List UInt8)) → Prop // (∀ y0 y1 y2 y3 y4 y5 y6 y7 y8 y9 y10 y11 y12 y13 y14 y15 y16 y17 y18 y19 y20 y21 y22 y23 y24 y25 y26 y27 y28 y29 y30 y31, P y0 y1 y2 y3 y4 y5 y6 y7 y8 y9 y10 y11 y12 y13 y14 y15 y16 y17 y18 y19 y20 y21 y22 y23 y24 y25 y26 y27 y28 y29 y30 y31) → Mine.law_drawn_.z1.zs.1 (zx.n 0) (zx.h 0) (zx.o 0) (zx.n 1) (zx.h 1) (zx.n 2) (zx.h 2) (zx.n 3) (zx.h 3) (zx.n 4) (zx.h 4) (zx.o 1) (zx.i 0) (zx.i 1) (zx.n 5) (zx.o 2) (zx.lv 0) (zx.li 0) ys mx9 tm9 o9 us9 ns9 (zx.n 7) (zx.o 4) (zx.i 3) (zx.n 8) (zx.i 4) (zx.n 9) (zx.o 5) (zx.lv 3) (zx.li 2) (zx.n 10) (zx.h 5) (zx.n 11) } := by
  refine' ⟨_, (_ : zT _) (zx.n 0) (zx.h 0) (zx.o 0) (zx.n 1) (zx.h 1) (zx.n 2) (zx.h 2) (zx.n 3) (zx.h 3) (zx.n 4) (zx.h 4) (zx.o 1) (zx.i 0) (zx.i 1) (zx.n 5) (zx.o 2) (zx.lv 0) (zx.li 0) ys mx9 tm9 o9 us9 ns9 (zx.n 7) (zx.o 4) (zx.i 3) (zx.n 8) (zx.i 4) (zx.n 9) (zx.o 5) (zx.lv 3) (zx.li 2) (zx.n 10) (zx.h 5) (zx.n 11)⟩
  rotate_left 1
  · intro zi1x5 zi1x6 zi1x7 zi1x11 zi1x12 zi1x14 zi1x15 zi1x17 zi1x18 zi1x20 zi1x21 zi1x24 zi1x30 zi1x34 zi1x35 zi1x36 zi1x37 zi1x38 ys mx9 tm9 o9 us9 ns9 zi1x52 zi1x56 r' t' mx' tm' o' us' ns' nn' zi1x67 tk zR1 zi1x4 hk9 hI hi3 hik hil B X T hk hd hu hret hexc B' X' T' l1 kG' zi0x3 zi0x4 zi1x8 zi1x9 zi1x10 zi1x13 zi1x16 zi1x19 zi1x22 zi1x25 zi1x27 zi1x28 zi1x29 zi1x40 zi1x41 zi1x42 zi1x43 zi1x44 hys hD9 hd' zi1x58 zi1x59 zi1x60 zi1x61 zi1x62 zi1x63 zi1x64 zi1x65 zi1x66 z6 hr0' hr1' hD' hsa' hsb' lF9 lN9 mk9
    w_strict (
     by_cases hz : ys.length = 0
     · have q7 : decide (ys.length = 0) = true := decide_eq_true hz
       k_steps
       obtain rfl := List.length_eq_zero_iff.mp hz
       walk_at "split"
       (refine' hret _ _ _ _ ⟨_, _, _, _, _, _, _, _, _, _, .none, .none, [], [], [], [], ⟨[], [], [], none, none⟩, [], [], false, _, _, _, _, _, _, by assumption, by assumption, .nil, .nil, .nil, .none, .none, .nil, wok0 k, by assumption, nd8 (by k_ne) (by k_ne) (by k_ne) (by k_ne) (by k_ne) (by k_ne) (by k_ne) (by k_ne) (by k_ne) (by k_ne) (by k_ne) (by k_ne) (by k_ne) (by k_ne) (by k_ne) (by k_ne) (by k_ne) (by k_ne) (by k_ne) (by k_ne) (by k_ne) (by k_ne) (by k_ne) (by k_ne) (by k_ne) (by k_ne) (by k_ne) (by k_ne)⟩ ?zF257 ?zN257 ?zK257; (case zF257 => assumption); (case zN257 => (refine News.sub_J (by assumption) ?_; walk_at "sub here")); (case zK257 => exact kept_of (by assumption) (by assumption) (News.sub_J (by assumption) (by walk_at "sub here"))))
     · have q7 : decide (ys.length = 0) = false := decide_eq_false hz
       k_steps
       unfold Hold
       walk_at "comp src"
       intro g'
       walk_at "tidy2"
       refine rest_draws (Picks ids) ⟨rfl, [], .nil, fun _ h => nomatch h⟩ (by assumption) ?_ ?_
       · rintro i ys2 v I oI C oC D9 m₂ h9 tk9 E9 mx9 tm9 o9 us9 ns9 nn9 hi hys2 ⟨tv, rfl⟩ hD9 hoC hx F₂ N₂ off ne
         have off0 := off
         dsimp only [LCg.Off3] at off
         k_steps
         unfold Hold
         refine' LCg.CompEnd.intro (by k_asm) (by k_asm) ((d, _) :: (lf, _) :: _) ?zs (off3_upd off0) trivial ⟨⟨_, _, _, _, _, _, by assumption, rfl⟩, hys2.snoc (by assumption)⟩
         case zs => walk_at "sub here"
       · rintro ys2 mx9 tm9 o9 us9 ns9 nn9 hys2 hD9
         k_steps
         unfold Hold
         walk_at "tidy2"
         rename News _ _ _ _ => N9
         refine wordsK N9 (by assumption) ?_
         clear N9
         intro wo wb hwo hwb N9
         (rename_i zi2x1 zi2x2 zi2x3 zi2x4 zi2x5 zi2x6 zi2x7 zi2x8 zi2x9 zi2x10 zi2x11 zi2x12 zi2x13 zi2x14 zi2x15 zi2x16 zi2x17 zi2x18 zi2x19 zi2x20 zi2x21 zi2x22 zi2x23 zi2x24 zi2x25 zi2x26 zi2x27 zi2x28 zi2x29 zi2x30 zi2x31 zi2x32 zi2x33 zi2x34 zi2x35 zi2x36 zi2x37 zi2x38 zi2x39 zi2x40 zi2x41 zi2x42 zi2x43 zi2x44 zi2x45 zi2x46 zi2x47 zi2x48 zi2x49 zi2x50 zi2x51 zi2x52 zi2x53 zi2x54 zi2x55 zi2x56 zi2x57 zi2x58 zi2x59 zi2x60 zi2x61 zi2x62 zi2x63 zi2x64 zi2x65 zi2x66 zi2x67 zi2x68 zi2x69 zi2x70 zi2x71 zi2x72 zi2x73 zi2x74 zi2x75 zi2x76; revert zi1x4 hk9 hI hi3 hik hil B X T hk hd hu hret hexc B' X' T' zi2x15 kG' zi0x3 zi0x4 zi1x8 zi1x9 zi1x10 zi1x13 zi1x16 zi1x19 zi1x22 zi1x25 zi1x27 zi1x28 zi1x29 zi1x40 zi1x41 zi1x42 zi1x43 zi1x44 hys zi2x16 zi2x17 zi1x58 zi1x59 zi1x60 zi1x61 zi1x62 zi1x63 zi1x64 zi1x65 zi1x66 zi2x18 zi2x19 zi2x20 zi2x21 zi2x22 zi2x23 mk9 q7 zi2x26 zi2x30 zi2x31 zi2x42 zi2x43 zi2x44 zi2x45 zi2x46 l1 zi2x52 hr0' hr1' hD' hsa' hsb' hys2 hD9 hd' zi2x64 zi2x65 zi2x66 zi2x67 zi2x68 zi2x69 zi2x70 zi2x71 zi2x72 zi2x73 zi2x74 zi2x75 zi2x76 z6 lF9 hwo hwb N9; exact zR1 zi2x24 zi2x25 zi2x27 zi2x28 zi2x32 zi2x36 zi2x37 zi2x38 zi2x39 zi2x40 zi2x41 D' zi2x51 r' mx' tm' zi2x55 us' ns' ys2 mx9 tm9 o9 us9 ns9 nn9 zi2x61 h' o' tk wo wb)
    )
@[irreducible] noncomputable def zP1 : Addr → Heap → Nat → Addr → Int → Int → Tok → Obj → (List Value) → (List Int) → Nat → Addr → Obj → Int → Int → Tok → Obj → (List Value) → (List Int) → (List Value) → Int → Tok → Obj → (List Value) → (List Int) → Nat → Addr → Heap → Obj → Nat → (List Value) → (List (List UInt8)) → Prop := Mine.law_drawn_.z1.z1.zs.1
theorem zp1 : zP1 = Mine.law_drawn_.z1.z1.zs.1 := by with_unfolding_all rfl
namespace z1
@[irreducible] noncomputable def zx : Zst := sk neZst fun z => Mine.law_drawn_.z1.z1.zP1 (z.n 0) (z.h 0) (z.n 1) (z.n 2) (z.i 0) (z.i 1) (z.n 3) (z.o 0) (z.lv 0) (z.li 0) (z.n 4) (z.n 5) (z.o 1) (z.i 2) (z.i 3) (z.n 6) (z.o 2) (z.lv 1) (z.li 1) (z.lv 2) (z.i 4) (z.n 7) (z.o 3) (z.lv 3) (z.li 2) (z.n 8) (z.n 9) (z.h 1) (z.o 4) (z.n 10) (z.lv 4) (z.ll 0)
@[irreducible] noncomputable def ys2 : List Value := zx.lv 2
@[irreducible] noncomputable def mx9 : Int := zx.i 4
@[irreducible] noncomputable def tm9 : Tok := zx.n 7
@[irreducible] noncomputable def o9 : Obj := zx.o 3
@[irreducible] noncomputable def us9 : List Value := zx.lv 3
@[irreducible] noncomputable def ns9 : List Int := zx.li 2
@[irreducible] noncomputable def nn9 : Nat := zx.n 8
@[irreducible] noncomputable def wo : List Value := zx.lv 4
@[irreducible] noncomputable def wb : List (List UInt8) := zx.ll 0
def zT (P1 : Addr → Heap → Nat → Addr → Int → Int → Tok → Obj → (List Value) → (List Int) → Nat → Addr → Obj → Int → Int → Tok → Obj → (List Value) → (List Int) → (List Value) → Int → Tok → Obj → (List Value) → (List Int) → Nat → Addr → Heap → Obj → Nat → (List Value) → (List (List UInt8)) → Heap → Nat → Int → Tok → Obj → (List Value) → (List Int) → Nat → Obj → Value → Value → (Option Int) → (Option Int) → Prop) : Prop := ∀ zi2x24 zi2x25 zi2x27 zi2x28 zi2x32 zi2x36 zi2x37 zi2x38 zi2x39 zi2x40 zi2x41 D' zi2x51 r' mx' tm' zi2x55 us' ns' ys2 mx9 tm9 o9 us9 ns9 nn9 zi2x61 h' o' tk wo wb, (∀ y0 y1 y2 y3 y4 y5 y6 y7 y8 y9 y10 y11 y12, P1 zi2x24 zi2x25 zi2x27 zi2x28 zi2x32 zi2x36 zi2x37 zi2x38 zi2x39 zi2x40 zi2x41 D' zi2x51 r' mx' tm' zi2x55 us' ns' ys2 mx9 tm9 o9 us9 ns9 nn9 zi2x61 h' o' tk wo wb y0 y1 y2 y3 y4 y5 y6 y7 y8 y9 y10 y11 y12) → Mine.law_drawn_.z1.z1.zs.1 zi2x24 zi2x25 zi2x27 zi2x28 zi2x32 zi2x36 zi2x37 zi2x38 zi2x39 zi2x40 zi2x41 D' zi2x51 r' mx' tm' zi2x55 us' ns' ys2 mx9 tm9 o9 us9 ns9 nn9 zi2x61 h' o' tk wo wb
noncomputable def zs : { P : Heap → Nat → Int → Tok → Obj → (List Value) → (List Int) → Nat → Obj → Value → Value → (Option Int) → (Option Int) → Prop // (∀ y0 y1 y2 y3 y4 y5 y6 y7 y8 y9 y10 y11 y12, P y0 y1 y2 y3 y4 y5 y6 y7 y8 y9 y10 y11 y12) → Mine.law_drawn_.z1.z1.zs.1 (zx.n 0) (zx.h 0) (zx.n 1) (zx.n 2) (zx.i 0) (zx.i 1) (zx.n 3) (zx.o 0) (zx.lv 0) (zx.li 0) (zx.n 4) (zx.n 5) (zx.o 1) (zx.i 2) (zx.i 3) (zx.n 6) (zx.o 2) (zx.lv 1) (zx.li 1) ys2 mx9 tm9 o9 us9 ns9 nn9 (zx.n 9) (zx.h 1) (zx.o 4) (zx.n 10) wo wb } := by
  refine' ⟨_, (_ : zT _) (zx.n 0) (zx.h 0) (zx.n 1) (zx.n 2) (zx.i 0) (zx.i 1) (zx.n 3) (zx.o 0) (zx.lv 0) (zx.li 0) (zx.n 4) (zx.n 5) (zx.o 1) (zx.i 2) (zx.i 3) (zx.n 6) (zx.o 2) (zx.lv 1) (zx.li 1) ys2 mx9 tm9 o9 us9 ns9 nn9 (zx.n 9) (zx.h 1) (zx.o 4) (zx.n 10) wo wb⟩
  rotate_left 1
  · intro zi2x24 zi2x25 zi2x27 zi2x28 zi2x32 zi2x36 zi2x37 zi2x38 zi2x39 zi2x40 zi2x41 D' zi2x51 r' mx' tm' zi2x55 us' ns' ys2 mx9 tm9 o9 us9 ns9 nn9 zi2x61 h' o' tk wo wb zR1 zi1x4 hk9 hI hi3 hik hil B X T hk hd hu hret hexc B' X' T' zi2x15 kG' zi0x3 zi0x4 zi1x8 zi1x9 zi1x10 zi1x13 zi1x16 zi1x19 zi1x22 zi1x25 zi1x27 zi1x28 zi1x29 zi1x40 zi1x41 zi1x42 zi1x43 zi1x44 hys zi2x16 zi2x17 zi1x58 zi1x59 zi1x60 zi1x61 zi1x62 zi1x63 zi1x64 zi1x65 zi1x66 zi2x18 zi2x19 zi2x20 zi2x21 zi2x22 zi2x23 mk9 q7 zi2x26 zi2x30 zi2x31 zi2x42 zi2x43 zi2x44 zi2x45 zi2x46 l1 zi2x52 hr0' hr1' hD' hsa' hsb' hys2 hD9 hd' zi2x64 zi2x65 zi2x66 zi2x67 zi2x68 zi2x69 zi2x70 zi2x71 zi2x72 zi2x73 zi2x74 zi2x75 zi2x76 z6 lF9 hwo hwb N9
    w_strict (
     refine join_dr (σ := DrS) (fun Ds Do Dw lt dw La Lb oc1 oc2 c => [(d, c.o), (lf, listOf c.us.toArray c.nn), (dw, c.ow), (Dw, lst ys), (Do, listOf wo.toArray 0), (Ds, lst ys2), (lt, listOf #[] 0), (La, oc1), (Lb, oc2), (li, listOf ui.toArray ni)]) (fun Ds Do Dw lt c => DeckOk w d lf c.mx c.tm c.o c.us c.ns ∧ c.ow.IsDictOf (PySem.strKind PG w) (wV (.ref Dw) (.ref Do) (.ref Ds) c.dv c.sv (.ref lt) (.bool false)) ∧ OptI c.dp c.dv ∧ OptI c.si c.sv ∧ (∀ i, c.dp = some i → 0 < i ∧ i < 100) ∧ (∀ i, c.si = some i → 0 ≤ i ∧ i < 100) ∧ (c.dp = none ∨ c.si = none)) (by k_asm) N9 ?j1 ?j2
     case j1 =>
       have mk8 : Mark8 := trivial
       k_steps
       all_goals try (exfalso; omega)
       all_goals (refine' ⟨rfl, _, _, ⟨_, _, _, _, _, _, _, _, _, _, _⟩, rfl, (by k_asm), ?_, by assumption, by assumption, (by first | exact OptI.none | exact OptI.some _ _), (by first | exact OptI.none | exact OptI.some _ _), ?_, ?_, ?_⟩)
       all_goals first
         | exact .inl rfl
         | exact .inr rfl
         | (refine News.sub_J (by assumption) ?_; walk_at "sub here")
         | (intro i e; cases e; done)
         | (intro i e; cases e; omega)
         | skip
     case j2 =>
       rintro h9 tk9 ⟨mx8, tm8, o8, us8, ns8, nn8, ow8, dv8, sv8, dp8, si8⟩ F9 N8 ⟨hD8, hw8, hdv, hsv, hdb, hsb, hon⟩
       dsimp only at N8 hD8 hw8 hdv hsv hdb hsb hon
       clear N9
       walk_at "tidy2"
       (revert zi1x4 hk9 hI hi3 hik hil B X T hk hd hu hret hexc B' X' T' zi2x15 kG' zi0x3 zi0x4 zi1x8 zi1x9 zi1x10 zi1x13 zi1x16 zi1x19 zi1x22 zi1x25 zi1x27 zi1x28 zi1x29 zi1x40 zi1x41 zi1x42 zi1x43 zi1x44 hys zi2x16 zi2x17 zi1x58 zi1x59 zi1x60 zi1x61 zi1x62 zi1x63 zi1x64 zi1x65 zi1x66 zi2x18 zi2x19 zi2x20 zi2x21 zi2x22 zi2x23 mk9 q7 zi2x26 zi2x30 zi2x31 zi2x42 zi2x43 zi2x44 zi2x45 zi2x46 l1 zi2x52 hr0' hr1' hD' hsa' hsb' hys2 hD9 hd' zi2x64 zi2x65 zi2x66 zi2x67 zi2x68 zi2x69 zi2x70 zi2x71 zi2x72 zi2x73 zi2x74 zi2x75 zi2x76 z6 hwo hwb hD8 hw8 hdv hsv hdb hsb hon lF9 lN9; exact zR1 h9 tk9 mx8 tm8 o8 us8 ns8 nn8 ow8 dv8 sv8 dp8 si8)
    )
@[irreducible] noncomputable def zP1 : Heap → Nat → Int → Tok → Obj → (List Value) → (List Int) → Nat → Obj → Value → Value → (Option Int) → (Option Int) → Prop := Mine.law_drawn_.z1.z1.z1.zs.1
theorem zp1 : zP1 = Mine.law_drawn_.z1.z1.z1.zs.1 := by with_unfolding_all rfl
namespace z1
@[irreducible] noncomputable def zx : Zst × (Option Int) × (Option Int) := sk ⟨(Classical.choice neZst, default, default)⟩ fun z => Mine.law_drawn_.z1.z1.z1.zP1 (z.1.h 0) (z.1.n 0) (z.1.i 0) (z.1.n 1) (z.1.o 0) (z.1.lv 0) (z.1.li 0) (z.1.n 2) (z.1.o 1) (z.1.v 0) (z.1.v 1) (z.2.1) (z.2.2)
theorem zgo : Mine.law_drawn_.z1.z1.z1.zP1 (zx.1.h 0) (zx.1.n 0) (zx.1.i 0) (zx.1.n 1) (zx.1.o 0) (zx.1.lv 0) (zx.1.li 0) (zx.1.n 2) (zx.1.o 1) (zx.1.v 0) (zx.1.v 1) (zx.2.1) (zx.2.2) := by
  refine' zcast Mine.law_drawn_.z1.z1.z1.zp1 (fun zf => zf (zx.1.h 0) (zx.1.n 0) (zx.1.i 0) (zx.1.n 1) (zx.1.o 0) (zx.1.lv 0) (zx.1.li 0) (zx.1.n 2) (zx.1.o 1) (zx.1.v 0) (zx.1.v 1) (zx.2.1) (zx.2.2)) ((_ : ∀ h9 tk9 mx8 tm8 o8 us8 ns8 nn8 ow8 dv8 sv8 dp8 si8, Mine.law_drawn_.z1.z1.z1.zs.1 h9 tk9 mx8 tm8 o8 us8 ns8 nn8 ow8 dv8 sv8 dp8 si8) (zx.1.h 0) (zx.1.n 0) (zx.1.i 0) (zx.1.n 1) (zx.1.o 0) (zx.1.lv 0) (zx.1.li 0) (zx.1.n 2) (zx.1.o 1) (zx.1.v 0) (zx.1.v 1) (zx.2.1) (zx.2.2))
  intro h9 tk9 mx8 tm8 o8 us8 ns8 nn8 ow8 dv8 sv8 dp8 si8 zi1x4 hk9 hI hi3 hik hil B X T hk hd hu hret hexc B' X' T' zi2x15 kG' zi0x3 zi0x4 zi1x8 zi1x9 zi1x10 zi1x13 zi1x16 zi1x19 zi1x22 zi1x25 zi1x27 zi1x28 zi1x29 zi1x40 zi1x41 zi1x42 zi1x43 zi1x44 hys zi2x16 zi2x17 zi1x58 zi1x59 zi1x60 zi1x61 zi1x62 zi1x63 zi1x64 zi1x65 zi1x66 zi2x18 zi2x19 zi2x20 zi2x21 zi2x22 zi2x23 mk9 q7 zi2x26 zi2x30 zi2x31 zi2x42 zi2x43 zi2x44 zi2x45 zi2x46 l1 zi2x52 hr0' hr1' hD' hsa' hsb' hys2 hD9 hd' zi2x64 zi2x65 zi2x66 zi2x67 zi2x68 zi2x69 zi2x70 zi2x71 zi2x72 zi2x73 zi2x74 zi2x75 zi2x76 z6 hwo hwb hD8 hw8 hdv hsv hdb hsb hon lF9 lN9
  w_strict (
   k_steps
   unfold Hold
   walk_at "comp src"
   intro g'
   walk_at "tidy2"
   refine rest_draws (TPicks ids) ⟨rfl, [], .nil, fun _ h => nomatch h⟩ (by assumption) ?_ ?_
   · rintro i ys3 v I oI C oC D9 m₂ h9 tk9 E9 mx9 tm9 o9 us9 ns9 nn9 hi hys3 ⟨tv, rfl⟩ hD9 hoC hx F₂ N₂ off ne
     have off0 := off
     dsimp only [LCg.Off3] at off
     k_steps
     unfold Hold
     refine' LCg.CompEnd.intro (by k_asm) (by k_asm) ((d, _) :: (lf, _) :: _) ?zs (off3_upd off0) trivial ⟨⟨_, _, _, _, _, _, by assumption, rfl⟩, hys3.snoc (by assumption) (by assumption)⟩
     case zs => walk_at "sub here"
   · rintro ys3 mx9 tm9 o9 us9 ns9 nn9 hys3 hD9
     k_steps
     walk_at "split"
     obtain ⟨hl1, bs, hR1, hm1⟩ := hys
     obtain ⟨hl2, bs2, hR2, hm2⟩ := hys2
     obtain ⟨hl3, tkI, hT3, hm3⟩ := hys3
     (refine' hret _ _ _ _ ⟨_, _, _, _, _, _, _, _, _, _, dv8, sv8, ys, wo, ys2, ys3, ⟨bs, wb.map strOf, bs2, dp8, si8⟩, wb, tkI, _, _, _, _, _, _, _, by assumption, by assumption, hR1, hwo, hR2, hdv, hsv, hT3, wok1 hik hR1 hl1 hm1 (by assumption) hR2 hl2 hm2 (by assumption) hT3 hl3 hm3 (by assumption) hwb hdb hsb hon (of_decide_eq_false q7), by assumption, nd8 (by k_ne) (by k_ne) (by k_ne) (by k_ne) (by k_ne) (by k_ne) (by k_ne) (by k_ne) (by k_ne) (by k_ne) (by k_ne) (by k_ne) (by k_ne) (by k_ne) (by k_ne) (by k_ne) (by k_ne) (by k_ne) (by k_ne) (by k_ne) (by k_ne) (by k_ne) (by k_ne) (by k_ne) (by k_ne) (by k_ne) (by k_ne) (by k_ne)⟩ ?zF348 ?zN348 ?zK348; (case zF348 => assumption); (case zN348 => (refine News.sub_J (by assumption) ?_; walk_at "sub here")); (case zK348 => exact kept_of (by assumption) (by assumption) (News.sub_J (by assumption) (by walk_at "sub here"))))
  )
theorem zall : ∀ z : Zst × (Option Int) × (Option Int), Mine.law_drawn_.z1.z1.z1.zP1 (z.1.h 0) (z.1.n 0) (z.1.i 0) (z.1.n 1) (z.1.o 0) (z.1.lv 0) (z.1.li 0) (z.1.n 2) (z.1.o 1) (z.1.v 0) (z.1.v 1) (z.2.1) (z.2.2) := by refine @sk_all _ ⟨(Classical.choice neZst, default, default)⟩ _ ?_; with_unfolding_all exact zgo
end z1
theorem zgo : Mine.law_drawn_.z1.z1.zP1 (zx.n 0) (zx.h 0) (zx.n 1) (zx.n 2) (zx.i 0) (zx.i 1) (zx.n 3) (zx.o 0) (zx.lv 0) (zx.li 0) (zx.n 4) (zx.n 5) (zx.o 1) (zx.i 2) (zx.i 3) (zx.n 6) (zx.o 2) (zx.lv 1) (zx.li 1) ys2 mx9 tm9 o9 us9 ns9 nn9 (zx.n 9) (zx.h 1) (zx.o 4) (zx.n 10) wo wb := zcast Mine.law_drawn_.z1.z1.zp1 (fun zf => zf (zx.n 0) (zx.h 0) (zx.n 1) (zx.n 2) (zx.i 0) (zx.i 1) (zx.n 3) (zx.o 0) (zx.lv 0) (zx.li 0) (zx.n 4) (zx.n 5) (zx.o 1) (zx.i 2) (zx.i 3) (zx.n 6) (zx.o 2) (zx.lv 1) (zx.li 1) ys2 mx9 tm9 o9 us9 ns9 nn9 (zx.n 9) (zx.h 1) (zx.o 4) (zx.n 10) wo wb) (zs.2 (by rw [← zp1]; exact fun y0 y1 y2 y3 y4 y5 y6 y7 y8 y9 y10 y11 y12 => z1.zall ((zmk zw zk0 [y1, y3, y7] [y2] [] [] [y9, y10] [y4, y8] [y0] [] [y5] [] [] [y6] [] [] [] []), y11, y12)))
theorem zall : ∀ z : Zst, Mine.law_drawn_.z1.z1.zP1 (z.n 0) (z.h 0) (z.n 1) (z.n 2) (z.i 0) (z.i 1) (z.n 3) (z.o 0) (z.lv 0) (z.li 0) (z.n 4) (z.n 5) (z.o 1) (z.i 2) (z.i 3) (z.n 6) (z.o 2) (z.lv 1) (z.li 1) (z.lv 2) (z.i 4) (z.n 7) (z.o 3) (z.lv 3) (z.li 2) (z.n 8) (z.n 9) (z.h 1) (z.o 4) (z.n 10) (z.lv 4) (z.ll 0) := by refine @sk_all _ neZst _ ?_; with_unfolding_all exact zgo
end z1
theorem zgo : Mine.law_drawn_.z1.zP1 (zx.n 0) (zx.h 0) (zx.o 0) (zx.n 1) (zx.h 1) (zx.n 2) (zx.h 2) (zx.n 3) (zx.h 3) (zx.n 4) (zx.h 4) (zx.o 1) (zx.i 0) (zx.i 1) (zx.n 5) (zx.o 2) (zx.lv 0) (zx.li 0) ys mx9 tm9 o9 us9 ns9 (zx.n 7) (zx.o 4) (zx.i 3) (zx.n 8) (zx.i 4) (zx.n 9) (zx.o 5) (zx.lv 3) (zx.li 2) (zx.n 10) (zx.h 5) (zx.n 11) := zcast Mine.law_drawn_.z1.zp1 (fun zf => zf (zx.n 0) (zx.h 0) (zx.o 0) (zx.n 1) (zx.h 1) (zx.n 2) (zx.h 2) (zx.n 3) (zx.h 3) (zx.n 4) (zx.h 4) (zx.o 1) (zx.i 0) (zx.i 1) (zx.n 5) (zx.o 2) (zx.lv 0) (zx.li 0) ys mx9 tm9 o9 us9 ns9 (zx.n 7) (zx.o 4) (zx.i 3) (zx.n 8) (zx.i 4) (zx.n 9) (zx.o 5) (zx.lv 3) (zx.li 2) (zx.n 10) (zx.h 5) (zx.n 11)) (zs.2 (by rw [← zp1]; exact fun y0 y1 y2 y3 y4 y5 y6 y7 y8 y9 y10 y11 y12 y13 y14 y15 y16 y17 y18 y19 y20 y21 y22 y23 y24 y25 y26 y27 y28 y29 y30 y31 => z1.zall (zmk zw zk0 [y0, y2, y3, y6, y10, y11, y15, y21, y25, y26, y29] [y4, y5, y13, y14, y20] [] [] [] [y7, y12, y16, y22, y28] [y1, y27] [] [y8, y17, y19, y23, y30] [] [y31] [y9, y18, y24] [] [] [] [])))
theorem zall : ∀ z : Zst, Mine.law_drawn_.z1.zP1 (z.n 0) (z.h 0) (z.o 0) (z.n 1) (z.h 1) (z.n 2) (z.h 2) (z.n 3) (z.h 3) (z.n 4) (z.h 4) (z.o 1) (z.i 0) (z.i 1) (z.n 5) (z.o 2) (z.lv 0) (z.li 0) (z.lv 1) (z.i 2) (z.n 6) (z.o 3) (z.lv 2) (z.li 1) (z.n 7) (z.o 4) (z.i 3) (z.n 8) (z.i 4) (z.n 9) (z.o 5) (z.lv 3) (z.li 2) (z.n 10) (z.h 5) (z.n 11) := by refine @sk_all _ neZst _ ?_; with_unfolding_all exact zgo
end z1
theorem zgo : Mine.law_drawn_.zP1 g' (zx.n 0) (zx.h 1) (zx.n 1) (zx.o 0) (zx.o 1) := zcast Mine.law_drawn_.zp1 (fun zf => zf g' (zx.n 0) (zx.h 1) (zx.n 1) (zx.o 0) (zx.o 1)) (zs.2 (by rw [← zp1]; exact fun y0 y1 y2 y3 y4 y5 y6 y7 y8 y9 y10 y11 y12 y13 y14 y15 y16 y17 y18 y19 y20 y21 y22 y23 y24 y25 y26 y27 y28 y29 y30 y31 y32 y33 y34 y35 => z1.zall (zmk zw zk0 [y0, y3, y5, y7, y9, y14, y20, y24, y27, y29, y33, y35] [y12, y13, y19, y26, y28] [] [] [] [y2, y11, y15, y21, y25, y30] [y1, y4, y6, y8, y10, y34] [] [y16, y18, y22, y31] [] [] [y17, y23, y32] [] [] [] [])))
theorem zall : ∀ z : Zst, Mine.law_drawn_.zP1 (z.h 0) (z.n 0) (z.h 1) (z.n 1) (z.o 0) (z.o 1) := by refine @sk_all _ neZst _ ?_; with_unfolding_all exact zgo
end z1
theorem zgo : zA w d lf li (zx.i 0) (zx.n 3) (zx.o 0) (zx.lv 0) ui (zx.li 0) (zx.n 4) ni ids k (zx.c) := zs.2 (by rw [← zp1]; exact fun y0 y1 y2 y3 y4 y5 => z1.zall (zmk zw zk0 [y1, y3] [] [] [] [] [y4, y5] [y0, y2] [] [] [] [] [] [] [] [] []))
theorem zall : ∀ z : Zst, zA (z.w) (z.n 0) (z.n 1) (z.n 2) (z.i 0) (z.n 3) (z.o 0) (z.lv 0) (z.lv 1) (z.li 0) (z.n 4) (z.n 5) (z.ll 0) (z.n 6) (z.c) := by refine @sk_all _ neZst _ ?_; with_unfolding_all exact zgo
end law_drawn_
theorem law_drawn (w : World) (d lf li : Addr) (mx : Int) (tm : Tok) (o : Obj) (uf ui : List Value) (ns : List Int) (nn ni : Nat) (ids : List (List UInt8)) (hD9 : DeckOk w d lf mx tm o uf ns) (k : Nat) (hk9 : True) (hI : RowsAre ui ids) (hi3 : ids.length = 3) (hik : ∀ b ∈ ids, b.length = k) (hdl : d ≠ lf) (hdi : d ≠ li) (hli : lf ≠ li) :
    Spec w 251 [.ref d, .ref li] 10 100 [(d, o), (lf, listOf uf.toArray nn), (li, listOf ui.toArray ni)] (fun v n' => DrawnLed w k d lf li ni ui v n') False := Spec.cut fun zk => Mine.law_drawn_.zall (zmk w zk [d, lf, li, tm, nn, ni, k] [mx] [] [] [] [o] [] [] [uf, ui] [] [ids] [ns] [] [] [] []) hD9 hk9 hI hi3 hik hdl hdi hli
end sQf
theorem fl48 : True := by first | walk1 | trivial

section sQg

def SpecG (w : World) (f : Addr) (vs : List Value) (dn un : Nat) (G : Heap → Prop) (ok : Value → List (Addr × Obj) → Prop) : Prop :=
  ∀ (dp ut : Nat) (gd : Option (List Code)) (cn : PySem.Str) (cs : Scope) (a : Addr) (ccd : Value) (cl : List (PySem.Str × Addr)) (outer : List Env) (A₀ : Around) (base h₀ : Heap) (L : Addr) (m mg mb : PySem.Str → Option Value) (mean : ExcName → Option Value) (s : Shared) (Q E : Value → Shared → Prop),
    G h₀ → Below A₀ base outer h₀ → Fr h₀ L s.heap m → (hd.heap_1 w.params).In h₀ → Top VW LS mean mg mb h₀ → cs.kind = .function →
    dp + dn < recursionLimit → ut + un < cLine →
    Ret h₀ L m s [] ok Q →
    wpAny (model PG w) (ktrTop dp ut gd cn cs L a ccd cl outer) (call (.ref f) vs) Q E s
def SpecGAt (w : World) (f : Addr) (vs : List Value) (dn un : Nat) (G : Heap → Prop) (ok : Value → List (Addr × Obj) → Prop) (c : Cal) : Prop :=
  G c.h₀ → Below c.A₀ c.base c.outer c.h₀ → Fr c.h₀ c.L c.s.heap c.m → (hd.heap_1 w.params).In c.h₀ → Top VW LS c.mean c.mg c.mb c.h₀ → c.cs.kind = .function →
    c.dp + dn < recursionLimit → c.ut + un < cLine →
    Ret c.h₀ c.L c.m c.s [] ok c.Q →
    wpAny (model PG w) (ktrTop c.dp c.ut c.gd c.cn c.cs c.L c.a c.ccd c.cl c.outer) (call (.ref f) vs) c.Q c.E c.s
theorem SpecG.cut {w : World} {f : Addr} {vs : List Value} {dn un : Nat} {G : Heap → Prop} {ok : Value → List (Addr × Obj) → Prop} (h : ∀ c, SpecGAt w f vs dn un G ok c) : SpecG w f vs dn un G ok :=
  fun dp ut gd cn cs a ccd cl outer A₀ base h₀ L m mg mb mean s Q E => h ⟨dp, ut, gd, cn, cs, a, ccd, cl, outer, A₀, base, h₀, L, m, mg, mb, mean, s, Q, E⟩
theorem pick_any (us : List Value) : slicePick us.toArray none (some 24) none = (us.take 24).toArray := by
  have e : sliceBounds none (some 24) none us.toArray.size = (((0 : Nat) : Int), ((min 24 us.length : Nat) : Int), 1) := by
    simp only [sliceBounds, Option.getD_none, show (1 : Int) > 0 by decide, if_true, List.size_toArray, show ¬ ((24 : Int) < 0) by decide, if_false]
    congr 1
    congr 1
    omega
  rw [kmk_pick_nat _ e]
  simp
theorem intsAre_take {us : List Value} {ns : List Int} (h : IntsAre us ns) : ∀ n, IntsAre (us.take n) (ns.take n) := by
  induction h with
  | nil => intro n; simp; exact .nil
  | cons x t _ ih =>
    intro n
    cases n with
    | zero => exact .nil
    | succ n => exact .cons x t (ih n)
theorem ints_get {us : List Value} {ns : List Int} (h : IntsAre us ns) : ∀ {i : Nat} {v : Value}, us[i]? = some v → ∃ x t, v = .int x t ∧ ns[i]? = some x := by
  induction h with
  | nil => intro i v e; cases e
  | cons x t _ ih =>
    intro i v e
    cases i with
    | zero => exact ⟨x, t, (Option.some.inj e).symm, rfl⟩
    | succ i => exact ih e
local macro_rules | `(tactic| walk_at $s:str) => `(tactic| k_extra $(Lean.Syntax.mkStrLit ("S167." ++ s.getString)))
theorem zm73 : True := by
  (k_with "S167.eval ListComp" => k_extra "R111")
  (k_with "S167.subscriptTail Name Slice ref ref" => k_extra "R3")
  trivial
structure DkS where
  mx : Int
  t : Tok
namespace law_deck_
def zA (w : World) (l : Addr) (us : List Value) (ns : List Int) (zk : Cal) : Prop := ∀ (hI : IntsAre us ns), ∀ (hlen : ns.length ≤ 63), SpecGAt w 214 [.ref l] 2 20 (fun h => h.IsList l us.toArray) (fun v n' => ∃ d lf mx tm o uf ms nn, v = .ref d ∧ d ≠ lf ∧ DeckOk w d lf mx tm o uf ms ∧ n' = [(d, o), (lf, listOf uf.toArray nn)]) zk
@[irreducible] noncomputable def zx : Zst := sk neZst fun z => zA (z.w) (z.n 0) (z.lv 0) (z.li 0) (z.c)
@[irreducible] noncomputable def l : Addr := zx.n 0
@[irreducible] noncomputable def us : List Value := zx.lv 0
@[irreducible] noncomputable def ns : List Int := zx.li 0
@[irreducible] noncomputable def zk : Cal := zx.c
def zT (P1 : World → Addr → (List Value) → (List Int) → Cal → Heap → Addr → Heap → Nat → Prop) : Prop := ∀ w l us ns zk, (∀ y0 y1 y2 y3, P1 w l us ns zk y0 y1 y2 y3) → zA w l us ns zk
noncomputable def zs : { P : Heap → Addr → Heap → Nat → Prop // (∀ y0 y1 y2 y3, P y0 y1 y2 y3) → zA (zx.w) l us ns zk } := by
  refine' ⟨_, (_ : zT _) (zx.w) l us ns zk⟩
  rotate_left 1
  · intro w l us ns zk zR1 hI hlen hL B F X T hk hd hu hret
    w_strict (
     have N : News zk.h₀ zk.L zk.s.heap [] := News.nil
     have hIl := hI.length
     walk_at "my enter"
     (revert hI hlen hL B F X T hk hd hu hret N hIl FG' F' N' B' X' T' kG'; exact zR1 g' L' h' tk')
    )
@[irreducible] noncomputable def zP1 : Heap → Addr → Heap → Nat → Prop := Mine.law_deck_.zs.1
theorem zp1 : zP1 = Mine.law_deck_.zs.1 := by with_unfolding_all rfl
namespace z1
@[irreducible] noncomputable def zx : Zst := sk neZst fun z => Mine.law_deck_.zP1 (z.h 0) (z.n 0) (z.h 1) (z.n 1)
theorem zgo : Mine.law_deck_.zP1 (zx.h 0) (zx.n 0) (zx.h 1) (zx.n 1) := by
  refine' zcast Mine.law_deck_.zp1 (fun zf => zf (zx.h 0) (zx.n 0) (zx.h 1) (zx.n 1)) ((_ : ∀ g' L' h' tk', Mine.law_deck_.zs.1 g' L' h' tk') (zx.h 0) (zx.n 0) (zx.h 1) (zx.n 1))
  intro g' L' h' tk' hI hlen hL B F X T hk hd hu hret N hIl FG' F' N' B' X' T' kG'
  w_strict (
   have hLg := hL.at (fun o e => FG'.keep l o e)
   k_steps
   unfold Hold
   rename Fr _ _ _ _ => sF9
   rename News _ _ _ _ => sN9
   refine' kmk_slice (s := ⟨_, _, _, _, _⟩) sF9 sN9 ?k1 ?k2 ?k3 ?_ ?k5 ?k6 ?k7
   case k1 => exact hLg.at (fun o e => sF9.keep l o e)
   case k2 => constructor
   case k3 => constructor
   case k5 => with_unfolding_all rfl
   case k6 => (intro _; with_unfolding_all rfl)
   case k7 => (rw [sizeLine_eq, List.size_toArray]; omega)
   intro D' h' F' N' l1
   k_lt l1
   rw [pick_any] at N'
   clear sF9 sN9
   have hI2 := intsAre_take hI 24
   have hl24 : (us.take 24).length ≤ 24 := by rw [List.length_take]; omega
   obtain ⟨u24, hu24⟩ : ∃ z, z = us.take 24 := ⟨_, rfl⟩
   rw [← hu24] at hI2 hl24 N'
   obtain ⟨n24, hn24⟩ : ∃ z, z = ns.take 24 := ⟨_, rfl⟩
   rw [← hn24] at hI2
   have hl2 := hI2.length
   k_steps
   unfold Hold
   refine rest_news (fun j ys => IntsAre ys ((n24.take j).map fun x => x.fmod 1000003)) .nil ?_ ?_
   · rintro j ys v I oI C oC D' m₂ h' tkI' E' hj hys hvj hoC hx F₂ N₂ off ne
     obtain ⟨x, tx, rfl, hx9⟩ := ints_get hI2 (by simpa using hvj)
     k_steps
     rw [take_succ hx9, List.map_append]
     exact intsAre_snoc hys
   · intro ys hys
     rw [show u24.toArray.size = n24.length by simp [hl2], List.take_length] at hys
     have hyl := hys.length
     rw [List.length_map] at hyl
     k_steps
     unfold Hold
     rename Fr _ _ _ _ => lF
     rename News _ _ _ _ => lN
     obtain ⟨T9, D1, rfl, rfl⟩ := name2 lN
     have hn24l : n24.length ≤ 24 := by rw [← hl2]; exact hl24
     have hns : ∀ x ∈ n24.map fun x => x.fmod 1000003, 0 ≤ x ∧ x < 1000003 := by
       intro x hx
       obtain ⟨y, _, rfl⟩ := List.mem_map.mp hx
       exact mod_bound _ _ (by decide)
     refine' loopM (σ := DkS) (Iter.list (vs := ys) (nn := ys.length) rfl) (fun c => [(D1, listOf ys.toArray ys.length)]) (fun c => [("mixed", .int c.mx c.t)]) [] (fun i c => 0 ≤ c.mx ∧ c.mx < 1000003) ⟨8207, _⟩ lF lN ?hn ?hkeep ?hkk ?hp ?turn ?done
     case hn => intro p hp; rw [List.mem_singleton.mp hp]; exact List.mem_cons_of_mem _ List.mem_cons_self
     case hkeep => exact fun _ _ h => h
     case hkk => intro p hp; rw [List.mem_singleton.mp hp]; rfl
     case hp => exact ⟨(by decide : (0 : Int) ≤ 8207), (by decide : (8207 : Int) < 1000003)⟩
     case turn =>
       rintro i v ⟨m2, t2⟩ u h tk8 own hi hv hoff ⟨hm1, hm2⟩ F₁ N₁
       dsimp only at hm1 hm2 F₁ N₁ hoff
       simp only [List.nil_append, List.cons_append, List.map_cons, List.map_nil] at N₁ hoff
       clear lF lN
       obtain ⟨x, tx, rfl, hx9⟩ := ints_get hys hv
       k_steps
       refine' At.end ⟨_, _⟩ hoff (by assumption) (by assumption) rfl ?zn ?zw ?zk ?zr ?zp
       case zn => (try dsimp only); walk_at "sub here"
       case zw => intro p hp; repeat (first | exact hp | refine List.mem_cons_of_mem _ ?_)
       case zk => intro q hq; rw [List.mem_singleton.mp hq]; rfl
       case zr => intro z h1 h2 h3; have h4 := h2 _ (List.mem_singleton.mpr rfl); simp +zetaDelta [h1, h4, kstB]
       case zp => exact mod_bound _ _ (by decide)
     case done =>
       rintro ⟨m2, t2⟩ u h tk8 ⟨hm1, hm2⟩ F₁ N₁
       dsimp only at hm1 hm2 F₁ N₁
       clear lF lN
       k_steps
       (refine' hret _ _ _ _ ⟨_, D1, m2, t2, _, ys, _, _, rfl, by k_ne, ⟨by assumption, hys, hm1, hm2, hns, by rw [List.length_map]; omega⟩, rfl⟩ ?zF136 ?zN136 ?zK136; (case zF136 => assumption); (case zN136 => (refine News.sub_J (by assumption) ?_; walk_at "sub here")); (case zK136 => exact kept_of (by assumption) (by assumption) (News.sub_J (by assumption) (by walk_at "sub here"))))
  )
theorem zall : ∀ z : Zst, Mine.law_deck_.zP1 (z.h 0) (z.n 0) (z.h 1) (z.n 1) := by refine @sk_all _ neZst _ ?_; with_unfolding_all exact zgo
end z1
theorem zgo : zA (zx.w) l us ns zk := zs.2 (by rw [← zp1]; exact fun y0 y1 y2 y3 => z1.zall (zmk zw zk0 [y1, y3] [] [] [] [] [] [y0, y2] [] [] [] [] [] [] [] [] []))
theorem zall : ∀ z : Zst, zA (z.w) (z.n 0) (z.lv 0) (z.li 0) (z.c) := by refine @sk_all _ neZst _ ?_; with_unfolding_all exact zgo
end law_deck_
theorem law_deck (w : World) (l : Addr) (us : List Value) (ns : List Int) (hI : IntsAre us ns) (hlen : ns.length ≤ 63) :
    SpecG w 214 [.ref l] 2 20 (fun h => h.IsList l us.toArray) (fun v n' => ∃ d lf mx tm o uf ms nn, v = .ref d ∧ d ≠ lf ∧ DeckOk w d lf mx tm o uf ms ∧ n' = [(d, o), (lf, listOf uf.toArray nn)]) := SpecG.cut fun zk => Mine.law_deck_.zall (zmk w zk [l] [] [] [] [] [] [] [] [us] [] [] [ns] [] [] [] []) hI hlen
end sQg
theorem fl49 : True := by first | walk1 | trivial

section sQh
open PySem.SeqAt
section
variable {A : Around} {s : Shared}
theorem eqAt_bytes (a : Array UInt8) (t u : Tok) : EqAt A s (.bytes a t) (.bytes a u) true := fun prog w E Q h => by
  unfold eqBool
  refine wpAny_holding ?_
  refine wpAny_ite_split (fun _ => ?_) (fun _ => ?_)
  · exact wpAny_bind (wpAny_rule (wpAny_pure h))
  · exact wpAny_bind (eq_bytes (wpAny_truthy_bool (by rw [beq_self_eq_true]; exact h)))
theorem eqAt_int (i : Int) (t u : Tok) : EqAt A s (.int i t) (.int i u) true := by
  have := EqAt.int_int (A := A) (s := s) i t i u
  rwa [beq_self_eq_true] at this
theorem eqAt_str (x : PySem.Str) (t u : Tok) : EqAt A s (.str x t) (.str x u) true := by
  have := EqAt.str_str (A := A) (s := s) x t x u
  rwa [beq_self_eq_true] at this
theorem eqAt_list {a b : Addr} {us ws : List Value} (hl : s.heap.IsList a us.toArray) (hb : s.heap.IsList b ws.toArray) (hlen : us.length = ws.length) (hu : A.units < cLine) (he : ∀ j (h1 : j < us.length) (h2 : j < ws.length), EqAt A.in1 s us[j] ws[j] true) : EqAt A s (.ref a) (.ref b) true := by
  by_cases e : a = b
  · subst e; exact EqAt.same _
  · have := RcAt.lists (A := A) (s := s) (e := fun _ => true) hl hb (by simpa using hlen) hu (fun j h1 h2 => by simpa using he j (by simpa using h1) (by simpa using h2))
    rw [show (List.range us.toArray.size).all (fun _ => true) = true by simp] at this
    exact EqAt.of_refs e this
theorem RowsAre.at {us : List Value} {l : List (List UInt8)} (h : RowsAre us l) : ∀ j (h1 : j < us.length) (h2 : j < l.length), ∃ t, us[j] = .bytes l[j].toArray t := by
  intro j h1 h2
  obtain ⟨b, t, e, hb⟩ := h.get (List.getElem?_eq_getElem h1)
  have := (List.getElem?_eq_some_iff.mp hb).2
  exact ⟨t, by rw [e, this]⟩
theorem eq_rows {us ws : List Value} {l : List (List UInt8)} (h : RowsAre us l) (k : RowsAre ws l) : us.length = ws.length ∧ ∀ j (h1 : j < us.length) (h2 : j < ws.length), EqAt A s us[j] ws[j] true := by
  refine ⟨h.length.trans k.length.symm, fun j h1 h2 => ?_⟩
  obtain ⟨t, e1⟩ := RowsAre.at h j h1 (h.length ▸ h1)
  obtain ⟨u, e2⟩ := RowsAre.at k j h2 (h.length ▸ h1)
  rw [e1, e2]
  exact eqAt_bytes _ _ _
theorem eq_strs {us ws : List Value} {l : List PySem.Str} (h : StrsAre us l) (k : StrsAre ws l) : us.length = ws.length ∧ ∀ j (h1 : j < us.length) (h2 : j < ws.length), EqAt A s us[j] ws[j] true := by
  refine ⟨h.length.trans k.length.symm, fun j h1 h2 => ?_⟩
  obtain ⟨y, t, e1, hy⟩ := h.item j us[j] (List.getElem?_eq_getElem h1)
  obtain ⟨z, u, e2, hz⟩ := k.item j ws[j] (List.getElem?_eq_getElem h2)
  rw [e1, e2]
  obtain rfl := Option.some.inj (hy.symm.trans hz)
  exact eqAt_str _ _ _
theorem eq_talk {us ws : List Value} {l : List Item} (h : TalkAre us l) (k : TalkAre ws l) : us.length = ws.length ∧ ∀ j (h1 : j < us.length) (h2 : j < ws.length), EqAt A s us[j] ws[j] true := by
  refine ⟨h.length.trans k.length.symm, fun j h1 h2 => ?_⟩
  obtain ⟨i1, e1, hy⟩ := h.get (List.getElem?_eq_getElem h1)
  obtain ⟨i2, e2, hz⟩ := k.get (List.getElem?_eq_getElem h2)
  obtain rfl := Option.some.inj (hy.symm.trans hz)
  revert e1 e2
  generalize us[j] = v1
  generalize ws[j] = v2
  intro e1 e2
  cases i1 with
  | none =>
    obtain ⟨t, rfl⟩ := e1
    obtain ⟨u, rfl⟩ := e2
    exact eqAt_int _ _ _
  | some b =>
    obtain ⟨t, rfl⟩ := e1
    obtain ⟨u, rfl⟩ := e2
    exact eqAt_bytes _ _ _
theorem eq_opt {o : Option Int} {v y : Value} (h : OptI o v) (k : OptI o y) : EqAt A s v y true := by
  cases h with
  | none => cases k; exact EqAt.same _
  | some i t => cases k; exact eqAt_int _ _ _
end
section
variable {v1 v2 v3 v4 v5 v6 v7 : Value}
theorem val1 : valueAt (wV v1 v2 v3 v4 v5 v6 v7) "wants" = some v1 := by with_unfolding_all rfl
theorem val2 : valueAt (wV v1 v2 v3 v4 v5 v6 v7) "words" = some v2 := by with_unfolding_all rfl
theorem val3 : valueAt (wV v1 v2 v3 v4 v5 v6 v7) "shallow" = some v3 := by with_unfolding_all rfl
theorem val4 : valueAt (wV v1 v2 v3 v4 v5 v6 v7) "depth" = some v4 := by with_unfolding_all rfl
theorem val5 : valueAt (wV v1 v2 v3 v4 v5 v6 v7) "since" = some v5 := by with_unfolding_all rfl
theorem val6 : valueAt (wV v1 v2 v3 v4 v5 v6 v7) "talk" = some v6 := by with_unfolding_all rfl
theorem val7 : valueAt (wV v1 v2 v3 v4 v5 v6 v7) "is_done" = some v7 := by with_unfolding_all rfl
end
theorem in1_room {A : Around} (h : A.units + 8 < cLine) : A.units < cLine ∧ A.in1.units < cLine ∧ A.in1.in1.units < cLine := by
  have e1 : A.in1.units ≤ A.units + 1 := by first | exact Nat.le_refl _ | (unfold Around.in1; simp; omega)
  have e2 : A.in1.in1.units ≤ A.in1.units + 1 := by first | exact Nat.le_refl _ | (unfold Around.in1; simp; omega)
  omega
theorem told_same {w : World} {A : Around} {E : Value → Shared → Prop} {s : Shared} {a b lw lo ls lt lw2 lo2 ls2 lt2 : Addr} {dv sv dv2 sv2 : Value} {done : Bool} {uw uo us uk uw2 uo2 us2 uk2 : List Value} {st : St} {tkI : List Item} {Q : Value → Shared → Prop} (ha : (a == sysModules) = false) (hb : (b == sysModules) = false)
    (da : s.heap.DictOf (PySem.strKind PG w) a (wP lw lo ls lt dv sv done)) (db : s.heap.DictOf (PySem.strKind PG w) b (wP lw2 lo2 ls2 lt2 dv2 sv2 done)) (hu : A.units + 8 < cLine)
    (l1 : s.heap.IsList lw uw.toArray) (l2 : s.heap.IsList lo uo.toArray) (l3 : s.heap.IsList ls us.toArray) (l4 : s.heap.IsList lt uk.toArray) (m1 : s.heap.IsList lw2 uw2.toArray) (m2 : s.heap.IsList lo2 uo2.toArray) (m3 : s.heap.IsList ls2 us2.toArray) (m4 : s.heap.IsList lt2 uk2.toArray)
    (hR : RowsAre uw st.wants) (hR2 : RowsAre uw2 st.wants) (hO : StrsAre uo st.words) (hO2 : StrsAre uo2 st.words) (hS : RowsAre us st.shallow) (hS2 : RowsAre us2 st.shallow) (hD : OptI st.depth dv) (hD2 : OptI st.depth dv2) (hN : OptI st.since sv) (hN2 : OptI st.since sv2) (hT : TalkAre uk tkI) (hT2 : TalkAre uk2 tkI)
    (h : Q (.bool false) s) : wpAny (model PG w) A (compareOp .NotEq (.ref a) (.ref b)) Q E s := by
  obtain ⟨u0, u1, u2⟩ := in1_room hu
  have k1 := eqAt_list (A := A.in1) l1 m1 (eq_rows (A := A) (s := s) hR hR2).1 u1 (eq_rows hR hR2).2
  have k2 := eqAt_list (A := A.in1) l2 m2 (eq_strs (A := A) (s := s) hO hO2).1 u1 (eq_strs hO hO2).2
  have k3 := eqAt_list (A := A.in1) l3 m3 (eq_rows (A := A) (s := s) hS hS2).1 u1 (eq_rows hS hS2).2
  have k4 := eqAt_list (A := A.in1) l4 m4 (eq_talk (A := A) (s := s) hT hT2).1 u1 (eq_talk hT hT2).2
  refine keq_ne (r := true && (true && (true && (true && (true && (true && (true && true))))))) ha hb da db u0 (fun _ => ?_) (by simpa using h)
  exact .hit val1 k1 (.hit val2 k2 (.hit val3 k3 (.hit val4 (eq_opt hD hD2) (.hit val5 (eq_opt hN hN2) (.hit val6 k4 (.hit val7 (EqAt.same _) .nil))))))
end sQh
theorem fl50 : True := by first | walk1 | trivial

section sQha

theorem Spec.useK {w : World} {f : Addr} {vs : List Value} {dn un : Nat} {mine : List (Addr × Obj)} {ok : Value → List (Addr × Obj) → Prop} {bad : Prop} (C : Spec w f vs dn un mine ok bad) {ok2 : Value → List (Addr × Obj) → Prop} (hok : ∀ v n', ok v n' → ∃ ex, n' = ex ++ mine ∧ ok2 v ex)
    {dp ut : Nat} {gd : Option (List Code)} {cn : PySem.Str} {cs : Scope} {a' : Addr} {ccd : Value} {cl : List (PySem.Str × Addr)} {outer : List Env} {A₀ : Around} {base h₀ : Heap} {L : Addr} {m mg mb : PySem.Str → Option Value} {mean : ExcName → Option Value} {s : Shared} {Q E : Value → Shared → Prop} {news : List (Addr × Obj)}
    (B : Below A₀ base outer h₀) (F : Fr h₀ L s.heap m) (X : (hd.heap_1 w.params).In h₀) (N : News h₀ L s.heap news) (T : Top VW LS mean mg mb h₀) (hk : cs.kind = .function)
    (hd : dp + dn < recursionLimit) (hu : ut + un < cLine) (hm : ∀ p ∈ mine, p ∈ news)
    (ret : ∀ (v : Value) (h' : Heap) (tk' : Nat) (ex : List (Addr × Obj)), ok2 v ex → Fr h₀ L h' m → News h₀ L h' (ex ++ news) → (∀ p ∈ ex, p.1 ∈ mine.map (·.1) ∨ s.heap.get? p.1 = none) → Q v { s with heap := h', toks := tk' })
    (exc : bad → Flies base (envX cn cs L a' ccd cl :: outer) s mine E) :
    wpAny (model PG w) (ktrTop dp ut gd cn cs L a' ccd cl outer) (call (.ref f) vs) Q E s := by
  refine C _ _ _ _ _ _ _ _ _ _ _ _ _ _ _ _ _ _ _ _ B F X (fun p hp => N p (hm p hp)) T hk hd hu (fun v h' tk' mine' ho F' N' K' => ?_) exc
  obtain ⟨ex, rfl, h2⟩ := hok v mine' ho
  refine ret v h' tk' ex h2 F' (fun p hp => ?_) (fun p hp => K'.fresh p (List.mem_append.mpr (.inl hp)))
  rcases List.mem_append.mp hp with hp | hp
  · exact N' p (List.mem_append.mpr (.inl hp))
  · by_cases hq : p.1 ∈ mine.map (·.1)
    · obtain ⟨q, hq, e⟩ := List.mem_map.mp hq
      have h1 := (N' q (List.mem_append.mpr (.inr hq))).1
      have h3 := (N q (hm q hq)).1
      have h4 := (N p hp).1
      rw [e] at h1 h3
      rw [h4] at h3
      rw [← Option.some.inj h3] at h1
      exact ⟨h1, (N p hp).2⟩
    · exact ⟨K'.keep _ _ (N p hp).1 hq, (N p hp).2⟩
end sQha
theorem fl51 : True := by first | walk1 | trivial

section sQhb

theorem takeP_len {k : Nat} {st st' : St} {row : List UInt8} (h : takeP k st row = some st') : st'.wants.length ≤ st.wants.length + 1 ∧ st'.words.length ≤ st.words.length + (row.length + 2) ∧ st'.shallow.length ≤ st.shallow.length + 1 := by
  have hk : ∀ c : List UInt8, c.length ≤ row.length → (kept (cuts c)).length ≤ row.length + 2 := by
    intro c hc
    have h2 : (kept (cuts c)).length ≤ (cuts c).length := List.length_filter_le _ _
    have h3 : (cuts c).length ≤ (strOf c).length + 2 := split_le (strOf c) (Str.ofString " ")
    rw [strOf_length] at h3
    omega
  unfold takeP at h
  split at h
  · split at h
    · obtain rfl := Option.some.inj h
      have := hk ((row.drop 5).drop (2 * k)) (by rw [List.length_drop, List.length_drop]; omega)
      refine ⟨?_, ?_, ?_⟩
      · simp
      · simp only [List.length_append]; omega
      · simp
    · cases h
  · split at h
    · split at h
      · obtain rfl := Option.some.inj h
        refine ⟨?_, ?_, ?_⟩ <;> simp
      · cases h
    · split at h
      · split at h
        · split at h
          · cases h
          · obtain rfl := Option.some.inj h
            refine ⟨?_, ?_, ?_⟩ <;> simp
        · cases h
      · split at h
        · split at h
          · obtain rfl := Option.some.inj h
            refine ⟨?_, ?_, ?_⟩ <;> simp
          · cases h
        · cases h
theorem foldT_len {k m : Nat} : ∀ (l : List (List UInt8)) (st st' : St), (∀ r ∈ l, r.length ≤ m) → foldT k st l = some st' → st'.wants.length ≤ st.wants.length + l.length ∧ st'.words.length ≤ st.words.length + l.length * (m + 2) ∧ st'.shallow.length ≤ st.shallow.length + l.length := by
  intro l
  induction l with
  | nil =>
    intro st st' _ h
    obtain rfl := Option.some.inj (show some st = some st' from h)
    simp
  | cons a l ih =>
    intro st st' hm h
    cases hq : takeP k st a with
    | none => rw [foldT_cons_none k l hq] at h; cases h
    | some s =>
      rw [foldT_cons k l hq] at h
      obtain ⟨h1, h2, h3⟩ := takeP_len hq
      obtain ⟨g1, g2, g3⟩ := ih s st' (fun r hr => hm r (List.mem_cons_of_mem _ hr)) h
      have ha := hm a List.mem_cons_self
      rw [List.length_cons, Nat.succ_mul]
      omega
end sQhb
theorem fl52 : True := by first | walk1 | trivial

section sQhc

theorem strOf_inj {a b : List UInt8} (h : strOf a = strOf b) : a = b := by
  have h1 : a.map UInt8.toNat = b.map UInt8.toNat := by
    have h2 : (strOf a).cps.toList = (strOf b).cps.toList := by rw [h]
    exact h2
  have h3 := congrArg (List.map Nat.toUInt8) h1
  rw [List.map_map, List.map_map] at h3
  have e : ∀ l : List UInt8, l.map (Nat.toUInt8 ∘ UInt8.toNat) = l := by
    intro l
    conv => rhs; rw [← List.map_id l]
    exact List.map_congr_left fun c _ => by simp
  rwa [e, e] at h3
theorem rows_some {l : List (List UInt8)} : ∀ {rs : List Value}, StrsAre rs (l.map strOf) → RowStrs rs (l.map some) := by
  induction l with
  | nil => intro rs h; cases h; exact .nil
  | cons a l ih =>
    intro rs h
    cases h with
    | cons y t h => exact .cons (.some a t) (ih h)
theorem framed_len (f : List UInt8) (n : Nat) : ∀ its : List Item, (∀ b, some b ∈ its → b.length ≤ n) → (framed its f).length ≤ its.length * (n + f.length + 4) := by
  intro its
  induction its with
  | nil => intro _; exact Nat.zero_le _
  | cons a l ih =>
    intro h
    have h1 := ih fun b hb => h b (List.mem_cons_of_mem _ hb)
    have e : framed (a :: l) f = pk (a.map (· ++ f)) ++ framed l f := rfl
    rw [e, List.length_append, List.length_cons, Nat.succ_mul]
    have h2 : (pk (a.map (· ++ f))).length ≤ n + f.length + 4 := by
      cases a with
      | none => show 4 ≤ _; omega
      | some b =>
        have := h b List.mem_cons_self
        show (pktL (b ++ f)).length ≤ _
        unfold pktL
        rw [List.length_append, hdrL_length, List.length_append]
        omega
    omega
theorem words_small : ∀ n : Nat, n ≤ 3 → (wordsB (WB3.take n)).length ≤ 30 := by decide +kernel
def Small (m n : Nat) (l : List (List UInt8)) : Prop := l.length ≤ m ∧ ∀ r ∈ l, 5 ≤ r.length ∧ r.length ≤ n
theorem Small.append {m1 m2 n : Nat} {a b : List (List UInt8)} (x : Small m1 n a) (y : Small m2 n b) : Small (m1 + m2) n (a ++ b) :=
  ⟨by rw [List.length_append]; have := x.1; have := y.1; omega, fun r h => (List.mem_append.mp h).elim (x.2 r) (y.2 r)⟩
theorem optL_small (pre : List UInt8) (h1 : 5 ≤ pre.length) (h2 : pre.length ≤ 20) (o : Option Int) : Small 1 55 (optL pre o) := by
  cases o with
  | none => exact ⟨Nat.zero_le _, fun _ h => nomatch h⟩
  | some i =>
    refine ⟨Nat.le_refl _, fun r h => ?_⟩
    rw [List.mem_singleton.mp h, List.length_append]
    have := dec_len i.toNat
    omega
theorem wants_small {k : Nat} (hk : k ≤ 4) {wb : List (List UInt8)} (hw : ∃ n, n ≤ 3 ∧ wb = WB3.take n) {l : List (List UInt8)} (h : ∀ b ∈ l, b.length = k) (hl : l.length ≤ 3) : Small 3 55 (wantsL wb l) := by
  refine ⟨by unfold wantsL; simpa using hl, fun r hr => ?_⟩
  unfold wantsL at hr
  obtain ⟨p, hp, rfl⟩ := List.mem_map.mp hr
  have hb := h p.1 (by
    have := List.mem_zipIdx hp
    exact this.2.2 ▸ List.getElem_mem _)
  have hx := hexB_length p.1
  have hW : WANT.length = 5 := rfl
  obtain ⟨n, hn, e⟩ := hw
  have hs := words_small n hn
  rw [← e] at hs
  rw [List.length_append, List.length_append, hW]
  unfold hexB
  rw [hx]
  split
  · omega
  · rw [List.length_nil]; omega
theorem shal_small {k : Nat} (hk : k ≤ 4) {l : List (List UInt8)} (h : ∀ b ∈ l, b.length = k) (hl : l.length ≤ 2) : Small 2 55 (shalL l) := by
  refine ⟨by unfold shalL; simpa using hl, fun r hr => ?_⟩
  unfold shalL at hr
  obtain ⟨b, hb, rfl⟩ := List.mem_map.mp hr
  have := h b hb
  have hS : SHAL.length = 8 := rfl
  have hx := hexB_length b
  rw [List.length_append, hS]
  unfold hexB
  rw [hx]
  omega
theorem le4 {k : Nat} (hk : k = 3 ∨ k = 4) : k ≤ 4 := by omega
theorem heads_small {k : Nat} {st : St} {wb : List (List UInt8)} {tk : List Item} (H : WOk k st wb tk) (hk : k = 3 ∨ k = 4) : Small 7 55 (headsL st wb) :=
  (((wants_small (le4 hk) H.wbp H.wl H.wn).append (shal_small (le4 hk) H.sl H.sn)).append (optL_small DEEP (by decide) (by decide) st.depth)).append (optL_small SINC (by decide) (by decide) st.since)
theorem late_small {k : Nat} {st : St} {wb : List (List UInt8)} {tk : List Item} (H : WOk k st wb tk) (hk : k = 3 ∨ k = 4) : Small 7 55 (lateL st wb) :=
  (((shal_small (le4 hk) H.sl H.sn).append (optL_small DEEP (by decide) (by decide) st.depth)).append (optL_small SINC (by decide) (by decide) st.since)).append (wants_small (le4 hk) H.wbp H.wl H.wn)
theorem one_len {k : Nat} (hk : k = 3 ∨ k = 4) : (oneL k).length = 2 * k := by rcases hk with rfl | rfl <;> rfl
theorem sure_small {k : Nat} {st : St} {wb : List (List UInt8)} {tk : List Item} (H : WOk k st wb tk) (hk : k = 3 ∨ k = 4) : Small 7 55 (sureL k st wb) := by
  unfold sureL
  split
  · refine ⟨by show 1 ≤ 7; decide, fun r h => ?_⟩
    have hW : WANT.length = 5 := rfl
    rw [List.mem_singleton.mp h, List.length_append, one_len hk, hW]
    omega
  · exact heads_small H hk
theorem odd_small : ∀ k : Nat, k = 3 ∨ k = 4 → ∀ (i : Nat) (o : List (List UInt8)), (oddL k)[i]? = some o → o.length ≤ 2 ∧ ∀ r ∈ o, r.length ≤ 55 := by
  have key : ∀ k : Nat, k < 5 → 3 ≤ k → ((oddL k).all fun o => decide (o.length ≤ 2) && o.all fun r => decide (r.length ≤ 55)) = true := by decide +kernel
  intro k hk i o ho
  have := List.all_eq_true.mp (key k (by omega) (by omega)) o (List.mem_of_getElem? ho)
  rw [Bool.and_eq_true, decide_eq_true_eq] at this
  exact ⟨this.1, fun r hr => of_decide_eq_true (List.all_eq_true.mp this.2 r hr)⟩
theorem tails_small {k : Nat} {tk : List Item} (hk : k ≤ 4) (hn : tk.length ≤ 3) (hl : ∀ b, some b ∈ tk → b.length = k) (done : Bool) : (tailsL tk done).length ≤ 4 ∧ ∀ b, some b ∈ tailsL tk done → b.length ≤ 55 := by
  unfold tailsL
  refine ⟨?_, fun b hb => ?_⟩
  · rw [List.length_append, List.length_map]
    split
    · show _ + 1 ≤ _; omega
    · show _ + 0 ≤ _; omega
  · rcases List.mem_append.mp hb with hb | hb
    · obtain ⟨it, hit, e⟩ := List.mem_map.mp hb
      cases it with
      | none => cases e
      | some c =>
        obtain rfl := Option.some.inj e
        have h1 := hl c hit
        have hx := hexB_length c
        have hh : haveL.length = 5 := rfl
        rw [List.length_append, hh]
        unfold hexB
        rw [hx]
        omega
    · split at hb
      · obtain rfl := Option.some.inj (List.mem_singleton.mp hb)
        decide
      · cases hb
theorem told_rows (w : World) (hs : List (List UInt8)) (ts : List Item) (f : List UInt8) (hf : f.length ≤ 1) (t : Tok) (k : Nat) (tn : Tok) (hk : k ≤ 4) (h1 : hs.length ≤ 9) (h2 : ∀ r ∈ hs, r.length ≤ 55) (h3 : ts.length ≤ 9) (h4 : ∀ b, some b ∈ ts → b.length ≤ 55) (out : Option (St × List Item × Bool)) (hrd : readP k (hs.map (· ++ f)) (ts.map fun it => it.map (· ++ f)) = out) :
    SpecT w 258 [.bytes (framed (hs.map some ++ [none] ++ ts) f).toArray t, .int (k : Int) tn] 50 500 (fun v n' => (out = none → v = .none ∧ n' = []) ∧ (∀ st tk done, out = some (st, tk, done) → ∃ d, v = .ref d ∧ ToldLed w d st tk done n')) := by
  have g1 : ∀ r ∈ hs.map (· ++ f), r.length ≤ 56 := by
    intro r hr
    obtain ⟨b, hb, rfl⟩ := List.mem_map.mp hr
    have := h2 b hb
    rw [List.length_append]
    omega
  have g2 : ∀ b, some b ∈ ts.map (fun it => it.map (· ++ f)) → b.length ≤ 56 := by
    intro b hb
    obtain ⟨it, hit, e⟩ := List.mem_map.mp hb
    cases it with
    | none => cases e
    | some c =>
      obtain rfl := Option.some.inj e
      have := h4 c hit
      rw [List.length_append]
      omega
  have g3 : ∀ b, some b ∈ hs.map some ++ [none] ++ ts → b.length ≤ 55 := by
    intro b hb
    rcases List.mem_append.mp hb with hb | hb
    · rcases List.mem_append.mp hb with hb | hb
      · obtain ⟨c, hc, e⟩ := List.mem_map.mp hb
        exact Option.some.inj e ▸ h2 c hc
      · cases List.mem_singleton.mp hb
    · exact h4 b hb
  have hl := framed_len f 55 _ g3
  have hz : (framed (hs.map some ++ [none] ++ ts) f).length ≤ 65536 := by
    rw [List.length_append, List.length_append, List.length_map, List.length_singleton] at hl
    have : (hs.length + 1 + ts.length) * (55 + f.length + 4) ≤ 19 * 60 := Nat.mul_le_mul (by omega) (by omega)
    omega
  refine told_flush w (hs.map (· ++ f)) (ts.map fun it => it.map (· ++ f)) _ (framed_parts hs ts f).symm t k tn hz (fun b hb => Nat.le_trans (g1 b hb) (by decide)) (fun b hb => Nat.le_trans (g1 b hb) (by decide)) (fun b hb => Nat.le_trans (g2 b hb) (by decide)) hk (by rw [List.length_map]; omega) (by rw [List.length_map]; omega) (fun i st' h => ?_) out hrd
  have hm : ∀ r ∈ (stripR (hs.map (· ++ f))).take i, r.length ≤ 56 := by
    intro r hr
    obtain ⟨c, hc, rfl⟩ := List.mem_map.mp (List.mem_of_mem_take hr)
    exact Nat.le_trans (rowOf_len c) (g1 c hc)
  obtain ⟨b1, b2, b3⟩ := foldT_len _ _ _ hm h
  have hn : ((stripR (hs.map (· ++ f))).take i).length ≤ 9 := by
    rw [List.length_take]
    unfold stripR
    rw [List.length_map, List.length_map]
    omega
  have e1 : st0.wants.length = 0 := rfl
  have e2 : st0.words.length = 0 := rfl
  have e3 : st0.shallow.length = 0 := rfl
  have : ((stripR (hs.map (· ++ f))).take i).length * (56 + 2) ≤ 9 * 58 := Nat.mul_le_mul hn (by omega)
  omega
theorem told_norow (w : World) (hs : List (List UInt8)) (b : List UInt8) (t : Tok) (k : Nat) (tn : Tok) (h1 : (hs ++ [b]).length ≤ 9) (h2 : ∀ r ∈ hs ++ [b], r.length ≤ 55) :
    SpecT w 258 [.bytes (framed ((hs ++ [b]).map some) [10]).toArray t, .int (k : Int) tn] 50 500 (fun v n' => v = .none ∧ n' = []) := by
  have e : framed ((hs ++ [b]).map some) [10] = enc' (hs.map (· ++ [10]) ++ [b ++ [10]]) := by
    rw [framed_rows, List.map_append]
    rfl
  have g3 : ∀ c, some c ∈ (hs ++ [b]).map some → c.length ≤ 55 := by
    intro c hc
    obtain ⟨d, hd, q⟩ := List.mem_map.mp hc
    exact Option.some.inj q ▸ h2 d hd
  have hl := framed_len [10] 55 _ g3
  rw [List.length_map] at hl
  have hm : (hs ++ [b]).length * (55 + ([10] : List UInt8).length + 4) ≤ 9 * 60 := Nat.mul_le_mul h1 (by decide)
  rw [e] at hl ⊢
  refine told_none w (hs.map (· ++ [10])) (b ++ [10]) t k tn (by omega) (fun c hc => ?_)
  have : c ∈ (hs ++ [b]).map (· ++ [10]) := by rw [List.map_append]; exact hc
  obtain ⟨d, hd, rfl⟩ := List.mem_map.mp this
  have := h2 d hd
  rw [List.length_append]
  show _ + 1 ≤ _
  omega
theorem law_framedS (w : World) (rl : Addr) (rs : List Value) (nr : Nat) (its : List Item) (hR : RowStrs rs its) (f : List UInt8) (x : PySem.Str) (hx : x = strOf f) (tf : Tok) (hf : f.length ≤ 1) (hil : its.length ≤ 19) (hib : ∀ b, some b ∈ its → b.length ≤ 55) :
    Spec w 236 [.ref rl, .str x tf] 10 100 [(rl, listOf rs.toArray nr)] (fun v n' => ∃ ex, n' = ex ++ [(rl, listOf rs.toArray nr)] ∧ (ex = [] ∧ ∃ t, v = .bytes (framed its f).toArray t)) False := by
  subst hx
  refine (law_framed w rl rs nr its hR f tf hf (by omega) (fun b hb => Nat.le_trans (hib b hb) (by decide)) ?_).mono ?_ id
  · have := framed_len f 55 its hib
    have : its.length * (55 + f.length + 4) ≤ 19 * 60 := Nat.mul_le_mul hil (by omega)
    omega
  · rintro v n' ⟨h, rfl⟩
    exact ⟨[], rfl, rfl, h⟩
theorem SpecT.use {w : World} {f : Addr} {vs : List Value} {dn un : Nat} {ok : Value → List (Addr × Obj) → Prop} (C : SpecT w f vs dn un ok)
    {dp ut : Nat} {gd : Option (List Code)} {cn : PySem.Str} {cs : Scope} {a' : Addr} {ccd : Value} {A₀ : Around} {base h₀ : Heap} {L : Addr} {m mg mb : PySem.Str → Option Value} {mean : ExcName → Option Value} {s : Shared} {Q E : Value → Shared → Prop} {news : List (Addr × Obj)}
    (B : Below A₀ base [] h₀) (F : Fr h₀ L s.heap m) (X : (hd.heap_1 w.params).In h₀) (N : News h₀ L s.heap news) (T : Top VW LS mean mg mb h₀) (XB : (hd.heap_1 w.params).In base) (TB : Top VW LS mean mg mb base) (hk : cs.kind = .function)
    (hd : dp + dn < recursionLimit) (hu : ut + un < cLine)
    (ret : ∀ (v : Value) (h' : Heap) (tk' : Nat) (n' : List (Addr × Obj)), ok v n' → Fr h₀ L h' m → News h₀ L h' (n' ++ news) → Q v { s with heap := h', toks := tk' }) :
    wpAny (model PG w) (ktrTop dp ut gd cn cs L a' ccd [] []) (call (.ref f) vs) Q E s :=
  C _ _ _ _ _ _ _ _ _ _ _ _ _ _ _ _ _ _ B F X T XB TB hk hd hu (fun v h' tk' n' ho F' N' K' _ => ret v h' tk' n' ho F' fun p hp => (List.mem_append.mp hp).elim (N' p) fun hp => ⟨K' _ _ (N p hp).1 (N p hp).2.1, (N p hp).2⟩)
theorem slice5 {r : List UInt8} (h : 5 ≤ r.length) : Txt.slice (strOf r) none (some 5) = strOf (r.take 5) := by
  have hl : ((strOf r).cps.toList.length : Int) = r.length := by
    show (((r.map UInt8.toNat).length : Nat) : Int) = _
    rw [List.length_map]
  have := slice_closes_to (x := strOf r) (j := 5) ⟨by omega, by omega⟩
  have e := eq_of_beq this
  rw [e]
  show PySem.Str.mk (((r.map UInt8.toNat).drop 0).take 5).toArray = _
  rw [List.drop_zero, ← List.map_take]
  rfl
theorem want_known {r : List UInt8} (h : 5 ≤ r.length) : (Txt.slice (strOf r) none (some 5) != Str.ofString "want ") = !isWant r := by
  rw [slice5 h, lit_want]
  unfold isWant
  by_cases e : r.take 5 = WANT
  · rw [e]; simp
  · have e2 : strOf (r.take 5) ≠ strOf WANT := fun q => e (strOf_inj q)
    rw [(bne_iff_ne (a := strOf (r.take 5)) (b := strOf WANT)).mpr e2, beq_eq_false_iff_ne.mpr e]
    rfl
theorem want_known2 {r : List UInt8} (h : 5 ≤ r.length) : (Txt.slice (strOf r) none (some 5) == Str.ofString "want ") = isWant r := by
  have := want_known h
  unfold bne at this
  simpa using this
def notDone : Item → Bool
  | none => true
  | some b => b != DONE
theorem done_known (b : List UInt8) : (strOf b != Str.ofString "done") = notDone (some b) := by
  rw [lit_done]
  show _ = (b != DONE)
  by_cases e : b = DONE
  · rw [e]; simp
  · have e2 : strOf b ≠ strOf DONE := fun q => e (strOf_inj q)
    rw [bne_iff_ne.mpr e2, bne_iff_ne.mpr e]
theorem tails_kept {k : Nat} {tk : List Item} (hl : ∀ b, some b ∈ tk → b.length = k) (done : Bool) : (tailsL tk done).filter notDone = tk.map (fun it => it.map fun b => haveL ++ hexB b) := by
  unfold tailsL
  rw [List.filter_append, List.filter_eq_self.mpr, show (if done = true then [some DONE] else []).filter notDone = [] from by cases done <;> rfl, List.append_nil]
  intro it hit
  obtain ⟨c, hc, rfl⟩ := List.mem_map.mp hit
  cases c with
  | none => rfl
  | some c =>
    show (haveL ++ hexB c != DONE) = true
    exact bne_iff_ne.mpr (row_have c k (hl c hc)).2.2.2
def BadRows (k : Nat) (its : List Item) : Prop := ∃ (hs : List (List UInt8)) (ts : List Item), its = hs.map some ++ [none] ++ ts ∧ hs.length ≤ 9 ∧ (∀ r ∈ hs, r.length ≤ 55) ∧ ts.length ≤ 9 ∧ (∀ b, some b ∈ ts → b.length ≤ 55) ∧ readP k (hs.map (· ++ [10])) (ts.map fun it => it.map (· ++ [10])) = none
theorem bad1 {k : Nat} {st : St} {wb : List (List UInt8)} {tk : List Item} (H : WOk k st wb tk) (hk : k = 3 ∨ k = 4) (done : Bool) {i : Nat} (hi : i < 11) {o : List (List UInt8)} (ho : (oddL k)[i]? = some o) : BadRows k ((((sureL k st wb).map some ++ o.map some) ++ [none]) ++ tailsL tk done) := by
  have h1 := sure_small H hk
  have h2 := odd_small k hk i o ho
  have h3 := tails_small (le4 hk) H.tn H.tl done
  refine ⟨sureL k st wb ++ o, tailsL tk done, by rw [List.map_append], by rw [List.length_append]; have := h1.1; omega, fun r hr => ?_, by omega, h3.2, bad_odd H hk i hi o ho _⟩
  rcases List.mem_append.mp hr with hr | hr
  · exact (h1.2 r hr).2
  · exact h2.2 r hr
theorem bad2 {k : Nat} {st : St} {wb : List (List UInt8)} {tk : List Item} (H : WOk k st wb tk) (hk : k = 3 ∨ k = 4) (done : Bool) : BadRows k ([some (SHAL ++ oneL k), none] ++ tailsL tk done) := by
  have h3 := tails_small (le4 hk) H.tn H.tl done
  have hS : SHAL.length = 8 := rfl
  refine ⟨[SHAL ++ oneL k], tailsL tk done, rfl, by show 1 ≤ 9; decide, fun r hr => ?_, by omega, h3.2, bad_shal hk _⟩
  rw [List.mem_singleton.mp hr, List.length_append, one_len hk, hS]
  omega
theorem bad3 {k : Nat} {st : St} {wb : List (List UInt8)} {tk : List Item} (H : WOk k st wb tk) (hk : k = 3 ∨ k = 4) (done : Bool) : BadRows k ((((sureL k st wb).map some ++ [none]) ++ (tailsL tk done).filter notDone) ++ [some DONE, some (haveL ++ oneL k)]) := by
  have h1 := sure_small H hk
  have h3 := tails_small (le4 hk) H.tn H.tl done
  rw [tails_kept H.tl]
  have h5 : haveL.length = 5 := rfl
  refine ⟨sureL k st wb, tk.map (fun it => it.map fun b => haveL ++ hexB b) ++ [some DONE, some (haveL ++ oneL k)], by rw [List.append_assoc], by have := h1.1; omega, fun r hr => (h1.2 r hr).2, ?_, fun b hb => ?_, bad_done H _⟩
  · rw [List.length_append, List.length_map]
    have := H.tn
    show _ + 2 ≤ _
    omega
  · rcases List.mem_append.mp hb with hb | hb
    · exact h3.2 b (List.mem_append.mpr (.inl hb))
    · rcases List.mem_cons.mp hb with e | hb
      · obtain rfl := Option.some.inj e; decide
      · obtain rfl := Option.some.inj (List.mem_singleton.mp hb)
        rw [List.length_append, one_len hk, h5]
        omega
theorem told_bad (w : World) {its : List Item} {k : Nat} (hb : BadRows k its) (hk : k ≤ 4) (t : Tok) (tn : Tok) : SpecT w 258 [.bytes (framed its [10]).toArray t, .int (k : Int) tn] 50 500 (fun v n' => v = .none ∧ n' = []) := by
  obtain ⟨hs, ts, rfl, h1, h2, h3, h4, hrd⟩ := hb
  have C := told_rows w hs ts [10] (by decide) t k tn hk h1 h2 h3 h4 none hrd
  unfold SpecT at C ⊢
  intro dp ut gd cn cs a ccd A₀ base h₀ L m mg mb mean s Q E B F X T XB TB hk hd hu hret
  exact C dp ut gd cn cs a ccd A₀ base h₀ L m mg mb mean s Q E B F X T XB TB hk hd hu fun v h' tk' n' ho F' N' K' f => hret v h' tk' n' (ho.1 rfl) F' N' K' f
theorem sure_last {k : Nat} (st : St) (wb : List (List UInt8)) : ∃ hs b, sureL k st wb = hs ++ [b] := by
  have : sureL k st wb ≠ [] := by
    unfold sureL
    split
    · exact fun h => nomatch h
    · assumption
  exact ⟨_, _, (List.dropLast_concat_getLast this).symm⟩
theorem told_sure (w : World) {k : Nat} {st : St} {wb : List (List UInt8)} {tk : List Item} (H : WOk k st wb tk) (hk : k = 3 ∨ k = 4) (t : Tok) (tn : Tok) : SpecT w 258 [.bytes (framed ((sureL k st wb).map some) [10]).toArray t, .int (k : Int) tn] 50 500 (fun v n' => v = .none ∧ n' = []) := by
  obtain ⟨hs, b, e⟩ := sure_last (k := k) st wb
  have h1 := sure_small H hk
  rw [e] at h1 ⊢
  exact told_norow w hs b t k tn (by have := h1.1; omega) fun r hr => (h1.2 r hr).2
end sQhc
theorem fl53 : True := by first | walk1 | trivial

section sQhd

theorem Spec.useV {w : World} {f : Addr} {vs : List Value} {dn un : Nat} {mine : List (Addr × Obj)} {c : Tok → Value} {bad : Prop} (C : Spec w f vs dn un mine (fun v n' => (∃ t, v = c t) ∧ n' = mine) bad)
    {dp ut : Nat} {gd : Option (List Code)} {cn : PySem.Str} {cs : Scope} {a' : Addr} {ccd : Value} {cl : List (PySem.Str × Addr)} {outer : List Env} {A₀ : Around} {base h₀ : Heap} {L : Addr} {m mg mb : PySem.Str → Option Value} {mean : ExcName → Option Value} {s : Shared} {Q E : Value → Shared → Prop} {news : List (Addr × Obj)}
    (B : Below A₀ base outer h₀) (F : Fr h₀ L s.heap m) (X : (hd.heap_1 w.params).In h₀) (N : News h₀ L s.heap news) (T : Top VW LS mean mg mb h₀) (hk : cs.kind = .function)
    (hd : dp + dn < recursionLimit) (hu : ut + un < cLine) (hm : ∀ p ∈ mine, p ∈ news)
    (ret : ∀ (t : Tok) (h' : Heap) (tk' : Nat), Fr h₀ L h' m → News h₀ L h' news → Q (c t) { s with heap := h', toks := tk' })
    (exc : bad → Flies base (envX cn cs L a' ccd cl :: outer) s mine E) :
    wpAny (model PG w) (ktrTop dp ut gd cn cs L a' ccd cl outer) (call (.ref f) vs) Q E s :=
  C.useK (ok2 := fun v ex => ex = [] ∧ ∃ t, v = c t) (by rintro v n' ⟨⟨t, rfl⟩, rfl⟩; exact ⟨[], rfl, rfl, t, rfl⟩) B F X N T hk hd hu hm (by
    rintro v h' tk' ex ⟨rfl, t, rfl⟩ F' N' _
    exact ret t h' tk' F' N') exc
theorem Spec.useL {w : World} {f : Addr} {vs : List Value} {dn un : Nat} {mine : List (Addr × Obj)} {P : List Value → Prop} {bad : Prop} (C : Spec w f vs dn un mine (fun v n' => ∃ D rs nr, v = .ref D ∧ P rs ∧ n' = (D, listOf rs.toArray nr) :: mine) bad)
    {dp ut : Nat} {gd : Option (List Code)} {cn : PySem.Str} {cs : Scope} {a' : Addr} {ccd : Value} {cl : List (PySem.Str × Addr)} {outer : List Env} {A₀ : Around} {base h₀ : Heap} {L : Addr} {m mg mb : PySem.Str → Option Value} {mean : ExcName → Option Value} {s : Shared} {Q E : Value → Shared → Prop} {news : List (Addr × Obj)}
    (B : Below A₀ base outer h₀) (F : Fr h₀ L s.heap m) (X : (hd.heap_1 w.params).In h₀) (N : News h₀ L s.heap news) (T : Top VW LS mean mg mb h₀) (hk : cs.kind = .function)
    (hd : dp + dn < recursionLimit) (hu : ut + un < cLine) (hm : ∀ p ∈ mine, p ∈ news)
    (ret : ∀ (D : Addr) (rs : List Value) (nr : Nat) (h' : Heap) (tk' : Nat), P rs → Fr h₀ L h' m → News h₀ L h' ((D, listOf rs.toArray nr) :: news) → (∀ q ∈ news, q.1 ∉ mine.map (·.1) → Ap q.1 D) → Q (.ref D) { s with heap := h', toks := tk' })
    (exc : bad → Flies base (envX cn cs L a' ccd cl :: outer) s mine E) :
    wpAny (model PG w) (ktrTop dp ut gd cn cs L a' ccd cl outer) (call (.ref f) vs) Q E s :=
  C.useK (ok2 := fun v ex => ∃ D rs nr, v = .ref D ∧ P rs ∧ ex = [(D, listOf rs.toArray nr)]) (by rintro v n' ⟨D, rs, nr, rfl, p, rfl⟩; exact ⟨_, rfl, D, rs, nr, rfl, p, rfl⟩) B F X N T hk hd hu hm (by
    rintro v h' tk' ex ⟨D, rs, nr, rfl, p, rfl⟩ F' N' f
    refine ret D rs nr h' tk' p F' N' fun q hq hn => Ap.mk ?_
    rintro rfl
    rcases f _ List.mem_cons_self with h1 | h1
    · exact hn h1
    · rw [(N q hq).1] at h1
      cases h1) exc
theorem SpecT.useN {w : World} {f : Addr} {vs : List Value} {dn un : Nat} (C : SpecT w f vs dn un (fun v n' => v = .none ∧ n' = []))
    {dp ut : Nat} {gd : Option (List Code)} {cn : PySem.Str} {cs : Scope} {a' : Addr} {ccd : Value} {A₀ : Around} {base h₀ : Heap} {L : Addr} {m mg mb : PySem.Str → Option Value} {mean : ExcName → Option Value} {s : Shared} {Q E : Value → Shared → Prop} {news : List (Addr × Obj)}
    (B : Below A₀ base [] h₀) (F : Fr h₀ L s.heap m) (X : (hd.heap_1 w.params).In h₀) (N : News h₀ L s.heap news) (T : Top VW LS mean mg mb h₀) (XB : (hd.heap_1 w.params).In base) (TB : Top VW LS mean mg mb base) (hk : cs.kind = .function)
    (hd : dp + dn < recursionLimit) (hu : ut + un < cLine)
    (ret : ∀ (h' : Heap) (tk' : Nat), Fr h₀ L h' m → News h₀ L h' news → Q .none { s with heap := h', toks := tk' }) :
    wpAny (model PG w) (ktrTop dp ut gd cn cs L a' ccd [] []) (call (.ref f) vs) Q E s :=
  C.use B F X N T XB TB hk hd hu (by rintro v h' tk' n' ⟨rfl, rfl⟩ F' N'; exact ret h' tk' F' N')
theorem told_eq {w : World} {hs : List (List UInt8)} {ts : List Item} {f : List UInt8} (hf : f.length ≤ 1) {k : Nat} (hk4 : k ≤ 4) (h1 : hs.length ≤ 9) (h2 : ∀ r ∈ hs, r.length ≤ 55) (h3 : ts.length ≤ 9) (h4 : ∀ b, some b ∈ ts → b.length ≤ 55) {st : St} {tk : List Item} {done : Bool} (hrd : readP k (hs.map (· ++ f)) (ts.map fun it => it.map (· ++ f)) = some (st, tk, done))
    {t tn : Tok} {o : List UInt8} (ho : framed (hs.map some ++ [none] ++ ts) f = o)
    {dp ut : Nat} {gd : Option (List Code)} {cn : PySem.Str} {cs : Scope} {a' : Addr} {ccd : Value} {A₀ : Around} {base h₀ : Heap} {L : Addr} {m mg mb : PySem.Str → Option Value} {mean : ExcName → Option Value} {s : Shared} {Q E : Value → Shared → Prop} {news : List (Addr × Obj)}
    (B : Below A₀ base [] h₀) (F : Fr h₀ L s.heap m) (X : (hd.heap_1 w.params).In h₀) (N : News h₀ L s.heap news) (T : Top VW LS mean mg mb h₀) (XB : (hd.heap_1 w.params).In base) (TB : Top VW LS mean mg mb base) (hk : cs.kind = .function)
    (hd : dp + 50 < recursionLimit) (hu : ut + 500 < cLine)
    (ret : ∀ (dd : Addr) (oo : Obj) (lw lo ls lt nw no ns nt : Nat) (dv sv : Value) (uw uo us uk : List Value) (h' : Heap) (tk' : Nat), oo.IsDictOf (PySem.strKind PG w) (wP lw lo ls lt dv sv done) → (dd == sysModules) = false → RowsAre uw st.wants → StrsAre uo st.words → RowsAre us st.shallow → OptI st.depth dv → OptI st.since sv → TalkAre uk tk →
      Fr h₀ L h' m → News h₀ L h' ((dd, oo) :: (lw, listOf uw.toArray nw) :: (lo, listOf uo.toArray no) :: (ls, listOf us.toArray ns) :: (lt, listOf uk.toArray nt) :: news) → Q (.ref dd) { s with heap := h', toks := tk' }) :
    wpAny (model PG w) (ktrTop dp ut gd cn cs L a' ccd [] []) (call (.ref 258) [.bytes o.toArray t, .int (k : Int) tn]) Q E s := by
  subst ho
  refine (told_rows w hs ts f hf t k tn hk4 h1 h2 h3 h4 _ hrd).use B F X N T XB TB hk hd hu ?_
  rintro v h' tk' n' ⟨_, ok⟩ F' N'
  obtain ⟨dd, rfl, oo, lw, lo, ls, lt, nw, no, ns, nt, dv, sv, uw, uo, us, uk, i1, i2, i3, i4, i5, i6, i7, i8⟩ := ok st tk done rfl
  exact ret dd oo lw lo ls lt nw no ns nt dv sv uw uo us uk h' tk' i1 i2 i3 i4 i5 i6 i7 i8 F' N'
theorem heads_w {w : World} {k : Nat} {dw lw lo ls lt : Addr} {ow : Obj} {dv sv : Value} {done : Bool} {nw no ns : Nat} {uw uo us : List Value} {st : St} {wb : List (List UInt8)} {tk : List Item} (hd9 : ow.IsDictOf (PySem.strKind PG w) (wP lw lo ls lt dv sv done))
    (hR : RowsAre uw st.wants) (hO : StrsAre uo (wb.map strOf)) (hS : RowsAre us st.shallow) (hD : OptI st.depth dv) (hN : OptI st.since sv) (H : WOk k st wb tk) (hk : k = 3 ∨ k = 4) (hne : [dw, lw, lo, ls].Nodup) :
    Spec w 241 [.ref dw] 5 50 [(dw, ow), (lw, listOf uw.toArray nw), (lo, listOf uo.toArray no), (ls, listOf us.toArray ns)]
      (fun v n' => ∃ D rs nr, v = .ref D ∧ StrsAre rs ((headsL st wb).map strOf) ∧ n' = (D, listOf rs.toArray nr) :: [(dw, ow), (lw, listOf uw.toArray nw), (lo, listOf uo.toArray no), (ls, listOf us.toArray ns)]) False := by
  have h4 := le4 hk
  obtain ⟨n, hn, e⟩ := H.wbp
  have hwb : ∀ b ∈ wb, b.length ≤ 100 := by
    intro b hb
    rw [e] at hb
    have := List.mem_of_mem_take hb
    simp only [List.mem_cons, List.not_mem_nil, or_false] at this
    rcases this with rfl | rfl | rfl <;> decide
  exact law_heads0 w dw lw lo ls lt ow dv sv done nw no ns uw uo us st wb hd9 hR hO hS hD hN (fun b hb => by rw [H.wl b hb]; omega) (fun b hb => by rw [H.sl b hb]; omega) hwb (by rw [e, List.length_take]; omega) H.wn (Nat.le_trans H.sn (by decide)) (fun i hi => by have := H.dep i hi; omega) H.sin hne
theorem tails_w {w : World} {k : Nat} {dw lw lo ls lt : Addr} {ow : Obj} {dv sv : Value} {done : Bool} {nt : Nat} {uk : List Value} {st : St} {wb : List (List UInt8)} {tk : List Item} (hd9 : ow.IsDictOf (PySem.strKind PG w) (wP lw lo ls lt dv sv done)) (hT : TalkAre uk tk) (H : WOk k st wb tk) (hk : k = 3 ∨ k = 4) (hne : dw ≠ lt) :
    Spec w 246 [.ref dw] 5 50 [(dw, ow), (lt, listOf uk.toArray nt)]
      (fun v n' => ∃ D rs nr, v = .ref D ∧ RowStrs rs (tailsL tk done) ∧ n' = (D, listOf rs.toArray nr) :: [(dw, ow), (lt, listOf uk.toArray nt)]) False :=
  law_tails w dw lw lo ls lt ow dv sv done nt uk tk hd9 hT (fun b hb => by rw [H.tl b hb]; have := le4 hk; omega) H.tn hne
theorem framed_w {w : World} {rl : Addr} {rs : List Value} {nr : Nat} {its : List Item} (hR : RowStrs rs its) {f : List UInt8} {x : PySem.Str} (hx : x = strOf f) {tf : Tok} (hf : f.length ≤ 1) (hil : its.length ≤ 19) (hib : ∀ b, some b ∈ its → b.length ≤ 55) :
    Spec w 236 [.ref rl, .str x tf] 10 100 [(rl, listOf rs.toArray nr)] (fun v n' => (∃ t, v = .bytes (framed its f).toArray t) ∧ n' = [(rl, listOf rs.toArray nr)]) False :=
  (law_framedS w rl rs nr its hR f x hx tf hf hil hib).mono (by rintro v n' ⟨ex, rfl, rfl, h⟩; exact ⟨h, rfl⟩) id
theorem octets_w {w : World} {k : Nat} {x d lw lo ls lt : Addr} {t1 t2 t3 t4 t5 t6 t7 : Tok} {n nw no ns nt : Nat} {dv sv : Value} {uw uo us uk : List Value} {st : St} {wb : List (List UInt8)} {tk : List Item} {done : Bool}
    (hnd : [x, d, lw, lo, ls, lt].Nodup) (hR : RowsAre uw st.wants) (hO : StrsAre uo (wb.map strOf)) (hS : RowsAre us st.shallow) (hD : OptI st.depth dv) (hN : OptI st.since sv) (hT : TalkAre uk tk) (H : WOk k st wb tk) (hk : k = 3 ∨ k = 4) :
    Spec w 187 [.ref x] 30 300 [(x, instObj 205 d), (d, frD w lw lo ls lt t1 t2 t3 t4 t5 t6 t7 n dv sv done), (lw, listOf uw.toArray nw), (lo, listOf uo.toArray no), (ls, listOf us.toArray ns), (lt, listOf uk.toArray nt)]
      (fun v n' => (∃ t, v = .bytes (framed ((headsL st wb).map some ++ [none] ++ tailsL tk done) [10]).toArray t) ∧ n' = [(x, instObj 205 d), (d, frD w lw lo ls lt t1 t2 t3 t4 t5 t6 t7 n dv sv done), (lw, listOf uw.toArray nw), (lo, listOf uo.toArray no), (ls, listOf us.toArray ns), (lt, listOf uk.toArray nt)]) False := by
  have h4 := le4 hk
  obtain ⟨n9, hn, e⟩ := H.wbp
  have hwb : ∀ b ∈ wb, b.length ≤ 100 := by
    intro b hb
    rw [e] at hb
    have := List.mem_of_mem_take hb
    simp only [List.mem_cons, List.not_mem_nil, or_false] at this
    rcases this with rfl | rfl | rfl <;> decide
  have hws : (wordsB wb).length ≤ 1000 := by rw [e]; have := words_small n9 hn; omega
  have hz : (outB st wb tk done).length ≤ 65536 := by
    rw [outB_eq]
    have h1 := heads_small H hk
    have h3 := tails_small h4 H.tn H.tl done
    have hl := framed_len [10] 55 ((headsL st wb).map some ++ [none] ++ tailsL tk done) (fun b hb => by
      rcases List.mem_append.mp hb with hb | hb
      · rcases List.mem_append.mp hb with hb | hb
        · obtain ⟨c, hc, e⟩ := List.mem_map.mp hb
          exact Option.some.inj e ▸ (h1.2 c hc).2
        · cases List.mem_singleton.mp hb
      · exact h3.2 b hb)
    rw [List.length_append, List.length_append, List.length_map, List.length_singleton] at hl
    have : ((headsL st wb).length + 1 + (tailsL tk done).length) * (55 + ([10] : List UInt8).length + 4) ≤ 19 * 60 := Nat.mul_le_mul (by have := h1.1; omega) (by decide)
    omega
  have C := octets_req w x d lw lo ls lt t1 t2 t3 t4 t5 t6 t7 n nw no ns nt dv sv uw uo us uk st wb tk done hnd hR hO hS hD hN hT (fun b hb => by rw [H.wl b hb]; omega) (fun b hb => by rw [H.sl b hb]; omega) (Nat.le_trans H.wn (by decide)) (Nat.le_trans H.sn (by decide)) hws (by rw [e, List.length_take]; simp; omega) hwb (fun i hi => by have := H.dep i hi; omega) H.sin (Nat.le_trans H.tn (by decide)) (fun b hb => by rw [H.tl b hb]; omega) hz
  rw [outB_eq] at C
  exact C
theorem nd8_out {a b c e1 e2 e3 e4 e5 : Addr} (h : [a, b, c, e1, e2, e3, e4, e5].Nodup) : (a ∉ [e1, e2, e3, e4] ∧ b ∉ [e1, e2, e3, e4]) ∧ (a ∉ [e1, e5] ∧ b ∉ [e1, e5]) ∧ [e1, e2, e3, e4].Nodup ∧ e1 ≠ e5 := by
  simp only [List.nodup_cons, List.mem_cons, List.not_mem_nil, or_false, not_or, List.nodup_nil, and_true, not_false_eq_true] at h ⊢
  obtain ⟨⟨h1, h2, h3, h4, h5, h6, h7⟩, ⟨i2, i3, i4, i5, i6, i7⟩, _, ⟨k4, k5, k6, k7⟩, ⟨l5, l6, l7⟩, ⟨m6, m7⟩, n7⟩ := h
  exact ⟨⟨⟨h3, h4, h5, h6⟩, ⟨i3, i4, i5, i6⟩⟩, ⟨⟨h3, h7⟩, ⟨i3, i7⟩⟩, ⟨⟨k4, k5, k6⟩, ⟨l5, l6⟩, m6⟩, k7⟩
theorem strs_len {rs : List Value} {l : List (List UInt8)} {n : Nat} (h : StrsAre rs (l.map strOf)) (hl : l.length ≤ n) : rs.length ≤ n := by
  rw [h.length, List.length_map]; exact hl
theorem rows_len {rs : List Value} {l : List Item} {n : Nat} (h : RowStrs rs l) (hl : l.length ≤ n) : rs.length ≤ n := by
  rw [h.length]; exact hl
theorem its_small {m : Nat} {hs : List (List UInt8)} {ts : List Item} (h : Small m 55 hs) (hm : m ≤ 9) (h3 : ts.length ≤ 9) (h4 : ∀ b, some b ∈ ts → b.length ≤ 55) : (hs.map some ++ [none] ++ ts).length ≤ 19 ∧ ∀ b, some b ∈ hs.map some ++ [none] ++ ts → b.length ≤ 55 := by
  refine ⟨?_, fun b hb => ?_⟩
  · rw [List.length_append, List.length_append, List.length_map, List.length_singleton]
    have := h.1
    omega
  · rcases List.mem_append.mp hb with hb | hb
    · rcases List.mem_append.mp hb with hb | hb
      · obtain ⟨c, hc, e⟩ := List.mem_map.mp hb
        exact Option.some.inj e ▸ (h.2 c hc).2
      · cases List.mem_singleton.mp hb
    · exact h4 b hb
theorem lit_nl : Str.ofString "\n" = strOf [10] := by decide +kernel
theorem lit_no : Str.ofString "" = strOf [] := by decide +kernel
theorem rows3 {rh rt : List Value} {hs : List (List UInt8)} {ts : List Item} (h : StrsAre rh (hs.map strOf)) (k : RowStrs rt ts) : RowStrs ((rh ++ [.none]) ++ rt) (hs.map some ++ [none] ++ ts) := ((rows_some h).append' (.cons .none .nil)).append' k
theorem told_sameN {w : World} {A : Around} {E : Value → Shared → Prop} {s : Shared} {h₀ : Heap} {L : Addr} {news : List (Addr × Obj)} {a b lw lo ls lt lw2 lo2 ls2 lt2 : Addr} {oa ob : Obj} {n1 n2 n3 n4 n5 n6 n7 n8 : Nat} {dv sv dv2 sv2 : Value} {done : Bool} {uw uo us uk uw2 uo2 us2 uk2 : List Value} {st : St} {tkI : List Item} {Q : Value → Shared → Prop} (N : News h₀ L s.heap news) (ha : (a == sysModules) = false) (hb : (b == sysModules) = false)
    (da : oa.IsDictOf (PySem.strKind PG w) (wP lw lo ls lt dv sv done)) (db : ob.IsDictOf (PySem.strKind PG w) (wP lw2 lo2 ls2 lt2 dv2 sv2 done)) (ma : (a, oa) ∈ news) (mb : (b, ob) ∈ news) (hu : A.units + 8 < cLine)
    (l1 : (lw, listOf uw.toArray n1) ∈ news) (l2 : (lo, listOf uo.toArray n2) ∈ news) (l3 : (ls, listOf us.toArray n3) ∈ news) (l4 : (lt, listOf uk.toArray n4) ∈ news) (m1 : (lw2, listOf uw2.toArray n5) ∈ news) (m2 : (lo2, listOf uo2.toArray n6) ∈ news) (m3 : (ls2, listOf us2.toArray n7) ∈ news) (m4 : (lt2, listOf uk2.toArray n8) ∈ news)
    (hR : RowsAre uw st.wants) (hR2 : RowsAre uw2 st.wants) (hO : StrsAre uo st.words) (hO2 : StrsAre uo2 st.words) (hS : RowsAre us st.shallow) (hS2 : RowsAre us2 st.shallow) (hD : OptI st.depth dv) (hD2 : OptI st.depth dv2) (hN : OptI st.since sv) (hN2 : OptI st.since sv2) (hT : TalkAre uk tkI) (hT2 : TalkAre uk2 tkI)
    (h : Q (.bool false) s) : wpAny (model PG w) A (compareOp .NotEq (.ref a) (.ref b)) Q E s :=
  told_same ha hb (Heap.dictOf_iff.mpr ⟨_, (N _ ma).1, da⟩) (Heap.dictOf_iff.mpr ⟨_, (N _ mb).1, db⟩) hu (News.isList N l1) (News.isList N l2) (News.isList N l3) (News.isList N l4) (News.isList N m1) (News.isList N m2) (News.isList N m3) (News.isList N m4) hR hR2 hO hO2 hS hS2 hD hD2 hN hN2 hT hT2 h
theorem strs_item {rs : List Value} {l : List (List UInt8)} (h : StrsAre rs (l.map strOf)) {i : Nat} {v : Value} (hv : rs[i]? = some v) : ∃ b t, v = .str (strOf b) t ∧ l[i]? = some b := by
  obtain ⟨y, t, rfl, hy⟩ := h.item i v hv
  rw [List.getElem?_map] at hy
  cases e : l[i]? with
  | none => rw [e] at hy; cases hy
  | some b =>
    rw [e] at hy
    obtain rfl := Option.some.inj hy
    exact ⟨b, t, rfl, rfl⟩
theorem filt_yes {α : Type} {l : List α} {p : α → Bool} {i : Nat} {b : α} (h : l[i]? = some b) (hp : p b = true) : (l.take (i + 1)).filter p = (l.take i).filter p ++ [b] := by
  rw [take_succ h, List.filter_append, List.filter_cons, if_pos hp, List.filter_nil]
theorem filt_no {α : Type} {l : List α} {p : α → Bool} {i : Nat} {b : α} (h : l[i]? = some b) (hp : p b = false) : (l.take (i + 1)).filter p = (l.take i).filter p := by
  rw [take_succ h, List.filter_append, List.filter_cons, if_neg (by rw [hp]; exact Bool.false_ne_true), List.filter_nil, List.append_nil]
theorem ne_same {prog : Program} {w : World} {A : Around} {E : Value → Shared → Prop} {s : Shared} {b : Array UInt8} {t u : Tok} {Q : Value → Shared → Prop} (h : Q (.bool false) s) : wpAny (model prog w) A (compareOp .NotEq (.bytes b t) (.bytes b u)) Q E s := by
  refine ne_bytes ?_
  rw [show (b.toList != b.toList) = false by simp]
  exact h
theorem strs_yes {ys : List Value} {l : List (List UInt8)} {p : List UInt8 → Bool} {i : Nat} {b : List UInt8} {t : Tok} (h : l[i]? = some b) (hp : p b = true) (hys : StrsAre ys (((l.take i).filter p).map strOf)) : StrsAre (ys ++ [.str (strOf b) t]) (((l.take (i + 1)).filter p).map strOf) := by
  rw [filt_yes h hp, List.map_append]
  exact hys.append' (.cons _ _ .nil)
theorem strs_no {ys : List Value} {l : List (List UInt8)} {p : List UInt8 → Bool} {i : Nat} {b : List UInt8} (h : l[i]? = some b) (hp : p b = false) (hys : StrsAre ys (((l.take i).filter p).map strOf)) : StrsAre ys (((l.take (i + 1)).filter p).map strOf) := by
  rw [filt_no h hp]
  exact hys
theorem eq_knownS {prog : Program} {w : World} {A : Around} {E : Value → Shared → Prop} {s : Shared} {x y : PySem.Str} {v : Bool} {t u : Tok} {Q : Value → Shared → Prop} (h : (x == y) = v) (q : Q (.bool v) s) : wpAny (model prog w) A (compareOp .Eq (.str x t) (.str y u)) Q E s := by
  refine P.eq_str ?_
  rw [eq_meets, h]
  exact q
theorem strs_full {rs : List Value} {l : List (List UInt8)} (h : StrsAre rs (l.map strOf)) : l.take rs.length = l := by
  rw [h.length, List.length_map, List.take_length]
theorem one_row {k : Nat} : Str.ofString "want " ++ strOf (hexB (ID0 k)) = strOf (WANT ++ oneL k) := by rw [lit_want, str_cat]; rfl
theorem sure_yes {k : Nat} {st : St} {wb : List (List UInt8)} {rs : List Value} (h : headsL st wb ≠ []) (hr : StrsAre rs ((headsL st wb).map strOf)) : StrsAre rs ((sureL k st wb).map strOf) := by unfold sureL; rw [if_neg h]; exact hr
theorem sure_no {k : Nat} {st : St} {wb : List (List UInt8)} (h : headsL st wb = []) {x : PySem.Str} (hx : x = strOf (WANT ++ oneL k)) (t : Tok) : StrsAre [.str x t] ((sureL k st wb).map strOf) := by unfold sureL; rw [if_pos h, hx]; exact .cons _ _ .nil
theorem nil_len {rs : List Value} {l : List (List UInt8)} (h : StrsAre rs (l.map strOf)) (b : Bool) (hb : b = true ↔ l ≠ []) : (!decide (rs.length = 0)) = b := by
  rw [h.length, List.length_map]
  cases l with
  | nil => cases b with
    | true => exact absurd rfl (hb.mp rfl)
    | false => rfl
  | cons a l => cases b with
    | true => simp
    | false => exact absurd (hb.mpr (fun e => nomatch e)) Bool.false_ne_true
theorem one_facts {k : Nat} (hk : k = 3 ∨ k = 4) : (Txt.slice (strOf (hexB (ID0 k))) none (some (-1))).length ≤ 100000 ∧ Txt.upper (strOf (hexB (ID0 k))) = strOf (upL (oneL k)) ∧ Builtin.Str.tooLong (Txt.upper (strOf (hexB (ID0 k)))).length = false ∧ (strOf (upL (oneL k))).length ≤ 100000 ∧ Txt.slice (strOf (hexB (ID0 k))) none (some (-1)) = strOf ((oneL k).dropLast) := by
  rcases hk with rfl | rfl <;> decide +kernel
inductive OddAre (news : List (Addr × Obj)) : List Value → List (List (List UInt8)) → Prop
  | nil : OddAre news [] []
  | cons {D : Addr} {us : List Value} {n : Nat} {o : List (List UInt8)} {vs : List Value} {os : List (List (List UInt8))} : (D, listOf us.toArray n) ∈ news → StrsAre us (o.map strOf) → OddAre news vs os → OddAre news (.ref D :: vs) (o :: os)
theorem OddAre.get {news : List (Addr × Obj)} {vs : List Value} {os : List (List (List UInt8))} (h : OddAre news vs os) : ∀ {i : Nat}, i < os.length → ∃ D us n o, vs[i]? = some (.ref D) ∧ (D, listOf us.toArray n) ∈ news ∧ os[i]? = some o ∧ StrsAre us (o.map strOf) := by
  induction h with
  | nil => intro i hi; exact absurd hi (Nat.not_lt_zero _)
  | cons hm hs _ ih =>
    intro i hi
    cases i with
    | zero => exact ⟨_, _, _, _, rfl, hm, rfl, hs⟩
    | succ i => exact ih (Nat.lt_of_succ_lt_succ hi)
theorem str1 {x : PySem.Str} {t : Tok} {r : List UInt8} (h : x = strOf r) : StrsAre [.str x t] ([r].map strOf) := by subst h; exact .cons _ _ .nil
theorem str2 {x y : PySem.Str} {t u : Tok} {r q : List UInt8} (h : x = strOf r) (k : y = strOf q) : StrsAre [.str x t, .str y u] ([r, q].map strOf) := by subst h k; exact .cons _ _ (.cons _ _ .nil)
theorem odd_lits : Str.ofString "deepen 0" = strOf (DEEP ++ [48]) ∧ Str.ofString "deepen 01" = strOf (DEEP ++ [48, 49]) ∧ Str.ofString "deepen -1" = strOf (DEEP ++ [45, 49]) ∧ Str.ofString "deepen 1" = strOf (DEEP ++ [49]) ∧ Str.ofString "deepen-since 5" = strOf (SINC ++ [53]) ∧ Str.ofString "x" = strOf [120] ∧ Str.ofString " " = strOf [32] ∧ Str.ofString " more" = strOf [32, 109, 111, 114, 101] := by decide +kernel
theorem join_rows {prog : Program} {w : World} {A : Around} {E : Value → Shared → Prop} {s : Shared} {t : Sem Flow} {Q : Flow → Shared → Prop} {g : Heap} {L : Addr} {m0 : PySem.Str → Option Value} (Led : Addr → List Value → Nat → List (Addr × Obj)) (P : List Value → Prop) (_ : Fr g L s.heap m0)
    (h1 : wpAny (model prog w) A t (fun f s' => Hold (f = .next ∧ ∃ R rs n h tk, s' = { s with heap := h, toks := tk } ∧ Fr g L h (fun y => if y = Str.ofString "rows" then some (.ref R) else m0 y) ∧ News g L h (Led R rs n) ∧ P rs)) E s)
    (h2 : ∀ R rs n h tk, Fr g L h (fun y => if y = Str.ofString "rows" then some (.ref R) else m0 y) → News g L h (Led R rs n) → P rs → Q .next { s with heap := h, toks := tk }) : wpAny (model prog w) A t Q E s :=
  wpAny_mono h1 (by rintro f s' ⟨rfl, R, rs, n, h, tk, rfl, F, N, p⟩; exact h2 R rs n h tk F N p) fun _ _ e => e
theorem item_odd {prog : Program} {w : World} {A : Around} {E : Value → Shared → Prop} {s : Shared} {h₀ : Heap} {L : Addr} {news : List (Addr × Obj)} {value slice : PySem.Expr} {lo : Addr} {vs : List Value} {n k : Nat} {way : Int} {u : Tok} {Q : Value → Shared → Prop} (N : News h₀ L s.heap news) (hm : (lo, listOf vs.toArray n) ∈ news) (ho : OddAre news vs (oddL k)) (h0 : 0 ≤ way) (h1 : way < 11)
    (ret : ∀ D us n o, (D, listOf us.toArray n) ∈ news → (oddL k)[way.toNat]? = some o → StrsAre us (o.map strOf) → us.length ≤ 2 → Q (.ref D) s) (hk : k = 3 ∨ k = 4)
    (hs : subscripted slice false (.ref lo) (.int way u) = operate [.ref lo, .int way u] (getItem (.ref lo) (.int way u)) := by with_unfolding_all rfl) :
    wpAny (model prog w) A (subscriptTail value slice (.ref lo) (.int way u)) Q E s := by
  obtain ⟨D, us, n2, o, e1, e2, e3, e4⟩ := ho.get (i := way.toNat) (by show way.toNat < 11; omega)
  exact item_at (News.isList N hm) h0 (by omega) e1 (ret D us n2 o e2 e3 e4 (strs_len e4 (odd_small k hk _ _ e3).1)) hs
theorem odd_rows {k : Nat} (hk : k = 3 ∨ k = 4) : (Str.ofString "want " ++ Txt.slice (strOf (hexB (ID0 k))) none (some (-1)) = strOf (WANT ++ (oneL k).dropLast)) ∧ (Str.ofString "want " ++ strOf (upL (oneL k)) = strOf (WANT ++ upL (oneL k))) ∧ (Str.ofString "want " ++ strOf (hexB (ID0 k)) ++ Str.ofString "x" = strOf (WANT ++ oneL k ++ [120])) ∧ (Str.ofString "have " ++ strOf (hexB (ID0 k)) = strOf (haveL ++ oneL k)) ∧
    (Str.ofString "shallow " ++ strOf (hexB (ID0 k)) ++ Str.ofString " " = strOf (SHAL ++ oneL k ++ [32])) ∧ (Str.ofString "want " ++ strOf (hexB (ID0 k)) ++ Str.ofString " more" = strOf (WANT ++ oneL k ++ [32, 109, 111, 114, 101])) ∧ (Str.ofString "shallow " ++ strOf (hexB (ID0 k)) = strOf (SHAL ++ oneL k)) := by
  rcases hk with rfl | rfl <;> decide +kernel
theorem bad_small {k : Nat} {its : List Item} (h : BadRows k its) : its.length ≤ 19 ∧ ∀ b, some b ∈ its → b.length ≤ 55 := by
  obtain ⟨hs, ts, rfl, h1, h2, h3, h4, _⟩ := h
  refine ⟨?_, fun b hb => ?_⟩
  · rw [List.length_append, List.length_append, List.length_map, List.length_singleton]
    omega
  · rcases List.mem_append.mp hb with hb | hb
    · rcases List.mem_append.mp hb with hb | hb
      · obtain ⟨c, hc, e⟩ := List.mem_map.mp hb
        exact Option.some.inj e ▸ h2 c hc
      · cases List.mem_singleton.mp hb
    · exact h4 b hb
def RowsBad (k : Nat) (rs : List Value) : Prop := ∃ its, RowStrs rs its ∧ BadRows k its
theorem nd_hd {a b : Addr} {l : List Addr} (h : (a :: b :: l).Nodup) : a ≠ b := by
  rintro rfl
  exact (List.nodup_cons.mp h).1 List.mem_cons_self
theorem strIs_of {x : PySem.Str} {t : Tok} {r : List UInt8} (h : x = strOf r) : StrIs (some r) (.str x t) := by subst h; exact .some _ _
theorem rows_yes {ys : List Value} {l : List Item} {p : Item → Bool} {i : Nat} {it : Item} {v : Value} (h : l[i]? = some it) (hp : p it = true) (hv : StrIs it v) (hys : RowStrs ys ((l.take i).filter p)) : RowStrs (ys ++ [v]) ((l.take (i + 1)).filter p) := by
  rw [filt_yes h hp]
  exact hys.append' (.cons hv .nil)
theorem rows_no {ys : List Value} {l : List Item} {p : Item → Bool} {i : Nat} {it : Item} (h : l[i]? = some it) (hp : p it = false) (hys : RowStrs ys ((l.take i).filter p)) : RowStrs ys ((l.take (i + 1)).filter p) := by
  rw [filt_no h hp]
  exact hys
theorem rows_full {rs : List Value} {l : List Item} (h : RowStrs rs l) : l.take rs.length = l := by
  rw [h.length, List.take_length]
theorem arr_some {l : List Value} {i : Nat} {v : Value} (h : l.toArray[i]? = some v) : l[i]? = some v := by simpa using h
theorem some_small {m : Nat} {hs : List (List UInt8)} (h : Small m 55 hs) (hm : m ≤ 19) : (hs.map some).length ≤ 19 ∧ ∀ b, some b ∈ hs.map some → b.length ≤ 55 := by
  refine ⟨by rw [List.length_map]; exact Nat.le_trans h.1 hm, fun b hb => ?_⟩
  obtain ⟨c, hc, e⟩ := List.mem_map.mp hb
  exact Option.some.inj e ▸ (h.2 c hc).2
end sQhd
theorem fl54 : True := by first | walk1 | trivial

section sRa

local macro_rules | `(tactic| k_qdec) => `(tactic| k_extra "R135")
local macro_rules | `(tactic| walk_at $s:str) => `(tactic| k_extra $(Lean.Syntax.mkStrLit ("S177." ++ s.getString)))
theorem zm74 : True := by
  (k_with "S177.call ref" => k_extra "R3")
  (k_with "S177.call type:list" => k_extra "R3")
  (k_with "S177.eval ListComp" => k_extra "R3")
  trivial
theorem SpecG.use {w : World} {f : Addr} {vs : List Value} {dn un : Nat} {G : Heap → Prop} {ok : Value → List (Addr × Obj) → Prop} (C : SpecG w f vs dn un G ok)
    {dp ut : Nat} {gd : Option (List Code)} {cn : PySem.Str} {cs : Scope} {a' : Addr} {ccd : Value} {cl : List (PySem.Str × Addr)} {outer : List Env} {A₀ : Around} {base h₀ : Heap} {L : Addr} {m mg mb : PySem.Str → Option Value} {mean : ExcName → Option Value} {s : Shared} {Q E : Value → Shared → Prop}
    (hG : G h₀) (B : Below A₀ base outer h₀) (F : Fr h₀ L s.heap m) (X : (hd.heap_1 w.params).In h₀) (T : Top VW LS mean mg mb h₀) (hk : cs.kind = .function)
    (hd : dp + dn < recursionLimit) (hu : ut + un < cLine)
    (ret : ∀ (v : Value) (h' : Heap) (tk' : Nat) (mine' : List (Addr × Obj)), ok v mine' → Fr h₀ L h' m → News h₀ L h' mine' → Q v { s with heap := h', toks := tk' }) :
    wpAny (model PG w) (ktrTop dp ut gd cn cs L a' ccd cl outer) (call (.ref f) vs) Q E s :=
  C _ _ _ _ _ _ _ _ _ _ _ _ _ _ _ _ _ _ _ _ hG B F X T hk hd hu (fun v h' tk' mine' ho F' N' _ => ret v h' tk' mine' ho F' N')
theorem zm75 : True := by
  (k_with "S177.sep" => k_extra "R120")
  trivial
def ids3 (k : Nat) : List (List UInt8) := [ID0 k, [0, 0, 1, 255].take k, [16, 32, 48, 64].take k]
theorem ids_ints (d : List UInt8) (us : List Value) (k : Nat) (h : IntsAre us (d.map fun c : UInt8 => (c.toNat : Int))) : IntsAre (us.take (k : Int).toNat) ((d.take k).map fun c : UInt8 => (c.toNat : Int)) := by
  rw [Int.toNat_natCast, List.map_take]
  exact intsAre_take h k
theorem ints4 (a b c d : Int) (t1 t2 t3 t4 : Tok) : IntsAre [.int a t1, .int b t2, .int c t3, .int d t4] [a, b, c, d] := .cons _ _ (.cons _ _ (.cons _ _ (.cons _ _ .nil)))
theorem zm76 : True := by
  (k_with "S177.subscriptTail" => k_extra "R132")
  (k_with "S177.subscriptTail Name Slice ref ref" => k_extra "R136")
  trivial
theorem add_kn {prog : Program} {w : World} {A : Around} {E : Value → Shared → Prop} {s : Shared} {x y z : Int} {t u : Tok} {Q : Value → Shared → Prop} (e : x + y = z) (h : Q (.int z s.toks) { s with toks := s.toks + 1 }) : wpAny (model prog w) A (binaryOp .Add (.int x t) (.int y u)) Q E s := by
  subst e
  exact PyProof.Rows.add_int h
theorem zm77 : True := by
  (k_with "S177.binaryOp Add int int" => k_extra "R137")
  (k_with "S177.draw" => k_extra "R138")
  trivial
theorem ids3_len {k : Nat} (hk34 : k = 3 ∨ k = 4) : ∀ b ∈ ids3 k, b.length = k := by
  intro b hb
  rcases hk34 with rfl | rfl
  all_goals
    simp only [ids3, List.mem_cons, List.not_mem_nil, or_false] at hb
    rcases hb with rfl | rfl | rfl <;> rfl
namespace l0
noncomputable def zs : { P : World → Shared → Shared → (PySem.Str → Option Value) → (PySem.Str → Option Value) → Addr → Addr → (List Int) → Addr → (List Value) → Heap → Prop // (∀ y0 y1 y2 y3 y4 y5 y6 y7 y8 y9 y10, P y0 y1 y2 y3 y4 y5 y6 y7 y8 y9 y10) → PySem.Challenge.rw_pb0108_01.Holds } := by
  refine' ⟨_, fun zR1 => hd ?_⟩
  rotate_left 1
  · w_strict (
     k_go0
     k_steps
     unfold Hold
     rename Below _ _ _ _ => K0
     rename Fr _ _ _ _ => F0
     rename Heap.IsList _ _ _ => hL9
     rename IntsAre _ _ => hI9
     rename Frag.In _ _ => X0
     rename Top _ _ _ _ _ _ => T0
     rename ¬ (_ < _) => hc9
     rename News _ _ _ _ => N0
     rename_i w s0 s1 mg9 mb9 G9 Y9 fa o9 pm9 doc9 kV9 ho9 hg9 X9 V9 GL9 B9 TE9 TW9 wa wb9 M9 wc wd hcd9 wi hs9 hlay9 hLl hr19 hl29 we wf wg wh wj ra9 w19 r09 hr9 hcond9 hD9' h1
     clear hD9' hcond9 hr9 r09 w19 ra9 hl29 hr19 hLl hlay9 hs9 hcd9 M9 TW9 TE9 B9 GL9 V9 X9 ho9 Y9 G9
     (revert hg9 X0 T0 hL9 hI9 hc9 K0 F0 N0; exact zR1 w s0 s1 mg9 mb9 fa wc wi wg wh h1)
    )
end l0
end sRa
theorem fl55 : True := by first | walk1 | trivial

section sRb

local macro_rules | `(tactic| walk_at $s:str) => `(tactic| k_extra $(Lean.Syntax.mkStrLit ("S179." ++ s.getString)))
theorem zm78 : True := by
  (k_with "S179.call ref" => k_extra "R3")
  (k_with "S179.call type:list" => k_extra "R3")
  (k_with "S179.eval ListComp" => k_extra "R3")
  (k_with "S179.sep" => k_extra "R120")
  (k_with "S179.subscriptTail" => k_extra "R132")
  (k_with "S179.subscriptTail Name Slice ref ref" => k_extra "R136")
  (k_with "S179.binaryOp Add int int" => k_extra "R137")
  (k_with "S179.draw" => k_extra "R138")
  trivial
namespace l0
@[irreducible] noncomputable def zP : World → Shared → Shared → (PySem.Str → Option Value) → (PySem.Str → Option Value) → Addr → Addr → (List Int) → Addr → (List Value) → Heap → Prop := zs.1
theorem zp : zP = zs.1 := by with_unfolding_all rfl
end l0
namespace l0.l1
@[irreducible] noncomputable def zx : Zst × Shared × Shared := sk ⟨(Classical.choice neZst, {}, {})⟩ fun z => Mine.l0.zP (z.1.w) (z.2.1) (z.2.2) (z.1.m 0) (z.1.m 1) (z.1.n 0) (z.1.n 1) (z.1.li 0) (z.1.n 2) (z.1.lv 0) (z.1.h 0)
@[irreducible] noncomputable def w : World := zx.1.w
@[irreducible] noncomputable def s1 : Shared := zx.2.2
@[irreducible] noncomputable def h1 : Heap := zx.1.h 0
def zT (P1 : PySem.World → PySem.Shared → PySem.Shared → (PySem.Str → Option PySem.Value) → (PySem.Str → Option PySem.Value) → PySem.Addr → PySem.Addr → (List Int) → PySem.Addr → (List PySem.Value) → PySem.Heap → Addr → Addr → Heap → Nat → Heap → Nat → Int → Tok → Int → Tok → Obj → (List Value) → (List Int) → Nat → Nat → Prop) : Prop := ∀ w s0 s1 mg9 mb9 fa wc wi wg wh h1, (∀ y0 y1 y2 y3 y4 y5 y6 y7 y8 y9 y10 y11 y12 y13 y14, P1 w s0 s1 mg9 mb9 fa wc wi wg wh h1 y0 y1 y2 y3 y4 y5 y6 y7 y8 y9 y10 y11 y12 y13 y14) → Mine.l0.zs.1 w s0 s1 mg9 mb9 fa wc wi wg wh h1
noncomputable def zs : { P : Addr → Addr → Heap → Nat → Heap → Nat → Int → Tok → Int → Tok → Obj → (List Value) → (List Int) → Nat → Nat → Prop // (∀ y0 y1 y2 y3 y4 y5 y6 y7 y8 y9 y10 y11 y12 y13 y14, P y0 y1 y2 y3 y4 y5 y6 y7 y8 y9 y10 y11 y12 y13 y14) → Mine.l0.zs.1 w (zx.2.1) s1 (zx.1.m 0) (zx.1.m 1) (zx.1.n 0) (zx.1.n 1) (zx.1.li 0) (zx.1.n 2) (zx.1.lv 0) h1 } := by
  refine' ⟨_, (_ : zT _) w (zx.2.1) s1 (zx.1.m 0) (zx.1.m 1) (zx.1.n 0) (zx.1.n 1) (zx.1.li 0) (zx.1.n 2) (zx.1.lv 0) h1⟩
  rotate_left 1
  · intro w s0 s1 mg9 mb9 fa wc wi wg wh h1 zR1 hg9 X0 T0 hL9 hI9 hc9 K0 F0 N0
    w_top on
    w_strict (
     refine' SpecG.use (law_deck _ _ _ _ hI9 (by omega)) ?kG ?kB ?kF ?kX ?kT ?kK ?kd ?ku ?_
     case kG => exact hL9
     case kB => exact K0
     case kF => exact F0
     case kX => exact X0
     case kT => exact T0
     case kK => exact rfl
     case kd => ktr_room
     case ku => ktr_units
     intro v' h' tk' n' ok' F' N'
     obtain ⟨d, lf, mx, tm, o, uf, ms, nn, rfl, hdl, hD9, rfl⟩ := ok'
     clear F0
     k_steps
     unfold Hold
     refine' Spec.use2S (law_draw _ _ _ _ _ _ _ _ _ ?hD _ _ ?h1 ?h2 ?hne) ?k1 ?k2 ?k3 ?k4 ?k5 ?kK ?kd ?ku ?D1 ?D2 ?s1 ?s2 ?_ ?kE
     case hD => assumption
     case h1 => decide
     case h2 => decide
     case hne => k_ne
     case k1 => assumption
     case k2 => assumption
     case k3 => assumption
     case k4 => assumption
     case k5 => assumption
     case kK => exact rfl
     case kd => ktr_room
     case ku => ktr_units
     case kE => exact fun h => h.elim
     case D1 => walk_at "del"
     case D2 => walk_at "del"
     case s1 => walk_at "sep"
     case s2 => walk_at "sep"
     rintro v' h' tk' n' ⟨⟨r, tr, rfl, hr0, hr1⟩, mx2, tm2, o2, uf2, ms2, nn2, hD8, rfl⟩ F' N' hsa hsb
     simp only [List.append_nil] at N'
     obtain ⟨k, hk34, hrk⟩ : ∃ k : Nat, (k = 3 ∨ k = 4) ∧ (3 : Int) + r = (k : Int) := ⟨(3 + r).toNat, by omega, by omega⟩
     walk_at "tidy"
     clear hD9
     (rename_i ziRbx1 ziRbx2 ziRbx3; revert hg9 X0 T0 hL9 hI9 hc9 K0 hr0 hr1 hD8 hsa hsb hk34 hrk z6 lF9 lN9; exact zR1 d lf ziRbx3 tk h' tk' r tr mx2 tm2 o2 uf2 ms2 nn2 k)
    )
end l0.l1
namespace l0.l1
@[irreducible] noncomputable def zP : Addr → Addr → Heap → Nat → Heap → Nat → Int → Tok → Int → Tok → Obj → (List Value) → (List Int) → Nat → Nat → Prop := zs.1
theorem zp : zP = zs.1 := by with_unfolding_all rfl
end l0.l1
namespace l0.l1.l2
@[irreducible] noncomputable def zx : Zst := sk neZst fun z => Mine.l0.l1.zP (z.n 0) (z.n 1) (z.h 0) (z.n 2) (z.h 1) (z.n 3) (z.i 0) (z.n 4) (z.i 1) (z.n 5) (z.o 0) (z.lv 0) (z.li 0) (z.n 6) (z.n 7)
@[irreducible] noncomputable def d : Addr := zx.n 0
@[irreducible] noncomputable def lf : Addr := zx.n 1
@[irreducible] noncomputable def h' : Heap := zx.h 1
@[irreducible] noncomputable def tk' : Nat := zx.n 3
@[irreducible] noncomputable def r : Int := zx.i 0
@[irreducible] noncomputable def mx2 : Int := zx.i 1
@[irreducible] noncomputable def tm2 : Tok := zx.n 5
@[irreducible] noncomputable def o2 : Obj := zx.o 0
@[irreducible] noncomputable def uf2 : List Value := zx.lv 0
@[irreducible] noncomputable def ms2 : List Int := zx.li 0
@[irreducible] noncomputable def nn2 : Nat := zx.n 6
@[irreducible] noncomputable def k : Nat := zx.n 7
def zT (P1 : PySem.Addr → PySem.Addr → PySem.Heap → Nat → PySem.Heap → Nat → Int → PySem.Tok → Int → PySem.Tok → PySem.Obj → (List PySem.Value) → (List Int) → Nat → Nat → Heap → Nat → Addr → Heap → Addr → Heap → Heap → Tok → Nat → Prop) : Prop := ∀ d lf ziRbx3 tk h' tk' r tr mx2 tm2 o2 uf2 ms2 nn2 k, (∀ y0 y1 y2 y3 y4 y5 y6 y7 y8, P1 d lf ziRbx3 tk h' tk' r tr mx2 tm2 o2 uf2 ms2 nn2 k y0 y1 y2 y3 y4 y5 y6 y7 y8) → Mine.l0.l1.zs.1 d lf ziRbx3 tk h' tk' r tr mx2 tm2 o2 uf2 ms2 nn2 k
noncomputable def zs : { P : Heap → Nat → Addr → Heap → Addr → Heap → Heap → Tok → Nat → Prop // (∀ y0 y1 y2 y3 y4 y5 y6 y7 y8, P y0 y1 y2 y3 y4 y5 y6 y7 y8) → Mine.l0.l1.zs.1 d lf (zx.h 0) (zx.n 2) h' tk' r (zx.n 4) mx2 tm2 o2 uf2 ms2 nn2 k } := by
  refine' ⟨_, (_ : zT _) d lf (zx.h 0) (zx.n 2) h' tk' r (zx.n 4) mx2 tm2 o2 uf2 ms2 nn2 k⟩
  rotate_left 1
  · intro d lf ziRbx3 tk h' tk' r tr mx2 tm2 o2 uf2 ms2 nn2 k zR1 hg9 X0 T0 hL9 hI9 hc9 K0 hr0 hr1 hD8 hsa hsb hk34 hrk z6 lF9 lN9
    w_top on
    w_strict (
     k_steps
     unfold Hold
     refine bytes_L (ID0 k) (by k_asm) (by k_asm) (News.isList (by k_asm) (by k_mem)) (ids_ints [171, 205, 7, 16] _ k (ints4 _ _ _ _ _ _ _ _)) (by rw [sizeLine_eq]; show (List.take k [171, 205, 7, 16]).length ≤ _; rw [List.length_take]; omega) (by rfl) ?_
     intro h' t' k' F' N'
     (rename_i ziRcx1 ziRcx2 ziRcx3 ziRcx4 ziRcx5 ziRcx6 ziRcx7 ziRcx8 ziRcx9; revert hg9 X0 T0 hL9 hI9 hc9 K0 hr0 hr1 hD8 hsa hsb hk34 hrk z6 ziRcx6 ziRcx8 ziRcx9 l1 F' N'; exact zR1 ziRcx3 tk ziRcx4 ziRcx5 D' ziRcx7 h' t' k')
    )
end l0.l1.l2
namespace l0.l1.l2
@[irreducible] noncomputable def zP : Heap → Nat → Addr → Heap → Addr → Heap → Heap → Tok → Nat → Prop := zs.1
theorem zp : zP = zs.1 := by with_unfolding_all rfl
end l0.l1.l2
namespace l0.l1.l2.l3
@[irreducible] noncomputable def zx : Zst := sk neZst fun z => Mine.l0.l1.l2.zP (z.h 0) (z.n 0) (z.n 1) (z.h 1) (z.n 2) (z.h 2) (z.h 3) (z.n 3) (z.n 4)
@[irreducible] noncomputable def h' : Heap := zx.h 3
@[irreducible] noncomputable def t' : Tok := zx.n 3
@[irreducible] noncomputable def k' : Nat := zx.n 4
def zT (P1 : PySem.Heap → Nat → PySem.Addr → PySem.Heap → PySem.Addr → PySem.Heap → PySem.Heap → PySem.Tok → Nat → Addr → Heap → Addr → Heap → Heap → Tok → Nat → Prop) : Prop := ∀ ziRcx3 tk ziRcx4 ziRcx5 D' ziRcx7 h' t' k', (∀ y0 y1 y2 y3 y4 y5 y6, P1 ziRcx3 tk ziRcx4 ziRcx5 D' ziRcx7 h' t' k' y0 y1 y2 y3 y4 y5 y6) → Mine.l0.l1.l2.zs.1 ziRcx3 tk ziRcx4 ziRcx5 D' ziRcx7 h' t' k'
noncomputable def zs : { P : Addr → Heap → Addr → Heap → Heap → Tok → Nat → Prop // (∀ y0 y1 y2 y3 y4 y5 y6, P y0 y1 y2 y3 y4 y5 y6) → Mine.l0.l1.l2.zs.1 (zx.h 0) (zx.n 0) (zx.n 1) (zx.h 1) (zx.n 2) (zx.h 2) h' t' k' } := by
  refine' ⟨_, (_ : zT _) (zx.h 0) (zx.n 0) (zx.n 1) (zx.h 1) (zx.n 2) (zx.h 2) h' t' k'⟩
  rotate_left 1
  · intro ziRcx3 tk ziRcx4 ziRcx5 D' ziRcx7 h' t' k' zR1 hg9 X0 T0 hL9 hI9 hc9 K0 hr0 hr1 hD8 hsa hsb hk34 hrk z6 ziRcx6 ziRcx8 ziRcx9 l1 F' N'
    w_top on
    w_strict (
     k_steps
     unfold Hold
     refine bytes_L ([0, 0, 1, 255].take k) (by k_asm) (by k_asm) (News.isList (by k_asm) (by k_mem)) (ids_ints [0, 0, 1, 255] _ k (ints4 _ _ _ _ _ _ _ _)) (by rw [sizeLine_eq, List.length_take]; omega) (by rfl) ?_
     intro h' t' k' F' N'
     (rename_i ziRcax1 ziRcax2 ziRcax3 ziRcax4 ziRcax5 ziRcax6 ziRcax7 ziRcax8 ziRcax9 ziRcax10 ziRcax11; revert hg9 X0 T0 hL9 hI9 hc9 K0 hr0 hr1 hD8 hsa hsb hk34 hrk z6 ziRcx6 ziRcax5 ziRcax8 ziRcax10 ziRcax11 l1 F' N'; exact zR1 ziRcax6 ziRcax7 D' ziRcax9 h' t' k')
    )
end l0.l1.l2.l3
namespace l0.l1.l2.l3
@[irreducible] noncomputable def zP : Addr → Heap → Addr → Heap → Heap → Tok → Nat → Prop := zs.1
theorem zp : zP = zs.1 := by with_unfolding_all rfl
end l0.l1.l2.l3
namespace l0.l1.l2.l3.l4
@[irreducible] noncomputable def zx : Zst := sk neZst fun z => Mine.l0.l1.l2.l3.zP (z.n 0) (z.h 0) (z.n 1) (z.h 1) (z.h 2) (z.n 2) (z.n 3)
@[irreducible] noncomputable def h' : Heap := zx.h 2
def zT (P1 : PySem.Addr → PySem.Heap → PySem.Addr → PySem.Heap → PySem.Heap → PySem.Tok → Nat → Addr → Addr → Tok → Nat → Heap → Addr → Prop) : Prop := ∀ ziRcax6 ziRcax7 D' ziRcax9 h' t' k', (∀ y0 y1 y2 y3 y4 y5, P1 ziRcax6 ziRcax7 D' ziRcax9 h' t' k' y0 y1 y2 y3 y4 y5) → Mine.l0.l1.l2.l3.zs.1 ziRcax6 ziRcax7 D' ziRcax9 h' t' k'
noncomputable def zs : { P : Addr → Addr → Tok → Nat → Heap → Addr → Prop // (∀ y0 y1 y2 y3 y4 y5, P y0 y1 y2 y3 y4 y5) → Mine.l0.l1.l2.l3.zs.1 (zx.n 0) (zx.h 0) (zx.n 1) (zx.h 1) h' (zx.n 2) (zx.n 3) } := by
  refine' ⟨_, (_ : zT _) (zx.n 0) (zx.h 0) (zx.n 1) (zx.h 1) h' (zx.n 2) (zx.n 3)⟩
  rotate_left 1
  · intro ziRcax6 ziRcax7 D' ziRcax9 h' t' k' zR1 hg9 X0 T0 hL9 hI9 hc9 K0 hr0 hr1 hD8 hsa hsb hk34 hrk z6 ziRcx6 ziRcax5 ziRcax8 ziRcax10 ziRcax11 l1 F' N'
    w_top on
    w_strict (
     k_steps
     unfold Hold
     refine bytes_L ([16, 32, 48, 64].take k) (by k_asm) (by k_asm) (News.isList (by k_asm) (by k_mem)) (ids_ints [16, 32, 48, 64] _ k (ints4 _ _ _ _ _ _ _ _)) (by rw [sizeLine_eq, List.length_take]; omega) (by rfl) ?_
     intro h' t' k' F' N'
     k_steps
     unfold Hold
     rename News _ _ _ _ => N9
     rename Fr _ _ _ _ => F9
     obtain ⟨li, rfl⟩ := nameD N9
     walk_at "tidy"
     have hdl : d ≠ lf := by k_ne
     have hli1 : d ≠ li := by k_ne
     have hli2 : lf ≠ li := by k_ne
     have hi3 : (ids3 k).length = 3 := rfl
     have hik := ids3_len hk34
     (rename_i ziRcbx1 ziRcbx2 ziRcbx3 ziRcbx4 ziRcbx5 ziRcbx6 ziRcbx7 ziRcbx8 ziRcbx9 ziRcbx10 ziRcbx11 ziRcbx12; revert hg9 X0 T0 hL9 hI9 hc9 K0 hr0 hr1 hD8 hsa hsb hk34 hrk z6 ziRcx6 ziRcax5 ziRcax8 ziRcbx5 ziRcbx8 l1 ziRcbx12 lF9 lN9 hdl hli1 hli2 hi3 hik; exact zR1 ziRcbx6 D' t' k' ziRcbx11 li)
    )
end l0.l1.l2.l3.l4
namespace l0.l1.l2.l3.l4
@[irreducible] noncomputable def zP : Addr → Addr → Tok → Nat → Heap → Addr → Prop := zs.1
theorem zp : zP = zs.1 := by with_unfolding_all rfl
end l0.l1.l2.l3.l4
namespace l0.l1.l2.l3.l4.l5
@[irreducible] noncomputable def zx : Zst := sk neZst fun z => Mine.l0.l1.l2.l3.l4.zP (z.n 0) (z.n 1) (z.n 2) (z.n 3) (z.h 0) (z.n 4)
@[irreducible] noncomputable def li : Addr := zx.n 4
def zT (P1 : PySem.Addr → PySem.Addr → PySem.Tok → Nat → PySem.Heap → PySem.Addr → Heap → Nat → Addr → Obj → Addr → Addr → Addr → Addr → Nat → Nat → Nat → Nat → Value → Value → (List Value) → (List Value) → (List Value) → (List Value) → St → (List (List UInt8)) → (List Item) → Bool → Int → Tok → Obj → (List Value) → (List Int) → Nat → Prop) : Prop := ∀ ziRcbx6 D' t' k' ziRcbx11 li, (∀ y0 y1 y2 y3 y4 y5 y6 y7 y8 y9 y10 y11 y12 y13 y14 y15 y16 y17 y18 y19 y20 y21 y22 y23 y24 y25 y26 y27, P1 ziRcbx6 D' t' k' ziRcbx11 li y0 y1 y2 y3 y4 y5 y6 y7 y8 y9 y10 y11 y12 y13 y14 y15 y16 y17 y18 y19 y20 y21 y22 y23 y24 y25 y26 y27) → Mine.l0.l1.l2.l3.l4.zs.1 ziRcbx6 D' t' k' ziRcbx11 li
noncomputable def zs : { P : Heap → Nat → Addr → Obj → Addr → Addr → Addr → Addr → Nat → Nat → Nat → Nat → Value → Value → (List Value) → (List Value) → (List Value) → (List Value) → St → (List (List UInt8)) → (List Item) → Bool → Int → Tok → Obj → (List Value) → (List Int) → Nat → Prop // (∀ y0 y1 y2 y3 y4 y5 y6 y7 y8 y9 y10 y11 y12 y13 y14 y15 y16 y17 y18 y19 y20 y21 y22 y23 y24 y25 y26 y27, P y0 y1 y2 y3 y4 y5 y6 y7 y8 y9 y10 y11 y12 y13 y14 y15 y16 y17 y18 y19 y20 y21 y22 y23 y24 y25 y26 y27) → Mine.l0.l1.l2.l3.l4.zs.1 (zx.n 0) (zx.n 1) (zx.n 2) (zx.n 3) (zx.h 0) li } := by
  refine' ⟨_, (_ : zT _) (zx.n 0) (zx.n 1) (zx.n 2) (zx.n 3) (zx.h 0) li⟩
  rotate_left 1
  · intro ziRcbx6 D' t' k' ziRcbx11 li zR1 hg9 X0 T0 hL9 hI9 hc9 K0 hr0 hr1 hD8 hsa hsb hk34 hrk z6 ziRcx6 ziRcax5 ziRcax8 ziRcbx5 ziRcbx8 l1 ziRcbx12 lF9 lN9 hdl hli1 hli2 hi3 hik
    w_top on
    w_strict (
     refine' Spec.use (law_drawn w d lf li mx2 tm2 o2 uf2 _ ms2 nn2 _ (ids3 k) hD8 k trivial (.cons _ _ (.cons _ _ (.cons _ _ .nil))) hi3 hik hdl hli1 hli2) [] K0 ?kF X0 ?kN T0 rfl ?kd ?ku ?km ?kr ?ks ?_ ?kE
     case kF => assumption
     case kN => assumption
     case kd => ktr_room
     case ku => ktr_units
     case km => walk_at "sub here"
     case kr => exact fun _ h => nomatch h
     case ks => exact fun _ h => nomatch h
     case kE => exact fun h => h.elim
     rintro v' h' tk' n' ⟨dw, ow, lw, lo, ls, lt, nw, no, ns, nt, dv, sv, uw, uo, us, uk, st, wb, tkI, done, mx3, tm3, o3, uf3, ms3, nn3, hw9, hsm, hR, hO, hS, hD, hN, hT, hW, hD7, hnd⟩ F' N' _
     simp only [List.append_nil] at N'
     have huw : uw.length ≤ 1000 := by rw [hR.length]; have := hW.wn; omega
     have hus : us.length ≤ 1000 := by rw [hS.length]; have := hW.sn; omega
     have huk : uk.length ≤ 1000 := by rw [hT.length]; have := hW.tn; omega
     have huo : uo.length ≤ 1000 := by
       rw [hO.length, List.length_map]
       obtain ⟨n, hn, e⟩ := hW.wbp
       rw [e, List.length_take]
       omega
     walk_at "tidy"
     clear hD8 hI9 hL9 hc9 hi3 hik
     k_steps
     unfold Hold
     (rename_i ziRdx1 ziRdx2 ziRdx3 ziRdx4; revert hg9 X0 T0 K0 hr0 hr1 hsa hsb hk34 hrk ziRdx1 ziRcx6 ziRcax5 ziRcax8 ziRcbx5 ziRcbx8 l1 ziRcbx12 hw9 hsm hR hO hS hD hN hT hW hD7 hnd ziRdx2 huw hus huk huo ziRdx3 ziRdx4 z6 lF9 lN9; exact zR1 h' tk' dw ow lw lo ls lt nw no ns nt dv sv uw uo us uk st wb tkI done mx3 tm3 o3 uf3 ms3 nn3)
    )
end l0.l1.l2.l3.l4.l5
end sRb
theorem fl56 : True := by first | walk1 | trivial

section sRe

local macro_rules | `(tactic| walk_at $s:str) => `(tactic| k_extra $(Lean.Syntax.mkStrLit ("S194." ++ s.getString)))
theorem zm79 : True := by
  (k_with "S194.subscriptTail Name" => k_extra "R139")
  (k_with "S194.subscriptTail Name Constant" => k_extra "R139")
  (k_with "S194.subscriptTail Name Constant ref int" => k_extra "R139")
  (k_with "S194.subscriptTail" => k_extra "R139")
  (k_with "S194.mem14" => k_extra "R140")
  (k_with "S194.call ref" => k_extra "R3")
  (k_with "S194.call type:list" => k_extra "R3")
  (k_with "S194.setAttr ref" => k_extra "R55")
  trivial
namespace l0.l1.l2.l3.l4.l5
@[irreducible] noncomputable def zP : Heap → Nat → Addr → Obj → Addr → Addr → Addr → Addr → Nat → Nat → Nat → Nat → Value → Value → (List Value) → (List Value) → (List Value) → (List Value) → St → (List (List UInt8)) → (List Item) → Bool → Int → Tok → Obj → (List Value) → (List Int) → Nat → Prop := zs.1
theorem zp : zP = zs.1 := by with_unfolding_all rfl
end l0.l1.l2.l3.l4.l5
namespace l0.l1.l2.l3.l4.l5.l6
@[irreducible] noncomputable def zx : Zst × St × (List Item) := sk ⟨(Classical.choice neZst, ⟨[], [], [], none, none⟩, default)⟩ fun z => Mine.l0.l1.l2.l3.l4.l5.zP (z.1.h 0) (z.1.n 0) (z.1.n 1) (z.1.o 0) (z.1.n 2) (z.1.n 3) (z.1.n 4) (z.1.n 5) (z.1.n 6) (z.1.n 7) (z.1.n 8) (z.1.n 9) (z.1.v 0) (z.1.v 1) (z.1.lv 0) (z.1.lv 1) (z.1.lv 2) (z.1.lv 3) (z.2.1) (z.1.ll 0) (z.2.2) (z.1.b 0) (z.1.i 0) (z.1.n 10) (z.1.o 1) (z.1.lv 4) (z.1.li 0) (z.1.n 11)
@[irreducible] noncomputable def h' : Heap := zx.1.h 0
@[irreducible] noncomputable def tk' : Nat := zx.1.n 0
@[irreducible] noncomputable def dw : Addr := zx.1.n 1
@[irreducible] noncomputable def ow : Obj := zx.1.o 0
@[irreducible] noncomputable def lw : Addr := zx.1.n 2
@[irreducible] noncomputable def lo : Addr := zx.1.n 3
@[irreducible] noncomputable def ls : Addr := zx.1.n 4
@[irreducible] noncomputable def lt : Addr := zx.1.n 5
@[irreducible] noncomputable def nw : Nat := zx.1.n 6
@[irreducible] noncomputable def no : Nat := zx.1.n 7
@[irreducible] noncomputable def ns : Nat := zx.1.n 8
@[irreducible] noncomputable def nt : Nat := zx.1.n 9
@[irreducible] noncomputable def dv : Value := zx.1.v 0
@[irreducible] noncomputable def sv : Value := zx.1.v 1
@[irreducible] noncomputable def uw : List Value := zx.1.lv 0
@[irreducible] noncomputable def uo : List Value := zx.1.lv 1
@[irreducible] noncomputable def us : List Value := zx.1.lv 2
@[irreducible] noncomputable def uk : List Value := zx.1.lv 3
@[irreducible] noncomputable def st : St := zx.2.1
@[irreducible] noncomputable def wb : List (List UInt8) := zx.1.ll 0
@[irreducible] noncomputable def tkI : List Item := zx.2.2
@[irreducible] noncomputable def done : Bool := zx.1.b 0
@[irreducible] noncomputable def o3 : Obj := zx.1.o 1
@[irreducible] noncomputable def uf3 : List Value := zx.1.lv 4
@[irreducible] noncomputable def nn3 : Nat := zx.1.n 11
def zT (P1 : PySem.Heap → Nat → PySem.Addr → PySem.Obj → PySem.Addr → PySem.Addr → PySem.Addr → PySem.Addr → Nat → Nat → Nat → Nat → PySem.Value → PySem.Value → (List PySem.Value) → (List PySem.Value) → (List PySem.Value) → (List PySem.Value) → Mine.St → (List (List UInt8)) → (List Mine.Item) → Bool → Int → PySem.Tok → PySem.Obj → (List PySem.Value) → (List Int) → Nat → Addr → Addr → Addr → Addr → Addr → Addr → Tok → Tok → Tok → Tok → Tok → Tok → Tok → Nat → Heap → Nat → Prop) : Prop := ∀ h' tk' dw ow lw lo ls lt nw no ns nt dv sv uw uo us uk st wb tkI done mx3 tm3 o3 uf3 ms3 nn3, (∀ y0 y1 y2 y3 y4 y5 y6 y7 y8 y9 y10 y11 y12 y13 y14 y15, P1 h' tk' dw ow lw lo ls lt nw no ns nt dv sv uw uo us uk st wb tkI done mx3 tm3 o3 uf3 ms3 nn3 y0 y1 y2 y3 y4 y5 y6 y7 y8 y9 y10 y11 y12 y13 y14 y15) → Mine.l0.l1.l2.l3.l4.l5.zs.1 h' tk' dw ow lw lo ls lt nw no ns nt dv sv uw uo us uk st wb tkI done mx3 tm3 o3 uf3 ms3 nn3
noncomputable def zs : { P : Addr → Addr → Addr → Addr → Addr → Addr → Tok → Tok → Tok → Tok → Tok → Tok → Tok → Nat → Heap → Nat → Prop // (∀ y0 y1 y2 y3 y4 y5 y6 y7 y8 y9 y10 y11 y12 y13 y14 y15, P y0 y1 y2 y3 y4 y5 y6 y7 y8 y9 y10 y11 y12 y13 y14 y15) → Mine.l0.l1.l2.l3.l4.l5.zs.1 h' tk' dw ow lw lo ls lt nw no ns nt dv sv uw uo us uk st wb tkI done (zx.1.i 0) (zx.1.n 10) o3 uf3 (zx.1.li 0) nn3 } := by
  refine' ⟨_, (_ : zT _) h' tk' dw ow lw lo ls lt nw no ns nt dv sv uw uo us uk st wb tkI done (zx.1.i 0) (zx.1.n 10) o3 uf3 (zx.1.li 0) nn3⟩
  rotate_left 1
  · intro h' tk' dw ow lw lo ls lt nw no ns nt dv sv uw uo us uk st wb tkI done mx3 tm3 o3 uf3 ms3 nn3 zR1 hg9 X0 T0 K0 hr0 hr1 hsa hsb hk34 hrk ziRdx1 ziRcx6 ziRcax5 ziRcax8 ziRcbx5 ziRcbx8 l1 ziRcbx12 hw9 hsm hR hO hS hD hN hT hW hD7 hnd ziRdx2 huw hus huk huo ziRdx3 ziRdx4 z6 lF9 lN9
    w_top on
    w_strict (
     refine' use_new ?B1 ?F1 ?X1 ?N1 ?T1 rfl ?kd1 ?ku1 ?_
     case B1 => exact K0
     case F1 => k_asm
     case X1 => exact X0
     case N1 => k_asm
     case T1 => exact T0
     case kd1 => ktr_room
     case ku1 => ktr_units
     intro ax ad aw ao as ak e1 e2 e3 e4 e5 e6 e7 en h' tk' hnd6 F' N' off6
     walk_at "tidy"
     (repeat (with_reducible rename (_ : Addr) < _ => z9; clear z9))
     (repeat (with_reducible rename Kept _ _ _ _ => z9; clear z9))
     have hA6 := nd6 hnd6
     have o1 : Ap d ad := ⟨off6 (d, _) (by k_mem) ad (by k_mem)⟩
     have o2' : Ap lf ad := ⟨off6 (lf, _) (by k_mem) ad (by k_mem)⟩
     have o3' : Ap li ad := ⟨off6 (li, _) (by k_mem) ad (by k_mem)⟩
     have o4 : Ap dw ad := ⟨off6 (dw, _) (by k_mem) ad (by k_mem)⟩
     have o5 : Ap lw ad := ⟨off6 (lw, _) (by k_mem) ad (by k_mem)⟩
     have o6 : Ap lo ad := ⟨off6 (lo, _) (by k_mem) ad (by k_mem)⟩
     have o7 : Ap ls ad := ⟨off6 (ls, _) (by k_mem) ad (by k_mem)⟩
     have o8 : Ap lt ad := ⟨off6 (lt, _) (by k_mem) ad (by k_mem)⟩
     clear off6
     walk_at "split"
     (rename_i ziRex1 ziRex2 ziRex3 ziRex4 ziRex5 ziRex6 ziRex7 ziRex8 ziRex9 ziRex10 ziRex11 ziRex12 ziRex13 ziRex14 ziRex15; revert hg9 X0 T0 K0 hr0 hr1 hsa hsb hk34 hrk ziRdx1 ziRcx6 ziRcax5 ziRcax8 ziRcbx5 ziRcbx8 l1 ziRcbx12 hw9 hsm hR hO hS hD hN hT hW hD7 hnd huw hus huk huo ziRdx3 ziRdx4 z6 hnd6 lF9 lN9 o1 o2' o3' o4 o5 o6 o7 o8 ziRex3 ziRex4 ziRex5 ziRex6 ziRex7 ziRex8 ziRex9 ziRex10 ziRex11 ziRex12 ziRex13 ziRex14 ziRex15 z8 z7; exact zR1 ax ad aw ao as ak e1 e2 e3 e4 e5 e6 e7 en h' tk')
    )
end l0.l1.l2.l3.l4.l5.l6
namespace l0.l1.l2.l3.l4.l5.l6
@[irreducible] noncomputable def zP : Addr → Addr → Addr → Addr → Addr → Addr → Tok → Tok → Tok → Tok → Tok → Tok → Tok → Nat → Heap → Nat → Prop := zs.1
theorem zp : zP = zs.1 := by with_unfolding_all rfl
end l0.l1.l2.l3.l4.l5.l6
namespace l0.l1.l2.l3.l4.l5.l6.l7
@[irreducible] noncomputable def zx : Zst := sk neZst fun z => Mine.l0.l1.l2.l3.l4.l5.l6.zP (z.n 0) (z.n 1) (z.n 2) (z.n 3) (z.n 4) (z.n 5) (z.n 6) (z.n 7) (z.n 8) (z.n 9) (z.n 10) (z.n 11) (z.n 12) (z.n 13) (z.h 0) (z.n 14)
@[irreducible] noncomputable def ax : Addr := zx.n 0
@[irreducible] noncomputable def ad : Addr := zx.n 1
@[irreducible] noncomputable def e1 : Tok := zx.n 6
@[irreducible] noncomputable def e2 : Tok := zx.n 7
@[irreducible] noncomputable def e3 : Tok := zx.n 8
@[irreducible] noncomputable def e4 : Tok := zx.n 9
@[irreducible] noncomputable def e5 : Tok := zx.n 10
@[irreducible] noncomputable def e6 : Tok := zx.n 11
@[irreducible] noncomputable def e7 : Tok := zx.n 12
@[irreducible] noncomputable def en : Nat := zx.n 13
@[irreducible] noncomputable def h' : Heap := zx.h 0
@[irreducible] noncomputable def tk' : Nat := zx.n 14
def zT (P1 : PySem.Addr → PySem.Addr → PySem.Addr → PySem.Addr → PySem.Addr → PySem.Addr → PySem.Tok → PySem.Tok → PySem.Tok → PySem.Tok → PySem.Tok → PySem.Tok → PySem.Tok → Nat → PySem.Heap → Nat → Addr → Heap → Nat → Addr → Nat → Heap → Prop) : Prop := ∀ ax ad aw ao as ak e1 e2 e3 e4 e5 e6 e7 en h' tk', (∀ y0 y1 y2 y3 y4 y5, P1 ax ad aw ao as ak e1 e2 e3 e4 e5 e6 e7 en h' tk' y0 y1 y2 y3 y4 y5) → Mine.l0.l1.l2.l3.l4.l5.l6.zs.1 ax ad aw ao as ak e1 e2 e3 e4 e5 e6 e7 en h' tk'
noncomputable def zs : { P : Addr → Heap → Nat → Addr → Nat → Heap → Prop // (∀ y0 y1 y2 y3 y4 y5, P y0 y1 y2 y3 y4 y5) → Mine.l0.l1.l2.l3.l4.l5.l6.zs.1 ax ad (zx.n 2) (zx.n 3) (zx.n 4) (zx.n 5) e1 e2 e3 e4 e5 e6 e7 en h' tk' } := by
  refine' ⟨_, (_ : zT _) ax ad (zx.n 2) (zx.n 3) (zx.n 4) (zx.n 5) e1 e2 e3 e4 e5 e6 e7 en h' tk'⟩
  rotate_left 1
  · intro ax ad aw ao as ak e1 e2 e3 e4 e5 e6 e7 en h' tk' zR1 hg9 X0 T0 K0 hr0 hr1 hsa hsb hk34 hrk ziRdx1 ziRcx6 ziRcax5 ziRcax8 ziRcbx5 ziRcbx8 l1 ziRcbx12 hw9 hsm hR hO hS hD hN hT hW hD7 hnd huw hus huk huo ziRdx3 ziRdx4 z6 hnd6 lF9 lN9 o1 o2' o3' o4 o5 o6 o7 o8 ziRex3 ziRex4 ziRex5 ziRex6 ziRex7 ziRex8 ziRex9 ziRex10 ziRex11 ziRex12 ziRex13 ziRex14 ziRex15 z8 z7
    w_top on
    w_strict (
     k_steps
     unfold Hold
     (with_reducible show wpAny _ _ (call (Value.type _) [Value.ref _]) _ _ _)
     refine' copy_L ?F1 ?N1 ?k31 ?z1 ?_
     case F1 => k_asm
     case N1 => k_asm
     case k31 => k_mem
     case z1 => exact Nat.le_trans huw (by decide)
     intro bw c1 h' F' N' l1
     k_lt l1
     (rename_i ziRfx1 ziRfx2 ziRfx3 ziRfx4 ziRfx5 ziRfx6 ziRfx7 ziRfx8 ziRfx9 ziRfx10; revert hg9 X0 T0 K0 hr0 hr1 hsa hsb hk34 hrk ziRdx1 ziRcx6 ziRcax5 ziRcax8 ziRcbx5 ziRcbx8 ziRfx2 ziRcbx12 hw9 hsm hR hO hS hD hN hT hW hD7 hnd huw hus huk huo ziRdx3 ziRdx4 z6 hnd6 o1 o2' o3' o4 o5 o6 o7 o8 ziRex3 ziRex4 ziRex5 ziRex6 ziRex7 ziRex8 ziRex9 ziRex10 ziRex11 ziRex12 ziRex13 ziRex14 ziRex15 z8 z7 ziRfx5 ziRfx9 ziRfx10 F' N' l1; exact zR1 ziRfx3 ziRfx8 tk bw c1 h')
    )
end l0.l1.l2.l3.l4.l5.l6.l7
namespace l0.l1.l2.l3.l4.l5.l6.l7
@[irreducible] noncomputable def zP : Addr → Heap → Nat → Addr → Nat → Heap → Prop := zs.1
theorem zp : zP = zs.1 := by with_unfolding_all rfl
end l0.l1.l2.l3.l4.l5.l6.l7
namespace l0.l1.l2.l3.l4.l5.l6.l7.l8
@[irreducible] noncomputable def zx : Zst := sk neZst fun z => Mine.l0.l1.l2.l3.l4.l5.l6.l7.zP (z.n 0) (z.h 0) (z.n 1) (z.n 2) (z.n 3) (z.h 1)
@[irreducible] noncomputable def bw : Addr := zx.n 2
@[irreducible] noncomputable def c1 : Nat := zx.n 3
@[irreducible] noncomputable def h' : Heap := zx.h 1
def zT (P1 : PySem.Addr → PySem.Heap → Nat → PySem.Addr → Nat → PySem.Heap → Addr → Nat → Heap → Addr → Nat → Heap → Prop) : Prop := ∀ ziRfx3 ziRfx8 tk bw c1 h', (∀ y0 y1 y2 y3 y4 y5, P1 ziRfx3 ziRfx8 tk bw c1 h' y0 y1 y2 y3 y4 y5) → Mine.l0.l1.l2.l3.l4.l5.l6.l7.zs.1 ziRfx3 ziRfx8 tk bw c1 h'
noncomputable def zs : { P : Addr → Nat → Heap → Addr → Nat → Heap → Prop // (∀ y0 y1 y2 y3 y4 y5, P y0 y1 y2 y3 y4 y5) → Mine.l0.l1.l2.l3.l4.l5.l6.l7.zs.1 (zx.n 0) (zx.h 0) (zx.n 1) bw c1 h' } := by
  refine' ⟨_, (_ : zT _) (zx.n 0) (zx.h 0) (zx.n 1) bw c1 h'⟩
  rotate_left 1
  · intro ziRfx3 ziRfx8 tk bw c1 h' zR1 hg9 X0 T0 K0 hr0 hr1 hsa hsb hk34 hrk ziRdx1 ziRcx6 ziRcax5 ziRcax8 ziRcbx5 ziRcbx8 ziRfx2 ziRcbx12 hw9 hsm hR hO hS hD hN hT hW hD7 hnd huw hus huk huo ziRdx3 ziRdx4 z6 hnd6 o1 o2' o3' o4 o5 o6 o7 o8 ziRex3 ziRex4 ziRex5 ziRex6 ziRex7 ziRex8 ziRex9 ziRex10 ziRex11 ziRex12 ziRex13 ziRex14 ziRex15 z8 z7 ziRfx5 ziRfx9 ziRfx10 F' N' l1
    w_top on
    w_strict (
     k_steps
     unfold Hold
     (with_reducible show wpAny _ _ (call (Value.type _) [Value.ref _]) _ _ _)
     refine' copy_L ?F1 ?N1 ?k31 ?z1 ?_
     case F1 => k_asm
     case N1 => k_asm
     case k31 => k_mem
     case z1 => exact Nat.le_trans huo (by decide)
     intro bo c2 h' F' N' l1
     k_lt l1
     k_steps
     unfold Hold
     (with_reducible show wpAny _ _ (call (Value.type _) [Value.ref _]) _ _ _)
     refine' copy_L ?F2 ?N2 ?k32 ?z2 ?_
     case F2 => k_asm
     case N2 => k_asm
     case k32 => k_mem
     case z2 => exact Nat.le_trans hus (by decide)
     intro bs c3 h' F' N' l1
     k_lt l1
     (rename_i ziRfax1 ziRfax2 ziRfax3 ziRfax4 ziRfax5 ziRfax6 ziRfax7 ziRfax8; revert hg9 X0 T0 K0 hr0 hr1 hsa hsb hk34 hrk ziRdx1 ziRcx6 ziRcax5 ziRcax8 ziRcbx5 ziRcbx8 ziRfx2 ziRcbx12 hw9 hsm hR hO hS hD hN hT hW hD7 hnd huw hus huk huo ziRdx3 ziRdx4 z6 hnd6 o1 o2' o3' o4 o5 o6 o7 o8 ziRex3 ziRex4 ziRex5 ziRex6 ziRex7 ziRex8 ziRex9 ziRex10 ziRex11 ziRex12 ziRex13 ziRex14 ziRex15 z8 z7 ziRfx5 ziRfx9 ziRfx10 ziRfax2 ziRfax3 ziRfax4 ziRfax6 ziRfax7 ziRfax8 F' N' l1; exact zR1 bo c2 ziRfax5 bs c3 h')
    )
end l0.l1.l2.l3.l4.l5.l6.l7.l8
namespace l0.l1.l2.l3.l4.l5.l6.l7.l8
@[irreducible] noncomputable def zP : Addr → Nat → Heap → Addr → Nat → Heap → Prop := zs.1
theorem zp : zP = zs.1 := by with_unfolding_all rfl
end l0.l1.l2.l3.l4.l5.l6.l7.l8
namespace l0.l1.l2.l3.l4.l5.l6.l7.l8.l9
@[irreducible] noncomputable def zx : Zst := sk neZst fun z => Mine.l0.l1.l2.l3.l4.l5.l6.l7.l8.zP (z.n 0) (z.n 1) (z.h 0) (z.n 2) (z.n 3) (z.h 1)
@[irreducible] noncomputable def bo : Addr := zx.n 0
@[irreducible] noncomputable def c2 : Nat := zx.n 1
@[irreducible] noncomputable def bs : Addr := zx.n 2
@[irreducible] noncomputable def c3 : Nat := zx.n 3
@[irreducible] noncomputable def h' : Heap := zx.h 1
def zT (P1 : PySem.Addr → Nat → PySem.Heap → PySem.Addr → Nat → PySem.Heap → Addr → Addr → Nat → Addr → Heap → Prop) : Prop := ∀ bo c2 ziRfax5 bs c3 h', (∀ y0 y1 y2 y3 y4, P1 bo c2 ziRfax5 bs c3 h' y0 y1 y2 y3 y4) → Mine.l0.l1.l2.l3.l4.l5.l6.l7.l8.zs.1 bo c2 ziRfax5 bs c3 h'
noncomputable def zs : { P : Addr → Addr → Nat → Addr → Heap → Prop // (∀ y0 y1 y2 y3 y4, P y0 y1 y2 y3 y4) → Mine.l0.l1.l2.l3.l4.l5.l6.l7.l8.zs.1 bo c2 (zx.h 0) bs c3 h' } := by
  refine' ⟨_, (_ : zT _) bo c2 (zx.h 0) bs c3 h'⟩
  rotate_left 1
  · intro bo c2 ziRfax5 bs c3 h' zR1 hg9 X0 T0 K0 hr0 hr1 hsa hsb hk34 hrk ziRdx1 ziRcx6 ziRcax5 ziRcax8 ziRcbx5 ziRcbx8 ziRfx2 ziRcbx12 hw9 hsm hR hO hS hD hN hT hW hD7 hnd huw hus huk huo ziRdx3 ziRdx4 z6 hnd6 o1 o2' o3' o4 o5 o6 o7 o8 ziRex3 ziRex4 ziRex5 ziRex6 ziRex7 ziRex8 ziRex9 ziRex10 ziRex11 ziRex12 ziRex13 ziRex14 ziRex15 z8 z7 ziRfx5 ziRfx9 ziRfx10 ziRfax2 ziRfax3 ziRfax4 ziRfax6 ziRfax7 ziRfax8 F' N' l1
    w_top on
    w_strict (
     walk_at "split"
     k_steps
     unfold Hold
     (with_reducible show wpAny _ _ (call (Value.type _) [Value.ref _]) _ _ _)
     refine' copy_L ?F1 ?N1 ?k31 ?z1 ?_
     case F1 => k_asm
     case N1 => k_asm
     case k31 => k_mem
     case z1 => exact Nat.le_trans huk (by decide)
     intro bk c4 h' F' N' l1
     k_lt l1
     k_steps
     unfold Hold
     walk_at "tidy"
     have hnd9 : [ax, ad, bw, bo, bs, bk].Nodup := nd6s (by k_ne) (by k_ne) (by k_ne) (by k_ne) (by k_ne) (by k_ne) (by k_ne) (by k_ne) (by k_ne) (by k_ne) (by k_ne) (by k_ne) (by k_ne) (by k_ne) (by k_ne)
     rename News _ _ _ _ => N9
     have N8 : News _ _ _ [(ax, instObj 205 ad), (ad, frD w bw bo bs bk e1 e2 e3 e4 e5 e6 e7 en dv sv done), (bw, listOf uw.toArray c1), (bo, listOf uo.toArray c2), (bs, listOf us.toArray c3), (bk, listOf uk.toArray c4), (d, o3), (lf, listOf uf3.toArray nn3), (li, _), (dw, ow), (lw, listOf uw.toArray nw), (lo, listOf uo.toArray no), (ls, listOf us.toArray ns), (lt, listOf uk.toArray nt)] := News.sub_J N9 (by walk_at "mem14")
     clear N9
     (repeat (with_reducible rename (_ : Addr) < _ => z9; clear z9))
     (repeat (with_reducible rename Ap _ _ => z9; clear z9))
     (rename_i ziRfbx1 ziRfbx2 ziRfbx3 ziRfbx4 ziRfbx5 ziRfbx6 ziRfbx7 ziRfbx8 ziRfbx9 ziRfbx10 ziRfbx11 ziRfbx12 ziRfbx13 ziRfbx14 ziRfbx15 ziRfbx16 ziRfbx17; revert hg9 X0 T0 K0 hr0 hr1 hsa hsb hk34 hrk ziRcx6 ziRcax5 ziRcax8 ziRcbx5 ziRcbx8 ziRfx2 ziRcbx12 hw9 hsm hR hO hS hD hN hT hW hD7 hnd huw hus huk huo hnd6 ziRfx5 ziRfax4 ziRfax8 ziRfbx2 ziRfbx5 l1 ziRfbx13 lF9 hnd9 N8; exact zR1 ziRfbx3 bk c4 ziRfbx11 h')
    )
end l0.l1.l2.l3.l4.l5.l6.l7.l8.l9
namespace l0.l1.l2.l3.l4.l5.l6.l7.l8.l9
@[irreducible] noncomputable def zP : Addr → Addr → Nat → Addr → Heap → Prop := zs.1
theorem zp : zP = zs.1 := by with_unfolding_all rfl
end l0.l1.l2.l3.l4.l5.l6.l7.l8.l9
namespace l0.l1.l2.l3.l4.l5.l6.l7.l8.l9.l10
@[irreducible] noncomputable def zx : Zst := sk neZst fun z => Mine.l0.l1.l2.l3.l4.l5.l6.l7.l8.l9.zP (z.n 0) (z.n 1) (z.n 2) (z.n 3) (z.h 0)
@[irreducible] noncomputable def bk : Addr := zx.n 1
@[irreducible] noncomputable def c4 : Nat := zx.n 2
@[irreducible] noncomputable def h' : Heap := zx.h 0
def zT (P1 : PySem.Addr → PySem.Addr → Nat → PySem.Addr → PySem.Heap → Addr → (List Value) → Nat → Heap → Nat → Prop) : Prop := ∀ ziRfbx3 bk c4 ziRfbx11 h', (∀ y0 y1 y2 y3 y4, P1 ziRfbx3 bk c4 ziRfbx11 h' y0 y1 y2 y3 y4) → Mine.l0.l1.l2.l3.l4.l5.l6.l7.l8.l9.zs.1 ziRfbx3 bk c4 ziRfbx11 h'
noncomputable def zs : { P : Addr → (List Value) → Nat → Heap → Nat → Prop // (∀ y0 y1 y2 y3 y4, P y0 y1 y2 y3 y4) → Mine.l0.l1.l2.l3.l4.l5.l6.l7.l8.l9.zs.1 (zx.n 0) bk c4 (zx.n 3) h' } := by
  refine' ⟨_, (_ : zT _) (zx.n 0) bk c4 (zx.n 3) h'⟩
  rotate_left 1
  · intro ziRfbx3 bk c4 ziRfbx11 h' zR1 hg9 X0 T0 K0 hr0 hr1 hsa hsb hk34 hrk ziRcx6 ziRcax5 ziRcax8 ziRcbx5 ziRcbx8 ziRfx2 ziRcbx12 hw9 hsm hR hO hS hD hN hT hW hD7 hnd huw hus huk huo hnd6 ziRfx5 ziRfax4 ziRfax8 ziRfbx2 ziRfbx5 l1 ziRfbx13 lF9 hnd9 N8
    w_top on
    w_strict (
     have hout := nd8_out hnd
     have hhs := heads_small hW hk34
     have hts := tails_small (le4 hk34) hW.tn hW.tl done
     refine' Spec.useL (heads_w hw9 hR hO hS hD hN hW hk34 hout.2.2.1) ?B1 ?F1 ?X1 ?N1 ?T1 rfl ?kd1 ?ku1 ?hm1 ?ret1 ?exc1
     case B1 => exact K0
     case F1 => k_asm
     case X1 => exact X0
     case N1 => k_asm
     case T1 => exact T0
     case kd1 => ktr_room
     case ku1 => ktr_units
     case hm1 => walk_at "mem14"
     case exc1 => exact fun h => h.elim
     intro Dh rh nh h' tk' hrh F' N' offh
     have dh1 : Ap d Dh := offh (d, _) (by k_mem) hout.1.1
     have dh2 : Ap lf Dh := offh (lf, _) (by k_mem) hout.1.2
     have hlh := strs_len hrh hhs.1
     clear offh N8
     k_steps
     unfold Hold
     (rename_i ziRgx1; revert hg9 X0 T0 K0 hr0 hr1 hsa hsb hk34 hrk ziRcx6 ziRcax5 ziRcax8 ziRcbx5 ziRcbx8 ziRfx2 ziRcbx12 hw9 hsm hR hO hS hD hN hT hW hD7 hnd huw hus huk huo hnd6 ziRfx5 ziRfax4 ziRfax8 ziRfbx2 ziRfbx5 l1 ziRfbx13 lF9 hnd9 hout hhs hts hrh F' N' dh1 dh2 hlh; exact zR1 Dh rh nh h' tk')
    )
end l0.l1.l2.l3.l4.l5.l6.l7.l8.l9.l10
namespace l0.l1.l2.l3.l4.l5.l6.l7.l8.l9.l10
@[irreducible] noncomputable def zP : Addr → (List Value) → Nat → Heap → Nat → Prop := zs.1
theorem zp : zP = zs.1 := by with_unfolding_all rfl
end l0.l1.l2.l3.l4.l5.l6.l7.l8.l9.l10
namespace l0.l1.l2.l3.l4.l5.l6.l7.l8.l9.l10.l11
@[irreducible] noncomputable def zx : Zst := sk neZst fun z => Mine.l0.l1.l2.l3.l4.l5.l6.l7.l8.l9.l10.zP (z.n 0) (z.lv 0) (z.n 1) (z.h 0) (z.n 2)
@[irreducible] noncomputable def Dh : Addr := zx.n 0
@[irreducible] noncomputable def rh : List Value := zx.lv 0
@[irreducible] noncomputable def nh : Nat := zx.n 1
@[irreducible] noncomputable def h' : Heap := zx.h 0
@[irreducible] noncomputable def tk' : Nat := zx.n 2
def zT (P1 : PySem.Addr → (List PySem.Value) → Nat → PySem.Heap → Nat → Addr → (List Value) → Nat → Tok → Addr → Nat → Addr → Addr → Addr → Heap → Prop) : Prop := ∀ Dh rh nh h' tk', (∀ y0 y1 y2 y3 y4 y5 y6 y7 y8 y9, P1 Dh rh nh h' tk' y0 y1 y2 y3 y4 y5 y6 y7 y8 y9) → Mine.l0.l1.l2.l3.l4.l5.l6.l7.l8.l9.l10.zs.1 Dh rh nh h' tk'
noncomputable def zs : { P : Addr → (List Value) → Nat → Tok → Addr → Nat → Addr → Addr → Addr → Heap → Prop // (∀ y0 y1 y2 y3 y4 y5 y6 y7 y8 y9, P y0 y1 y2 y3 y4 y5 y6 y7 y8 y9) → Mine.l0.l1.l2.l3.l4.l5.l6.l7.l8.l9.l10.zs.1 Dh rh nh h' tk' } := by
  refine' ⟨_, (_ : zT _) Dh rh nh h' tk'⟩
  rotate_left 1
  · intro Dh rh nh h' tk' zR1 hg9 X0 T0 K0 hr0 hr1 hsa hsb hk34 hrk ziRcx6 ziRcax5 ziRcax8 ziRcbx5 ziRcbx8 ziRfx2 ziRcbx12 hw9 hsm hR hO hS hD hN hT hW hD7 hnd huw hus huk huo hnd6 ziRfx5 ziRfax4 ziRfax8 ziRfbx2 ziRfbx5 l1 ziRfbx13 lF9 hnd9 hout hhs hts hrh F' N' dh1 dh2 hlh
    w_top on
    w_strict (
     refine' Spec.useL (tails_w hw9 hT hW hk34 hout.2.2.2) ?B1 ?F1 ?X1 ?N1 ?T1 rfl ?kd1 ?ku1 ?hm1 ?ret1 ?exc1
     case B1 => exact K0
     case F1 => k_asm
     case X1 => exact X0
     case N1 => k_asm
     case T1 => exact T0
     case kd1 => ktr_room
     case ku1 => ktr_units
     case hm1 => walk_at "mem14"
     case exc1 => exact fun h => h.elim
     intro Dt rt nr h' tk' hrt F' N' offt
     have dt1 : Ap d Dt := offt (d, _) (by k_mem) hout.2.1.1
     have dt2 : Ap lf Dt := offt (lf, _) (by k_mem) hout.2.1.2
     have hlt9 := rows_len hrt hts.1
     clear offt
     k_steps
     unfold Hold
     refine' item_at (us := [_, _, _]) (News.isList (by k_asm) ?m2) (by decide) (by decide) ?x2 ?_
     case m2 => k_mem
     case x2 => exact rfl
     k_steps
     unfold Hold
     refine' Spec.useP (law_hexB w (ID0 k) _ ?h13) ?B3 ?F3 ?X3 ?N3 ?T3 rfl ?kd3 ?ku3 ?ret3 ?exc3
     case h13 => (rcases hk34 with z9 | z9 <;> rw [z9] <;> decide)
     case B3 => exact K0
     case F3 => k_asm
     case X3 => exact X0
     case N3 => k_asm
     case T3 => exact T0
     case kd3 => ktr_room
     case ku3 => ktr_units
     case exc3 => exact fun h => h.elim
     intro t1' h' tk' F' N' _
     walk_at "tidy"
     k_steps
     unfold Hold
     walk_at "tidy"
     (repeat (with_reducible rename (_ : Addr) < _ => z9; clear z9))
     (rename_i ziRhx1 ziRhx2 ziRhx3 ziRhx4 ziRhx5 ziRhx6 ziRhx7 ziRhx8 ziRhx9 ziRhx10 ziRhx11 ziRhx12 ziRhx13 ziRhx14 ziRhx15 ziRhx16 ziRhx17 ziRhx18 ziRhx19 ziRhx20 ziRhx21 ziRhx22 ziRhx23 ziRhx24; revert hg9 X0 T0 K0 hr0 hr1 hsa hsb hk34 hrk ziRcx6 ziRcax5 ziRcax8 ziRcbx5 ziRcbx8 ziRfx2 ziRcbx12 hw9 hsm hR hO hS hD hN hT hW hD7 hnd huw hus huk huo hnd6 ziRfx5 ziRfax4 ziRfax8 ziRfbx2 ziRfbx5 ziRhx3 ziRfbx13 hnd9 hhs hrh dh1 dh2 hlh hrt dt1 dt2 hlt9 ziRhx7 ziRhx8 ziRhx9 ziRhx10 ziRhx11 z8 z7 z6 ziRhx14 ziRhx21 ziRhx24 l1 lF9 lN9; exact zR1 Dt rt nr t1' ziRhx12 tk ziRhx19 ziRhx22 D' h')
    )
end l0.l1.l2.l3.l4.l5.l6.l7.l8.l9.l10.l11
end sRe
theorem fl57 : True := by first | walk1 | trivial

theorem zset3 : True := by
  (k_with "NC2" => skip)
  trivial
section sRi

local macro_rules | `(tactic| walk_at $s:str) => `(tactic| k_extra $(Lean.Syntax.mkStrLit ("S212." ++ s.getString)))
theorem zm80 : True := by
  (k_with "S212.subscriptTail Name Constant ref int" => k_extra "R139")
  (k_with "S212.mem14" => k_extra "R140")
  (k_with "S212.call ref" => k_extra "R3")
  (k_with "S212.compareOp NotEq bytes bytes" => k_extra "R141")
  (k_with "S212.compareOp NotEq ref ref" => k_extra "R3")
  (k_with "S212.CompRestT" => k_extra "R0")
  (k_with "S212.CompSrcT" => k_extra "R3")
  (k_with "S212.compareOp NotEq str str" => k_extra "R62")
  (k_with "S212.compareOp Eq str str" => k_extra "R142")
  (k_with "S212.eval IfExp" => k_extra "R76")
  trivial
namespace l0.l1.l2.l3.l4.l5.l6.l7.l8.l9.l10.l11
@[irreducible] noncomputable def zP : Addr → (List Value) → Nat → Tok → Addr → Nat → Addr → Addr → Addr → Heap → Prop := zs.1
theorem zp : zP = zs.1 := by with_unfolding_all rfl
end l0.l1.l2.l3.l4.l5.l6.l7.l8.l9.l10.l11
namespace l0.l1.l2.l3.l4.l5.l6.l7.l8.l9.l10.l11.l12
@[irreducible] noncomputable def zx : Zst := sk neZst fun z => Mine.l0.l1.l2.l3.l4.l5.l6.l7.l8.l9.l10.l11.zP (z.n 0) (z.lv 0) (z.n 1) (z.n 2) (z.n 3) (z.n 4) (z.n 5) (z.n 6) (z.n 7) (z.h 0)
@[irreducible] noncomputable def Dt : Addr := zx.n 0
@[irreducible] noncomputable def rt : List Value := zx.lv 0
@[irreducible] noncomputable def nr : Nat := zx.n 1
@[irreducible] noncomputable def h' : Heap := zx.h 0
def zT (P1 : PySem.Addr → (List PySem.Value) → Nat → PySem.Tok → PySem.Addr → Nat → PySem.Addr → PySem.Addr → PySem.Addr → PySem.Heap → Tok → Heap → Heap → Nat → Prop) : Prop := ∀ Dt rt nr t1' ziRhx12 tk ziRhx19 ziRhx22 D' h', (∀ y0 y1 y2 y3, P1 Dt rt nr t1' ziRhx12 tk ziRhx19 ziRhx22 D' h' y0 y1 y2 y3) → Mine.l0.l1.l2.l3.l4.l5.l6.l7.l8.l9.l10.l11.zs.1 Dt rt nr t1' ziRhx12 tk ziRhx19 ziRhx22 D' h'
noncomputable def zs : { P : Tok → Heap → Heap → Nat → Prop // (∀ y0 y1 y2 y3, P y0 y1 y2 y3) → Mine.l0.l1.l2.l3.l4.l5.l6.l7.l8.l9.l10.l11.zs.1 Dt rt nr (zx.n 2) (zx.n 3) (zx.n 4) (zx.n 5) (zx.n 6) (zx.n 7) h' } := by
  refine' ⟨_, (_ : zT _) Dt rt nr (zx.n 2) (zx.n 3) (zx.n 4) (zx.n 5) (zx.n 6) (zx.n 7) h'⟩
  rotate_left 1
  · intro Dt rt nr t1' ziRhx12 tk ziRhx19 ziRhx22 D' h' zR1 hg9 X0 T0 K0 hr0 hr1 hsa hsb hk34 hrk ziRcx6 ziRcax5 ziRcax8 ziRcbx5 ziRcbx8 ziRfx2 ziRcbx12 hw9 hsm hR hO hS hD hN hT hW hD7 hnd huw hus huk huo hnd6 ziRfx5 ziRfax4 ziRfax8 ziRfbx2 ziRfbx5 ziRhx3 ziRfbx13 hnd9 hhs hrh dh1 dh2 hlh hrt dt1 dt2 hlt9 ziRhx7 ziRhx8 ziRhx9 ziRhx10 ziRhx11 z8 z7 z6 ziRhx14 ziRhx21 ziRhx24 l1 lF9 lN9
    w_top on
    w_strict (
     have hts := tails_small (le4 hk34) hW.tn hW.tl done
     have hi9 := its_small hhs (by decide) (Nat.le_trans hts.1 (by decide)) hts.2
     refine' Spec.useV (framed_w (rows3 hrh hrt) (f := [10]) lit_nl (by decide) hi9.1 hi9.2) ?B1 ?F1 ?X1 ?N1 ?T1 rfl ?kd1 ?ku1 ?hm1 ?ret1 ?exc1
     case B1 => exact K0
     case F1 => k_asm
     case X1 => exact X0
     case N1 => k_asm
     case T1 => exact T0
     case kd1 => ktr_room
     case ku1 => ktr_units
     case hm1 => walk_at "mem14"
     case exc1 => exact fun h => h.elim
     intro tf h' tk' F' N'
     rename News _ _ _ _ => N9
     have N8 : News _ _ _ [(Dt, listOf rt.toArray nr), (Dh, listOf rh.toArray nh), (ax, instObj 205 ad), (ad, frD w bw bo bs bk e1 e2 e3 e4 e5 e6 e7 en dv sv done), (bw, listOf uw.toArray c1), (bo, listOf uo.toArray c2), (bs, listOf us.toArray c3), (bk, listOf uk.toArray c4), (d, o3), (lf, listOf uf3.toArray nn3), (dw, ow), (lw, listOf uw.toArray nw), (lo, listOf uo.toArray no), (ls, listOf us.toArray ns), (lt, listOf uk.toArray nt)] := News.sub_J N9 (by walk_at "mem14")
     clear N9
     k_steps
     unfold Hold
     refine' Spec.useV (octets_w hnd9 hR hO hS hD hN hT hW hk34) ?B2 ?F2 ?X2 ?N2 ?T2 rfl ?kd2 ?ku2 ?hm2 ?ret2 ?exc2
     case B2 => exact K0
     case F2 => k_asm
     case X2 => exact X0
     case N2 => k_asm
     case T2 => exact T0
     case kd2 => ktr_room
     case ku2 => ktr_units
     case hm2 => walk_at "mem14"
     case exc2 => exact fun h => h.elim
     intro to h' tk' F' N'
     k_steps
     unfold Hold
     (rename_i ziRix1 ziRix2 ziRix3 ziRix4 ziRix5 ziRix6 ziRix7; revert hg9 X0 T0 K0 hr0 hr1 hsa hsb hk34 hrk ziRcx6 ziRcax5 ziRcax8 ziRcbx5 ziRcbx8 ziRfx2 ziRcbx12 hw9 hsm hR hO hS hD hN hT hW hD7 hnd huw hus huk huo hnd6 ziRfx5 ziRfax4 ziRfax8 ziRfbx2 ziRfbx5 ziRhx3 ziRfbx13 hnd9 hhs hrh dh1 dh2 hlh hrt dt1 dt2 hlt9 ziRhx7 ziRhx8 ziRhx9 ziRhx10 ziRhx11 z8 z7 z6 ziRhx14 ziRhx21 ziRhx24 l1 hts hi9 ziRix6 ziRix7 F' N'; exact zR1 tf ziRix5 h' tk')
    )
end l0.l1.l2.l3.l4.l5.l6.l7.l8.l9.l10.l11.l12
namespace l0.l1.l2.l3.l4.l5.l6.l7.l8.l9.l10.l11.l12
@[irreducible] noncomputable def zP : Tok → Heap → Heap → Nat → Prop := zs.1
theorem zp : zP = zs.1 := by with_unfolding_all rfl
end l0.l1.l2.l3.l4.l5.l6.l7.l8.l9.l10.l11.l12
namespace l0.l1.l2.l3.l4.l5.l6.l7.l8.l9.l10.l11.l12.l13
@[irreducible] noncomputable def zx : Zst := sk neZst fun z => Mine.l0.l1.l2.l3.l4.l5.l6.l7.l8.l9.l10.l11.l12.zP (z.n 0) (z.h 0) (z.h 1) (z.n 1)
@[irreducible] noncomputable def tf : Tok := zx.n 0
@[irreducible] noncomputable def h' : Heap := zx.h 1
@[irreducible] noncomputable def tk' : Nat := zx.n 1
def zT (P1 : PySem.Tok → PySem.Heap → PySem.Heap → Nat → Addr → Obj → Nat → Nat → Nat → Nat → Value → Value → (List Value) → (List Value) → (List Value) → (List Value) → Heap → Nat → Prop) : Prop := ∀ tf ziRix5 h' tk', (∀ y0 y1 y2 y3 y4 y5 y6 y7 y8 y9 y10 y11 y12 y13, P1 tf ziRix5 h' tk' y0 y1 y2 y3 y4 y5 y6 y7 y8 y9 y10 y11 y12 y13) → Mine.l0.l1.l2.l3.l4.l5.l6.l7.l8.l9.l10.l11.l12.zs.1 tf ziRix5 h' tk'
noncomputable def zs : { P : Addr → Obj → Nat → Nat → Nat → Nat → Value → Value → (List Value) → (List Value) → (List Value) → (List Value) → Heap → Nat → Prop // (∀ y0 y1 y2 y3 y4 y5 y6 y7 y8 y9 y10 y11 y12 y13, P y0 y1 y2 y3 y4 y5 y6 y7 y8 y9 y10 y11 y12 y13) → Mine.l0.l1.l2.l3.l4.l5.l6.l7.l8.l9.l10.l11.l12.zs.1 tf (zx.h 0) h' tk' } := by
  refine' ⟨_, (_ : zT _) tf (zx.h 0) h' tk'⟩
  rotate_left 1
  · intro tf ziRix5 h' tk' zR1 hg9 X0 T0 K0 hr0 hr1 hsa hsb hk34 hrk ziRcx6 ziRcax5 ziRcax8 ziRcbx5 ziRcbx8 ziRfx2 ziRcbx12 hw9 hsm hR hO hS hD hN hT hW hD7 hnd huw hus huk huo hnd6 ziRfx5 ziRfax4 ziRfax8 ziRfbx2 ziRfbx5 ziRhx3 ziRfbx13 hnd9 hhs hrh dh1 dh2 hlh hrt dt1 dt2 hlt9 ziRhx7 ziRhx8 ziRhx9 ziRhx10 ziRhx11 z8 z7 z6 ziRhx14 ziRhx21 ziRhx24 l1 hts hi9 ziRix6 ziRix7 F' N'
    w_top on
    w_strict (
     refine' told_eq (hs := headsL st wb) (ts := tailsL tkI done) (f := [10]) (by decide) (le4 hk34) (Nat.le_trans hhs.1 (by decide)) (fun r hr => (hhs.2 r hr).2) (Nat.le_trans hts.1 (by decide)) hts.2 (read_heads hW done) rfl ?B1 ?F1 ?X1 ?N1 ?T1 X0 T0 rfl ?kd1 ?ku1 ?_
     case B1 => exact K0
     case F1 => k_asm
     case X1 => exact X0
     case N1 => k_asm
     case T1 => exact T0
     case kd1 => ktr_room
     case ku1 => ktr_units
     intro dd oo vw vo vs vt q1 q2 q3 q4 dv2 sv2 xw xo xs xk h' tk' i1 i2 i3 i4 i5 i6 i7 i8 F' N'
     k_steps
     unfold Hold
     refine' told_sameN (st := st) (tkI := tkI) ?N2 i2 hsm i1 hw9 ?a2 ?b2 ?u2 ?l12 ?l22 ?l32 ?l42 ?m12 ?m22 ?m32 ?m42 i3 hR i4 (hW.words ▸ hO) i5 hS i6 hD i7 hN i8 hT ?_
     case N2 => k_asm
     case u2 => ktr_units
     case a2 => k_mem
     case b2 => k_mem
     case l12 => k_mem
     case l22 => k_mem
     case l32 => k_mem
     case l42 => k_mem
     case m12 => k_mem
     case m22 => k_mem
     case m32 => k_mem
     case m42 => k_mem
     rename News _ _ _ _ => N9
     have N8 : News _ _ _ [(Dt, listOf rt.toArray nr), (Dh, listOf rh.toArray nh), (d, o3), (lf, listOf uf3.toArray nn3), (dw, ow), (lw, listOf uw.toArray nw), (lo, listOf uo.toArray no), (ls, listOf us.toArray ns), (lt, listOf uk.toArray nt)] := News.sub_J N9 (by walk_at "mem14")
     clear N9
     walk_at "tidy"
     k_steps
     unfold Hold
     (rename_i ziRjx1 ziRjx2 ziRjx3 ziRjx4 ziRjx5 ziRjx6; revert hg9 X0 T0 K0 hr0 hr1 hsa hsb hk34 hrk ziRcx6 ziRcax5 ziRcax8 ziRcbx5 ziRcbx8 ziRfx2 ziRcbx12 hw9 hsm hR hO hS hD hN hT hW hD7 hnd huw hus huk huo hnd6 ziRfx5 ziRfax4 ziRfax8 ziRfbx2 ziRfbx5 ziRhx3 ziRfbx13 hnd9 hhs hrh dh1 dh2 hlh hrt dt1 dt2 hlt9 ziRhx7 ziRhx8 ziRhx9 ziRhx10 ziRhx11 ziRjx3 ziRjx4 z6 ziRhx14 ziRhx21 ziRhx24 l1 i1 i2 i3 i4 i5 i6 i7 i8 ziRjx5 ziRjx6 z8 z7 lF9 lN9; exact zR1 dd oo vw vo vs vt dv2 sv2 xw xo xs xk h' tk')
    )
end l0.l1.l2.l3.l4.l5.l6.l7.l8.l9.l10.l11.l12.l13
namespace l0.l1.l2.l3.l4.l5.l6.l7.l8.l9.l10.l11.l12.l13
@[irreducible] noncomputable def zP : Addr → Obj → Nat → Nat → Nat → Nat → Value → Value → (List Value) → (List Value) → (List Value) → (List Value) → Heap → Nat → Prop := zs.1
theorem zp : zP = zs.1 := by with_unfolding_all rfl
end l0.l1.l2.l3.l4.l5.l6.l7.l8.l9.l10.l11.l12.l13
namespace l0.l1.l2.l3.l4.l5.l6.l7.l8.l9.l10.l11.l12.l13.l14
@[irreducible] noncomputable def zx : Zst := sk neZst fun z => Mine.l0.l1.l2.l3.l4.l5.l6.l7.l8.l9.l10.l11.l12.l13.zP (z.n 0) (z.o 0) (z.n 1) (z.n 2) (z.n 3) (z.n 4) (z.v 0) (z.v 1) (z.lv 0) (z.lv 1) (z.lv 2) (z.lv 3) (z.h 0) (z.n 5)
@[irreducible] noncomputable def dd : Addr := zx.n 0
@[irreducible] noncomputable def oo : Obj := zx.o 0
@[irreducible] noncomputable def vw : Nat := zx.n 1
@[irreducible] noncomputable def vo : Nat := zx.n 2
@[irreducible] noncomputable def vs : Nat := zx.n 3
@[irreducible] noncomputable def vt : Nat := zx.n 4
@[irreducible] noncomputable def dv2 : Value := zx.v 0
@[irreducible] noncomputable def sv2 : Value := zx.v 1
@[irreducible] noncomputable def xw : List Value := zx.lv 0
@[irreducible] noncomputable def xo : List Value := zx.lv 1
@[irreducible] noncomputable def xs : List Value := zx.lv 2
@[irreducible] noncomputable def xk : List Value := zx.lv 3
@[irreducible] noncomputable def h' : Heap := zx.h 0
@[irreducible] noncomputable def tk' : Nat := zx.n 5
def zT (P1 : PySem.Addr → PySem.Obj → Nat → Nat → Nat → Nat → PySem.Value → PySem.Value → (List PySem.Value) → (List PySem.Value) → (List PySem.Value) → (List PySem.Value) → PySem.Heap → Nat → (List Value) → Addr → Heap → Nat → Prop) : Prop := ∀ dd oo vw vo vs vt dv2 sv2 xw xo xs xk h' tk', (∀ y0 y1 y2 y3, P1 dd oo vw vo vs vt dv2 sv2 xw xo xs xk h' tk' y0 y1 y2 y3) → Mine.l0.l1.l2.l3.l4.l5.l6.l7.l8.l9.l10.l11.l12.l13.zs.1 dd oo vw vo vs vt dv2 sv2 xw xo xs xk h' tk'
noncomputable def zs : { P : (List Value) → Addr → Heap → Nat → Prop // (∀ y0 y1 y2 y3, P y0 y1 y2 y3) → Mine.l0.l1.l2.l3.l4.l5.l6.l7.l8.l9.l10.l11.l12.l13.zs.1 dd oo vw vo vs vt dv2 sv2 xw xo xs xk h' tk' } := by
  refine' ⟨_, (_ : zT _) dd oo vw vo vs vt dv2 sv2 xw xo xs xk h' tk'⟩
  rotate_left 1
  · intro dd oo vw vo vs vt dv2 sv2 xw xo xs xk h' tk' zR1 hg9 X0 T0 K0 hr0 hr1 hsa hsb hk34 hrk ziRcx6 ziRcax5 ziRcax8 ziRcbx5 ziRcbx8 ziRfx2 ziRcbx12 hw9 hsm hR hO hS hD hN hT hW hD7 hnd huw hus huk huo hnd6 ziRfx5 ziRfax4 ziRfax8 ziRfbx2 ziRfbx5 ziRhx3 ziRfbx13 hnd9 hhs hrh dh1 dh2 hlh hrt dt1 dt2 hlt9 ziRhx7 ziRhx8 ziRhx9 ziRhx10 ziRhx11 ziRjx3 ziRjx4 z6 ziRhx14 ziRhx21 ziRhx24 l1 i1 i2 i3 i4 i5 i6 i7 i8 ziRjx5 ziRjx6 z8 z7 lF9 lN9
    w_top on
    w_strict (
     refine LCt.CompSrcT.ledger (by rfl) (by k_asm) (by k_asm) (by k_mem) (by rw [List.size_toArray]; have := hlh; rw [sizeLine_eq]; omega) ?_
     intro g'
     refine restT_news (fun i ys => StrsAre ys ((((headsL st wb).take i).filter fun r => !isWant r).map strOf)) .nil ?_ ?_
     · rintro i ys v I oI C oC D m₂ h9 tk9 E' hi hys hv hoC hx F₁ N₁ off ne
       obtain ⟨b, tb, rfl, hb⟩ := strs_item hrh (arr_some hv)
       have hb5 := hhs.2 b (List.mem_of_getElem? hb)
       have hy1 : (strOf b).length ≤ 55 := by rw [strOf_length]; exact hb5.2
       have hq := want_known hb5.1
       simp only [LCg.Off3, and_true] at off
       cases hw1 : isWant b with
       | true =>
         rw [hw1] at hq
         have hq2 : (Txt.slice (strOf b) none (some 5) != Str.ofString "want ") = false := hq
         walk_at "tidy"
         k_steps
         exact strs_no hb (by rw [hw1]; rfl) hys
       | false =>
         rw [hw1] at hq
         have hq2 : (Txt.slice (strOf b) none (some 5) != Str.ofString "want ") = true := hq
         walk_at "tidy"
         k_steps
         exact strs_yes hb (by rw [hw1]; rfl) hys
     · intro ys hys
       rw [List.size_toArray, strs_full hrh] at hys
       walk_at "tidy"
       k_steps
       unfold Hold
       (rename_i ziRkx1 ziRkx2 ziRkx3 ziRkx4 ziRkx5 ziRkx6; revert hg9 X0 T0 K0 hr0 hr1 hsa hsb hk34 hrk ziRcx6 ziRcax5 ziRcax8 ziRcbx5 ziRcbx8 ziRfx2 ziRcbx12 hw9 hsm hR hO hS hD hN hT hW hD7 hnd huw hus huk huo hnd6 ziRfx5 ziRfax4 ziRfax8 ziRfbx2 ziRfbx5 ziRhx3 ziRfbx13 hnd9 hhs hrh dh1 dh2 hlh hrt dt1 dt2 hlt9 ziRhx7 ziRhx8 ziRhx9 ziRhx10 ziRhx11 ziRjx3 ziRjx4 z6 ziRhx14 ziRhx21 ziRhx24 l1 i1 i2 i3 i4 i5 i6 i7 i8 ziRjx5 ziRjx6 z8 z7 hys lF9 lN9 ziRkx4 ziRkx5 ziRkx6; exact zR1 ys ziRkx1 ziRkx2 ziRkx3)
    )
end l0.l1.l2.l3.l4.l5.l6.l7.l8.l9.l10.l11.l12.l13.l14
namespace l0.l1.l2.l3.l4.l5.l6.l7.l8.l9.l10.l11.l12.l13.l14
@[irreducible] noncomputable def zP : (List Value) → Addr → Heap → Nat → Prop := zs.1
theorem zp : zP = zs.1 := by with_unfolding_all rfl
end l0.l1.l2.l3.l4.l5.l6.l7.l8.l9.l10.l11.l12.l13.l14
namespace l0.l1.l2.l3.l4.l5.l6.l7.l8.l9.l10.l11.l12.l13.l14.l15
@[irreducible] noncomputable def zx : Zst := sk neZst fun z => Mine.l0.l1.l2.l3.l4.l5.l6.l7.l8.l9.l10.l11.l12.l13.l14.zP (z.lv 0) (z.n 0) (z.h 0) (z.n 1)
@[irreducible] noncomputable def ys : List Value := zx.lv 0
def zT (P1 : (List PySem.Value) → PySem.Addr → PySem.Heap → Nat → (List Value) → Addr → Addr → Nat → Addr → Heap → Addr → Heap → Addr → Heap → Prop) : Prop := ∀ ys ziRkx1 ziRkx2 ziRkx3, (∀ y0 y1 y2 y3 y4 y5 y6 y7 y8 y9, P1 ys ziRkx1 ziRkx2 ziRkx3 y0 y1 y2 y3 y4 y5 y6 y7 y8 y9) → Mine.l0.l1.l2.l3.l4.l5.l6.l7.l8.l9.l10.l11.l12.l13.l14.zs.1 ys ziRkx1 ziRkx2 ziRkx3
noncomputable def zs : { P : (List Value) → Addr → Addr → Nat → Addr → Heap → Addr → Heap → Addr → Heap → Prop // (∀ y0 y1 y2 y3 y4 y5 y6 y7 y8 y9, P y0 y1 y2 y3 y4 y5 y6 y7 y8 y9) → Mine.l0.l1.l2.l3.l4.l5.l6.l7.l8.l9.l10.l11.l12.l13.l14.zs.1 ys (zx.n 0) (zx.h 0) (zx.n 1) } := by
  refine' ⟨_, (_ : zT _) ys (zx.n 0) (zx.h 0) (zx.n 1)⟩
  rotate_left 1
  · intro ys ziRkx1 ziRkx2 ziRkx3 zR1 hg9 X0 T0 K0 hr0 hr1 hsa hsb hk34 hrk ziRcx6 ziRcax5 ziRcax8 ziRcbx5 ziRcbx8 ziRfx2 ziRcbx12 hw9 hsm hR hO hS hD hN hT hW hD7 hnd huw hus huk huo hnd6 ziRfx5 ziRfax4 ziRfax8 ziRfbx2 ziRfbx5 ziRhx3 ziRfbx13 hnd9 hhs hrh dh1 dh2 hlh hrt dt1 dt2 hlt9 ziRhx7 ziRhx8 ziRhx9 ziRhx10 ziRhx11 ziRjx3 ziRjx4 z6 ziRhx14 ziRhx21 ziRhx24 l1 i1 i2 i3 i4 i5 i6 i7 i8 ziRjx5 ziRjx6 z8 z7 hys lF9 lN9 ziRkx4 ziRkx5 ziRkx6
    w_top on
    w_strict (
     refine LCt.CompSrcT.ledger (by rfl) (by k_asm) (by k_asm) (by k_mem) (by rw [List.size_toArray]; have := hlh; rw [sizeLine_eq]; omega) ?_
     intro g'
     refine restT_news (fun i ys => StrsAre ys ((((headsL st wb).take i).filter isWant).map strOf)) .nil ?_ ?_
     · rintro i ys2 v I oI C oC D m₂ h9 tk9 E' hi hys2 hv hoC hx F₁ N₁ off ne
       obtain ⟨b, tb, rfl, hb⟩ := strs_item hrh (arr_some hv)
       have hb5 := hhs.2 b (List.mem_of_getElem? hb)
       have hy1 : (strOf b).length ≤ 55 := by rw [strOf_length]; exact hb5.2
       have hq := want_known2 hb5.1
       simp only [LCg.Off3, and_true] at off
       cases hw1 : isWant b with
       | false =>
         rw [hw1] at hq
         walk_at "tidy"
         k_steps
         exact strs_no hb hw1 hys2
       | true =>
         rw [hw1] at hq
         walk_at "tidy"
         k_steps
         exact strs_yes hb hw1 hys2
     · intro ys2 hys2
       rw [List.size_toArray, strs_full hrh] at hys2
       have hla := late_small hW hk34
       have hyl : StrsAre (ys ++ ys2) ((lateL st wb).map strOf) := by rw [late_eq, List.map_append]; exact hys.append' hys2
       have hll := strs_len hyl hla.1
       rw [List.length_append] at hll
       walk_at "tidy"
       k_steps
       unfold Hold
       (rename_i ziRlx1 ziRlx2 ziRlx3 ziRlx4 ziRlx5 ziRlx6 ziRlx7 ziRlx8 ziRlx9 ziRlx10 ziRlx11 ziRlx12 ziRlx13 ziRlx14 ziRlx15 ziRlx16 ziRlx17 ziRlx18 ziRlx19 ziRlx20 ziRlx21 ziRlx22 ziRlx23 ziRlx24 ziRlx25 ziRlx26 ziRlx27 ziRlx28; revert hg9 X0 T0 K0 hr0 hr1 hsa hsb hk34 hrk ziRcx6 ziRcax5 ziRcax8 ziRcbx5 ziRcbx8 ziRfx2 ziRcbx12 hw9 hsm hR hO hS hD hN hT hW hD7 hnd huw hus huk huo hnd6 ziRfx5 ziRfax4 ziRfax8 ziRfbx2 ziRfbx5 ziRhx3 ziRfbx13 hnd9 hhs hrh dh1 dh2 hlh hrt dt1 dt2 hlt9 ziRhx7 ziRhx8 ziRhx9 ziRhx10 ziRhx11 ziRjx3 ziRjx4 ziRlx1 ziRhx14 ziRhx21 ziRhx24 ziRlx2 i1 i2 i3 i4 i5 i6 i7 i8 ziRjx5 ziRjx6 z8 z7 hys hys2 hla hyl hll ziRlx3 ziRlx4 ziRlx5 ziRlx6 ziRlx7 ziRlx8 ziRlx9 ziRlx10 z6 ziRlx14 ziRlx17 ziRlx21 ziRlx22 ziRlx23 ziRlx26 ziRlx27 ziRlx28 F' N' l1; exact zR1 ys2 ziRlx11 ziRlx15 tk ziRlx19 ziRlx20 ziRlx24 ziRlx25 D' h')
    )
end l0.l1.l2.l3.l4.l5.l6.l7.l8.l9.l10.l11.l12.l13.l14.l15
namespace l0.l1.l2.l3.l4.l5.l6.l7.l8.l9.l10.l11.l12.l13.l14.l15
@[irreducible] noncomputable def zP : (List Value) → Addr → Addr → Nat → Addr → Heap → Addr → Heap → Addr → Heap → Prop := zs.1
theorem zp : zP = zs.1 := by with_unfolding_all rfl
end l0.l1.l2.l3.l4.l5.l6.l7.l8.l9.l10.l11.l12.l13.l14.l15
namespace l0.l1.l2.l3.l4.l5.l6.l7.l8.l9.l10.l11.l12.l13.l14.l15.l16
@[irreducible] noncomputable def zx : Zst := sk neZst fun z => Mine.l0.l1.l2.l3.l4.l5.l6.l7.l8.l9.l10.l11.l12.l13.l14.l15.zP (z.lv 0) (z.n 0) (z.n 1) (z.n 2) (z.n 3) (z.h 0) (z.n 4) (z.h 1) (z.n 5) (z.h 2)
@[irreducible] noncomputable def h' : Heap := zx.h 2
def zT (P1 : (List PySem.Value) → PySem.Addr → PySem.Addr → Nat → PySem.Addr → PySem.Heap → PySem.Addr → PySem.Heap → PySem.Addr → PySem.Heap → Tok → Heap → Nat → Prop) : Prop := ∀ ys2 ziRlx11 ziRlx15 tk ziRlx19 ziRlx20 ziRlx24 ziRlx25 D' h', (∀ y0 y1 y2, P1 ys2 ziRlx11 ziRlx15 tk ziRlx19 ziRlx20 ziRlx24 ziRlx25 D' h' y0 y1 y2) → Mine.l0.l1.l2.l3.l4.l5.l6.l7.l8.l9.l10.l11.l12.l13.l14.l15.zs.1 ys2 ziRlx11 ziRlx15 tk ziRlx19 ziRlx20 ziRlx24 ziRlx25 D' h'
noncomputable def zs : { P : Tok → Heap → Nat → Prop // (∀ y0 y1 y2, P y0 y1 y2) → Mine.l0.l1.l2.l3.l4.l5.l6.l7.l8.l9.l10.l11.l12.l13.l14.l15.zs.1 (zx.lv 0) (zx.n 0) (zx.n 1) (zx.n 2) (zx.n 3) (zx.h 0) (zx.n 4) (zx.h 1) (zx.n 5) h' } := by
  refine' ⟨_, (_ : zT _) (zx.lv 0) (zx.n 0) (zx.n 1) (zx.n 2) (zx.n 3) (zx.h 0) (zx.n 4) (zx.h 1) (zx.n 5) h'⟩
  rotate_left 1
  · intro ys2 ziRlx11 ziRlx15 tk ziRlx19 ziRlx20 ziRlx24 ziRlx25 D' h' zR1 hg9 X0 T0 K0 hr0 hr1 hsa hsb hk34 hrk ziRcx6 ziRcax5 ziRcax8 ziRcbx5 ziRcbx8 ziRfx2 ziRcbx12 hw9 hsm hR hO hS hD hN hT hW hD7 hnd huw hus huk huo hnd6 ziRfx5 ziRfax4 ziRfax8 ziRfbx2 ziRfbx5 ziRhx3 ziRfbx13 hnd9 hhs hrh dh1 dh2 hlh hrt dt1 dt2 hlt9 ziRhx7 ziRhx8 ziRhx9 ziRhx10 ziRhx11 ziRjx3 ziRjx4 ziRlx1 ziRhx14 ziRhx21 ziRhx24 ziRlx2 i1 i2 i3 i4 i5 i6 i7 i8 ziRjx5 ziRjx6 z8 z7 hys hys2 hla hyl hll ziRlx3 ziRlx4 ziRlx5 ziRlx6 ziRlx7 ziRlx8 ziRlx9 ziRlx10 z6 ziRlx14 ziRlx17 ziRlx21 ziRlx22 ziRlx23 ziRlx26 ziRlx27 ziRlx28 F' N' l1
    w_top on
    w_strict (
     have hts := tails_small (le4 hk34) hW.tn hW.tl done
     have hi2 := its_small hla (by decide) (Nat.le_trans hts.1 (by decide)) hts.2
     refine' Spec.useV (framed_w (rows3 hyl hrt) (f := []) lit_no (by decide) hi2.1 hi2.2) ?B1 ?F1 ?X1 ?N1 ?T1 rfl ?kd1 ?ku1 ?hm1 ?ret1 ?exc1
     case B1 => exact K0
     case F1 => k_asm
     case X1 => exact X0
     case N1 => k_asm
     case T1 => exact T0
     case kd1 => ktr_room
     case ku1 => ktr_units
     case hm1 => walk_at "mem14"
     case exc1 => exact fun h => h.elim
     intro tf2 h' tk' F' N'
     rename News _ _ _ _ => N9
     have N8 : News _ _ _ [(Dt, listOf rt.toArray nr), (Dh, listOf rh.toArray nh), (d, o3), (lf, listOf uf3.toArray nn3), (dw, ow), (lw, listOf uw.toArray nw), (lo, listOf uo.toArray no), (ls, listOf us.toArray ns), (lt, listOf uk.toArray nt)] := News.sub_J N9 (by walk_at "mem14")
     clear N9
     k_steps
     unfold Hold
     (rename_i ziRmx1 ziRmx2; revert hg9 X0 T0 K0 hr0 hr1 hsa hsb hk34 hrk ziRcx6 ziRcax5 ziRcax8 ziRcbx5 ziRcbx8 ziRfx2 ziRcbx12 hw9 hsm hR hO hS hD hN hT hW hD7 hnd huw hus huk huo hnd6 ziRfx5 ziRfax4 ziRfax8 ziRfbx2 ziRfbx5 ziRhx3 ziRfbx13 hnd9 hhs hrh dh1 dh2 hlh hrt dt1 dt2 hlt9 ziRhx7 ziRhx8 ziRhx9 ziRhx10 ziRhx11 ziRjx3 ziRjx4 ziRlx1 ziRhx14 ziRhx21 ziRhx24 ziRlx2 i1 i2 i3 i4 i5 i6 i7 i8 ziRjx5 ziRjx6 z8 z7 hys hys2 hla hyl hll ziRlx3 ziRlx4 ziRlx5 ziRlx6 ziRlx7 ziRlx8 ziRlx9 ziRlx10 z6 ziRlx14 ziRlx17 ziRlx21 ziRlx22 ziRlx23 ziRlx26 ziRlx27 ziRlx28 ziRmx2 N' l1 hts hi2 F' N8; exact zR1 tf2 h' tk')
    )
end l0.l1.l2.l3.l4.l5.l6.l7.l8.l9.l10.l11.l12.l13.l14.l15.l16
namespace l0.l1.l2.l3.l4.l5.l6.l7.l8.l9.l10.l11.l12.l13.l14.l15.l16
@[irreducible] noncomputable def zP : Tok → Heap → Nat → Prop := zs.1
theorem zp : zP = zs.1 := by with_unfolding_all rfl
end l0.l1.l2.l3.l4.l5.l6.l7.l8.l9.l10.l11.l12.l13.l14.l15.l16
namespace l0.l1.l2.l3.l4.l5.l6.l7.l8.l9.l10.l11.l12.l13.l14.l15.l16.l17
@[irreducible] noncomputable def zx : Zst := sk neZst fun z => Mine.l0.l1.l2.l3.l4.l5.l6.l7.l8.l9.l10.l11.l12.l13.l14.l15.l16.zP (z.n 0) (z.h 0) (z.n 1)
@[irreducible] noncomputable def tf2 : Tok := zx.n 0
@[irreducible] noncomputable def h' : Heap := zx.h 0
@[irreducible] noncomputable def tk' : Nat := zx.n 1
def zT (P1 : PySem.Tok → PySem.Heap → Nat → Addr → Obj → Nat → Nat → Nat → Nat → Value → Value → (List Value) → (List Value) → (List Value) → (List Value) → Heap → Nat → Prop) : Prop := ∀ tf2 h' tk', (∀ y0 y1 y2 y3 y4 y5 y6 y7 y8 y9 y10 y11 y12 y13, P1 tf2 h' tk' y0 y1 y2 y3 y4 y5 y6 y7 y8 y9 y10 y11 y12 y13) → Mine.l0.l1.l2.l3.l4.l5.l6.l7.l8.l9.l10.l11.l12.l13.l14.l15.l16.zs.1 tf2 h' tk'
noncomputable def zs : { P : Addr → Obj → Nat → Nat → Nat → Nat → Value → Value → (List Value) → (List Value) → (List Value) → (List Value) → Heap → Nat → Prop // (∀ y0 y1 y2 y3 y4 y5 y6 y7 y8 y9 y10 y11 y12 y13, P y0 y1 y2 y3 y4 y5 y6 y7 y8 y9 y10 y11 y12 y13) → Mine.l0.l1.l2.l3.l4.l5.l6.l7.l8.l9.l10.l11.l12.l13.l14.l15.l16.zs.1 tf2 h' tk' } := by
  refine' ⟨_, (_ : zT _) tf2 h' tk'⟩
  rotate_left 1
  · intro tf2 h' tk' zR1 hg9 X0 T0 K0 hr0 hr1 hsa hsb hk34 hrk ziRcx6 ziRcax5 ziRcax8 ziRcbx5 ziRcbx8 ziRfx2 ziRcbx12 hw9 hsm hR hO hS hD hN hT hW hD7 hnd huw hus huk huo hnd6 ziRfx5 ziRfax4 ziRfax8 ziRfbx2 ziRfbx5 ziRhx3 ziRfbx13 hnd9 hhs hrh dh1 dh2 hlh hrt dt1 dt2 hlt9 ziRhx7 ziRhx8 ziRhx9 ziRhx10 ziRhx11 ziRjx3 ziRjx4 ziRlx1 ziRhx14 ziRhx21 ziRhx24 ziRlx2 i1 i2 i3 i4 i5 i6 i7 i8 ziRjx5 ziRjx6 z8 z7 hys hys2 hla hyl hll ziRlx3 ziRlx4 ziRlx5 ziRlx6 ziRlx7 ziRlx8 ziRlx9 ziRlx10 z6 ziRlx14 ziRlx17 ziRlx21 ziRlx22 ziRlx23 ziRlx26 ziRlx27 ziRlx28 ziRmx2 N' l1 hts hi2 F' N8
    w_top on
    w_strict (
     refine' told_eq (hs := lateL st wb) (ts := tailsL tkI done) (f := []) (by decide) (le4 hk34) (Nat.le_trans hla.1 (by decide)) (fun r hr => (hla.2 r hr).2) (Nat.le_trans hts.1 (by decide)) hts.2 (read_late hW done) rfl ?B1 ?F1 ?X1 ?N1 ?T1 X0 T0 rfl ?kd1 ?ku1 ?_
     case B1 => exact K0
     case F1 => k_asm
     case X1 => exact X0
     case N1 => k_asm
     case T1 => exact T0
     case kd1 => ktr_room
     case ku1 => ktr_units
     intro dd oo vw vo vs vt q1 q2 q3 q4 dv2 sv2 xw xo xs xk h' tk' i1 i2 i3 i4 i5 i6 i7 i8 F' N'
     k_steps
     unfold Hold
     refine' told_sameN (st := st) (tkI := tkI) ?N2 i2 hsm i1 hw9 ?a2 ?b2 ?u2 ?l12 ?l22 ?l32 ?l42 ?m12 ?m22 ?m32 ?m42 i3 hR i4 (hW.words ▸ hO) i5 hS i6 hD i7 hN i8 hT ?_
     case N2 => k_asm
     case u2 => ktr_units
     case a2 => k_mem
     case b2 => k_mem
     case l12 => k_mem
     case l22 => k_mem
     case l32 => k_mem
     case l42 => k_mem
     case m12 => k_mem
     case m22 => k_mem
     case m32 => k_mem
     case m42 => k_mem
     rename News _ _ _ _ => N9
     have N8 : News _ _ _ [(Dh, listOf rh.toArray nh), (Dt, listOf rt.toArray nr), (d, o3), (lf, listOf uf3.toArray nn3)] := News.sub_J N9 (by walk_at "mem14")
     clear N9
     walk_at "tidy"
     (repeat (with_reducible rename (_ : Addr) < _ => z9; clear z9))
     k_steps
     unfold Hold
     (rename_i ziRnx1 ziRnx2 ziRnx3 ziRnx4 ziRnx5 ziRnx6 ziRnx7 ziRnx8 ziRnx9 ziRnx10 ziRnx11 ziRnx12 ziRnx13 ziRnx14 ziRnx15 ziRnx16 ziRnx17 ziRnx18 ziRnx19 ziRnx20 ziRnx21 ziRnx22 ziRnx23 ziRnx24; revert hg9 X0 T0 K0 hr0 hr1 hsa hsb hk34 hrk ziRcx6 ziRcax5 ziRcax8 ziRcbx5 ziRcbx8 ziRfx2 ziRcbx12 hw9 hsm hR hO hS hD hN hT hW hD7 hnd huw hus huk huo hnd6 ziRfx5 ziRfax4 ziRfax8 ziRfbx2 ziRfbx5 ziRhx3 ziRfbx13 hnd9 hhs hrh dh1 dh2 hlh hrt dt1 dt2 hlt9 ziRhx7 ziRhx8 ziRhx9 ziRhx10 ziRhx11 ziRjx3 ziRjx4 ziRlx1 ziRhx14 ziRhx21 ziRhx24 ziRlx2 ziRnx3 ziRnx4 ziRnx5 ziRnx6 ziRnx7 ziRnx8 ziRnx9 ziRnx10 ziRjx5 ziRjx6 ziRnx11 ziRnx12 hys hys2 hla hyl hll ziRlx3 ziRlx4 ziRlx5 ziRlx6 ziRlx7 ziRlx8 ziRlx9 ziRlx10 ziRnx13 ziRlx17 ziRlx23 ziRlx28 l1 i1 i2 i3 i4 i5 i6 i7 i8 ziRnx14 ziRnx15 z8 z7 ziRnx16 ziRnx17 ziRnx18 ziRnx19 ziRnx20 ziRnx21 ziRnx22 ziRnx23 ziRnx24 z6 lF9 lN9; exact zR1 dd oo vw vo vs vt dv2 sv2 xw xo xs xk h' tk')
    )
end l0.l1.l2.l3.l4.l5.l6.l7.l8.l9.l10.l11.l12.l13.l14.l15.l16.l17
end sRi
theorem fl58 : True := by first | walk1 | trivial

section sRo

local macro_rules | `(tactic| walk_at $s:str) => `(tactic| k_extra $(Lean.Syntax.mkStrLit ("S230." ++ s.getString)))
theorem zm81 : True := by
  (k_with "S230.subscriptTail Name Constant ref int" => k_extra "R139")
  (k_with "S230.mem14" => k_extra "R140")
  (k_with "S230.call ref" => k_extra "R3")
  (k_with "S230.compareOp NotEq bytes bytes" => k_extra "R141")
  (k_with "S230.CompRestT" => k_extra "R0")
  (k_with "S230.CompSrcT" => k_extra "R3")
  (k_with "S230.compareOp NotEq str str" => k_extra "R62")
  (k_with "S230.compareOp Eq str str" => k_extra "R142")
  (k_with "S230.eval IfExp" => k_extra "R76")
  (k_with "S230.call builtin:str.upper" => k_extra "R143")
  trivial
namespace l0.l1.l2.l3.l4.l5.l6.l7.l8.l9.l10.l11.l12.l13.l14.l15.l16.l17
@[irreducible] noncomputable def zP : Addr → Obj → Nat → Nat → Nat → Nat → Value → Value → (List Value) → (List Value) → (List Value) → (List Value) → Heap → Nat → Prop := zs.1
theorem zp : zP = zs.1 := by with_unfolding_all rfl
end l0.l1.l2.l3.l4.l5.l6.l7.l8.l9.l10.l11.l12.l13.l14.l15.l16.l17
namespace l0.l1.l2.l3.l4.l5.l6.l7.l8.l9.l10.l11.l12.l13.l14.l15.l16.l17.l18
@[irreducible] noncomputable def zx : Zst := sk neZst fun z => Mine.l0.l1.l2.l3.l4.l5.l6.l7.l8.l9.l10.l11.l12.l13.l14.l15.l16.l17.zP (z.n 0) (z.o 0) (z.n 1) (z.n 2) (z.n 3) (z.n 4) (z.v 0) (z.v 1) (z.lv 0) (z.lv 1) (z.lv 2) (z.lv 3) (z.h 0) (z.n 5)
@[irreducible] noncomputable def h' : Heap := zx.h 0
@[irreducible] noncomputable def tk' : Nat := zx.n 5
def zT (P1 : PySem.Addr → PySem.Obj → Nat → Nat → Nat → Nat → PySem.Value → PySem.Value → (List PySem.Value) → (List PySem.Value) → (List PySem.Value) → (List PySem.Value) → PySem.Heap → Nat → Addr → (List Value) → Nat → Heap → Nat → Prop) : Prop := ∀ dd oo vw vo vs vt dv2 sv2 xw xo xs xk h' tk', (∀ y0 y1 y2 y3 y4, P1 dd oo vw vo vs vt dv2 sv2 xw xo xs xk h' tk' y0 y1 y2 y3 y4) → Mine.l0.l1.l2.l3.l4.l5.l6.l7.l8.l9.l10.l11.l12.l13.l14.l15.l16.l17.zs.1 dd oo vw vo vs vt dv2 sv2 xw xo xs xk h' tk'
noncomputable def zs : { P : Addr → (List Value) → Nat → Heap → Nat → Prop // (∀ y0 y1 y2 y3 y4, P y0 y1 y2 y3 y4) → Mine.l0.l1.l2.l3.l4.l5.l6.l7.l8.l9.l10.l11.l12.l13.l14.l15.l16.l17.zs.1 (zx.n 0) (zx.o 0) (zx.n 1) (zx.n 2) (zx.n 3) (zx.n 4) (zx.v 0) (zx.v 1) (zx.lv 0) (zx.lv 1) (zx.lv 2) (zx.lv 3) h' tk' } := by
  refine' ⟨_, (_ : zT _) (zx.n 0) (zx.o 0) (zx.n 1) (zx.n 2) (zx.n 3) (zx.n 4) (zx.v 0) (zx.v 1) (zx.lv 0) (zx.lv 1) (zx.lv 2) (zx.lv 3) h' tk'⟩
  rotate_left 1
  · intro dd oo vw vo vs vt dv2 sv2 xw xo xs xk h' tk' zR1 hg9 X0 T0 K0 hr0 hr1 hsa hsb hk34 hrk ziRcx6 ziRcax5 ziRcax8 ziRcbx5 ziRcbx8 ziRfx2 ziRcbx12 hw9 hsm hR hO hS hD hN hT hW hD7 hnd huw hus huk huo hnd6 ziRfx5 ziRfax4 ziRfax8 ziRfbx2 ziRfbx5 ziRhx3 ziRfbx13 hnd9 hhs hrh dh1 dh2 hlh hrt dt1 dt2 hlt9 ziRhx7 ziRhx8 ziRhx9 ziRhx10 ziRhx11 ziRjx3 ziRjx4 ziRlx1 ziRhx14 ziRhx21 ziRhx24 ziRlx2 ziRnx3 ziRnx4 ziRnx5 ziRnx6 ziRnx7 ziRnx8 ziRnx9 ziRnx10 ziRjx5 ziRjx6 ziRnx11 ziRnx12 hys hys2 hla hyl hll ziRlx3 ziRlx4 ziRlx5 ziRlx6 ziRlx7 ziRlx8 ziRlx9 ziRlx10 ziRnx13 ziRlx17 ziRlx23 ziRlx28 l1 i1 i2 i3 i4 i5 i6 i7 i8 ziRnx14 ziRnx15 z8 z7 ziRnx16 ziRnx17 ziRnx18 ziRnx19 ziRnx20 ziRnx21 ziRnx22 ziRnx23 ziRnx24 z6 lF9 lN9
    w_top on
    w_strict (
     have hol : (strOf (hexB (ID0 k))).length ≤ 100000 := by rw [strOf_length, hexB_length]; rcases hk34 with z9 | z9 <;> rw [z9] <;> decide
     refine join_exp (fun D us nn => [(D, listOf us.toArray nn), (Dt, listOf rt.toArray nr), (d, o3), (lf, listOf uf3.toArray nn3)]) (fun D us => StrsAre us ((sureL k st wb).map strOf) ∧ Ap d D ∧ Ap lf D) (by k_asm) ?if1 ?if2
     case if1 =>
       have mk9 : Mark9 := trivial
       by_cases hz : headsL st wb = []
       · have q7 : (!decide (rh.length = 0)) = false := nil_len hrh false ⟨(fun h => nomatch h), fun h => absurd hz h⟩
         k_steps
         unfold Hold
         refine ⟨_, [_], _, _, _, rfl, rfl, by k_asm, News.sub_J (by k_asm) (by walk_at "mem14"), sure_no hz one_row _, ?_, ?_⟩
         all_goals (walk_at "split"; exact Ap.mk (by k_ne))
       · have q7 : (!decide (rh.length = 0)) = true := nil_len hrh true ⟨fun _ => hz, fun _ => rfl⟩
         k_steps
         unfold Hold
         refine ⟨_, _, _, _, _, rfl, rfl, by k_asm, News.sub_J (by k_asm) (by walk_at "mem14"), sure_yes hz hrh, dh1, dh2⟩
     case if2 =>
       intro Ds rs9 ns9 h9 tk9 F9 N9 hP
       have hsu := hP.1
       have ds1 := hP.2.1
       have ds2 := hP.2.2
       clear hP
       have hof := one_facts hk34
       have hsl := hof.1
       have hup := hof.2.1
       have hut := hof.2.2.1
       have hul := hof.2.2.2.1
       walk_at "tidy"
       (rename_i ziRox1 ziRox2 ziRox3 ziRox4 ziRox5; revert hg9 X0 T0 K0 hr0 hr1 hsa hsb hk34 hrk ziRcx6 ziRcax5 ziRcax8 ziRcbx5 ziRcbx8 ziRfx2 ziRcbx12 hw9 hsm hR hO hS hD hN hT hW hD7 hnd huw hus huk huo hnd6 ziRfx5 ziRfax4 ziRfax8 ziRfbx2 ziRfbx5 ziRhx3 ziRfbx13 hnd9 hhs hrh dh1 dh2 hlh hrt dt1 dt2 hlt9 ziRhx7 ziRhx8 ziRhx9 ziRhx10 ziRhx11 ziRjx3 ziRjx4 ziRlx1 ziRhx14 ziRhx21 ziRhx24 ziRlx2 ziRnx3 ziRnx4 ziRnx5 ziRnx6 ziRnx7 ziRnx8 ziRnx9 ziRnx10 ziRjx5 ziRjx6 ziRnx11 ziRnx12 hys hys2 hla hyl hll ziRlx3 ziRlx4 ziRlx5 ziRlx6 ziRlx7 ziRlx8 ziRlx9 ziRlx10 ziRnx13 ziRlx17 ziRlx23 ziRlx28 l1 i1 i2 i3 i4 i5 i6 i7 i8 ziRnx14 ziRnx15 ziRox1 ziRox2 ziRnx16 ziRnx17 ziRnx18 ziRnx19 ziRnx20 ziRnx21 ziRnx22 ziRnx23 ziRnx24 z6 hol hsu ds1 ds2 hsl hup hut hul ziRox3 ziRox4 ziRox5 z8 z7 lF9 lN9; exact zR1 Ds rs9 ns9 h9 tk9)
    )
end l0.l1.l2.l3.l4.l5.l6.l7.l8.l9.l10.l11.l12.l13.l14.l15.l16.l17.l18
namespace l0.l1.l2.l3.l4.l5.l6.l7.l8.l9.l10.l11.l12.l13.l14.l15.l16.l17.l18
@[irreducible] noncomputable def zP : Addr → (List Value) → Nat → Heap → Nat → Prop := zs.1
theorem zp : zP = zs.1 := by with_unfolding_all rfl
end l0.l1.l2.l3.l4.l5.l6.l7.l8.l9.l10.l11.l12.l13.l14.l15.l16.l17.l18
namespace l0.l1.l2.l3.l4.l5.l6.l7.l8.l9.l10.l11.l12.l13.l14.l15.l16.l17.l18.l19
@[irreducible] noncomputable def zx : Zst := sk neZst fun z => Mine.l0.l1.l2.l3.l4.l5.l6.l7.l8.l9.l10.l11.l12.l13.l14.l15.l16.l17.l18.zP (z.n 0) (z.lv 0) (z.n 1) (z.h 0) (z.n 2)
@[irreducible] noncomputable def Ds : Addr := zx.n 0
@[irreducible] noncomputable def rs9 : List Value := zx.lv 0
@[irreducible] noncomputable def ns9 : Nat := zx.n 1
@[irreducible] noncomputable def h9 : Heap := zx.h 0
@[irreducible] noncomputable def tk9 : Nat := zx.n 2
def zT (P1 : PySem.Addr → (List PySem.Value) → Nat → PySem.Heap → Nat → Heap → Heap → Nat → Tok → Nat → Addr → Heap → Nat → Tok → Nat → Addr → Heap → Nat → Tok → Nat → Prop) : Prop := ∀ Ds rs9 ns9 h9 tk9, (∀ y0 y1 y2 y3 y4 y5 y6 y7 y8 y9 y10 y11 y12 y13 y14, P1 Ds rs9 ns9 h9 tk9 y0 y1 y2 y3 y4 y5 y6 y7 y8 y9 y10 y11 y12 y13 y14) → Mine.l0.l1.l2.l3.l4.l5.l6.l7.l8.l9.l10.l11.l12.l13.l14.l15.l16.l17.l18.zs.1 Ds rs9 ns9 h9 tk9
noncomputable def zs : { P : Heap → Heap → Nat → Tok → Nat → Addr → Heap → Nat → Tok → Nat → Addr → Heap → Nat → Tok → Nat → Prop // (∀ y0 y1 y2 y3 y4 y5 y6 y7 y8 y9 y10 y11 y12 y13 y14, P y0 y1 y2 y3 y4 y5 y6 y7 y8 y9 y10 y11 y12 y13 y14) → Mine.l0.l1.l2.l3.l4.l5.l6.l7.l8.l9.l10.l11.l12.l13.l14.l15.l16.l17.l18.zs.1 Ds rs9 ns9 h9 tk9 } := by
  refine' ⟨_, (_ : zT _) Ds rs9 ns9 h9 tk9⟩
  rotate_left 1
  · intro Ds rs9 ns9 h9 tk9 zR1 hg9 X0 T0 K0 hr0 hr1 hsa hsb hk34 hrk ziRcx6 ziRcax5 ziRcax8 ziRcbx5 ziRcbx8 ziRfx2 ziRcbx12 hw9 hsm hR hO hS hD hN hT hW hD7 hnd huw hus huk huo hnd6 ziRfx5 ziRfax4 ziRfax8 ziRfbx2 ziRfbx5 ziRhx3 ziRfbx13 hnd9 hhs hrh dh1 dh2 hlh hrt dt1 dt2 hlt9 ziRhx7 ziRhx8 ziRhx9 ziRhx10 ziRhx11 ziRjx3 ziRjx4 ziRlx1 ziRhx14 ziRhx21 ziRhx24 ziRlx2 ziRnx3 ziRnx4 ziRnx5 ziRnx6 ziRnx7 ziRnx8 ziRnx9 ziRnx10 ziRjx5 ziRjx6 ziRnx11 ziRnx12 hys hys2 hla hyl hll ziRlx3 ziRlx4 ziRlx5 ziRlx6 ziRlx7 ziRlx8 ziRlx9 ziRlx10 ziRnx13 ziRlx17 ziRlx23 ziRlx28 l1 i1 i2 i3 i4 i5 i6 i7 i8 ziRnx14 ziRnx15 ziRox1 ziRox2 ziRnx16 ziRnx17 ziRnx18 ziRnx19 ziRnx20 ziRnx21 ziRnx22 ziRnx23 ziRnx24 z6 hol hsu ds1 ds2 hsl hup hut hul ziRox3 ziRox4 ziRox5 z8 z7 lF9 lN9
    w_top on
    w_strict (
     iterate 46 walk1
     (rename_i ziRoax1 ziRoax2 ziRoax3 ziRoax4 ziRoax5 ziRoax6 ziRoax7 ziRoax8 ziRoax9 ziRoax10 ziRoax11 ziRoax12 ziRoax13 ziRoax14 ziRoax15 ziRoax16 ziRoax17 ziRoax18 ziRoax19 ziRoax20 ziRoax21 ziRoax22 ziRoax23 ziRoax24; revert hg9 X0 T0 K0 hr0 hr1 hsa hsb hk34 hrk ziRcx6 ziRcax5 ziRcax8 ziRcbx5 ziRcbx8 ziRfx2 ziRcbx12 hw9 hsm hR hO hS hD hN hT hW hD7 hnd huw hus huk huo hnd6 ziRfx5 ziRfax4 ziRfax8 ziRfbx2 ziRfbx5 ziRhx3 ziRfbx13 hnd9 hhs hrh dh1 dh2 hlh hrt dt1 dt2 hlt9 ziRhx7 ziRhx8 ziRhx9 ziRhx10 ziRhx11 ziRjx3 ziRjx4 ziRlx1 ziRhx14 ziRhx21 ziRhx24 ziRlx2 ziRnx3 ziRnx4 ziRnx5 ziRnx6 ziRnx7 ziRnx8 ziRnx9 ziRnx10 ziRjx5 ziRjx6 ziRnx11 ziRnx12 hys hys2 hla hyl hll ziRlx3 ziRlx4 ziRlx5 ziRlx6 ziRlx7 ziRlx8 ziRlx9 ziRlx10 ziRnx13 ziRlx17 ziRlx23 ziRlx28 l1 i1 i2 i3 i4 i5 i6 i7 i8 ziRnx14 ziRnx15 ziRox1 ziRox2 ziRnx16 ziRnx17 ziRnx18 ziRnx19 ziRnx20 ziRnx21 ziRnx22 ziRnx23 ziRnx24 z6 hol hsu ds1 ds2 hsl hup hut hul ziRox3 ziRox4 ziRox5 z8 z7 ziRoax5 ziRoax10 ziRoax17 ziRoax18 ziRoax19 ziRoax24; exact zR1 ziRoax1 ziRoax2 ziRoax4 ziRoax6 ziRoax7 ziRoax8 ziRoax9 ziRoax12 ziRoax13 ziRoax14 ziRoax15 ziRoax16 ziRoax21 ziRoax22 ziRoax23)
    )
end l0.l1.l2.l3.l4.l5.l6.l7.l8.l9.l10.l11.l12.l13.l14.l15.l16.l17.l18.l19
namespace l0.l1.l2.l3.l4.l5.l6.l7.l8.l9.l10.l11.l12.l13.l14.l15.l16.l17.l18.l19
@[irreducible] noncomputable def zP : Heap → Heap → Nat → Tok → Nat → Addr → Heap → Nat → Tok → Nat → Addr → Heap → Nat → Tok → Nat → Prop := zs.1
theorem zp : zP = zs.1 := by with_unfolding_all rfl
end l0.l1.l2.l3.l4.l5.l6.l7.l8.l9.l10.l11.l12.l13.l14.l15.l16.l17.l18.l19
namespace l0.l1.l2.l3.l4.l5.l6.l7.l8.l9.l10.l11.l12.l13.l14.l15.l16.l17.l18.l19.l20
@[irreducible] noncomputable def zx : Zst := sk neZst fun z => Mine.l0.l1.l2.l3.l4.l5.l6.l7.l8.l9.l10.l11.l12.l13.l14.l15.l16.l17.l18.l19.zP (z.h 0) (z.h 1) (z.n 0) (z.n 1) (z.n 2) (z.n 3) (z.h 2) (z.n 4) (z.n 5) (z.n 6) (z.n 7) (z.h 3) (z.n 8) (z.n 9) (z.n 10)
def zT (P1 : PySem.Heap → PySem.Heap → Nat → PySem.Tok → Nat → PySem.Addr → PySem.Heap → Nat → PySem.Tok → Nat → PySem.Addr → PySem.Heap → Nat → PySem.Tok → Nat → Addr → Heap → Addr → Heap → Addr → Heap → Addr → Heap → Tok → Nat → Addr → Heap → Nat → Tok → Nat → Prop) : Prop := ∀ ziRoax1 ziRoax2 ziRoax4 ziRoax6 ziRoax7 ziRoax8 ziRoax9 ziRoax12 ziRoax13 ziRoax14 ziRoax15 ziRoax16 ziRoax21 ziRoax22 ziRoax23, (∀ y0 y1 y2 y3 y4 y5 y6 y7 y8 y9 y10 y11 y12 y13 y14, P1 ziRoax1 ziRoax2 ziRoax4 ziRoax6 ziRoax7 ziRoax8 ziRoax9 ziRoax12 ziRoax13 ziRoax14 ziRoax15 ziRoax16 ziRoax21 ziRoax22 ziRoax23 y0 y1 y2 y3 y4 y5 y6 y7 y8 y9 y10 y11 y12 y13 y14) → Mine.l0.l1.l2.l3.l4.l5.l6.l7.l8.l9.l10.l11.l12.l13.l14.l15.l16.l17.l18.l19.zs.1 ziRoax1 ziRoax2 ziRoax4 ziRoax6 ziRoax7 ziRoax8 ziRoax9 ziRoax12 ziRoax13 ziRoax14 ziRoax15 ziRoax16 ziRoax21 ziRoax22 ziRoax23
noncomputable def zs : { P : Addr → Heap → Addr → Heap → Addr → Heap → Addr → Heap → Tok → Nat → Addr → Heap → Nat → Tok → Nat → Prop // (∀ y0 y1 y2 y3 y4 y5 y6 y7 y8 y9 y10 y11 y12 y13 y14, P y0 y1 y2 y3 y4 y5 y6 y7 y8 y9 y10 y11 y12 y13 y14) → Mine.l0.l1.l2.l3.l4.l5.l6.l7.l8.l9.l10.l11.l12.l13.l14.l15.l16.l17.l18.l19.zs.1 (zx.h 0) (zx.h 1) (zx.n 0) (zx.n 1) (zx.n 2) (zx.n 3) (zx.h 2) (zx.n 4) (zx.n 5) (zx.n 6) (zx.n 7) (zx.h 3) (zx.n 8) (zx.n 9) (zx.n 10) } := by
  refine' ⟨_, (_ : zT _) (zx.h 0) (zx.h 1) (zx.n 0) (zx.n 1) (zx.n 2) (zx.n 3) (zx.h 2) (zx.n 4) (zx.n 5) (zx.n 6) (zx.n 7) (zx.h 3) (zx.n 8) (zx.n 9) (zx.n 10)⟩
  rotate_left 1
  · intro ziRoax1 ziRoax2 ziRoax4 ziRoax6 ziRoax7 ziRoax8 ziRoax9 ziRoax12 ziRoax13 ziRoax14 ziRoax15 ziRoax16 ziRoax21 ziRoax22 ziRoax23 zR1 hg9 X0 T0 K0 hr0 hr1 hsa hsb hk34 hrk ziRcx6 ziRcax5 ziRcax8 ziRcbx5 ziRcbx8 ziRfx2 ziRcbx12 hw9 hsm hR hO hS hD hN hT hW hD7 hnd huw hus huk huo hnd6 ziRfx5 ziRfax4 ziRfax8 ziRfbx2 ziRfbx5 ziRhx3 ziRfbx13 hnd9 hhs hrh dh1 dh2 hlh hrt dt1 dt2 hlt9 ziRhx7 ziRhx8 ziRhx9 ziRhx10 ziRhx11 ziRjx3 ziRjx4 ziRlx1 ziRhx14 ziRhx21 ziRhx24 ziRlx2 ziRnx3 ziRnx4 ziRnx5 ziRnx6 ziRnx7 ziRnx8 ziRnx9 ziRnx10 ziRjx5 ziRjx6 ziRnx11 ziRnx12 hys hys2 hla hyl hll ziRlx3 ziRlx4 ziRlx5 ziRlx6 ziRlx7 ziRlx8 ziRlx9 ziRlx10 ziRnx13 ziRlx17 ziRlx23 ziRlx28 l1 i1 i2 i3 i4 i5 i6 i7 i8 ziRnx14 ziRnx15 ziRox1 ziRox2 ziRnx16 ziRnx17 ziRnx18 ziRnx19 ziRnx20 ziRnx21 ziRnx22 ziRnx23 ziRnx24 z6 hol hsu ds1 ds2 hsl hup hut hul ziRox3 ziRox4 ziRox5 z8 z7 ziRoax5 ziRoax10 ziRoax17 ziRoax18 ziRoax19 ziRoax24
    w_top on
    w_strict (
     iterate 38 walk1
     (rename_i ziRobx1 ziRobx2 ziRobx3 ziRobx4 ziRobx5 ziRobx6 ziRobx7 ziRobx8 ziRobx9 ziRobx10 ziRobx11 ziRobx12 ziRobx13 ziRobx14 ziRobx15 ziRobx16 ziRobx17 ziRobx18 ziRobx19 ziRobx20 ziRobx21 ziRobx22 ziRobx23 ziRobx24; revert hg9 X0 T0 K0 hr0 hr1 hsa hsb hk34 hrk ziRcx6 ziRcax5 ziRcax8 ziRcbx5 ziRcbx8 ziRfx2 ziRcbx12 hw9 hsm hR hO hS hD hN hT hW hD7 hnd huw hus huk huo hnd6 ziRfx5 ziRfax4 ziRfax8 ziRfbx2 ziRfbx5 ziRhx3 ziRfbx13 hnd9 hhs hrh dh1 dh2 hlh hrt dt1 dt2 hlt9 ziRhx7 ziRhx8 ziRhx9 ziRhx10 ziRhx11 ziRjx3 ziRjx4 ziRlx1 ziRhx14 ziRhx21 ziRhx24 ziRlx2 ziRnx3 ziRnx4 ziRnx5 ziRnx6 ziRnx7 ziRnx8 ziRnx9 ziRnx10 ziRjx5 ziRjx6 ziRnx11 ziRnx12 hys hys2 hla hyl hll ziRlx3 ziRlx4 ziRlx5 ziRlx6 ziRlx7 ziRlx8 ziRlx9 ziRlx10 ziRnx13 ziRlx17 ziRlx23 ziRlx28 l1 i1 i2 i3 i4 i5 i6 i7 i8 ziRnx14 ziRnx15 ziRox1 ziRox2 ziRnx16 ziRnx17 ziRnx18 ziRnx19 ziRnx20 ziRnx21 ziRnx22 ziRnx23 ziRnx24 z6 hol hsu ds1 ds2 hsl hup hut hul ziRox3 ziRox4 ziRox5 z8 z7 ziRoax5 ziRoax10 ziRoax19 ziRoax24 ziRobx3 ziRobx6 ziRobx9 ziRobx12 ziRobx17 ziRobx18 ziRobx19 ziRobx24; exact zR1 ziRobx1 ziRobx2 ziRobx4 ziRobx5 ziRobx7 ziRobx8 ziRobx10 ziRobx11 ziRobx13 ziRobx14 ziRobx15 ziRobx16 ziRobx21 ziRobx22 ziRobx23)
    )
end l0.l1.l2.l3.l4.l5.l6.l7.l8.l9.l10.l11.l12.l13.l14.l15.l16.l17.l18.l19.l20
namespace l0.l1.l2.l3.l4.l5.l6.l7.l8.l9.l10.l11.l12.l13.l14.l15.l16.l17.l18.l19.l20
@[irreducible] noncomputable def zP : Addr → Heap → Addr → Heap → Addr → Heap → Addr → Heap → Tok → Nat → Addr → Heap → Nat → Tok → Nat → Prop := zs.1
theorem zp : zP = zs.1 := by with_unfolding_all rfl
end l0.l1.l2.l3.l4.l5.l6.l7.l8.l9.l10.l11.l12.l13.l14.l15.l16.l17.l18.l19.l20
namespace l0.l1.l2.l3.l4.l5.l6.l7.l8.l9.l10.l11.l12.l13.l14.l15.l16.l17.l18.l19.l20.l21
@[irreducible] noncomputable def zx : Zst := sk neZst fun z => Mine.l0.l1.l2.l3.l4.l5.l6.l7.l8.l9.l10.l11.l12.l13.l14.l15.l16.l17.l18.l19.l20.zP (z.n 0) (z.h 0) (z.n 1) (z.h 1) (z.n 2) (z.h 2) (z.n 3) (z.h 3) (z.n 4) (z.n 5) (z.n 6) (z.h 4) (z.n 7) (z.n 8) (z.n 9)
def zT (P1 : PySem.Addr → PySem.Heap → PySem.Addr → PySem.Heap → PySem.Addr → PySem.Heap → PySem.Addr → PySem.Heap → PySem.Tok → Nat → PySem.Addr → PySem.Heap → Nat → PySem.Tok → Nat → Addr → Heap → Nat → Tok → Nat → Addr → Heap → Addr → Heap → Addr → Addr → Heap → Prop) : Prop := ∀ ziRobx1 ziRobx2 ziRobx4 ziRobx5 ziRobx7 ziRobx8 ziRobx10 ziRobx11 ziRobx13 ziRobx14 ziRobx15 ziRobx16 ziRobx21 ziRobx22 ziRobx23, (∀ y0 y1 y2 y3 y4 y5 y6 y7 y8 y9 y10 y11, P1 ziRobx1 ziRobx2 ziRobx4 ziRobx5 ziRobx7 ziRobx8 ziRobx10 ziRobx11 ziRobx13 ziRobx14 ziRobx15 ziRobx16 ziRobx21 ziRobx22 ziRobx23 y0 y1 y2 y3 y4 y5 y6 y7 y8 y9 y10 y11) → Mine.l0.l1.l2.l3.l4.l5.l6.l7.l8.l9.l10.l11.l12.l13.l14.l15.l16.l17.l18.l19.l20.zs.1 ziRobx1 ziRobx2 ziRobx4 ziRobx5 ziRobx7 ziRobx8 ziRobx10 ziRobx11 ziRobx13 ziRobx14 ziRobx15 ziRobx16 ziRobx21 ziRobx22 ziRobx23
noncomputable def zs : { P : Addr → Heap → Nat → Tok → Nat → Addr → Heap → Addr → Heap → Addr → Addr → Heap → Prop // (∀ y0 y1 y2 y3 y4 y5 y6 y7 y8 y9 y10 y11, P y0 y1 y2 y3 y4 y5 y6 y7 y8 y9 y10 y11) → Mine.l0.l1.l2.l3.l4.l5.l6.l7.l8.l9.l10.l11.l12.l13.l14.l15.l16.l17.l18.l19.l20.zs.1 (zx.n 0) (zx.h 0) (zx.n 1) (zx.h 1) (zx.n 2) (zx.h 2) (zx.n 3) (zx.h 3) (zx.n 4) (zx.n 5) (zx.n 6) (zx.h 4) (zx.n 7) (zx.n 8) (zx.n 9) } := by
  refine' ⟨_, (_ : zT _) (zx.n 0) (zx.h 0) (zx.n 1) (zx.h 1) (zx.n 2) (zx.h 2) (zx.n 3) (zx.h 3) (zx.n 4) (zx.n 5) (zx.n 6) (zx.h 4) (zx.n 7) (zx.n 8) (zx.n 9)⟩
  rotate_left 1
  · intro ziRobx1 ziRobx2 ziRobx4 ziRobx5 ziRobx7 ziRobx8 ziRobx10 ziRobx11 ziRobx13 ziRobx14 ziRobx15 ziRobx16 ziRobx21 ziRobx22 ziRobx23 zR1 hg9 X0 T0 K0 hr0 hr1 hsa hsb hk34 hrk ziRcx6 ziRcax5 ziRcax8 ziRcbx5 ziRcbx8 ziRfx2 ziRcbx12 hw9 hsm hR hO hS hD hN hT hW hD7 hnd huw hus huk huo hnd6 ziRfx5 ziRfax4 ziRfax8 ziRfbx2 ziRfbx5 ziRhx3 ziRfbx13 hnd9 hhs hrh dh1 dh2 hlh hrt dt1 dt2 hlt9 ziRhx7 ziRhx8 ziRhx9 ziRhx10 ziRhx11 ziRjx3 ziRjx4 ziRlx1 ziRhx14 ziRhx21 ziRhx24 ziRlx2 ziRnx3 ziRnx4 ziRnx5 ziRnx6 ziRnx7 ziRnx8 ziRnx9 ziRnx10 ziRjx5 ziRjx6 ziRnx11 ziRnx12 hys hys2 hla hyl hll ziRlx3 ziRlx4 ziRlx5 ziRlx6 ziRlx7 ziRlx8 ziRlx9 ziRlx10 ziRnx13 ziRlx17 ziRlx23 ziRlx28 l1 i1 i2 i3 i4 i5 i6 i7 i8 ziRnx14 ziRnx15 ziRox1 ziRox2 ziRnx16 ziRnx17 ziRnx18 ziRnx19 ziRnx20 ziRnx21 ziRnx22 ziRnx23 ziRnx24 z6 hol hsu ds1 ds2 hsl hup hut hul ziRox3 ziRox4 ziRox5 z8 z7 ziRoax5 ziRoax10 ziRoax19 ziRoax24 ziRobx3 ziRobx6 ziRobx9 ziRobx12 ziRobx17 ziRobx18 ziRobx19 ziRobx24
    w_top on
    w_strict (
     k_steps
     unfold Hold
     (rename_i ziRocx1 ziRocx2 ziRocx3 ziRocx4 ziRocx5 ziRocx6 ziRocx7 ziRocx8 ziRocx9 ziRocx10 ziRocx11 ziRocx12 ziRocx13 ziRocx14 ziRocx15 ziRocx16 ziRocx17 ziRocx18 ziRocx19 ziRocx20 ziRocx21 ziRocx22 ziRocx23; revert hg9 X0 T0 K0 hr0 hr1 hsa hsb hk34 hrk ziRcx6 ziRcax5 ziRcax8 ziRcbx5 ziRcbx8 ziRfx2 ziRcbx12 hw9 hsm hR hO hS hD hN hT hW hD7 hnd huw hus huk huo hnd6 ziRfx5 ziRfax4 ziRfax8 ziRfbx2 ziRfbx5 ziRhx3 ziRfbx13 hnd9 hhs hrh dh1 dh2 hlh hrt dt1 dt2 hlt9 ziRhx7 ziRhx8 ziRhx9 ziRhx10 ziRhx11 ziRjx3 ziRjx4 ziRlx1 ziRhx14 ziRhx21 ziRhx24 ziRlx2 ziRnx3 ziRnx4 ziRnx5 ziRnx6 ziRnx7 ziRnx8 ziRnx9 ziRnx10 ziRjx5 ziRjx6 ziRnx11 ziRnx12 hys hys2 hla hyl hll ziRlx3 ziRlx4 ziRlx5 ziRlx6 ziRlx7 ziRlx8 ziRlx9 ziRlx10 ziRnx13 ziRlx17 ziRlx23 ziRlx28 l1 i1 i2 i3 i4 i5 i6 i7 i8 ziRnx14 ziRnx15 ziRox1 ziRox2 ziRnx16 ziRnx17 ziRnx18 ziRnx19 ziRnx20 ziRnx21 ziRnx22 ziRnx23 ziRnx24 z6 hol hsu ds1 ds2 hsl hup hut hul ziRox3 ziRox4 ziRox5 z8 z7 ziRoax5 ziRoax10 ziRoax19 ziRoax24 ziRobx3 ziRobx6 ziRobx9 ziRobx12 ziRobx19 ziRobx24 ziRocx3 ziRocx8 ziRocx11 ziRocx14 ziRocx17 ziRocx20 ziRocx22 ziRocx23; exact zR1 ziRocx1 ziRocx2 ziRocx5 ziRocx6 ziRocx7 ziRocx9 ziRocx10 ziRocx12 ziRocx13 ziRocx15 ziRocx18 ziRocx21)
    )
end l0.l1.l2.l3.l4.l5.l6.l7.l8.l9.l10.l11.l12.l13.l14.l15.l16.l17.l18.l19.l20.l21
end sRo
theorem fl59 : True := by first | walk1 | trivial

section sRp

local macro_rules | `(tactic| walk_at $s:str) => `(tactic| k_extra $(Lean.Syntax.mkStrLit ("S242." ++ s.getString)))
theorem zm82 : True := by
  (k_with "S242.subscriptTail Name Name ref int" => k_extra "R139")
  (k_with "S242.mem14" => k_extra "R140")
  (k_with "S242.call ref" => k_extra "R3")
  (k_with "S242.compareOp NotEq bytes bytes" => k_extra "R141")
  (k_with "S242.CompRestT" => k_extra "R0")
  (k_with "S242.CompSrcT" => k_extra "R3")
  (k_with "S242.compareOp NotEq str str" => k_extra "R62")
  (k_with "S242.compareOp Eq str str" => k_extra "R142")
  (k_with "S242.eval IfExp" => k_extra "R76")
  (k_with "S242.sep" => k_extra "R120")
  (k_with "S242.exec If" => k_extra "R76")
  (k_with "S242.binaryOp Add ref ref" => k_extra "R144")
  (k_with "S242.eval ListComp" => k_extra "R145")
  (k_with "S242.CompEnd" => k_extra "R0")
  (k_with "S242.mem1" => k_extra "R146")
  trivial
namespace l0.l1.l2.l3.l4.l5.l6.l7.l8.l9.l10.l11.l12.l13.l14.l15.l16.l17.l18.l19.l20.l21
@[irreducible] noncomputable def zP : Addr → Heap → Nat → Tok → Nat → Addr → Heap → Addr → Heap → Addr → Addr → Heap → Prop := zs.1
theorem zp : zP = zs.1 := by with_unfolding_all rfl
end l0.l1.l2.l3.l4.l5.l6.l7.l8.l9.l10.l11.l12.l13.l14.l15.l16.l17.l18.l19.l20.l21
namespace l0.l1.l2.l3.l4.l5.l6.l7.l8.l9.l10.l11.l12.l13.l14.l15.l16.l17.l18.l19.l20.l21.l22
@[irreducible] noncomputable def zx : Zst := sk neZst fun z => Mine.l0.l1.l2.l3.l4.l5.l6.l7.l8.l9.l10.l11.l12.l13.l14.l15.l16.l17.l18.l19.l20.l21.zP (z.n 0) (z.h 0) (z.n 1) (z.n 2) (z.n 3) (z.n 4) (z.h 1) (z.n 5) (z.h 2) (z.n 6) (z.n 7) (z.h 3)
def zT (P1 : PySem.Addr → PySem.Heap → Nat → PySem.Tok → Nat → PySem.Addr → PySem.Heap → PySem.Addr → PySem.Heap → PySem.Addr → PySem.Addr → PySem.Heap → Int → Tok → Int → Tok → Obj → (List Value) → (List Int) → Nat → Heap → Nat → Prop) : Prop := ∀ ziRocx1 ziRocx2 ziRocx5 ziRocx6 ziRocx7 ziRocx9 ziRocx10 ziRocx12 ziRocx13 ziRocx15 ziRocx18 ziRocx21, (∀ y0 y1 y2 y3 y4 y5 y6 y7 y8 y9, P1 ziRocx1 ziRocx2 ziRocx5 ziRocx6 ziRocx7 ziRocx9 ziRocx10 ziRocx12 ziRocx13 ziRocx15 ziRocx18 ziRocx21 y0 y1 y2 y3 y4 y5 y6 y7 y8 y9) → Mine.l0.l1.l2.l3.l4.l5.l6.l7.l8.l9.l10.l11.l12.l13.l14.l15.l16.l17.l18.l19.l20.l21.zs.1 ziRocx1 ziRocx2 ziRocx5 ziRocx6 ziRocx7 ziRocx9 ziRocx10 ziRocx12 ziRocx13 ziRocx15 ziRocx18 ziRocx21
noncomputable def zs : { P : Int → Tok → Int → Tok → Obj → (List Value) → (List Int) → Nat → Heap → Nat → Prop // (∀ y0 y1 y2 y3 y4 y5 y6 y7 y8 y9, P y0 y1 y2 y3 y4 y5 y6 y7 y8 y9) → Mine.l0.l1.l2.l3.l4.l5.l6.l7.l8.l9.l10.l11.l12.l13.l14.l15.l16.l17.l18.l19.l20.l21.zs.1 (zx.n 0) (zx.h 0) (zx.n 1) (zx.n 2) (zx.n 3) (zx.n 4) (zx.h 1) (zx.n 5) (zx.h 2) (zx.n 6) (zx.n 7) (zx.h 3) } := by
  refine' ⟨_, (_ : zT _) (zx.n 0) (zx.h 0) (zx.n 1) (zx.n 2) (zx.n 3) (zx.n 4) (zx.h 1) (zx.n 5) (zx.h 2) (zx.n 6) (zx.n 7) (zx.h 3)⟩
  rotate_left 1
  · intro ziRocx1 ziRocx2 ziRocx5 ziRocx6 ziRocx7 ziRocx9 ziRocx10 ziRocx12 ziRocx13 ziRocx15 ziRocx18 ziRocx21 zR1 hg9 X0 T0 K0 hr0 hr1 hsa hsb hk34 hrk ziRcx6 ziRcax5 ziRcax8 ziRcbx5 ziRcbx8 ziRfx2 ziRcbx12 hw9 hsm hR hO hS hD hN hT hW hD7 hnd huw hus huk huo hnd6 ziRfx5 ziRfax4 ziRfax8 ziRfbx2 ziRfbx5 ziRhx3 ziRfbx13 hnd9 hhs hrh dh1 dh2 hlh hrt dt1 dt2 hlt9 ziRhx7 ziRhx8 ziRhx9 ziRhx10 ziRhx11 ziRjx3 ziRjx4 ziRlx1 ziRhx14 ziRhx21 ziRhx24 ziRlx2 ziRnx3 ziRnx4 ziRnx5 ziRnx6 ziRnx7 ziRnx8 ziRnx9 ziRnx10 ziRjx5 ziRjx6 ziRnx11 ziRnx12 hys hys2 hla hyl hll ziRlx3 ziRlx4 ziRlx5 ziRlx6 ziRlx7 ziRlx8 ziRlx9 ziRlx10 ziRnx13 ziRlx17 ziRlx23 ziRlx28 l1 i1 i2 i3 i4 i5 i6 i7 i8 ziRnx14 ziRnx15 ziRox1 ziRox2 ziRnx16 ziRnx17 ziRnx18 ziRnx19 ziRnx20 ziRnx21 ziRnx22 ziRnx23 ziRnx24 z6 hol hsu ds1 ds2 hsl hup hut hul ziRox3 ziRox4 ziRox5 z8 z7 ziRoax5 ziRoax10 ziRoax19 ziRoax24 ziRobx3 ziRobx6 ziRobx9 ziRobx12 ziRobx19 ziRobx24 ziRocx3 ziRocx8 ziRocx11 ziRocx14 ziRocx17 ziRocx20 ziRocx22 ziRocx23
    w_top on
    w_strict (
     have hq := odd_rows hk34
     have hl := odd_lits
     have hts := tails_small (le4 hk34) hW.tn hW.tl done
     have hss := sure_small hW hk34
     have hlsu := strs_len hsu hss.1
     have q1 := hq.1
     have dt3 : Ap d Dt := dt1
     have dt4 : Ap lf Dt := dt2
     have hdl := nd_hd hnd
     (repeat ((with_reducible rename _ < _ ∧ _ => z9); have z8 := z9.1; have z7 := z9.2; clear z9))
     (repeat ((with_reducible rename @Ne Nat _ _ => z9); have z6 := Ap.mk z9; clear z9))
     refine' use_draw hD7 (by decide) (by decide) ?hne1 ?B1 ?F1 ?X1 ?N1 ?T1 rfl ?kd1 ?ku1 ?D11 ?D21 ?s11 ?s21 ?_
     case B1 => exact K0
     case F1 => k_asm
     case X1 => exact X0
     case N1 => k_asm
     case T1 => exact T0
     case kd1 => ktr_room
     case ku1 => ktr_units
     case hne1 => k_ne
     case D11 => walk_at "del"
     case D21 => walk_at "del"
     case s11 => walk_at "sep"
     case s21 => walk_at "sep"
     intro way tw h' tk' mx5 tm5 o5 us5 ns5 nn5 hw0 hw13 hD5 F' N' _ _
     k_steps
     unfold Hold
     (rename_i ziRpx1 ziRpx2 ziRpx3 ziRpx4 ziRpx5 ziRpx6; revert hg9 X0 T0 K0 hr0 hr1 hsa hsb hk34 hrk ziRcx6 ziRcax5 ziRcax8 ziRcbx5 ziRcbx8 ziRfx2 ziRcbx12 hw9 hsm hR hO hS hD hN hT hW hD7 hnd huw hus huk huo hnd6 ziRfx5 ziRfax4 ziRfax8 ziRfbx2 ziRfbx5 ziRhx3 ziRfbx13 hnd9 hhs hrh dh1 dh2 hlh hrt dt1 dt2 hlt9 ziRhx7 ziRhx8 ziRhx9 ziRhx10 ziRhx11 ziRjx3 ziRjx4 ziRlx1 ziRhx14 ziRhx21 ziRhx24 ziRlx2 ziRnx3 ziRnx4 ziRnx5 ziRnx6 ziRnx7 ziRnx8 ziRnx9 ziRnx10 ziRjx5 ziRjx6 ziRnx11 ziRnx12 hys hys2 hla hyl hll ziRlx3 ziRlx4 ziRlx5 ziRlx6 ziRlx7 ziRlx8 ziRlx9 ziRlx10 ziRnx13 ziRlx17 ziRlx23 ziRlx28 l1 i1 i2 i3 i4 i5 i6 i7 i8 ziRnx14 ziRnx15 ziRox1 ziRox2 ziRnx16 ziRnx17 ziRnx18 ziRnx19 ziRnx20 ziRnx21 ziRnx22 ziRnx23 ziRnx24 ziRpx1 hol hsu ds1 ds2 hsl hup hut hul ziRox3 ziRox4 ziRox5 z8 z7 ziRoax5 ziRoax10 ziRoax19 ziRoax24 ziRobx3 ziRobx6 ziRobx9 ziRobx12 ziRobx19 ziRobx24 ziRocx3 ziRocx8 ziRocx11 ziRocx14 ziRocx17 ziRocx20 hq hl hts hss hlsu q1 dt3 dt4 z6 hw0 hw13 hD5 ziRpx2 ziRpx3 ziRpx5 ziRpx6; exact zR1 way tw mx5 tm5 o5 us5 ns5 nn5 ziRpx4 tk)
    )
end l0.l1.l2.l3.l4.l5.l6.l7.l8.l9.l10.l11.l12.l13.l14.l15.l16.l17.l18.l19.l20.l21.l22
namespace l0.l1.l2.l3.l4.l5.l6.l7.l8.l9.l10.l11.l12.l13.l14.l15.l16.l17.l18.l19.l20.l21.l22
@[irreducible] noncomputable def zP : Int → Tok → Int → Tok → Obj → (List Value) → (List Int) → Nat → Heap → Nat → Prop := zs.1
theorem zp : zP = zs.1 := by with_unfolding_all rfl
end l0.l1.l2.l3.l4.l5.l6.l7.l8.l9.l10.l11.l12.l13.l14.l15.l16.l17.l18.l19.l20.l21.l22
namespace l0.l1.l2.l3.l4.l5.l6.l7.l8.l9.l10.l11.l12.l13.l14.l15.l16.l17.l18.l19.l20.l21.l22.l23
@[irreducible] noncomputable def zx : Zst := sk neZst fun z => Mine.l0.l1.l2.l3.l4.l5.l6.l7.l8.l9.l10.l11.l12.l13.l14.l15.l16.l17.l18.l19.l20.l21.l22.zP (z.i 0) (z.n 0) (z.i 1) (z.n 1) (z.o 0) (z.lv 0) (z.li 0) (z.n 2) (z.h 0) (z.n 3)
def zT (P1 : Int → PySem.Tok → Int → PySem.Tok → PySem.Obj → (List PySem.Value) → (List Int) → Nat → PySem.Heap → Nat → Addr → (List Value) → Nat → Heap → Nat → Prop) : Prop := ∀ way tw mx5 tm5 o5 us5 ns5 nn5 ziRpx4 tk, (∀ y0 y1 y2 y3 y4, P1 way tw mx5 tm5 o5 us5 ns5 nn5 ziRpx4 tk y0 y1 y2 y3 y4) → Mine.l0.l1.l2.l3.l4.l5.l6.l7.l8.l9.l10.l11.l12.l13.l14.l15.l16.l17.l18.l19.l20.l21.l22.zs.1 way tw mx5 tm5 o5 us5 ns5 nn5 ziRpx4 tk
noncomputable def zs : { P : Addr → (List Value) → Nat → Heap → Nat → Prop // (∀ y0 y1 y2 y3 y4, P y0 y1 y2 y3 y4) → Mine.l0.l1.l2.l3.l4.l5.l6.l7.l8.l9.l10.l11.l12.l13.l14.l15.l16.l17.l18.l19.l20.l21.l22.zs.1 (zx.i 0) (zx.n 0) (zx.i 1) (zx.n 1) (zx.o 0) (zx.lv 0) (zx.li 0) (zx.n 2) (zx.h 0) (zx.n 3) } := by
  refine' ⟨_, (_ : zT _) (zx.i 0) (zx.n 0) (zx.i 1) (zx.n 1) (zx.o 0) (zx.lv 0) (zx.li 0) (zx.n 2) (zx.h 0) (zx.n 3)⟩
  rotate_left 1
  · intro way tw mx5 tm5 o5 us5 ns5 nn5 ziRpx4 tk zR1 hg9 X0 T0 K0 hr0 hr1 hsa hsb hk34 hrk ziRcx6 ziRcax5 ziRcax8 ziRcbx5 ziRcbx8 ziRfx2 ziRcbx12 hw9 hsm hR hO hS hD hN hT hW hD7 hnd huw hus huk huo hnd6 ziRfx5 ziRfax4 ziRfax8 ziRfbx2 ziRfbx5 ziRhx3 ziRfbx13 hnd9 hhs hrh dh1 dh2 hlh hrt dt1 dt2 hlt9 ziRhx7 ziRhx8 ziRhx9 ziRhx10 ziRhx11 ziRjx3 ziRjx4 ziRlx1 ziRhx14 ziRhx21 ziRhx24 ziRlx2 ziRnx3 ziRnx4 ziRnx5 ziRnx6 ziRnx7 ziRnx8 ziRnx9 ziRnx10 ziRjx5 ziRjx6 ziRnx11 ziRnx12 hys hys2 hla hyl hll ziRlx3 ziRlx4 ziRlx5 ziRlx6 ziRlx7 ziRlx8 ziRlx9 ziRlx10 ziRnx13 ziRlx17 ziRlx23 ziRlx28 l1 i1 i2 i3 i4 i5 i6 i7 i8 ziRnx14 ziRnx15 ziRox1 ziRox2 ziRnx16 ziRnx17 ziRnx18 ziRnx19 ziRnx20 ziRnx21 ziRnx22 ziRnx23 ziRnx24 ziRpx1 hol hsu ds1 ds2 hsl hup hut hul ziRox3 ziRox4 ziRox5 z8 z7 ziRoax5 ziRoax10 ziRoax19 ziRoax24 ziRobx3 ziRobx6 ziRobx9 ziRobx12 ziRobx19 ziRobx24 ziRocx3 ziRocx8 ziRocx11 ziRocx14 ziRocx17 ziRocx20 hq hl hts hss hlsu q1 dt3 dt4 z6 hw0 hw13 hD5 ziRpx2 ziRpx3 ziRpx5 ziRpx6
    w_top on
    w_strict (
     refine' join_rows (fun R rs n => [(R, listOf rs.toArray n), (Ds, listOf rs9.toArray ns9)]) (RowsBad k) (by k_asm) ?ifa ?ifb
     case ifa =>
       have mk9 : Mark9 := trivial
       k_steps
       · refine hold_out ?_
         refine' item_odd ?N1 ?m1 ?o1 hw0 (by assumption) ?_ hk34
         case N1 => k_asm
         case m1 => k_mem
         case o1 =>
           refine .cons (by walk_at "mem1") (str1 hq.1) (.cons (by walk_at "mem1") (str1 hq.2.1) (.cons (by walk_at "mem1") (str1 hq.2.2.1) (.cons (by walk_at "mem1") (str1 hl.1) (.cons (by walk_at "mem1") (str1 hl.2.1) (.cons (by walk_at "mem1") (str1 hl.2.2.1) (.cons (by walk_at "mem1") (str1 hq.2.2.2.1) (.cons (by walk_at "mem1") (str1 hq.2.2.2.2.1) (.cons (by walk_at "mem1") (str1 hq.2.2.2.2.2.1) (.cons (by walk_at "mem1") (str2 hl.2.2.2.1 hl.2.2.2.2.1) (.cons (by walk_at "mem1") (str1 lit_done) .nil))))))))))
         intro Do uo9 no9 o9 hm9 ho9 hs9 hl9
         k_steps
         refine hold_out ?_
         refine ⟨rfl, _, _, _, _, _, rfl, by k_asm, News.sub_J (by k_asm) (by walk_at "mem14"), ?_⟩
         exact ⟨_, (((rows_some hsu).append' (rows_some hs9)).append' (.cons .none .nil)).append' hrt, bad1 hW hk34 done (by omega) ho9⟩
       · refine hold_out ?_
         refine ⟨rfl, _, _, _, _, _, rfl, by k_asm, News.sub_J (by k_asm) (by walk_at "mem14"), ?_⟩
         exact ⟨_, RowStrs.append' (.cons (strIs_of hq.2.2.2.2.2.2) (.cons .none .nil)) hrt, bad2 hW hk34 done⟩
       · refine hold_out ?_
         (repeat (with_reducible rename (_ : Addr) < _ => z9; clear z9))
         refine LCt.CompSrcT.ledger (by rfl) (by k_asm) (by k_asm) (by k_mem) (by rw [List.size_toArray, sizeLine_eq]; exact Nat.le_trans hlt9 (by decide)) ?_
         intro g'
         refine restT_news (fun i ys => RowStrs ys (((tailsL tkI done).take i).filter notDone)) .nil ?_ ?_
         · rintro i ys v I oI C oC D m₂ h9 tk9 E' hi hys hv hoC hx F₁ N₁ off ne
           have hx9 := hrt.get (arr_some hv)
           obtain ⟨it, hit, hb⟩ := hx9
           clear hq hl q1
           have off0 := off
           cases hit with
           | none =>
             k_steps
             refine hold_out ?_
             refine' LCg.CompEnd.intro ?zF2 ?zN2 _ (fun p hp => hp) ?zo2 ?zs2 ⟨rfl, ?_⟩
             case zF2 => k_asm
             case zN2 => k_asm
             case zo2 => exact off0
             case zs2 => exact .inr ⟨_, by k_mem, rfl, _, rfl⟩
             exact rows_yes hb rfl .none hys
           | some b tb =>
             have hqd := done_known b
             by_cases hnd1 : notDone (some b) = true
             · have hq2 : (strOf b != Str.ofString "done") = true := hqd.trans hnd1
               k_steps
               refine hold_out ?_
               refine' LCg.CompEnd.intro ?zF3 ?zN3 _ (fun p hp => hp) ?zo3 ?zs3 ⟨rfl, ?_⟩
               case zF3 => k_asm
               case zN3 => k_asm
               case zo3 => exact off0
               case zs3 => exact .inr ⟨_, by k_mem, rfl, _, rfl⟩
               exact rows_yes hb hnd1 (.some _ _) hys
             · have hnd2 : notDone (some b) = false := Bool.eq_false_iff.mpr hnd1
               have hq2 : (strOf b != Str.ofString "done") = false := hqd.trans hnd2
               clear hnd1
               k_steps
               refine hold_out ?_
               refine' LCg.CompEnd.intro ?zF4 ?zN4 _ (fun p hp => hp) ?zo4 ?zs4 ⟨rfl, ?_⟩
               case zF4 => k_asm
               case zN4 => k_asm
               case zo4 => exact off0
               case zs4 => exact .inr ⟨_, by k_mem, rfl, _, rfl⟩
               exact rows_no hb hnd2 hys
         · intro ys hys
           rw [List.size_toArray, rows_full hrt] at hys
           have hyl := rows_len hys (Nat.le_trans (List.length_filter_le _ _) hts.1)
           k_steps
           refine hold_out ?_
           refine ⟨rfl, _, _, _, _, _, rfl, by k_asm, News.sub_J (by k_asm) (by walk_at "mem14"), ?_⟩
           exact ⟨_, (((rows_some hsu).append' (.cons .none .nil)).append' hys).append' (.cons (strIs_of lit_done) (.cons (strIs_of hq.2.2.2.1) .nil)), bad3 hW hk34 done⟩
     case ifb =>
       intro R rs n h9 tk9 F9 N9 hP
       walk_at "tidy"
       (repeat (with_reducible rename (_ : Addr) < _ => z9; clear z9))
       (repeat (with_reducible rename Ap _ _ => z9; clear z9))
       (rename_i ziRqx1 ziRqx2 ziRqx3 ziRqx4 ziRqx5 ziRqx6 ziRqx7 ziRqx8 ziRqx9 ziRqx10 ziRqx11 ziRqx12 ziRqx13 ziRqx14 ziRqx15 ziRqx16 ziRqx17 ziRqx18 ziRqx19 ziRqx20 ziRqx21 ziRqx22 ziRqx23; revert hg9 X0 T0 K0 hr0 hr1 hsa hsb hk34 hrk ziRcx6 ziRcax5 ziRcax8 ziRcbx5 ziRcbx8 ziRfx2 ziRcbx12 hw9 hsm hR hO hS hD hN hT hW hD7 hnd huw hus huk huo hnd6 ziRfx5 ziRfax4 ziRfax8 ziRfbx2 ziRfbx5 ziRhx3 ziRfbx13 hnd9 hhs hrh hlh hrt hlt9 ziRhx7 ziRhx8 ziRhx9 ziRhx10 ziRhx11 ziRjx3 ziRjx4 ziRhx14 ziRhx21 ziRhx24 ziRlx2 ziRnx3 ziRnx4 ziRnx5 ziRnx6 ziRnx7 ziRnx8 ziRnx9 ziRnx10 ziRjx5 ziRjx6 ziRnx11 ziRnx12 hys hys2 hla hyl hll ziRlx17 ziRlx23 ziRlx28 l1 i1 i2 i3 i4 i5 i6 i7 i8 ziRnx14 ziRnx15 ziRox1 ziRox2 hol hsu hsl hup hut hul ziRox3 ziRox4 ziRox5 ziRqx1 ziRqx2 ziRoax5 ziRoax10 ziRoax19 ziRobx3 ziRobx6 ziRobx9 ziRobx12 ziRobx19 ziRocx3 ziRocx11 ziRocx14 ziRocx17 ziRocx20 hss hlsu q1 hw0 hw13 hD5 ziRpx2 ziRpx3 hP ziRqx3 ziRqx4 ziRqx5 ziRqx6 ziRqx7 ziRqx8 ziRqx9 ziRqx10 ziRqx11 ziRqx12 ziRqx13 ziRqx14 ziRqx15 ziRqx16 ziRqx17 ziRqx18 ziRqx19 ziRqx20 ziRqx21 ziRqx22 ziRqx23 z8 z7 lF9 lN9; exact zR1 R rs n h9 tk9)
    )
end l0.l1.l2.l3.l4.l5.l6.l7.l8.l9.l10.l11.l12.l13.l14.l15.l16.l17.l18.l19.l20.l21.l22.l23
end sRp
theorem fl60 : True := by first | walk1 | trivial

section sRr

local macro_rules | `(tactic| walk_at $s:str) => `(tactic| k_extra $(Lean.Syntax.mkStrLit ("S248." ++ s.getString)))
theorem zm83 : True := by
  (k_with "S248.subscriptTail Name Name ref int" => k_extra "R139")
  (k_with "S248.mem14" => k_extra "R140")
  (k_with "S248.call ref" => k_extra "R3")
  (k_with "S248.compareOp NotEq bytes bytes" => k_extra "R141")
  (k_with "S248.CompRestT" => k_extra "R0")
  (k_with "S248.CompSrcT" => k_extra "R3")
  (k_with "S248.compareOp NotEq str str" => k_extra "R62")
  (k_with "S248.compareOp Eq str str" => k_extra "R142")
  (k_with "S248.eval IfExp" => k_extra "R76")
  (k_with "S248.sep" => k_extra "R120")
  (k_with "S248.exec If" => k_extra "R76")
  (k_with "S248.binaryOp Add ref ref" => k_extra "R144")
  (k_with "S248.eval ListComp" => k_extra "R145")
  (k_with "S248.CompEnd" => k_extra "R0")
  trivial
namespace l0.l1.l2.l3.l4.l5.l6.l7.l8.l9.l10.l11.l12.l13.l14.l15.l16.l17.l18.l19.l20.l21.l22.l23
@[irreducible] noncomputable def zP : Addr → (List Value) → Nat → Heap → Nat → Prop := zs.1
theorem zp : zP = zs.1 := by with_unfolding_all rfl
end l0.l1.l2.l3.l4.l5.l6.l7.l8.l9.l10.l11.l12.l13.l14.l15.l16.l17.l18.l19.l20.l21.l22.l23
namespace l0.l1.l2.l3.l4.l5.l6.l7.l8.l9.l10.l11.l12.l13.l14.l15.l16.l17.l18.l19.l20.l21.l22.l23.l24
@[irreducible] noncomputable def zx : Zst := sk neZst fun z => Mine.l0.l1.l2.l3.l4.l5.l6.l7.l8.l9.l10.l11.l12.l13.l14.l15.l16.l17.l18.l19.l20.l21.l22.l23.zP (z.n 0) (z.lv 0) (z.n 1) (z.h 0) (z.n 2)
theorem zgo : Mine.l0.l1.l2.l3.l4.l5.l6.l7.l8.l9.l10.l11.l12.l13.l14.l15.l16.l17.l18.l19.l20.l21.l22.l23.zP (zx.n 0) (zx.lv 0) (zx.n 1) (zx.h 0) (zx.n 2) := by
  refine' zcast Mine.l0.l1.l2.l3.l4.l5.l6.l7.l8.l9.l10.l11.l12.l13.l14.l15.l16.l17.l18.l19.l20.l21.l22.l23.zp (fun zf => zf (zx.n 0) (zx.lv 0) (zx.n 1) (zx.h 0) (zx.n 2)) ((_ : ∀ R rs n h9 tk9, Mine.l0.l1.l2.l3.l4.l5.l6.l7.l8.l9.l10.l11.l12.l13.l14.l15.l16.l17.l18.l19.l20.l21.l22.l23.zs.1 R rs n h9 tk9) (zx.n 0) (zx.lv 0) (zx.n 1) (zx.h 0) (zx.n 2))
  intro R rs n h9 tk9 hg9 X0 T0 K0 hr0 hr1 hsa hsb hk34 hrk ziRcx6 ziRcax5 ziRcax8 ziRcbx5 ziRcbx8 ziRfx2 ziRcbx12 hw9 hsm hR hO hS hD hN hT hW hD7 hnd huw hus huk huo hnd6 ziRfx5 ziRfax4 ziRfax8 ziRfbx2 ziRfbx5 ziRhx3 ziRfbx13 hnd9 hhs hrh hlh hrt hlt9 ziRhx7 ziRhx8 ziRhx9 ziRhx10 ziRhx11 ziRjx3 ziRjx4 ziRhx14 ziRhx21 ziRhx24 ziRlx2 ziRnx3 ziRnx4 ziRnx5 ziRnx6 ziRnx7 ziRnx8 ziRnx9 ziRnx10 ziRjx5 ziRjx6 ziRnx11 ziRnx12 hys hys2 hla hyl hll ziRlx17 ziRlx23 ziRlx28 l1 i1 i2 i3 i4 i5 i6 i7 i8 ziRnx14 ziRnx15 ziRox1 ziRox2 hol hsu hsl hup hut hul ziRox3 ziRox4 ziRox5 ziRqx1 ziRqx2 ziRoax5 ziRoax10 ziRoax19 ziRobx3 ziRobx6 ziRobx9 ziRobx12 ziRobx19 ziRocx3 ziRocx11 ziRocx14 ziRocx17 ziRocx20 hss hlsu q1 hw0 hw13 hD5 ziRpx2 ziRpx3 hP ziRqx3 ziRqx4 ziRqx5 ziRqx6 ziRqx7 ziRqx8 ziRqx9 ziRqx10 ziRqx11 ziRqx12 ziRqx13 ziRqx14 ziRqx15 ziRqx16 ziRqx17 ziRqx18 ziRqx19 ziRqx20 ziRqx21 ziRqx22 ziRqx23 z8 z7 lF9 lN9
  w_top on
  w_strict (
   have hss := sure_small hW hk34
   have hs9 := some_small hss (by decide)
   obtain ⟨its, hrs, hbad⟩ := hP
   have hb9 := bad_small hbad
   k_steps
   refine hold_out ?_
   refine' Spec.useV (framed_w hrs (f := [10]) lit_nl (by decide) hb9.1 hb9.2) ?B1 ?F1 ?X1 ?N1 ?T1 rfl ?kd1 ?ku1 ?hm1 ?ret1 ?exc1
   case B1 => exact K0
   case F1 => k_asm
   case X1 => exact X0
   case N1 => k_asm
   case T1 => exact T0
   case kd1 => ktr_room
   case ku1 => ktr_units
   case hm1 => walk_at "mem14"
   case exc1 => exact fun h => h.elim
   intro tf h' tk' F' N'
   k_steps
   refine hold_out ?_
   refine' SpecT.useN (told_bad w hbad (le4 hk34) _ _) ?B2 ?F2 ?X2 ?N2 ?T2 X0 T0 rfl ?kd2 ?ku2 ?_
   case B2 => exact K0
   case F2 => k_asm
   case X2 => exact X0
   case N2 => k_asm
   case T2 => exact T0
   case kd2 => ktr_room
   case ku2 => ktr_units
   intro h' tk' F' N'
   k_steps
   refine hold_out ?_
   refine' Spec.useV (framed_w (rows_some hsu) (f := [10]) lit_nl (by decide) hs9.1 hs9.2) ?B3 ?F3 ?X3 ?N3 ?T3 rfl ?kd3 ?ku3 ?hm3 ?ret3 ?exc3
   case B3 => exact K0
   case F3 => k_asm
   case X3 => exact X0
   case N3 => k_asm
   case T3 => exact T0
   case kd3 => ktr_room
   case ku3 => ktr_units
   case hm3 => walk_at "mem14"
   case exc3 => exact fun h => h.elim
   intro tf2 h' tk' F' N'
   k_steps
   refine hold_out ?_
   refine' SpecT.useN (told_sure w hW hk34 _ _) ?B4 ?F4 ?X4 ?N4 ?T4 X0 T0 rfl ?kd4 ?ku4 ?_
   case B4 => exact K0
   case F4 => k_asm
   case X4 => exact X0
   case N4 => k_asm
   case T4 => exact T0
   case kd4 => ktr_room
   case ku4 => ktr_units
   intro h' tk' F' N'
   repeat walk1
   refine' goodW_bool (b := true) ?zF ?zg ?zn ?zp
   case zF => assumption
   case zg => exact hg9
   case zn => exact fun _ => rfl
   case zp => decide +kernel
  )
end l0.l1.l2.l3.l4.l5.l6.l7.l8.l9.l10.l11.l12.l13.l14.l15.l16.l17.l18.l19.l20.l21.l22.l23.l24
namespace l0.l1.l2.l3.l4.l5.l6.l7.l8.l9.l10.l11.l12.l13.l14.l15.l16.l17.l18.l19.l20.l21.l22.l23.l24
theorem zall : ∀ z : Zst, Mine.l0.l1.l2.l3.l4.l5.l6.l7.l8.l9.l10.l11.l12.l13.l14.l15.l16.l17.l18.l19.l20.l21.l22.l23.zP (z.n 0) (z.lv 0) (z.n 1) (z.h 0) (z.n 2) := by refine @sk_all _ neZst _ ?_; with_unfolding_all exact zgo
end l0.l1.l2.l3.l4.l5.l6.l7.l8.l9.l10.l11.l12.l13.l14.l15.l16.l17.l18.l19.l20.l21.l22.l23.l24
namespace l0.l1.l2.l3.l4.l5.l6.l7.l8.l9.l10.l11.l12.l13.l14.l15.l16.l17.l18.l19.l20.l21.l22.l23
theorem zgo : Mine.l0.l1.l2.l3.l4.l5.l6.l7.l8.l9.l10.l11.l12.l13.l14.l15.l16.l17.l18.l19.l20.l21.l22.zP (zx.i 0) (zx.n 0) (zx.i 1) (zx.n 1) (zx.o 0) (zx.lv 0) (zx.li 0) (zx.n 2) (zx.h 0) (zx.n 3) := zcast Mine.l0.l1.l2.l3.l4.l5.l6.l7.l8.l9.l10.l11.l12.l13.l14.l15.l16.l17.l18.l19.l20.l21.l22.zp (fun zf => zf (zx.i 0) (zx.n 0) (zx.i 1) (zx.n 1) (zx.o 0) (zx.lv 0) (zx.li 0) (zx.n 2) (zx.h 0) (zx.n 3)) (zs.2 (by rw [← zp]; exact fun y0 y1 y2 y3 y4 => l24.zall (zmk zw zk0 [y0, y2, y4] [] [] [] [] [] [y3] [] [y1] [] [] [] [] [] [] [])))
theorem zall : ∀ z : Zst, Mine.l0.l1.l2.l3.l4.l5.l6.l7.l8.l9.l10.l11.l12.l13.l14.l15.l16.l17.l18.l19.l20.l21.l22.zP (z.i 0) (z.n 0) (z.i 1) (z.n 1) (z.o 0) (z.lv 0) (z.li 0) (z.n 2) (z.h 0) (z.n 3) := by refine @sk_all _ neZst _ ?_; with_unfolding_all exact zgo
end l0.l1.l2.l3.l4.l5.l6.l7.l8.l9.l10.l11.l12.l13.l14.l15.l16.l17.l18.l19.l20.l21.l22.l23
namespace l0.l1.l2.l3.l4.l5.l6.l7.l8.l9.l10.l11.l12.l13.l14.l15.l16.l17.l18.l19.l20.l21.l22
theorem zgo : Mine.l0.l1.l2.l3.l4.l5.l6.l7.l8.l9.l10.l11.l12.l13.l14.l15.l16.l17.l18.l19.l20.l21.zP (zx.n 0) (zx.h 0) (zx.n 1) (zx.n 2) (zx.n 3) (zx.n 4) (zx.h 1) (zx.n 5) (zx.h 2) (zx.n 6) (zx.n 7) (zx.h 3) := zcast Mine.l0.l1.l2.l3.l4.l5.l6.l7.l8.l9.l10.l11.l12.l13.l14.l15.l16.l17.l18.l19.l20.l21.zp (fun zf => zf (zx.n 0) (zx.h 0) (zx.n 1) (zx.n 2) (zx.n 3) (zx.n 4) (zx.h 1) (zx.n 5) (zx.h 2) (zx.n 6) (zx.n 7) (zx.h 3)) (zs.2 (by rw [← zp]; exact fun y0 y1 y2 y3 y4 y5 y6 y7 y8 y9 => l23.zall (zmk zw zk0 [y1, y3, y7, y9] [y0, y2] [] [] [] [y4] [y8] [] [y5] [] [] [y6] [] [] [] [])))
theorem zall : ∀ z : Zst, Mine.l0.l1.l2.l3.l4.l5.l6.l7.l8.l9.l10.l11.l12.l13.l14.l15.l16.l17.l18.l19.l20.l21.zP (z.n 0) (z.h 0) (z.n 1) (z.n 2) (z.n 3) (z.n 4) (z.h 1) (z.n 5) (z.h 2) (z.n 6) (z.n 7) (z.h 3) := by refine @sk_all _ neZst _ ?_; with_unfolding_all exact zgo
end l0.l1.l2.l3.l4.l5.l6.l7.l8.l9.l10.l11.l12.l13.l14.l15.l16.l17.l18.l19.l20.l21.l22
namespace l0.l1.l2.l3.l4.l5.l6.l7.l8.l9.l10.l11.l12.l13.l14.l15.l16.l17.l18.l19.l20.l21
theorem zgo : Mine.l0.l1.l2.l3.l4.l5.l6.l7.l8.l9.l10.l11.l12.l13.l14.l15.l16.l17.l18.l19.l20.zP (zx.n 0) (zx.h 0) (zx.n 1) (zx.h 1) (zx.n 2) (zx.h 2) (zx.n 3) (zx.h 3) (zx.n 4) (zx.n 5) (zx.n 6) (zx.h 4) (zx.n 7) (zx.n 8) (zx.n 9) := zcast Mine.l0.l1.l2.l3.l4.l5.l6.l7.l8.l9.l10.l11.l12.l13.l14.l15.l16.l17.l18.l19.l20.zp (fun zf => zf (zx.n 0) (zx.h 0) (zx.n 1) (zx.h 1) (zx.n 2) (zx.h 2) (zx.n 3) (zx.h 3) (zx.n 4) (zx.n 5) (zx.n 6) (zx.h 4) (zx.n 7) (zx.n 8) (zx.n 9)) (zs.2 (by rw [← zp]; exact fun y0 y1 y2 y3 y4 y5 y6 y7 y8 y9 y10 y11 => l22.zall (zmk zw zk0 [y0, y2, y3, y4, y5, y7, y9, y10] [] [] [] [] [] [y1, y6, y8, y11] [] [] [] [] [] [] [] [] [])))
theorem zall : ∀ z : Zst, Mine.l0.l1.l2.l3.l4.l5.l6.l7.l8.l9.l10.l11.l12.l13.l14.l15.l16.l17.l18.l19.l20.zP (z.n 0) (z.h 0) (z.n 1) (z.h 1) (z.n 2) (z.h 2) (z.n 3) (z.h 3) (z.n 4) (z.n 5) (z.n 6) (z.h 4) (z.n 7) (z.n 8) (z.n 9) := by refine @sk_all _ neZst _ ?_; with_unfolding_all exact zgo
end l0.l1.l2.l3.l4.l5.l6.l7.l8.l9.l10.l11.l12.l13.l14.l15.l16.l17.l18.l19.l20.l21
namespace l0.l1.l2.l3.l4.l5.l6.l7.l8.l9.l10.l11.l12.l13.l14.l15.l16.l17.l18.l19.l20
theorem zgo : Mine.l0.l1.l2.l3.l4.l5.l6.l7.l8.l9.l10.l11.l12.l13.l14.l15.l16.l17.l18.l19.zP (zx.h 0) (zx.h 1) (zx.n 0) (zx.n 1) (zx.n 2) (zx.n 3) (zx.h 2) (zx.n 4) (zx.n 5) (zx.n 6) (zx.n 7) (zx.h 3) (zx.n 8) (zx.n 9) (zx.n 10) := zcast Mine.l0.l1.l2.l3.l4.l5.l6.l7.l8.l9.l10.l11.l12.l13.l14.l15.l16.l17.l18.l19.zp (fun zf => zf (zx.h 0) (zx.h 1) (zx.n 0) (zx.n 1) (zx.n 2) (zx.n 3) (zx.h 2) (zx.n 4) (zx.n 5) (zx.n 6) (zx.n 7) (zx.h 3) (zx.n 8) (zx.n 9) (zx.n 10)) (zs.2 (by rw [← zp]; exact fun y0 y1 y2 y3 y4 y5 y6 y7 y8 y9 y10 y11 y12 y13 y14 => l21.zall (zmk zw zk0 [y0, y2, y4, y6, y8, y9, y10, y12, y13, y14] [] [] [] [] [] [y1, y3, y5, y7, y11] [] [] [] [] [] [] [] [] [])))
theorem zall : ∀ z : Zst, Mine.l0.l1.l2.l3.l4.l5.l6.l7.l8.l9.l10.l11.l12.l13.l14.l15.l16.l17.l18.l19.zP (z.h 0) (z.h 1) (z.n 0) (z.n 1) (z.n 2) (z.n 3) (z.h 2) (z.n 4) (z.n 5) (z.n 6) (z.n 7) (z.h 3) (z.n 8) (z.n 9) (z.n 10) := by refine @sk_all _ neZst _ ?_; with_unfolding_all exact zgo
end l0.l1.l2.l3.l4.l5.l6.l7.l8.l9.l10.l11.l12.l13.l14.l15.l16.l17.l18.l19.l20
namespace l0.l1.l2.l3.l4.l5.l6.l7.l8.l9.l10.l11.l12.l13.l14.l15.l16.l17.l18.l19
theorem zgo : Mine.l0.l1.l2.l3.l4.l5.l6.l7.l8.l9.l10.l11.l12.l13.l14.l15.l16.l17.l18.zP Ds rs9 ns9 h9 tk9 := zcast Mine.l0.l1.l2.l3.l4.l5.l6.l7.l8.l9.l10.l11.l12.l13.l14.l15.l16.l17.l18.zp (fun zf => zf Ds rs9 ns9 h9 tk9) (zs.2 (by rw [← zp]; exact fun y0 y1 y2 y3 y4 y5 y6 y7 y8 y9 y10 y11 y12 y13 y14 => l20.zall (zmk zw zk0 [y2, y3, y4, y5, y7, y8, y9, y10, y12, y13, y14] [] [] [] [] [] [y0, y1, y6, y11] [] [] [] [] [] [] [] [] [])))
theorem zall : ∀ z : Zst, Mine.l0.l1.l2.l3.l4.l5.l6.l7.l8.l9.l10.l11.l12.l13.l14.l15.l16.l17.l18.zP (z.n 0) (z.lv 0) (z.n 1) (z.h 0) (z.n 2) := by refine @sk_all _ neZst _ ?_; with_unfolding_all exact zgo
end l0.l1.l2.l3.l4.l5.l6.l7.l8.l9.l10.l11.l12.l13.l14.l15.l16.l17.l18.l19
namespace l0.l1.l2.l3.l4.l5.l6.l7.l8.l9.l10.l11.l12.l13.l14.l15.l16.l17.l18
theorem zgo : Mine.l0.l1.l2.l3.l4.l5.l6.l7.l8.l9.l10.l11.l12.l13.l14.l15.l16.l17.zP (zx.n 0) (zx.o 0) (zx.n 1) (zx.n 2) (zx.n 3) (zx.n 4) (zx.v 0) (zx.v 1) (zx.lv 0) (zx.lv 1) (zx.lv 2) (zx.lv 3) h' tk' := zcast Mine.l0.l1.l2.l3.l4.l5.l6.l7.l8.l9.l10.l11.l12.l13.l14.l15.l16.l17.zp (fun zf => zf (zx.n 0) (zx.o 0) (zx.n 1) (zx.n 2) (zx.n 3) (zx.n 4) (zx.v 0) (zx.v 1) (zx.lv 0) (zx.lv 1) (zx.lv 2) (zx.lv 3) h' tk') (zs.2 (by rw [← zp]; exact fun y0 y1 y2 y3 y4 => l19.zall (zmk zw zk0 [y0, y2, y4] [] [] [] [] [] [y3] [] [y1] [] [] [] [] [] [] [])))
theorem zall : ∀ z : Zst, Mine.l0.l1.l2.l3.l4.l5.l6.l7.l8.l9.l10.l11.l12.l13.l14.l15.l16.l17.zP (z.n 0) (z.o 0) (z.n 1) (z.n 2) (z.n 3) (z.n 4) (z.v 0) (z.v 1) (z.lv 0) (z.lv 1) (z.lv 2) (z.lv 3) (z.h 0) (z.n 5) := by refine @sk_all _ neZst _ ?_; with_unfolding_all exact zgo
end l0.l1.l2.l3.l4.l5.l6.l7.l8.l9.l10.l11.l12.l13.l14.l15.l16.l17.l18
namespace l0.l1.l2.l3.l4.l5.l6.l7.l8.l9.l10.l11.l12.l13.l14.l15.l16.l17
theorem zgo : Mine.l0.l1.l2.l3.l4.l5.l6.l7.l8.l9.l10.l11.l12.l13.l14.l15.l16.zP tf2 h' tk' := zcast Mine.l0.l1.l2.l3.l4.l5.l6.l7.l8.l9.l10.l11.l12.l13.l14.l15.l16.zp (fun zf => zf tf2 h' tk') (zs.2 (by rw [← zp]; exact fun y0 y1 y2 y3 y4 y5 y6 y7 y8 y9 y10 y11 y12 y13 => l18.zall (zmk zw zk0 [y0, y2, y3, y4, y5, y13] [] [] [] [y6, y7] [y1] [y12] [] [y8, y9, y10, y11] [] [] [] [] [] [] [])))
theorem zall : ∀ z : Zst, Mine.l0.l1.l2.l3.l4.l5.l6.l7.l8.l9.l10.l11.l12.l13.l14.l15.l16.zP (z.n 0) (z.h 0) (z.n 1) := by refine @sk_all _ neZst _ ?_; with_unfolding_all exact zgo
end l0.l1.l2.l3.l4.l5.l6.l7.l8.l9.l10.l11.l12.l13.l14.l15.l16.l17
namespace l0.l1.l2.l3.l4.l5.l6.l7.l8.l9.l10.l11.l12.l13.l14.l15.l16
theorem zgo : Mine.l0.l1.l2.l3.l4.l5.l6.l7.l8.l9.l10.l11.l12.l13.l14.l15.zP (zx.lv 0) (zx.n 0) (zx.n 1) (zx.n 2) (zx.n 3) (zx.h 0) (zx.n 4) (zx.h 1) (zx.n 5) h' := zcast Mine.l0.l1.l2.l3.l4.l5.l6.l7.l8.l9.l10.l11.l12.l13.l14.l15.zp (fun zf => zf (zx.lv 0) (zx.n 0) (zx.n 1) (zx.n 2) (zx.n 3) (zx.h 0) (zx.n 4) (zx.h 1) (zx.n 5) h') (zs.2 (by rw [← zp]; exact fun y0 y1 y2 => l17.zall (zmk zw zk0 [y0, y2] [] [] [] [] [] [y1] [] [] [] [] [] [] [] [] [])))
theorem zall : ∀ z : Zst, Mine.l0.l1.l2.l3.l4.l5.l6.l7.l8.l9.l10.l11.l12.l13.l14.l15.zP (z.lv 0) (z.n 0) (z.n 1) (z.n 2) (z.n 3) (z.h 0) (z.n 4) (z.h 1) (z.n 5) (z.h 2) := by refine @sk_all _ neZst _ ?_; with_unfolding_all exact zgo
end l0.l1.l2.l3.l4.l5.l6.l7.l8.l9.l10.l11.l12.l13.l14.l15.l16
namespace l0.l1.l2.l3.l4.l5.l6.l7.l8.l9.l10.l11.l12.l13.l14.l15
theorem zgo : Mine.l0.l1.l2.l3.l4.l5.l6.l7.l8.l9.l10.l11.l12.l13.l14.zP ys (zx.n 0) (zx.h 0) (zx.n 1) := zcast Mine.l0.l1.l2.l3.l4.l5.l6.l7.l8.l9.l10.l11.l12.l13.l14.zp (fun zf => zf ys (zx.n 0) (zx.h 0) (zx.n 1)) (zs.2 (by rw [← zp]; exact fun y0 y1 y2 y3 y4 y5 y6 y7 y8 y9 => l16.zall (zmk zw zk0 [y1, y2, y3, y4, y6, y8] [] [] [] [] [] [y5, y7, y9] [] [y0] [] [] [] [] [] [] [])))
theorem zall : ∀ z : Zst, Mine.l0.l1.l2.l3.l4.l5.l6.l7.l8.l9.l10.l11.l12.l13.l14.zP (z.lv 0) (z.n 0) (z.h 0) (z.n 1) := by refine @sk_all _ neZst _ ?_; with_unfolding_all exact zgo
end l0.l1.l2.l3.l4.l5.l6.l7.l8.l9.l10.l11.l12.l13.l14.l15
namespace l0.l1.l2.l3.l4.l5.l6.l7.l8.l9.l10.l11.l12.l13.l14
theorem zgo : Mine.l0.l1.l2.l3.l4.l5.l6.l7.l8.l9.l10.l11.l12.l13.zP dd oo vw vo vs vt dv2 sv2 xw xo xs xk h' tk' := zcast Mine.l0.l1.l2.l3.l4.l5.l6.l7.l8.l9.l10.l11.l12.l13.zp (fun zf => zf dd oo vw vo vs vt dv2 sv2 xw xo xs xk h' tk') (zs.2 (by rw [← zp]; exact fun y0 y1 y2 y3 => l15.zall (zmk zw zk0 [y1, y3] [] [] [] [] [] [y2] [] [y0] [] [] [] [] [] [] [])))
theorem zall : ∀ z : Zst, Mine.l0.l1.l2.l3.l4.l5.l6.l7.l8.l9.l10.l11.l12.l13.zP (z.n 0) (z.o 0) (z.n 1) (z.n 2) (z.n 3) (z.n 4) (z.v 0) (z.v 1) (z.lv 0) (z.lv 1) (z.lv 2) (z.lv 3) (z.h 0) (z.n 5) := by refine @sk_all _ neZst _ ?_; with_unfolding_all exact zgo
end l0.l1.l2.l3.l4.l5.l6.l7.l8.l9.l10.l11.l12.l13.l14
namespace l0.l1.l2.l3.l4.l5.l6.l7.l8.l9.l10.l11.l12.l13
theorem zgo : Mine.l0.l1.l2.l3.l4.l5.l6.l7.l8.l9.l10.l11.l12.zP tf (zx.h 0) h' tk' := zcast Mine.l0.l1.l2.l3.l4.l5.l6.l7.l8.l9.l10.l11.l12.zp (fun zf => zf tf (zx.h 0) h' tk') (zs.2 (by rw [← zp]; exact fun y0 y1 y2 y3 y4 y5 y6 y7 y8 y9 y10 y11 y12 y13 => l14.zall (zmk zw zk0 [y0, y2, y3, y4, y5, y13] [] [] [] [y6, y7] [y1] [y12] [] [y8, y9, y10, y11] [] [] [] [] [] [] [])))
theorem zall : ∀ z : Zst, Mine.l0.l1.l2.l3.l4.l5.l6.l7.l8.l9.l10.l11.l12.zP (z.n 0) (z.h 0) (z.h 1) (z.n 1) := by refine @sk_all _ neZst _ ?_; with_unfolding_all exact zgo
end l0.l1.l2.l3.l4.l5.l6.l7.l8.l9.l10.l11.l12.l13
namespace l0.l1.l2.l3.l4.l5.l6.l7.l8.l9.l10.l11.l12
theorem zgo : Mine.l0.l1.l2.l3.l4.l5.l6.l7.l8.l9.l10.l11.zP Dt rt nr (zx.n 2) (zx.n 3) (zx.n 4) (zx.n 5) (zx.n 6) (zx.n 7) h' := zcast Mine.l0.l1.l2.l3.l4.l5.l6.l7.l8.l9.l10.l11.zp (fun zf => zf Dt rt nr (zx.n 2) (zx.n 3) (zx.n 4) (zx.n 5) (zx.n 6) (zx.n 7) h') (zs.2 (by rw [← zp]; exact fun y0 y1 y2 y3 => l13.zall (zmk zw zk0 [y0, y3] [] [] [] [] [] [y1, y2] [] [] [] [] [] [] [] [] [])))
theorem zall : ∀ z : Zst, Mine.l0.l1.l2.l3.l4.l5.l6.l7.l8.l9.l10.l11.zP (z.n 0) (z.lv 0) (z.n 1) (z.n 2) (z.n 3) (z.n 4) (z.n 5) (z.n 6) (z.n 7) (z.h 0) := by refine @sk_all _ neZst _ ?_; with_unfolding_all exact zgo
end l0.l1.l2.l3.l4.l5.l6.l7.l8.l9.l10.l11.l12
namespace l0.l1.l2.l3.l4.l5.l6.l7.l8.l9.l10.l11
theorem zgo : Mine.l0.l1.l2.l3.l4.l5.l6.l7.l8.l9.l10.zP Dh rh nh h' tk' := zcast Mine.l0.l1.l2.l3.l4.l5.l6.l7.l8.l9.l10.zp (fun zf => zf Dh rh nh h' tk') (zs.2 (by rw [← zp]; exact fun y0 y1 y2 y3 y4 y5 y6 y7 y8 y9 => l12.zall (zmk zw zk0 [y0, y2, y3, y4, y5, y6, y7, y8] [] [] [] [] [] [y9] [] [y1] [] [] [] [] [] [] [])))
theorem zall : ∀ z : Zst, Mine.l0.l1.l2.l3.l4.l5.l6.l7.l8.l9.l10.zP (z.n 0) (z.lv 0) (z.n 1) (z.h 0) (z.n 2) := by refine @sk_all _ neZst _ ?_; with_unfolding_all exact zgo
end l0.l1.l2.l3.l4.l5.l6.l7.l8.l9.l10.l11
namespace l0.l1.l2.l3.l4.l5.l6.l7.l8.l9.l10
theorem zgo : Mine.l0.l1.l2.l3.l4.l5.l6.l7.l8.l9.zP (zx.n 0) bk c4 (zx.n 3) h' := zcast Mine.l0.l1.l2.l3.l4.l5.l6.l7.l8.l9.zp (fun zf => zf (zx.n 0) bk c4 (zx.n 3) h') (zs.2 (by rw [← zp]; exact fun y0 y1 y2 y3 y4 => l11.zall (zmk zw zk0 [y0, y2, y4] [] [] [] [] [] [y3] [] [y1] [] [] [] [] [] [] [])))
theorem zall : ∀ z : Zst, Mine.l0.l1.l2.l3.l4.l5.l6.l7.l8.l9.zP (z.n 0) (z.n 1) (z.n 2) (z.n 3) (z.h 0) := by refine @sk_all _ neZst _ ?_; with_unfolding_all exact zgo
end l0.l1.l2.l3.l4.l5.l6.l7.l8.l9.l10
namespace l0.l1.l2.l3.l4.l5.l6.l7.l8.l9
theorem zgo : Mine.l0.l1.l2.l3.l4.l5.l6.l7.l8.zP bo c2 (zx.h 0) bs c3 h' := zcast Mine.l0.l1.l2.l3.l4.l5.l6.l7.l8.zp (fun zf => zf bo c2 (zx.h 0) bs c3 h') (zs.2 (by rw [← zp]; exact fun y0 y1 y2 y3 y4 => l10.zall (zmk zw zk0 [y0, y1, y2, y3] [] [] [] [] [] [y4] [] [] [] [] [] [] [] [] [])))
theorem zall : ∀ z : Zst, Mine.l0.l1.l2.l3.l4.l5.l6.l7.l8.zP (z.n 0) (z.n 1) (z.h 0) (z.n 2) (z.n 3) (z.h 1) := by refine @sk_all _ neZst _ ?_; with_unfolding_all exact zgo
end l0.l1.l2.l3.l4.l5.l6.l7.l8.l9
namespace l0.l1.l2.l3.l4.l5.l6.l7.l8
theorem zgo : Mine.l0.l1.l2.l3.l4.l5.l6.l7.zP (zx.n 0) (zx.h 0) (zx.n 1) bw c1 h' := zcast Mine.l0.l1.l2.l3.l4.l5.l6.l7.zp (fun zf => zf (zx.n 0) (zx.h 0) (zx.n 1) bw c1 h') (zs.2 (by rw [← zp]; exact fun y0 y1 y2 y3 y4 y5 => l9.zall (zmk zw zk0 [y0, y1, y3, y4] [] [] [] [] [] [y2, y5] [] [] [] [] [] [] [] [] [])))
theorem zall : ∀ z : Zst, Mine.l0.l1.l2.l3.l4.l5.l6.l7.zP (z.n 0) (z.h 0) (z.n 1) (z.n 2) (z.n 3) (z.h 1) := by refine @sk_all _ neZst _ ?_; with_unfolding_all exact zgo
end l0.l1.l2.l3.l4.l5.l6.l7.l8
namespace l0.l1.l2.l3.l4.l5.l6.l7
theorem zgo : Mine.l0.l1.l2.l3.l4.l5.l6.zP ax ad (zx.n 2) (zx.n 3) (zx.n 4) (zx.n 5) e1 e2 e3 e4 e5 e6 e7 en h' tk' := zcast Mine.l0.l1.l2.l3.l4.l5.l6.zp (fun zf => zf ax ad (zx.n 2) (zx.n 3) (zx.n 4) (zx.n 5) e1 e2 e3 e4 e5 e6 e7 en h' tk') (zs.2 (by rw [← zp]; exact fun y0 y1 y2 y3 y4 y5 => l8.zall (zmk zw zk0 [y0, y2, y3, y4] [] [] [] [] [] [y1, y5] [] [] [] [] [] [] [] [] [])))
theorem zall : ∀ z : Zst, Mine.l0.l1.l2.l3.l4.l5.l6.zP (z.n 0) (z.n 1) (z.n 2) (z.n 3) (z.n 4) (z.n 5) (z.n 6) (z.n 7) (z.n 8) (z.n 9) (z.n 10) (z.n 11) (z.n 12) (z.n 13) (z.h 0) (z.n 14) := by refine @sk_all _ neZst _ ?_; with_unfolding_all exact zgo
end l0.l1.l2.l3.l4.l5.l6.l7
namespace l0.l1.l2.l3.l4.l5.l6
theorem zgo : Mine.l0.l1.l2.l3.l4.l5.zP h' tk' dw ow lw lo ls lt nw no ns nt dv sv uw uo us uk st wb tkI done (zx.1.i 0) (zx.1.n 10) o3 uf3 (zx.1.li 0) nn3 := zcast Mine.l0.l1.l2.l3.l4.l5.zp (fun zf => zf h' tk' dw ow lw lo ls lt nw no ns nt dv sv uw uo us uk st wb tkI done (zx.1.i 0) (zx.1.n 10) o3 uf3 (zx.1.li 0) nn3) (zs.2 (by rw [← zp]; exact fun y0 y1 y2 y3 y4 y5 y6 y7 y8 y9 y10 y11 y12 y13 y14 y15 => l7.zall (zmk zw zk0 [y0, y1, y2, y3, y4, y5, y6, y7, y8, y9, y10, y11, y12, y13, y15] [] [] [] [] [] [y14] [] [] [] [] [] [] [] [] [])))
theorem zall : ∀ z : Zst × St × (List Item), Mine.l0.l1.l2.l3.l4.l5.zP (z.1.h 0) (z.1.n 0) (z.1.n 1) (z.1.o 0) (z.1.n 2) (z.1.n 3) (z.1.n 4) (z.1.n 5) (z.1.n 6) (z.1.n 7) (z.1.n 8) (z.1.n 9) (z.1.v 0) (z.1.v 1) (z.1.lv 0) (z.1.lv 1) (z.1.lv 2) (z.1.lv 3) (z.2.1) (z.1.ll 0) (z.2.2) (z.1.b 0) (z.1.i 0) (z.1.n 10) (z.1.o 1) (z.1.lv 4) (z.1.li 0) (z.1.n 11) := by refine @sk_all _ ⟨(Classical.choice neZst, ⟨[], [], [], none, none⟩, default)⟩ _ ?_; with_unfolding_all exact zgo
end l0.l1.l2.l3.l4.l5.l6
namespace l0.l1.l2.l3.l4.l5
theorem zgo : Mine.l0.l1.l2.l3.l4.zP (zx.n 0) (zx.n 1) (zx.n 2) (zx.n 3) (zx.h 0) li := zcast Mine.l0.l1.l2.l3.l4.zp (fun zf => zf (zx.n 0) (zx.n 1) (zx.n 2) (zx.n 3) (zx.h 0) li) (zs.2 (by rw [← zp]; exact fun y0 y1 y2 y3 y4 y5 y6 y7 y8 y9 y10 y11 y12 y13 y14 y15 y16 y17 y18 y19 y20 y21 y22 y23 y24 y25 y26 y27 => l6.zall ((zmk zw zk0 [y1, y2, y4, y5, y6, y7, y8, y9, y10, y11, y23, y27] [y22] [y21] [] [y12, y13] [y3, y24] [y0] [] [y14, y15, y16, y17, y25] [] [y19] [y26] [] [] [] []), y18, y20)))
theorem zall : ∀ z : Zst, Mine.l0.l1.l2.l3.l4.zP (z.n 0) (z.n 1) (z.n 2) (z.n 3) (z.h 0) (z.n 4) := by refine @sk_all _ neZst _ ?_; with_unfolding_all exact zgo
end l0.l1.l2.l3.l4.l5
namespace l0.l1.l2.l3.l4
theorem zgo : Mine.l0.l1.l2.l3.zP (zx.n 0) (zx.h 0) (zx.n 1) (zx.h 1) h' (zx.n 2) (zx.n 3) := zcast Mine.l0.l1.l2.l3.zp (fun zf => zf (zx.n 0) (zx.h 0) (zx.n 1) (zx.h 1) h' (zx.n 2) (zx.n 3)) (zs.2 (by rw [← zp]; exact fun y0 y1 y2 y3 y4 y5 => l5.zall (zmk zw zk0 [y0, y1, y2, y3, y5] [] [] [] [] [] [y4] [] [] [] [] [] [] [] [] [])))
theorem zall : ∀ z : Zst, Mine.l0.l1.l2.l3.zP (z.n 0) (z.h 0) (z.n 1) (z.h 1) (z.h 2) (z.n 2) (z.n 3) := by refine @sk_all _ neZst _ ?_; with_unfolding_all exact zgo
end l0.l1.l2.l3.l4
namespace l0.l1.l2.l3
theorem zgo : Mine.l0.l1.l2.zP (zx.h 0) (zx.n 0) (zx.n 1) (zx.h 1) (zx.n 2) (zx.h 2) h' t' k' := zcast Mine.l0.l1.l2.zp (fun zf => zf (zx.h 0) (zx.n 0) (zx.n 1) (zx.h 1) (zx.n 2) (zx.h 2) h' t' k') (zs.2 (by rw [← zp]; exact fun y0 y1 y2 y3 y4 y5 y6 => l4.zall (zmk zw zk0 [y0, y2, y5, y6] [] [] [] [] [] [y1, y3, y4] [] [] [] [] [] [] [] [] [])))
theorem zall : ∀ z : Zst, Mine.l0.l1.l2.zP (z.h 0) (z.n 0) (z.n 1) (z.h 1) (z.n 2) (z.h 2) (z.h 3) (z.n 3) (z.n 4) := by refine @sk_all _ neZst _ ?_; with_unfolding_all exact zgo
end l0.l1.l2.l3
namespace l0.l1.l2
theorem zgo : Mine.l0.l1.zP d lf (zx.h 0) (zx.n 2) h' tk' r (zx.n 4) mx2 tm2 o2 uf2 ms2 nn2 k := zcast Mine.l0.l1.zp (fun zf => zf d lf (zx.h 0) (zx.n 2) h' tk' r (zx.n 4) mx2 tm2 o2 uf2 ms2 nn2 k) (zs.2 (by rw [← zp]; exact fun y0 y1 y2 y3 y4 y5 y6 y7 y8 => l3.zall (zmk zw zk0 [y1, y2, y4, y7, y8] [] [] [] [] [] [y0, y3, y5, y6] [] [] [] [] [] [] [] [] [])))
theorem zall : ∀ z : Zst, Mine.l0.l1.zP (z.n 0) (z.n 1) (z.h 0) (z.n 2) (z.h 1) (z.n 3) (z.i 0) (z.n 4) (z.i 1) (z.n 5) (z.o 0) (z.lv 0) (z.li 0) (z.n 6) (z.n 7) := by refine @sk_all _ neZst _ ?_; with_unfolding_all exact zgo
end l0.l1.l2
namespace l0.l1
theorem zgo : Mine.l0.zP w (zx.2.1) s1 (zx.1.m 0) (zx.1.m 1) (zx.1.n 0) (zx.1.n 1) (zx.1.li 0) (zx.1.n 2) (zx.1.lv 0) h1 := zcast Mine.l0.zp (fun zf => zf w (zx.2.1) s1 (zx.1.m 0) (zx.1.m 1) (zx.1.n 0) (zx.1.n 1) (zx.1.li 0) (zx.1.n 2) (zx.1.lv 0) h1) (zs.2 (by rw [← zp]; exact fun y0 y1 y2 y3 y4 y5 y6 y7 y8 y9 y10 y11 y12 y13 y14 => l2.zall (zmk zw zk0 [y0, y1, y3, y5, y7, y9, y13, y14] [y6, y8] [] [] [] [y10] [y2, y4] [] [y11] [] [] [y12] [] [] [] [])))
theorem zall : ∀ z : Zst × Shared × Shared, Mine.l0.zP (z.1.w) (z.2.1) (z.2.2) (z.1.m 0) (z.1.m 1) (z.1.n 0) (z.1.n 1) (z.1.li 0) (z.1.n 2) (z.1.lv 0) (z.1.h 0) := by refine @sk_all _ ⟨(Classical.choice neZst, {}, {})⟩ _ ?_; with_unfolding_all exact zgo
end l0.l1
namespace l0
theorem zgo : PySem.Challenge.rw_pb0108_01.Holds := zs.2 (by rw [← zp]; exact fun y0 y1 y2 y3 y4 y5 y6 y7 y8 y9 y10 => l1.zall ((zmk y0 zk0 [y5, y6, y8] [] [] [] [] [] [y10] [] [y9] [] [] [y7] [] [] [] [y3, y4]), y1, y2))
end l0
theorem law_walk : PySem.Challenge.rw_pb0108_01.Holds := l0.zgo
end sRr
theorem fl61 : True := by first | walk1 | trivial

end Mine
theorem PySem.Challenge.cw_pb0108_01_holds : PySem.Challenge.rw_pb0108_01.Holds :=
  Mine.law_walk
