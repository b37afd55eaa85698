import PyProof.Rows.All
import Wide.All
import OpenK.AllK
import Wide.FinOn
import HandS.ForMost
import HandS.Defaults
import HandS.HeadHook1
import HandS.HeadHook2
import KE.KStateDown
import HandS.Head0
import HandS.Head1
import HandS.Head2
import HandS.Head3
import HandS.HeadEnd
import HandS.EndBits
import HandS.Codes
import HandS.IsInst
import HandS.Gcd
import HandS.Wide
import HandS.TupAny
import HandS.Style
import HandS.Conv
import HandS.OwnEq
import PyProof.InstNe
import PyProof.NeKinds
import KE.KRevSl
import PySem.Challenge.RW_metricparts_k46_whole_papers_of_trees
set_option Elab.async false
set_option linter.all false
set_option maxRecDepth 100000
set_option maxHeartbeats 0
set_option hygiene false
local macro_rules | `(tactic| walk_at "mpR") => `(tactic| (repeat (first
        | ((with_reducible apply ev_isiT2' M); (case h1 => decide); (case h2 => decide))
        | with_reducible apply gs_seq
        | with_reducible apply gs_if
        | with_reducible apply gs_set
        | with_reducible apply gs_ret
        | with_reducible apply gs_next
        | with_reducible apply gs_asg
        | with_reducible apply gs_app
        | with_reducible apply gs_ext
        | ((with_reducible apply ev_var); rfl)
        | with_reducible apply ev_int
        | with_reducible apply ev_bl
        | with_reducible apply ev_str
        | with_reducible apply ev_non
        | with_reducible apply ev_raw
        | with_reducible apply ev_op
        | with_reducible apply ev_un
        | with_reducible apply ev_andV
        | with_reducible apply ev_orV
        | with_reducible apply ev_notV
        | with_reducible apply ev_if
        | with_reducible apply ev_chain
        | with_reducible apply ev_tup0
        | with_reducible apply ev_tup1
        | with_reducible apply ev_tup2
        | with_reducible apply ev_tup3
        | with_reducible apply ev_tup4
        | with_reducible apply ev_tup5
        | with_reducible apply ev_cb
        | with_reducible apply ev_sl
        | with_reducible apply ev_revT
        | with_reducible apply et_test
        | with_reducible apply et_B
        | with_reducible apply et_and
        | with_reducible apply et_or
        | with_reducible apply et_not
        | with_reducible apply et_yes
        | with_reducible apply ea_nil
        | with_reducible apply ea_cons
        | with_reducible apply eo_none
        | with_reducible apply eo_some
        | with_reducible apply ro_I0
        | with_reducible apply ro_B0
        | with_reducible apply ro_eqI
        | with_reducible apply ro_neI
        | with_reducible apply ro_addI
        | with_reducible apply ro_subI
        | with_reducible apply ro_eqII
        | with_reducible apply ro_neII
        | with_reducible apply ro_eqBB
        | with_reducible apply ro_neBB
        | with_reducible apply ro_ltI
        | with_reducible apply ro_eqRR
        | with_reducible apply ro_neRR
        | with_reducible apply ro_isB
        | with_reducible apply ro_notB
        | with_reducible apply rc_abs
        | with_reducible apply rc_int
        | with_reducible apply rc_intB
        | with_reducible apply rc_gcd
        | with_reducible apply rc_min2
        | with_reducible apply rc_lenT
        | with_reducible apply rc_lenS
        | with_reducible apply rc_lenLst
        | with_reducible apply rc_tupleD
        | with_reducible apply ggs_nil
        | with_reducible apply ggs_cons
        | with_reducible apply gg_name
        | with_reducible apply gg_tup2
        | with_reducible apply gg_tup3
        | with_reducible apply gg_tup4
        | with_reducible apply ev_din
        | with_reducible apply ev_dnin
        | with_reducible apply ev_dget
        | with_reducible apply ev_callP
        | with_reducible apply ev_callPn
        | with_reducible apply gs_forN1
        | with_reducible apply gs_forN2
        | with_reducible apply gs_forT
        | with_reducible apply gs_forL
        | ((with_reducible apply rc_isT' M); (case ht => decide); (case ho => first | trivial | assumption))
        | ((with_reducible apply rc_isR M); (case ho => first | trivial | assumption))
        | with_reducible apply ev_isz
        | with_reducible apply ev_sgn
        | with_reducible apply ev_rabs
        | with_reducible apply ev_rhalf
        | ((with_reducible apply ro_addR); (case hp => first | assumption | exact w1 (by assumption) (by assumption) | exact w2 (by assumption) (by assumption) (by assumption) (by assumption) | exact w3 (by assumption) (by assumption) (by assumption) (by assumption) (by assumption) (by assumption) | exact w4 (by assumption) (by assumption)); (case hq => first | assumption | exact w1 (by assumption) (by assumption) | exact w2 (by assumption) (by assumption) (by assumption) (by assumption) | exact w3 (by assumption) (by assumption) (by assumption) (by assumption) (by assumption) (by assumption) | exact w4 (by assumption) (by assumption)))
        | ((with_reducible apply ro_subR); (case hp => first | assumption | exact w1 (by assumption) (by assumption) | exact w2 (by assumption) (by assumption) (by assumption) (by assumption) | exact w3 (by assumption) (by assumption) (by assumption) (by assumption) (by assumption) (by assumption) | exact w4 (by assumption) (by assumption)); (case hq => first | assumption | exact w1 (by assumption) (by assumption) | exact w2 (by assumption) (by assumption) (by assumption) (by assumption) | exact w3 (by assumption) (by assumption) (by assumption) (by assumption) (by assumption) (by assumption) | exact w4 (by assumption) (by assumption)))
        | with_reducible refine And.intro (by first | assumption | exact w1 (by assumption) (by assumption) | exact w2 (by assumption) (by assumption) (by assumption) (by assumption) | exact w3 (by assumption) (by assumption) (by assumption) (by assumption) (by assumption) (by assumption) | exact w4 (by assumption) (by assumption)) ?_
        | ((with_reducible apply ro_I); (case hc => assumption))
        | with_reducible apply ev_rn M
        | with_reducible apply ev_rd M
        | ((with_reducible apply ro_row); (case h => assumption))
        | ((with_reducible apply ro_cell); (case h => assumption))
        | ((with_reducible apply ro_ixT); (case h => first | exact rfl | exact atI_nat (n := 0) rfl))
        | ((with_reducible apply ro_ixL); (case h => first | exact rfl | exact atI_nat (n := 0) rfl))
        | with_reducible refine Exists.intro _ (Or.inl (And.intro rfl ?_))
        | with_reducible refine Exists.intro _ (Or.inr (And.intro (Or.inl rfl) ?_))
        | with_reducible refine Exists.intro _ (Exists.intro _ (And.intro rfl (And.intro mput_same ?_)))
        | with_reducible refine Exists.intro _ (And.intro mput_same ?_)
        | with_reducible refine Exists.intro _ (Exists.intro _ (And.intro mput_same (And.intro (Or.inr (Exists.intro _ (And.intro rfl rfl))) ?_)))
        | with_reducible refine Exists.intro _ (Exists.intro _ (Exists.intro _ (And.intro rfl (And.intro rfl (And.intro mput_same ?_)))))
        | with_reducible apply nx_go
        | with_reducible refine Exists.intro _ (And.intro rfl ?_))))
local macro_rules | `(tactic| walk_at "mpM") => `(tactic| (repeat (first
        | ((with_reducible apply ev_isiT2' M); (case h1 => decide); (case h2 => decide))
        | with_reducible apply gs_seq
        | with_reducible apply gs_if
        | with_reducible apply gs_set
        | with_reducible apply gs_ret
        | with_reducible apply gs_next
        | with_reducible apply gs_asg
        | with_reducible apply gs_app
        | with_reducible apply gs_ext
        | ((with_reducible apply ev_var); rfl)
        | with_reducible apply ev_int
        | with_reducible apply ev_bl
        | with_reducible apply ev_str
        | with_reducible apply ev_non
        | with_reducible apply ev_raw
        | with_reducible apply ev_op
        | with_reducible apply ev_un
        | with_reducible apply ev_andV
        | with_reducible apply ev_orV
        | with_reducible apply ev_notV
        | with_reducible apply ev_if
        | with_reducible apply ev_chain
        | with_reducible apply ev_tup0
        | with_reducible apply ev_tup1
        | with_reducible apply ev_tup2
        | with_reducible apply ev_tup3
        | with_reducible apply ev_tup4
        | with_reducible apply ev_tup5
        | with_reducible apply ev_cb
        | with_reducible apply ev_sl
        | with_reducible apply ev_revT
        | with_reducible apply et_test
        | with_reducible apply et_B
        | with_reducible apply et_and
        | with_reducible apply et_or
        | with_reducible apply et_not
        | with_reducible apply et_yes
        | with_reducible apply ea_nil
        | with_reducible apply ea_cons
        | with_reducible apply eo_none
        | with_reducible apply eo_some
        | with_reducible apply ro_I0
        | with_reducible apply ro_B0
        | with_reducible apply ro_eqI
        | with_reducible apply ro_neI
        | with_reducible apply ro_addI
        | with_reducible apply ro_subI
        | with_reducible apply ro_eqII
        | with_reducible apply ro_neII
        | with_reducible apply ro_eqBB
        | with_reducible apply ro_neBB
        | with_reducible apply ro_ltI
        | with_reducible apply ro_eqRR
        | with_reducible apply ro_neRR
        | with_reducible apply ro_isB
        | with_reducible apply ro_notB
        | with_reducible apply rc_abs
        | with_reducible apply rc_int
        | with_reducible apply rc_intB
        | with_reducible apply rc_gcd
        | with_reducible apply rc_min2
        | with_reducible apply rc_lenT
        | with_reducible apply rc_lenS
        | with_reducible apply rc_lenLst
        | with_reducible apply rc_tupleD
        | with_reducible apply ggs_nil
        | with_reducible apply ggs_cons
        | with_reducible apply gg_name
        | with_reducible apply gg_tup2
        | with_reducible apply gg_tup3
        | with_reducible apply gg_tup4
        | with_reducible apply ev_din
        | with_reducible apply ev_dnin
        | with_reducible apply ev_dget
        | with_reducible apply ev_callP
        | with_reducible apply ev_callPn
        | with_reducible apply gs_forN1
        | with_reducible apply gs_forN2
        | with_reducible apply gs_forT
        | with_reducible apply gs_forL
        | ((with_reducible apply rc_isT' M); (case ht => decide); (case ho => first | trivial | assumption))
        | ((with_reducible apply rc_isR M); (case ho => first | trivial | assumption))
        | with_reducible apply ev_isz
        | with_reducible apply ev_sgn
        | with_reducible apply ev_rabs
        | with_reducible apply ev_rhalf
        | ((with_reducible apply ro_addR); (case hp => first | assumption | exact w1 (by assumption) (by assumption) | exact w2 (by assumption) (by assumption) (by assumption) (by assumption) | exact w3 (by assumption) (by assumption) (by assumption) (by assumption) (by assumption) (by assumption) | exact w4 (by assumption) (by assumption)); (case hq => first | assumption | exact w1 (by assumption) (by assumption) | exact w2 (by assumption) (by assumption) (by assumption) (by assumption) | exact w3 (by assumption) (by assumption) (by assumption) (by assumption) (by assumption) (by assumption) | exact w4 (by assumption) (by assumption)))
        | ((with_reducible apply ro_subR); (case hp => first | assumption | exact w1 (by assumption) (by assumption) | exact w2 (by assumption) (by assumption) (by assumption) (by assumption) | exact w3 (by assumption) (by assumption) (by assumption) (by assumption) (by assumption) (by assumption) | exact w4 (by assumption) (by assumption)); (case hq => first | assumption | exact w1 (by assumption) (by assumption) | exact w2 (by assumption) (by assumption) (by assumption) (by assumption) | exact w3 (by assumption) (by assumption) (by assumption) (by assumption) (by assumption) (by assumption) | exact w4 (by assumption) (by assumption)))
        | with_reducible refine And.intro (by first | assumption | exact w1 (by assumption) (by assumption) | exact w2 (by assumption) (by assumption) (by assumption) (by assumption) | exact w3 (by assumption) (by assumption) (by assumption) (by assumption) (by assumption) (by assumption) | exact w4 (by assumption) (by assumption)) ?_
        | ((with_reducible apply ro_I); (case hc => assumption))
        | with_reducible apply ev_mn M
        | with_reducible apply ev_mrows M
        | with_reducible apply ev_dist
        | with_reducible refine And.intro (by assumption) (And.intro (by assumption) ?_)
        | with_reducible refine Exists.intro _ (Exists.intro _ (And.intro rfl ?_))
        | ((with_reducible apply ro_row); (case h => assumption))
        | ((with_reducible apply ro_cell); (case h => assumption))
        | ((with_reducible apply ro_ixT); (case h => first | exact rfl | exact atI_nat (n := 0) rfl))
        | ((with_reducible apply ro_ixL); (case h => first | exact rfl | exact atI_nat (n := 0) rfl))
        | with_reducible refine Exists.intro _ (Or.inl (And.intro rfl ?_))
        | with_reducible refine Exists.intro _ (Or.inr (And.intro (Or.inl rfl) ?_))
        | with_reducible refine Exists.intro _ (Exists.intro _ (And.intro rfl (And.intro mput_same ?_)))
        | with_reducible refine Exists.intro _ (And.intro mput_same ?_)
        | with_reducible refine Exists.intro _ (Exists.intro _ (And.intro mput_same (And.intro (Or.inr (Exists.intro _ (And.intro rfl rfl))) ?_)))
        | with_reducible refine Exists.intro _ (Exists.intro _ (Exists.intro _ (And.intro rfl (And.intro rfl (And.intro mput_same ?_)))))
        | with_reducible apply nx_go
        | with_reducible refine Exists.intro _ (And.intro rfl ?_))))
local macro_rules | `(tactic| walk_at "mp1") => `(tactic| (repeat (first
        | ((with_reducible apply ev_isiT2' M); (case h1 => decide); (case h2 => decide))
        | with_reducible apply gs_seq
        | with_reducible apply gs_set
        | with_reducible apply gs_ret
        | with_reducible apply gs_next
        | with_reducible apply gs_asg
        | with_reducible apply gs_app
        | with_reducible apply gs_ext
        | ((with_reducible apply ev_var); rfl)
        | with_reducible apply ev_int
        | with_reducible apply ev_bl
        | with_reducible apply ev_str
        | with_reducible apply ev_non
        | with_reducible apply ev_raw
        | with_reducible apply ev_op
        | with_reducible apply ev_un
        | with_reducible apply ev_andV
        | with_reducible apply ev_orV
        | with_reducible apply ev_notV
        | with_reducible apply ev_if
        | with_reducible apply ev_chain
        | with_reducible apply ev_tup0
        | with_reducible apply ev_tup1
        | with_reducible apply ev_tup2
        | with_reducible apply ev_tup3
        | with_reducible apply ev_tup4
        | with_reducible apply ev_tup5
        | with_reducible apply ev_cb
        | with_reducible apply ev_sl
        | with_reducible apply ev_revT
        | with_reducible apply et_test
        | with_reducible apply et_B
        | with_reducible apply et_and
        | with_reducible apply et_or
        | with_reducible apply et_not
        | with_reducible apply et_yes
        | with_reducible apply ea_nil
        | with_reducible apply ea_cons
        | with_reducible apply eo_none
        | with_reducible apply eo_some
        | with_reducible apply ro_I0
        | with_reducible apply ro_B0
        | with_reducible apply ro_eqI
        | with_reducible apply ro_neI
        | with_reducible apply ro_addI
        | with_reducible apply ro_subI
        | with_reducible apply ro_eqII
        | with_reducible apply ro_neII
        | with_reducible apply ro_eqBB
        | with_reducible apply ro_neBB
        | with_reducible apply ro_ltI
        | with_reducible apply ro_eqRR
        | with_reducible apply ro_neRR
        | with_reducible apply ro_isB
        | with_reducible apply ro_notB
        | with_reducible apply rc_abs
        | with_reducible apply rc_int
        | with_reducible apply rc_intB
        | with_reducible apply rc_gcd
        | with_reducible apply rc_min2
        | with_reducible apply rc_lenT
        | with_reducible apply rc_lenS
        | with_reducible apply rc_lenLst
        | with_reducible apply rc_tupleD
        | with_reducible apply ggs_nil
        | with_reducible apply ggs_cons
        | with_reducible apply gg_name
        | with_reducible apply gg_tup2
        | with_reducible apply gg_tup3
        | with_reducible apply gg_tup4
        | with_reducible apply ev_din
        | with_reducible apply ev_dnin
        | with_reducible apply ev_dget
        | with_reducible apply ev_callP
        | with_reducible apply ev_callPn
        | with_reducible apply gs_forN1
        | with_reducible apply gs_forN2
        | with_reducible apply gs_forT
        | with_reducible apply gs_forL
        | ((with_reducible apply rc_isT' M); (case ht => decide); (case ho => first | trivial | assumption))
        | ((with_reducible apply rc_isR M); (case ho => first | trivial | assumption))
        | with_reducible apply ev_isz
        | with_reducible apply ev_sgn
        | with_reducible apply ev_rabs
        | with_reducible apply ev_rhalf
        | ((with_reducible apply ro_addR); (case hp => first | assumption | exact w1 (by assumption) (by assumption) | exact w2 (by assumption) (by assumption) (by assumption) (by assumption) | exact w3 (by assumption) (by assumption) (by assumption) (by assumption) (by assumption) (by assumption) | exact w4 (by assumption) (by assumption)); (case hq => first | assumption | exact w1 (by assumption) (by assumption) | exact w2 (by assumption) (by assumption) (by assumption) (by assumption) | exact w3 (by assumption) (by assumption) (by assumption) (by assumption) (by assumption) (by assumption) | exact w4 (by assumption) (by assumption)))
        | ((with_reducible apply ro_subR); (case hp => first | assumption | exact w1 (by assumption) (by assumption) | exact w2 (by assumption) (by assumption) (by assumption) (by assumption) | exact w3 (by assumption) (by assumption) (by assumption) (by assumption) (by assumption) (by assumption) | exact w4 (by assumption) (by assumption)); (case hq => first | assumption | exact w1 (by assumption) (by assumption) | exact w2 (by assumption) (by assumption) (by assumption) (by assumption) | exact w3 (by assumption) (by assumption) (by assumption) (by assumption) (by assumption) (by assumption) | exact w4 (by assumption) (by assumption)))
        | with_reducible refine And.intro (by first | assumption | exact w1 (by assumption) (by assumption) | exact w2 (by assumption) (by assumption) (by assumption) (by assumption) | exact w3 (by assumption) (by assumption) (by assumption) (by assumption) (by assumption) (by assumption) | exact w4 (by assumption) (by assumption)) ?_
        | ((with_reducible apply ro_I); (case hc => assumption))
        | ((with_reducible apply ro_row); (case h => assumption))
        | ((with_reducible apply ro_cell); (case h => assumption))
        | ((with_reducible apply ro_ixT); (case h => first | exact rfl | exact atI_nat (n := 0) rfl))
        | ((with_reducible apply ro_ixL); (case h => first | exact rfl | exact atI_nat (n := 0) rfl))
        | with_reducible refine Exists.intro _ (Or.inl (And.intro rfl ?_))
        | with_reducible refine Exists.intro _ (Or.inr (And.intro (Or.inl rfl) ?_))
        | with_reducible refine Exists.intro _ (Exists.intro _ (And.intro rfl (And.intro mput_same ?_)))
        | with_reducible refine Exists.intro _ (And.intro mput_same ?_)
        | with_reducible refine Exists.intro _ (Exists.intro _ (And.intro mput_same (And.intro (Or.inr (Exists.intro _ (And.intro rfl rfl))) ?_)))
        | with_reducible refine Exists.intro _ (Exists.intro _ (Exists.intro _ (And.intro rfl (And.intro rfl (And.intro mput_same ?_)))))
        | with_reducible apply nx_go
        | with_reducible refine Exists.intro _ (And.intro rfl ?_))))
set_option hygiene true
/-! MPText -/
namespace MP
open PySem PySem.Spec PyProof.Rows L2
def top (i : Nat) : Stmt := PySem.Challenge.pw_metricparts_k46_whole_papers_of_trees.main.body.getD i (.Pass ⟨0, 0, 0, 0⟩)
abbrev s_is_integer : Stmt := top 8
abbrev s_Ratio_init : Stmt := inClass (top 9) 0
abbrev s_Ratio_eq : Stmt := inClass (top 9) 1
abbrev s_Ratio_add : Stmt := inClass (top 9) 2
abbrev s_Ratio_sub : Stmt := inClass (top 9) 3
abbrev s_Ratio_neg : Stmt := inClass (top 9) 5
abbrev s_Ratio_is_zero : Stmt := inClass (top 9) 7
abbrev s_Ratio_sign : Stmt := inClass (top 9) 8
abbrev s_Ratio_absolute : Stmt := inClass (top 9) 9
abbrev s_Ratio_half : Stmt := inClass (top 9) 11
abbrev s_less : Stmt := top 10
abbrev s_is_rational : Stmt := top 11
abbrev s_as_ratio : Stmt := top 12
abbrev s_greatest : Stmt := top 13
abbrev s_is_point : Stmt := top 15
abbrev s_are_points : Stmt := top 16
abbrev s_is_above : Stmt := top 17
abbrev s_is_edge : Stmt := top 18
abbrev s_ways : Stmt := top 19
abbrev s_shows_tree : Stmt := top 20
abbrev s_takes_tree : Stmt := top 21
abbrev s_taken_rows : Stmt := top 24
abbrev s_keeps_triangles : Stmt := top 25
abbrev s_is_apart : Stmt := top 26
abbrev s_Metric_init : Stmt := inClass (top 27) 0
abbrev s_Metric_distance : Stmt := inClass (top 27) 3
abbrev s_own_edge : Stmt := top 30
abbrev s_own_edges : Stmt := top 31
abbrev s_distances : Stmt := top 32
abbrev s_degree : Stmt := top 33
abbrev s_Tree_init : Stmt := inClass (top 34) 0
abbrev s_sums : Stmt := top 35
abbrev s_two_greatest_equal : Stmt := top 36
abbrev s_quadruples : Stmt := top 37
abbrev s_failing_quadruple : Stmt := top 38
abbrev s_is_tree_metric : Stmt := top 39
abbrev s_median : Stmt := top 40
abbrev s_places : Stmt := top 41
abbrev s_gap : Stmt := top 42
abbrev s_tree_of : Stmt := top 43
abbrev s_tree_paper : Stmt := top 45
abbrev s_Lstate : Stmt := top 47
abbrev s_Ltake : Stmt := top 48
abbrev s_Lorder_of : Stmt := top 49
abbrev s_Lshortest : Stmt := top 50
abbrev s_Lweb : Stmt := top 51
abbrev s_Lrenamed : Stmt := top 52
abbrev s_Lof_tree : Stmt := top 53
abbrev s_Lgrid : Stmt := top 54
abbrev s_Lband : Stmt := top 55
abbrev s_Llevels : Stmt := top 56
abbrev s_Lrows : Stmt := top 57
abbrev s_Lfactor : Stmt := top 58
abbrev s_Lratios : Stmt := top 59
abbrev s_Llow : Stmt := top 60
abbrev s_Lplus : Stmt := top 61
abbrev s_Lbelow : Stmt := top 62
abbrev s_Lseen : Stmt := top 63
abbrev s_Lare_points : Stmt := top 64
abbrev s_Ltable : Stmt := top 65
abbrev s_Lother : Stmt := top 66
abbrev s_Lbend : Stmt := top 67
abbrev s_Lways : Stmt := top 68
abbrev s_Ltree_holds : Stmt := top 69
abbrev s_Lfour : Stmt := top 70
abbrev s_Lleaves : Stmt := top 71
abbrev s_Lmany_edges : Stmt := top 72
abbrev s_Lno_length : Stmt := top 73
abbrev s_Llonger : Stmt := top 74
abbrev s_law : Stmt := top 75
def d_is_integer : He.DefD := ⟨("is_integer", none), "is_integer", "is_integer", defArgs s_is_integer, defBody s_is_integer, defScope s_is_integer, [], []⟩
def d_Ratio_init : He.DefD := ⟨("Ratio", some "__init__"), "__init__", "Ratio.__init__", defArgs s_Ratio_init, defBody s_Ratio_init, defScope s_Ratio_init, [.int 1], []⟩
def d_Ratio_eq : He.DefD := ⟨("Ratio", some "__eq__"), "__eq__", "Ratio.__eq__", defArgs s_Ratio_eq, defBody s_Ratio_eq, defScope s_Ratio_eq, [], []⟩
def d_Ratio_add : He.DefD := ⟨("Ratio", some "__add__"), "__add__", "Ratio.__add__", defArgs s_Ratio_add, defBody s_Ratio_add, defScope s_Ratio_add, [], []⟩
def d_Ratio_sub : He.DefD := ⟨("Ratio", some "__sub__"), "__sub__", "Ratio.__sub__", defArgs s_Ratio_sub, defBody s_Ratio_sub, defScope s_Ratio_sub, [], []⟩
def d_Ratio_neg : He.DefD := ⟨("Ratio", some "__neg__"), "__neg__", "Ratio.__neg__", defArgs s_Ratio_neg, defBody s_Ratio_neg, defScope s_Ratio_neg, [], []⟩
def d_Ratio_is_zero : He.DefD := ⟨("Ratio", some "is_zero"), "is_zero", "Ratio.is_zero", defArgs s_Ratio_is_zero, defBody s_Ratio_is_zero, defScope s_Ratio_is_zero, [], []⟩
def d_Ratio_sign : He.DefD := ⟨("Ratio", some "sign"), "sign", "Ratio.sign", defArgs s_Ratio_sign, defBody s_Ratio_sign, defScope s_Ratio_sign, [], []⟩
def d_Ratio_absolute : He.DefD := ⟨("Ratio", some "absolute"), "absolute", "Ratio.absolute", defArgs s_Ratio_absolute, defBody s_Ratio_absolute, defScope s_Ratio_absolute, [], []⟩
def d_Ratio_half : He.DefD := ⟨("Ratio", some "half"), "half", "Ratio.half", defArgs s_Ratio_half, defBody s_Ratio_half, defScope s_Ratio_half, [], []⟩
def d_less : He.DefD := ⟨("less", none), "less", "less", defArgs s_less, defBody s_less, defScope s_less, [], []⟩
def d_is_rational : He.DefD := ⟨("is_rational", none), "is_rational", "is_rational", defArgs s_is_rational, defBody s_is_rational, defScope s_is_rational, [], []⟩
def d_as_ratio : He.DefD := ⟨("as_ratio", none), "as_ratio", "as_ratio", defArgs s_as_ratio, defBody s_as_ratio, defScope s_as_ratio, [], []⟩
def d_greatest : He.DefD := ⟨("greatest", none), "greatest", "greatest", defArgs s_greatest, defBody s_greatest, defScope s_greatest, [], []⟩
def d_is_point : He.DefD := ⟨("is_point", none), "is_point", "is_point", defArgs s_is_point, defBody s_is_point, defScope s_is_point, [], []⟩
def d_are_points : He.DefD := ⟨("are_points", none), "are_points", "are_points", defArgs s_are_points, defBody s_are_points, defScope s_are_points, [], []⟩
def d_is_above : He.DefD := ⟨("is_above", none), "is_above", "is_above", defArgs s_is_above, defBody s_is_above, defScope s_is_above, [], []⟩
def d_is_edge : He.DefD := ⟨("is_edge", none), "is_edge", "is_edge", defArgs s_is_edge, defBody s_is_edge, defScope s_is_edge, [], []⟩
def d_ways : He.DefD := ⟨("ways", none), "ways", "ways", defArgs s_ways, defBody s_ways, defScope s_ways, [], []⟩
def d_shows_tree : He.DefD := ⟨("shows_tree", none), "shows_tree", "shows_tree", defArgs s_shows_tree, defBody s_shows_tree, defScope s_shows_tree, [], []⟩
def d_takes_tree : He.DefD := ⟨("takes_tree", none), "takes_tree", "takes_tree", defArgs s_takes_tree, defBody s_takes_tree, defScope s_takes_tree, [], []⟩
def d_taken_rows : He.DefD := ⟨("taken_rows", none), "taken_rows", "taken_rows", defArgs s_taken_rows, defBody s_taken_rows, defScope s_taken_rows, [], []⟩
def d_keeps_triangles : He.DefD := ⟨("keeps_triangles", none), "keeps_triangles", "keeps_triangles", defArgs s_keeps_triangles, defBody s_keeps_triangles, defScope s_keeps_triangles, [], []⟩
def d_is_apart : He.DefD := ⟨("is_apart", none), "is_apart", "is_apart", defArgs s_is_apart, defBody s_is_apart, defScope s_is_apart, [], []⟩
def d_Metric_init : He.DefD := ⟨("Metric", some "__init__"), "__init__", "Metric.__init__", defArgs s_Metric_init, defBody s_Metric_init, defScope s_Metric_init, [], []⟩
def d_Metric_distance : He.DefD := ⟨("Metric", some "distance"), "distance", "Metric.distance", defArgs s_Metric_distance, defBody s_Metric_distance, defScope s_Metric_distance, [], []⟩
def d_own_edge : He.DefD := ⟨("own_edge", none), "own_edge", "own_edge", defArgs s_own_edge, defBody s_own_edge, defScope s_own_edge, [], []⟩
def d_own_edges : He.DefD := ⟨("own_edges", none), "own_edges", "own_edges", defArgs s_own_edges, defBody s_own_edges, defScope s_own_edges, [], []⟩
def d_distances : He.DefD := ⟨("distances", none), "distances", "distances", defArgs s_distances, defBody s_distances, defScope s_distances, [], []⟩
def d_degree : He.DefD := ⟨("degree", none), "degree", "degree", defArgs s_degree, defBody s_degree, defScope s_degree, [], []⟩
def d_Tree_init : He.DefD := ⟨("Tree", some "__init__"), "__init__", "Tree.__init__", defArgs s_Tree_init, defBody s_Tree_init, defScope s_Tree_init, [], []⟩
def d_sums : He.DefD := ⟨("sums", none), "sums", "sums", defArgs s_sums, defBody s_sums, defScope s_sums, [], []⟩
def d_two_greatest_equal : He.DefD := ⟨("two_greatest_equal", none), "two_greatest_equal", "two_greatest_equal", defArgs s_two_greatest_equal, defBody s_two_greatest_equal, defScope s_two_greatest_equal, [], []⟩
def d_quadruples : He.DefD := ⟨("quadruples", none), "quadruples", "quadruples", defArgs s_quadruples, defBody s_quadruples, defScope s_quadruples, [], []⟩
def d_failing_quadruple : He.DefD := ⟨("failing_quadruple", none), "failing_quadruple", "failing_quadruple", defArgs s_failing_quadruple, defBody s_failing_quadruple, defScope s_failing_quadruple, [], []⟩
def d_is_tree_metric : He.DefD := ⟨("is_tree_metric", none), "is_tree_metric", "is_tree_metric", defArgs s_is_tree_metric, defBody s_is_tree_metric, defScope s_is_tree_metric, [], []⟩
def d_median : He.DefD := ⟨("median", none), "median", "median", defArgs s_median, defBody s_median, defScope s_median, [], []⟩
def d_places : He.DefD := ⟨("places", none), "places", "places", defArgs s_places, defBody s_places, defScope s_places, [], []⟩
def d_gap : He.DefD := ⟨("gap", none), "gap", "gap", defArgs s_gap, defBody s_gap, defScope s_gap, [], []⟩
def d_tree_of : He.DefD := ⟨("tree_of", none), "tree_of", "tree_of", defArgs s_tree_of, defBody s_tree_of, defScope s_tree_of, [], []⟩
def d_tree_paper : He.DefD := ⟨("tree_paper", none), "tree_paper", "tree_paper", defArgs s_tree_paper, defBody s_tree_paper, defScope s_tree_paper, [], []⟩
def d_Lstate : He.DefD := ⟨("_law_state", none), "_law_state", "_law_state", defArgs s_Lstate, defBody s_Lstate, defScope s_Lstate, [], []⟩
def d_Ltake : He.DefD := ⟨("_law_take", none), "_law_take", "_law_take", defArgs s_Ltake, defBody s_Ltake, defScope s_Ltake, [], []⟩
def d_Lorder_of : He.DefD := ⟨("_law_order_of", none), "_law_order_of", "_law_order_of", defArgs s_Lorder_of, defBody s_Lorder_of, defScope s_Lorder_of, [], []⟩
def d_Lshortest : He.DefD := ⟨("_law_shortest", none), "_law_shortest", "_law_shortest", defArgs s_Lshortest, defBody s_Lshortest, defScope s_Lshortest, [], []⟩
def d_Lweb : He.DefD := ⟨("_law_web", none), "_law_web", "_law_web", defArgs s_Lweb, defBody s_Lweb, defScope s_Lweb, [], []⟩
def d_Lrenamed : He.DefD := ⟨("_law_renamed", none), "_law_renamed", "_law_renamed", defArgs s_Lrenamed, defBody s_Lrenamed, defScope s_Lrenamed, [], []⟩
def d_Lof_tree : He.DefD := ⟨("_law_of_tree", none), "_law_of_tree", "_law_of_tree", defArgs s_Lof_tree, defBody s_Lof_tree, defScope s_Lof_tree, [], []⟩
def d_Lgrid : He.DefD := ⟨("_law_grid", none), "_law_grid", "_law_grid", defArgs s_Lgrid, defBody s_Lgrid, defScope s_Lgrid, [], []⟩
def d_Lband : He.DefD := ⟨("_law_band", none), "_law_band", "_law_band", defArgs s_Lband, defBody s_Lband, defScope s_Lband, [], []⟩
def d_Llevels : He.DefD := ⟨("_law_levels", none), "_law_levels", "_law_levels", defArgs s_Llevels, defBody s_Llevels, defScope s_Llevels, [], []⟩
def d_Lrows : He.DefD := ⟨("_law_rows", none), "_law_rows", "_law_rows", defArgs s_Lrows, defBody s_Lrows, defScope s_Lrows, [], []⟩
def d_Lfactor : He.DefD := ⟨("_law_factor", none), "_law_factor", "_law_factor", defArgs s_Lfactor, defBody s_Lfactor, defScope s_Lfactor, [], []⟩
def d_Lratios : He.DefD := ⟨("_law_ratios", none), "_law_ratios", "_law_ratios", defArgs s_Lratios, defBody s_Lratios, defScope s_Lratios, [], []⟩
def d_Llow : He.DefD := ⟨("_law_low", none), "_law_low", "_law_low", defArgs s_Llow, defBody s_Llow, defScope s_Llow, [], []⟩
def d_Lplus : He.DefD := ⟨("_law_plus", none), "_law_plus", "_law_plus", defArgs s_Lplus, defBody s_Lplus, defScope s_Lplus, [], []⟩
def d_Lbelow : He.DefD := ⟨("_law_below", none), "_law_below", "_law_below", defArgs s_Lbelow, defBody s_Lbelow, defScope s_Lbelow, [], []⟩
def d_Lseen : He.DefD := ⟨("_law_seen", none), "_law_seen", "_law_seen", defArgs s_Lseen, defBody s_Lseen, defScope s_Lseen, [], []⟩
def d_Lare_points : He.DefD := ⟨("_law_are_points", none), "_law_are_points", "_law_are_points", defArgs s_Lare_points, defBody s_Lare_points, defScope s_Lare_points, [], []⟩
def d_Ltable : He.DefD := ⟨("_law_table", none), "_law_table", "_law_table", defArgs s_Ltable, defBody s_Ltable, defScope s_Ltable, [], []⟩
def d_Lother : He.DefD := ⟨("_law_other", none), "_law_other", "_law_other", defArgs s_Lother, defBody s_Lother, defScope s_Lother, [], []⟩
def d_Lbend : He.DefD := ⟨("_law_bend", none), "_law_bend", "_law_bend", defArgs s_Lbend, defBody s_Lbend, defScope s_Lbend, [], []⟩
def d_Lways : He.DefD := ⟨("_law_ways", none), "_law_ways", "_law_ways", defArgs s_Lways, defBody s_Lways, defScope s_Lways, [], []⟩
def d_Ltree_holds : He.DefD := ⟨("_law_tree_holds", none), "_law_tree_holds", "_law_tree_holds", defArgs s_Ltree_holds, defBody s_Ltree_holds, defScope s_Ltree_holds, [], []⟩
def d_Lfour : He.DefD := ⟨("_law_four", none), "_law_four", "_law_four", defArgs s_Lfour, defBody s_Lfour, defScope s_Lfour, [], []⟩
def d_Lleaves : He.DefD := ⟨("_law_leaves", none), "_law_leaves", "_law_leaves", defArgs s_Lleaves, defBody s_Lleaves, defScope s_Lleaves, [], []⟩
def d_Lmany_edges : He.DefD := ⟨("_law_many_edges", none), "_law_many_edges", "_law_many_edges", defArgs s_Lmany_edges, defBody s_Lmany_edges, defScope s_Lmany_edges, [], []⟩
def d_Lno_length : He.DefD := ⟨("_law_no_length", none), "_law_no_length", "_law_no_length", defArgs s_Lno_length, defBody s_Lno_length, defScope s_Lno_length, [], []⟩
def d_Llonger : He.DefD := ⟨("_law_longer", none), "_law_longer", "_law_longer", defArgs s_Llonger, defBody s_Llonger, defScope s_Llonger, [], []⟩
def d_law : He.DefD := ⟨("law", none), "law", "law", defArgs s_law, defBody s_law, defScope s_law, [], []⟩
def fn : List He.DefD := [d_is_integer, d_Ratio_init, d_Ratio_eq, d_Ratio_add, d_Ratio_sub, d_Ratio_neg, d_Ratio_is_zero, d_Ratio_sign, d_Ratio_absolute, d_Ratio_half, d_less, d_is_rational, d_as_ratio, d_greatest, d_is_point, d_are_points, d_is_above, d_is_edge, d_ways, d_shows_tree, d_takes_tree, d_taken_rows, d_keeps_triangles, d_is_apart, d_Metric_init, d_Metric_distance, d_own_edge, d_own_edges, d_distances, d_degree, d_Tree_init, d_sums, d_two_greatest_equal, d_quadruples, d_failing_quadruple, d_is_tree_metric, d_median, d_places, d_gap, d_tree_of, d_tree_paper, d_Lstate, d_Ltake, d_Lorder_of, d_Lshortest, d_Lweb, d_Lrenamed, d_Lof_tree, d_Lgrid, d_Lband, d_Llevels, d_Lrows, d_Lfactor, d_Lratios, d_Llow, d_Lplus, d_Lbelow, d_Lseen, d_Lare_points, d_Ltable, d_Lother, d_Lbend, d_Lways, d_Ltree_holds, d_Lfour, d_Lleaves, d_Lmany_edges, d_Lno_length, d_Llonger, d_law]
def fa : List He.Fa := [.glo "is_integer",
  .glo "Ratio",
  .glo "less",
  .glo "is_rational",
  .glo "as_ratio",
  .glo "greatest",
  .glo "is_point",
  .glo "are_points",
  .glo "is_above",
  .glo "is_edge",
  .glo "ways",
  .glo "shows_tree",
  .glo "takes_tree",
  .glo "taken_rows",
  .glo "keeps_triangles",
  .glo "is_apart",
  .glo "Metric",
  .glo "own_edge",
  .glo "own_edges",
  .glo "distances",
  .glo "degree",
  .glo "Tree",
  .glo "sums",
  .glo "two_greatest_equal",
  .glo "quadruples",
  .glo "failing_quadruple",
  .glo "is_tree_metric",
  .glo "median",
  .glo "places",
  .glo "gap",
  .glo "tree_of",
  .glo "tree_paper",
  .glo "_law_state",
  .glo "_law_take",
  .glo "_law_order_of",
  .glo "_law_shortest",
  .glo "_law_web",
  .glo "_law_renamed",
  .glo "_law_of_tree",
  .glo "_law_grid",
  .glo "_law_band",
  .glo "_law_levels",
  .glo "_law_rows",
  .glo "_law_factor",
  .glo "_law_ratios",
  .glo "_law_low",
  .glo "_law_plus",
  .glo "_law_below",
  .glo "_law_seen",
  .glo "_law_are_points",
  .glo "_law_table",
  .glo "_law_other",
  .glo "_law_bend",
  .glo "_law_ways",
  .glo "_law_tree_holds",
  .glo "_law_four",
  .glo "_law_leaves",
  .glo "_law_many_edges",
  .glo "_law_no_length",
  .glo "_law_longer",
  .glo "law",
  .free "len",
  .free "range",
  .free "isinstance",
  .free "int",
  .free "bool",
  .free "tuple",
  .free "list",
  .free "abs",
  .free "min",
  .free "any",
  .int "MOST" 8,
  .int "MOST_POINTS" 8,
  .cls "Ratio",
  .noat "Ratio" "n",
  .noat "Ratio" "d",
  .mkr "Ratio",
  .cls "Metric",
  .noat "Metric" "n",
  .noat "Metric" "rows",
  .mkr "Metric",
  .cls "Tree",
  .noat "Tree" "n",
  .noat "Tree" "size",
  .noat "Tree" "edges",
  .noat "Tree" "_rows",
  .mkr "Tree",
  .meth "Ratio" "is_zero",
  .meth "Ratio" "sign",
  .meth "Ratio" "absolute",
  .meth "Ratio" "half",
  .meth "Ratio" "__eq__",
  .meth "Ratio" "__add__",
  .meth "Ratio" "__sub__",
  .meth "Ratio" "__neg__",
  .meth "Metric" "distance"]
def names0 : List PySem.Str := ["gcd", "_wall", "Fault", "Malformed", "ZeroDivisor", "Refused", "is_integer", "Ratio", "less", "is_rational", "as_ratio", "greatest", "is_point", "are_points", "is_above", "is_edge", "ways", "shows_tree", "takes_tree", "MOST", "taken_rows", "keeps_triangles", "is_apart", "Metric", "MOST_POINTS", "own_edge", "own_edges", "distances", "degree", "Tree"]
def names1 : List PySem.Str := ["sums", "two_greatest_equal", "quadruples", "failing_quadruple", "is_tree_metric", "median", "places", "gap", "tree_of", "tree_paper", "_law_state", "_law_take", "_law_order_of", "_law_shortest", "_law_web", "_law_renamed", "_law_of_tree", "_law_grid", "_law_band", "_law_levels", "_law_rows", "_law_factor", "_law_ratios", "_law_low", "_law_plus", "_law_below", "_law_seen", "_law_are_points", "_law_table", "_law_other"]
def names2 : List PySem.Str := ["_law_bend", "_law_ways", "_law_tree_holds", "_law_four", "_law_leaves", "_law_many_edges", "_law_no_length", "_law_longer"]
def names : List PySem.Str := names0 ++ names1 ++ names2
def lawAt : Nat := 75
/-- index: 0 .glo is_integer; 1 .glo Ratio; 2 .glo less; 3 .glo is_rational; 4 .glo as_ratio; 5 .glo greatest; 6 .glo is_point; 7 .glo are_points; 8 .glo is_above; 9 .glo is_edge; 10 .glo ways; 11 .glo shows_tree; 12 .glo takes_tree; 13 .glo taken_rows; 14 .glo keeps_triangles; 15 .glo is_apart; 16 .glo Metric; 17 .glo own_edge; 18 .glo own_edges; 19 .glo distances; 20 .glo degree; 21 .glo Tree; 22 .glo sums; 23 .glo two_greatest_equal; 24 .glo quadruples; 25 .glo failing_quadruple; 26 .glo is_tree_metric; 27 .glo median; 28 .glo places; 29 .glo gap; 30 .glo tree_of; 31 .glo tree_paper; 32 .glo _law_state; 33 .glo _law_take; 34 .glo _law_order_of; 35 .glo _law_shortest; 36 .glo _law_web; 37 .glo _law_renamed; 38 .glo _law_of_tree; 39 .glo _law_grid; 40 .glo _law_band; 41 .glo _law_levels; 42 .glo _law_rows; 43 .glo _law_factor; 44 .glo _law_ratios; 45 .glo _law_low; 46 .glo _law_plus; 47 .glo _law_below; 48 .glo _law_seen; 49 .glo _law_are_points; 50 .glo _law_table; 51 .glo _law_other; 52 .glo _law_bend; 53 .glo _law_ways; 54 .glo _law_tree_holds; 55 .glo _law_four; 56 .glo _law_leaves; 57 .glo _law_many_edges; 58 .glo _law_no_length; 59 .glo _law_longer; 60 .glo law; 61 .free len; 62 .free range; 63 .free isinstance; 64 .free int; 65 .free bool; 66 .free tuple; 67 .free list; 68 .free abs; 69 .free min; 70 .free any; 71 .int MOST 8; 72 .int MOST_POINTS 8; 73 .cls Ratio; 74 .noat Ratio n; 75 .noat Ratio d; 76 .mkr Ratio; 77 .cls Metric; 78 .noat Metric n; 79 .noat Metric rows; 80 .mkr Metric; 81 .cls Tree; 82 .noat Tree n; 83 .noat Tree size; 84 .noat Tree edges; 85 .noat Tree _rows; 86 .mkr Tree; 87 .meth Ratio is_zero; 88 .meth Ratio sign; 89 .meth Ratio absolute; 90 .meth Ratio half; 91 .meth Ratio __eq__; 92 .meth Ratio __add__; 93 .meth Ratio __sub__; 94 .meth Ratio __neg__; 95 .meth Metric distance -/
def factsNote : Unit := ()
/-- defs: 0 is_integer; 1 Ratio.__init__; 2 Ratio.__eq__; 3 Ratio.__add__; 4 Ratio.__sub__; 5 Ratio.__neg__; 6 Ratio.is_zero; 7 Ratio.sign; 8 Ratio.absolute; 9 Ratio.half; 10 less; 11 is_rational; 12 as_ratio; 13 greatest; 14 is_point; 15 are_points; 16 is_above; 17 is_edge; 18 ways; 19 shows_tree; 20 takes_tree; 21 taken_rows; 22 keeps_triangles; 23 is_apart; 24 Metric.__init__; 25 Metric.distance; 26 own_edge; 27 own_edges; 28 distances; 29 degree; 30 Tree.__init__; 31 sums; 32 two_greatest_equal; 33 quadruples; 34 failing_quadruple; 35 is_tree_metric; 36 median; 37 places; 38 gap; 39 tree_of; 40 tree_paper; 41 _law_state; 42 _law_take; 43 _law_order_of; 44 _law_shortest; 45 _law_web; 46 _law_renamed; 47 _law_of_tree; 48 _law_grid; 49 _law_band; 50 _law_levels; 51 _law_rows; 52 _law_factor; 53 _law_ratios; 54 _law_low; 55 _law_plus; 56 _law_below; 57 _law_seen; 58 _law_are_points; 59 _law_table; 60 _law_other; 61 _law_bend; 62 _law_ways; 63 _law_tree_holds; 64 _law_four; 65 _law_leaves; 66 _law_many_edges; 67 _law_no_length; 68 _law_longer; 69 law -/
def defsNote : Unit := ()
end MP
/-! MPX -/
namespace MP
open PySem PySem.Spec PyProof.Rows L2
/-! facts of the written part beyond the hook's own -/
def eqB (a b : Option Bool) : Bool := decide (a = b)
def tyNames : List String := ["NoneType", "bool", "int", "str", "tuple", "list"]
def exL (K : PySem.W.Frag) : List Bool :=
  [He.eqO (PySem.W.nsIn K mainGlobals "gcd") (some (some (.builtin "math.gcd"))),
   PySem.W.selfFirst K (He.ga K "Ratio"),
   He.eqO (PySem.W.findIn K (.ref (He.ga K "Ratio")) "__ne__") (some (some (.builtin "object.__ne__"))),
   eqB (PySem.W.subIn K (.ref (He.ga K "Ratio")) (.type "object")) (some true),
   He.eqO (PySem.W.findIn K (.ref (He.ga K "Ratio")) "__class__") (some (some (.builtin "object.__class__"))),
   He.eqO (PySem.W.specialIn K (.builtin "object.__class__") "__get__") (some (some (.builtin "getset_descriptor.__get__"))),
   eqB (PySem.W.takesIn K (.builtin "object.__class__")) (some true),
   eqB (PySem.W.mroIn K (He.ga K "Ratio") (.type "object")) (some true),
   eqB (PySem.W.kitOne K (.ref (He.ga K "Ratio")) (.ref (He.ga K "Ratio"))) (some true),
   (["int", "bool", "tuple", "list"] : List String).all fun t => eqB (PySem.W.kitOne K (.ref (He.ga K "Ratio")) (.type t)) (some false),
   tyNames.all fun t => eqB (PySem.W.kitOne K (.type t) (.ref (He.ga K "Ratio"))) (some false),
   tyNames.all fun t => eqB (PySem.W.subIn K (.type t) (.ref (He.ga K "Ratio"))) (some false)]
def exK (K : PySem.W.Frag) : Bool := (exL K).all id
end MP
/-! MPHead -/
namespace MP
open PySem PySem.Spec PyProof.Rows L2
/-! ### the head -/
def kAddrs : List Addr := [3, 114, 209, 220, 227, 234, 241, 248, 255, 262, 269, 276, 283, 290, 295, 302, 309, 359, 370, 375, 380, 385, 426, 437, 442, 447, 454, 461, 466, 473, 478, 483, 490, 497, 504, 511, 516, 521, 526, 531, 536, 541, 546, 553, 560, 565, 572, 579, 586, 593, 600, 605, 612, 619, 626, 631, 638, 645, 650, 655, 662, 667, 113, 208, 219, 226, 233, 240, 247, 254, 261, 268, 275, 282, 289, 294, 301, 308, 358, 369, 374, 379, 384, 425, 436, 441, 446, 453, 460, 465, 472, 477, 482, 489, 496, 503, 510, 515, 520, 525, 530, 535, 540, 545, 552, 559, 564, 571, 578, 585, 592, 599, 604, 611, 618, 625, 630, 637, 644, 649, 654, 661, 666, 129, 136, 143, 150, 164, 178, 185, 192, 206, 323, 342, 397, 128, 122, 135, 142, 149, 163, 177, 184, 191, 205, 322, 341, 396]
def obsM (g : Addr → Option Obj) : He.AlD × Bool := (He.obsD fa fn (He.frG g kAddrs), exK (He.frG g kAddrs))
def hookM : PySem.W.Hook where
  α := He.AlD × Bool
  obs := fun s => obsM s.heap.get?
  val := fun _ => (He.valD fn, true)
  says := fun _ h => ∃ K : PySem.W.Frag, K.In h ∧ He.SaysD fa fn K ∧ exK K = true
  of := fun _ _ e => ⟨_, He.frG_in, congrArg Prod.fst e, congrArg Prod.snd e⟩
  keeps := fun _ _ _ ⟨K, hK, c⟩ k => ⟨K, PySem.W.Frag.In.keeps hK k, c⟩
abbrev R : PySem.W.OpenRow := PySem.W.OpenLaw.row PySem.Challenge.rw_metricparts_k46_whole_papers_of_trees
abbrev hk : PySem.W.Hook := hookM
def ob (s : PySem.W.SharedT) : He.AlD × Bool := obsM (HandSHeadRun.getT s)
theorem ob_eq (s : PySem.W.SharedT) : ob s = hk.obs s.abs := by
  have e : HandSHeadRun.getT s = s.abs.heap.get? := funext fun a => HandSHeadRun.getT_eq s a
  show obsM _ = obsM _
  rw [e]
theorem run (w : World) : HandSHeadRun.RunEqI R (PySem.W.view R.prog [0, lawAt]) hk ob 8000 (names.drop 1) w := by
  unfold HandSHeadRun.RunEqI
  kernel_rfl
end MP
/-! MPA -/
/-! # The abstract machine over the layer's readings: data D, values B, states AS; EV, ET, EA, GS in the wp manner. -/
namespace MP
open PySem PySem.Spec PyProof.Rows L2

/-! ### data -/
inductive D where
  | non | bl (b : Bool) | int (i : Int) | str (s : Str) | rat (q : Rat) | tup (xs : List D) | lst (xs : List D) | ro (xs : List D) | obj (c : Str) (ns : List Str) (ds : List D) | dct (ks : List Int) (ds : List D)

/-- F grows -/
def Ex (F F' : Hp) : Prop := ∀ a o, F a = some o → F' a = some o
theorem Ex.refl (F : Hp) : Ex F F := fun _ _ h => h
theorem Ex.trans {F G H : Hp} (a : Ex F G) (b : Ex G H) : Ex F H := fun x o h => b x o (a x o h)
theorem Ex.rd {F G : Hp} {a : Addr} {u : HO} (e : Ex F G) (h : Rd F a u) : Rd G a u := by
  rcases h with h | ⟨o, h⟩
  · exact .inl (e _ _ h)
  · exact .inr ⟨o, e _ _ h⟩
theorem Ex.sqT {K : PySem.W.Frag} {F G : Hp} {a : Addr} {xs : List V} (e : Ex F G) (h : SqT K F a xs) : SqT K G a xs := by
  rcases h with h | h
  · exact .inl (e.rd h)
  · exact .inr h
theorem Ex.sqL {K : PySem.W.Frag} {F G : Hp} {a : Addr} {xs : List V} (e : Ex F G) (h : SqL K F a xs) : SqL K G a xs := by
  rcases h with h | h
  · exact .inl (e.rd h)
  · exact .inr h

abbrev qFs (q : Rat) : List (Str × V) := [("n", .int q.num), ("d", .int (q.den : Int))]
mutual
/-- v is d in the heap F of what stands still -/
def Rep (K : PySem.W.Frag) (F : Hp) : D → V → Prop
  | .non, v => v = .non
  | .bl b, v => v = .bl b
  | .int i, v => v = .int i
  | .str s, v => v = .str s
  | .rat q, v => ∃ p dx, v = .ref p ∧ F p = some (.ins (He.ga K "Ratio") dx (qFs q))
  | .tup ds, v => ∃ p vs, v = .ref p ∧ SqT K F p vs ∧ Reps K F ds vs
  | .lst ds, v => ∃ p vs, v = .ref p ∧ F p = some (.lst vs) ∧ Reps K F ds vs
  | .ro ds, v => ∃ p vs, v = .ref p ∧ SqL K F p vs ∧ Reps K F ds vs
  | .obj c ns ds, v => ∃ p dx vs, v = .ref p ∧ F p = some (.ins (He.ga K c) dx (ns.zip vs)) ∧ ns.length = vs.length ∧ Reps K F ds vs
  | .dct ks ds, v => ∃ p vs, v = .ref p ∧ F p = some (.dK ((ks.map Sum.inl).zip vs)) ∧ ks.length = vs.length ∧ Reps K F ds vs
def Reps (K : PySem.W.Frag) (F : Hp) : List D → List V → Prop
  | [], vs => vs = []
  | d :: ds, vs => ∃ v r, vs = v :: r ∧ Rep K F d v ∧ Reps K F ds r
end
mutual
theorem Rep.mono {K : PySem.W.Frag} {F G : Hp} (e : Ex F G) : ∀ {d : D} {v : V}, Rep K F d v → Rep K G d v
  | .non, _, h => h
  | .bl _, _, h => h
  | .int _, _, h => h
  | .str _, _, h => h
  | .rat q, v, h => by
    unfold Rep at h ⊢
    obtain ⟨p, dx, h1, h2⟩ := h
    exact ⟨p, dx, h1, e _ _ h2⟩
  | .tup ds, v, h => by
    unfold Rep at h ⊢
    obtain ⟨p, vs, h1, h2, h3⟩ := h
    exact ⟨p, vs, h1, e.sqT h2, Reps.mono e h3⟩
  | .lst ds, v, h => by
    unfold Rep at h ⊢
    obtain ⟨p, vs, h1, h2, h3⟩ := h
    exact ⟨p, vs, h1, e _ _ h2, Reps.mono e h3⟩
  | .ro ds, v, h => by
    unfold Rep at h ⊢
    obtain ⟨p, vs, h1, h2, h3⟩ := h
    exact ⟨p, vs, h1, e.sqL h2, Reps.mono e h3⟩
  | .obj c ns ds, v, h => by
    unfold Rep at h ⊢
    obtain ⟨p, dx, vs, h1, h2, h4, h3⟩ := h
    exact ⟨p, dx, vs, h1, e _ _ h2, h4, Reps.mono e h3⟩
  | .dct ks ds, v, h => by
    unfold Rep at h ⊢
    obtain ⟨p, vs, h1, h2, h4, h3⟩ := h
    exact ⟨p, vs, h1, e _ _ h2, h4, Reps.mono e h3⟩
theorem Reps.mono {K : PySem.W.Frag} {F G : Hp} (e : Ex F G) : ∀ {ds : List D} {vs : List V}, Reps K F ds vs → Reps K G ds vs
  | [], _, h => h
  | d :: ds, vs, h => by
    unfold Reps at h ⊢
    obtain ⟨v, r, h1, h2, h3⟩ := h
    exact ⟨v, r, h1, Rep.mono e h2, Reps.mono e h3⟩
end
section
variable {K : PySem.W.Frag} {F G : Hp}
theorem Reps.nil : Reps K F [] [] := rfl
theorem Reps.cons {d : D} {v : V} {ds : List D} {vs : List V} (h : Rep K F d v) (r : Reps K F ds vs) : Reps K F (d :: ds) (v :: vs) := ⟨v, vs, rfl, h, r⟩
theorem Reps.length : ∀ {ds : List D} {vs : List V}, Reps K F ds vs → ds.length = vs.length
  | [], _, h => by cases (show _ = [] from h); rfl
  | d :: ds, vs, h => by
    obtain ⟨v, r, rfl, _, h3⟩ := h
    show ds.length + 1 = r.length + 1
    rw [Reps.length h3]
theorem Reps.get : ∀ {ds : List D} {vs : List V} {i : Nat} {d : D}, Reps K F ds vs → ds[i]? = some d → ∃ v, vs[i]? = some v ∧ Rep K F d v
  | [], _, _, _, _, e => by simp at e
  | d :: ds, vs, 0, _, h, e => by
    obtain ⟨v, r, rfl, h2, _⟩ := h
    simp at e
    subst e
    exact ⟨v, rfl, h2⟩
  | d :: ds, vs, i + 1, x, h, e => by
    obtain ⟨v, r, rfl, _, h3⟩ := h
    obtain ⟨u, e1, e2⟩ := Reps.get (i := i) (d := x) h3 (by simpa using e)
    exact ⟨u, by simpa using e1, e2⟩
theorem Reps.getV : ∀ {ds : List D} {vs : List V} {i : Nat} {v : V}, Reps K F ds vs → vs[i]? = some v → ∃ d, ds[i]? = some d ∧ Rep K F d v := fun {ds vs i v} h e => by
  have hl := h.length
  have hi : i < vs.length := (List.getElem?_eq_some_iff.mp e).1
  obtain ⟨u, e1, e2⟩ := h.get (List.getElem?_eq_getElem (show i < ds.length by omega))
  rw [e] at e1
  cases e1
  exact ⟨_, List.getElem?_eq_getElem _, e2⟩
theorem Reps.append : ∀ {ds es : List D} {vs us : List V}, Reps K F ds vs → Reps K F es us → Reps K F (ds ++ es) (vs ++ us)
  | [], _, _, _, h, g => by cases (show _ = [] from h); exact g
  | d :: ds, es, vs, us, h, g => by
    obtain ⟨v, r, rfl, h2, h3⟩ := h
    exact .cons h2 (Reps.append h3 g)
theorem Reps.take : ∀ {ds : List D} {vs : List V} (n : Nat), Reps K F ds vs → Reps K F (ds.take n) (vs.take n)
  | _, _, 0, _ => rfl
  | [], _, n + 1, h => by cases (show _ = [] from h); rfl
  | d :: ds, vs, n + 1, h => by
    obtain ⟨v, r, rfl, h2, h3⟩ := h
    exact .cons h2 (Reps.take n h3)
theorem Reps.drop : ∀ {ds : List D} {vs : List V} (n : Nat), Reps K F ds vs → Reps K F (ds.drop n) (vs.drop n)
  | _, _, 0, h => h
  | [], _, n + 1, h => by cases (show _ = [] from h); rfl
  | d :: ds, vs, n + 1, h => by
    obtain ⟨v, r, rfl, h2, h3⟩ := h
    exact Reps.drop n h3
theorem Reps.ints : ∀ {is : List Int} {vs : List V}, Reps K F (is.map D.int) vs → vs = is.map V.int
  | [], _, h => h
  | i :: is, vs, h => by
    obtain ⟨v, r, rfl, h2, h3⟩ := h
    cases (show v = .int i from h2)
    rw [Reps.ints h3]
    rfl
theorem Reps.bls : ∀ {is : List Bool} {vs : List V}, Reps K F (is.map D.bl) vs → vs = is.map V.bl
  | [], _, h => h
  | i :: is, vs, h => by
    obtain ⟨v, r, rfl, h2, h3⟩ := h
    cases (show v = .bl i from h2)
    rw [Reps.bls h3]
    rfl
end

/-! ### values, mutable contents, states -/
inductive B where
  | dat (d : D) | ptr (a : Addr) | raw (v : V)
inductive C where
  | lst (bs : List B) | dic (kvs : List (Int × D)) | ins (c : Str) (ns : List Str) (bs : List B)
abbrev Ms := Addr → Option C
def mput (m : Ms) (a : Addr) (c : C) : Ms := fun b => if b = a then some c else m b
theorem mput_same {m : Ms} {a : Addr} {c : C} : mput m a c a = some c := if_pos rfl
theorem mput_ne {m : Ms} {a b : Addr} {c : C} (h : b ≠ a) : mput m a c b = m b := if_neg h
theorem mput_mput {m : Ms} {a : Addr} {c e : C} : mput (mput m a c) a e = mput m a e := by
  funext b; unfold mput; split <;> rfl
def mdel (m : Ms) (a : Addr) : Ms := fun b => if b = a then none else m b
theorem mdel_ne {m : Ms} {a b : Addr} (h : b ≠ a) : mdel m a b = m b := if_neg h
theorem mdel_mput {m : Ms} {a : Addr} {c : C} (h : m a = none) : mdel (mput m a c) a = m := by
  funext b; unfold mdel mput
  by_cases e : b = a
  · rw [if_pos e, e, h]
  · rw [if_neg e, if_neg e]
def mask (H : Hp) (m : Ms) : Hp := fun a => if (m a).isSome then none else H a
theorem mask_some {H : Hp} {m : Ms} {a : Addr} {o : HO} (h : mask H m a = some o) : m a = none ∧ H a = some o := by
  unfold mask at h
  split at h
  · cases h
  · rename_i q
    exact ⟨by cases z : m a with | none => rfl | some c => rw [z] at q; exact absurd rfl q, h⟩
theorem mask_mk {H : Hp} {m : Ms} {a : Addr} {o : HO} (h1 : m a = none) (h2 : H a = some o) : mask H m a = some o := by
  unfold mask; rw [h1]; exact h2
def RepB (K : PySem.W.Frag) (F : Hp) : B → V → Prop
  | .dat d, v => Rep K F d v
  | .ptr a, v => v = .ref a
  | .raw u, v => v = u
theorem RepB.mono {K : PySem.W.Frag} {F G : Hp} (e : Ex F G) {b : B} {v : V} (h : RepB K F b v) : RepB K G b v := by
  cases b with
  | dat d => exact Rep.mono e h
  | ptr a => exact h
  | raw u => exact h
abbrev RepBs (K : PySem.W.Frag) (F : Hp) : List B → List V → Prop := Paired (RepB K F)
theorem Pd.mono {α β : Type} {R S : α → β → Prop} (h : ∀ a b, R a b → S a b) : ∀ {l : List α} {m : List β}, Paired R l m → Paired S l m
  | _, _, .nil => .nil
  | _, _, .cons a b => .cons (h _ _ a) (Pd.mono h b)
theorem Pd.len {α β : Type} {R : α → β → Prop} : ∀ {l : List α} {m : List β}, Paired R l m → l.length = m.length
  | _, _, .nil => rfl
  | _, _, .cons _ b => congrArg Nat.succ (Pd.len b)
theorem Pd.get {α β : Type} {R : α → β → Prop} : ∀ {l : List α} {m : List β} {i : Nat} {a : α}, Paired R l m → l[i]? = some a → ∃ b, m[i]? = some b ∧ R a b
  | _, _, _, _, .nil, e => by simp at e
  | _, _, 0, _, .cons r _, e => by simp at e; subst e; exact ⟨_, rfl, r⟩
  | _, _, i + 1, x, .cons _ t, e => by
    obtain ⟨u, h1, h2⟩ := Pd.get (i := i) (a := x) t (by simpa using e)
    exact ⟨u, by simpa using h1, h2⟩
theorem Pd.app {α β : Type} {R : α → β → Prop} : ∀ {l l' : List α} {m m' : List β}, Paired R l m → Paired R l' m' → Paired R (l ++ l') (m ++ m')
  | _, _, _, _, .nil, s => s
  | _, _, _, _, .cons r t, s => .cons r (Pd.app t s)
theorem Pd.set {α β : Type} {R : α → β → Prop} {a : α} {b : β} (r : R a b) : ∀ {l : List α} {m : List β} (i : Nat), Paired R l m → Paired R (l.set i a) (m.set i b)
  | _, _, _, .nil => .nil
  | _, _, 0, .cons _ t => .cons r t
  | _, _, i + 1, .cons q t => .cons q (Pd.set r i t)
theorem Pd.eraseIdx {α β : Type} {R : α → β → Prop} : ∀ {l : List α} {m : List β} (i : Nat), Paired R l m → Paired R (l.eraseIdx i) (m.eraseIdx i)
  | _, _, _, .nil => .nil
  | _, _, 0, .cons _ t => t
  | _, _, i + 1, .cons q t => .cons q (Pd.eraseIdx i t)
theorem Pd.take {α β : Type} {R : α → β → Prop} : ∀ {l : List α} {m : List β} (i : Nat), Paired R l m → Paired R (l.take i) (m.take i)
  | _, _, 0, _ => .nil
  | _, _, _ + 1, .nil => .nil
  | _, _, i + 1, .cons q t => .cons q (Pd.take i t)
theorem Pd.drop {α β : Type} {R : α → β → Prop} : ∀ {l : List α} {m : List β} (i : Nat), Paired R l m → Paired R (l.drop i) (m.drop i)
  | _, _, 0, r => r
  | _, _, _ + 1, .nil => .nil
  | _, _, i + 1, .cons _ t => Pd.drop i t
theorem RepBs.dats {K : PySem.W.Frag} {F : Hp} : ∀ {ds : List D} {vs : List V}, RepBs K F (ds.map B.dat) vs → Reps K F ds vs
  | [], _, .nil => rfl
  | _ :: _, _, .cons a b => .cons a (RepBs.dats b)
theorem RepBs.of : ∀ {K : PySem.W.Frag} {F : Hp} {ds : List D} {vs : List V}, Reps K F ds vs → RepBs K F (ds.map B.dat) vs
  | _, _, [], _, h => by cases (show _ = [] from h); exact .nil
  | _, _, d :: ds, vs, h => by
    obtain ⟨v, r, rfl, h2, h3⟩ := h
    exact .cons h2 (RepBs.of h3)
abbrev RepK (K : PySem.W.Frag) (F : Hp) : List (Int × D) → List (Key × V) → Prop := Paired fun p q => q.1 = Sum.inl p.1 ∧ Rep K F p.2 q.2
/-- what stands at a mutable address -/
def RepC (K : PySem.W.Frag) (F : Hp) : C → HO → Prop
  | .lst bs, o => ∃ vs, o = .lst vs ∧ RepBs K F bs vs
  | .dic ks, o => ∃ kvs, o = .dK kvs ∧ RepK K F ks kvs
  | .ins c ns bs, o => ∃ dx vs, o = .ins (He.ga K c) dx (ns.zip vs) ∧ ns.length = vs.length ∧ RepBs K F bs vs
theorem RepC.mono {K : PySem.W.Frag} {F G : Hp} (e : Ex F G) {c : C} {o : HO} (h : RepC K F c o) : RepC K G c o := by
  cases c with
  | lst bs =>
    obtain ⟨vs, h1, h2⟩ := h
    exact ⟨vs, h1, Pd.mono (fun _ _ r => r.mono e) h2⟩
  | dic ks =>
    obtain ⟨vs, h1, h2⟩ := h
    exact ⟨vs, h1, Pd.mono (fun _ _ r => ⟨r.1, r.2.mono e⟩) h2⟩
  | ins c ns bs =>
    obtain ⟨dx, vs, h1, h3, h2⟩ := h
    exact ⟨dx, vs, h1, h3, Pd.mono (fun _ _ r => r.mono e) h2⟩

structure AS where
  env : List (Option B)
  mem : Ms
abbrev AS.put (a : AS) (i : Nat) (b : B) : AS := ⟨a.env.set i (some b), a.mem⟩
abbrev AS.at (a : AS) (m : Ms) : AS := ⟨a.env, m⟩
/-- the state at a def's entry -/
structure Ba where
  hp : Hp
  mem : Ms
  /-- data that loops hold -/
  gh : List (D × V)
abbrev Ba.add (b : Ba) (d : D) (v : V) : Ba := ⟨b.hp, b.mem, (d, v) :: b.gh⟩
structure Rel (K : PySem.W.Frag) (b0 : Ba) (a : AS) (σ : L2.St) (H : Hp) : Prop where
  len : σ.length = a.env.length
  slot : ∀ (i : Nat) (b : B), a.env[i]? = some (some b) → ∃ v, σ[i]? = some (some v) ∧ RepB K (mask H a.mem) b v
  cont : ∀ p c, a.mem p = some c → ∃ o, H p = some o ∧ RepC K (mask H a.mem) c o
  keep : ∀ p o, b0.hp p = some o → b0.mem p = none → H p = some o
  old : ∀ p, (b0.mem p).isSome → (a.mem p).isSome
  new : ∀ p, (a.mem p).isSome → b0.mem p = none → b0.hp p = none
  gho : ∀ x ∈ b0.gh, Rep K (mask H a.mem) x.1 x.2
section
variable {K : PySem.W.Frag} {b0 : Ba} {a a' : AS} {σ : L2.St} {H H' : Hp}
/-- nothing that was there has changed -/
theorem Rel.grow (R : Rel K b0 a σ H) (e : Ex H H') : Rel K b0 a σ H' := by
  have me : Ex (mask H a.mem) (mask H' a.mem) := fun p o h => mask_mk (mask_some h).1 (e _ _ (mask_some h).2)
  refine ⟨R.len, fun i b h => ?_, fun p c h => ?_, fun p o h1 h2 => e _ _ (R.keep p o h1 h2), R.old, R.new, fun x hx => (R.gho x hx).mono me⟩
  · obtain ⟨v, h1, h2⟩ := R.slot i b h
    exact ⟨v, h1, h2.mono me⟩
  · obtain ⟨o, h1, h2⟩ := R.cont p c h
    exact ⟨o, e _ _ h1, h2.mono me⟩
theorem Rel.maskGrow (R : Rel K b0 a σ H) (e : Ex H H') : Ex (mask H a.mem) (mask H' a.mem) := fun p o h => mask_mk (mask_some h).1 (e _ _ (mask_some h).2)
theorem ex_upd {p : Addr} {o : HO} (h : H p = none) : Ex H (upd H p o) := fun a u e => by
  rw [upd_ne (ne_of_none e h)]
  exact e
theorem Rel.free (R : Rel K b0 a σ H) {p : Addr} (h : H p = none) : a.mem p = none := by
  cases q : a.mem p with
  | none => rfl
  | some c =>
    obtain ⟨o, h1, _⟩ := R.cont p c q
    rw [h] at h1
    cases h1
theorem Rel.free0 (R : Rel K b0 a σ H) {p : Addr} (h : H p = none) : b0.mem p = none ∧ b0.hp p = none := by
  have h1 : b0.mem p = none := by
    cases q : b0.mem p with
    | none => rfl
    | some c =>
      have := R.old p (by rw [q]; rfl)
      rw [R.free h] at this
      cases this
  refine ⟨h1, ?_⟩
  cases q : b0.hp p with
  | none => rfl
  | some o =>
    rw [R.keep p o q h1] at h
    cases h
/-- a new immutable object -/
theorem Rel.alloc (R : Rel K b0 a σ H) {p : Addr} {o : HO} (h : H p = none) : Rel K b0 a σ (upd H p o) := R.grow (ex_upd h)
/-- a new mutable object -/
theorem Rel.allocM (R : Rel K b0 a σ H) {p : Addr} {o : HO} {c : C} (h : H p = none) (hc : RepC K (mask H a.mem) c o) : Rel K b0 ⟨a.env, mput a.mem p c⟩ σ (upd H p o) ∧ Ex (mask H a.mem) (mask (upd H p o) (mput a.mem p c)) := by
  have me : Ex (mask H a.mem) (mask (upd H p o) (mput a.mem p c)) := fun q u hq => by
    obtain ⟨h1, h2⟩ := mask_some hq
    have ne : q ≠ p := ne_of_none h2 h
    refine mask_mk (by rw [mput_ne ne]; exact h1) (by rw [upd_ne ne]; exact h2)
  refine ⟨⟨R.len, fun i b hb => ?_, fun q u hq => ?_, fun q u h1 h2 => ex_upd h _ _ (R.keep q u h1 h2), fun q hq => ?_, fun q hq h2 => ?_, fun x hx => (R.gho x hx).mono me⟩, me⟩
  · obtain ⟨v, h1, h2⟩ := R.slot i b hb
    exact ⟨v, h1, h2.mono me⟩
  · by_cases e : q = p
    · subst e
      have e1 : c = u := by
        have : mput a.mem q c q = some u := hq
        rw [mput_same] at this
        exact Option.some.inj this
      subst e1
      exact ⟨o, upd_same, hc.mono me⟩
    · have hq2 : a.mem q = some u := by
        have : mput a.mem p c q = some u := hq
        rw [mput_ne e] at this
        exact this
      obtain ⟨o', h1, h2⟩ := R.cont q u hq2
      exact ⟨o', by rw [upd_ne e]; exact h1, h2.mono me⟩
  · show (mput a.mem p c q).isSome = true
    unfold mput
    split
    · rfl
    · exact R.old q hq
  · by_cases e : q = p
    · subst e
      exact (R.free0 h).2
    · have hq2 : (mput a.mem p c q).isSome = true := hq
      rw [mput_ne e] at hq2
      exact R.new q hq2 h2
/-- a mutable object is changed -/
theorem Rel.write (R : Rel K b0 a σ H) {p : Addr} {o : HO} {c c0 : C} (h : a.mem p = some c0) (hc : RepC K (mask H a.mem) c o) : Rel K b0 ⟨a.env, mput a.mem p c⟩ σ (upd H p o) ∧ Ex (mask H a.mem) (mask (upd H p o) (mput a.mem p c)) := by
  have me : Ex (mask H a.mem) (mask (upd H p o) (mput a.mem p c)) := fun q u hq => by
    obtain ⟨h1, h2⟩ := mask_some hq
    have ne : q ≠ p := fun e => by rw [e, h] at h1; cases h1
    refine mask_mk (by rw [mput_ne ne]; exact h1) (by rw [upd_ne ne]; exact h2)
  refine ⟨⟨R.len, fun i b hb => ?_, fun q u hq => ?_, fun q u h1 h2 => ?_, fun q hq => ?_, fun q hq h2 => ?_, fun x hx => (R.gho x hx).mono me⟩, me⟩
  · obtain ⟨v, h1, h2⟩ := R.slot i b hb
    exact ⟨v, h1, h2.mono me⟩
  · by_cases e : q = p
    · subst e
      have e1 : c = u := by
        have : mput a.mem q c q = some u := hq
        rw [mput_same] at this
        exact Option.some.inj this
      subst e1
      exact ⟨o, upd_same, hc.mono me⟩
    · have hq2 : a.mem q = some u := by
        have : mput a.mem p c q = some u := hq
        rw [mput_ne e] at this
        exact this
      obtain ⟨o', h1, h2⟩ := R.cont q u hq2
      exact ⟨o', by rw [upd_ne e]; exact h1, h2.mono me⟩
  · have ne : q ≠ p := fun e => by
      subst e
      have := R.new q (by rw [h]; rfl) h2
      rw [this] at h1
      cases h1
    rw [upd_ne ne]
    exact R.keep q u h1 h2
  · show (mput a.mem p c q).isSome = true
    unfold mput
    split
    · rfl
    · exact R.old q hq
  · by_cases e : q = p
    · subst e
      exact R.new q (by rw [h]; rfl) h2
    · have hq2 : (mput a.mem p c q).isSome = true := hq
      rw [mput_ne e] at hq2
      exact R.new q hq2 h2
/-- a slot is stored -/
theorem Rel.set (R : Rel K b0 a σ H) {i : Nat} {b : B} {v : V} (h : RepB K (mask H a.mem) b v) : Rel K b0 (a.put i b) (σ.set i (some v)) H := by
  refine ⟨by show (σ.set i _).length = (a.env.set i _).length; rw [List.length_set, List.length_set, R.len], fun j c hj => ?_, R.cont, R.keep, R.old, R.new, R.gho⟩
  have hj2 : (a.env.set i (some b))[j]? = some (some c) := hj
  by_cases e : i = j
  · subst e
    have hi : i < a.env.length := by
      have := (List.getElem?_eq_some_iff.mp hj2).1
      rw [List.length_set] at this
      exact this
    rw [List.getElem?_set_self hi] at hj2
    have e2 : b = c := Option.some.inj (Option.some.inj hj2)
    subst e2
    exact ⟨v, List.getElem?_set_self (by rw [R.len]; exact hi), h⟩
  · rw [List.getElem?_set_ne e] at hj2
    obtain ⟨u, h1, h2⟩ := R.slot j c hj2
    exact ⟨u, by rw [List.getElem?_set_ne e]; exact h1, h2⟩
end
/-- less is known of the slots -/
inductive Wk : List (Option B) → List (Option B) → Prop
  | nil : Wk [] []
  | keep {b : Option B} {l m : List (Option B)} : Wk l m → Wk (b :: l) (b :: m)
  | drop {b : Option B} {l m : List (Option B)} : Wk l m → Wk (b :: l) (none :: m)
theorem Wk.len : ∀ {l m : List (Option B)}, Wk l m → l.length = m.length
  | _, _, .nil => rfl
  | _, _, .keep h => congrArg Nat.succ h.len
  | _, _, .drop h => congrArg Nat.succ h.len
theorem Wk.get : ∀ {l m : List (Option B)} {i : Nat} {b : B}, Wk l m → m[i]? = some (some b) → l[i]? = some (some b)
  | _, _, _, _, .nil, e => e
  | _, _, 0, _, .keep _, e => e
  | _, _, 0, _, .drop _, e => by simp at e
  | _, _, i + 1, _, .keep h, e => by
    rw [List.getElem?_cons_succ] at e ⊢
    exact h.get e
  | _, _, i + 1, _, .drop h, e => by
    rw [List.getElem?_cons_succ] at e ⊢
    exact h.get e
theorem Wk.refl : ∀ l : List (Option B), Wk l l
  | [] => .nil
  | _ :: l => .keep (Wk.refl l)
theorem Rel.weak {K : PySem.W.Frag} {b0 : Ba} {a : AS} {σ : L2.St} {H : Hp} {e : List (Option B)} (R : Rel K b0 a σ H) (w : Wk a.env e) : Rel K b0 ⟨e, a.mem⟩ σ H :=
  ⟨R.len.trans w.len, fun i b h => R.slot i b (w.get h), R.cont, R.keep, R.old, R.new, R.gho⟩
theorem Rel.ungh {K : PySem.W.Frag} {b0 : Ba} {a : AS} {σ : L2.St} {H : Hp} {d : D} {v : V} (R : Rel K (b0.add d v) a σ H) : Rel K b0 a σ H :=
  ⟨R.len, R.slot, R.cont, R.keep, R.old, R.new, fun x hx => R.gho x (List.mem_cons_of_mem _ hx)⟩
theorem Rel.addgh {K : PySem.W.Frag} {b0 : Ba} {a : AS} {σ : L2.St} {H : Hp} {d : D} {v : V} (R : Rel K b0 a σ H) (r : Rep K (mask H a.mem) d v) : Rel K (b0.add d v) a σ H :=
  ⟨R.len, R.slot, R.cont, R.keep, R.old, R.new, fun x hx => (List.mem_cons.mp hx).elim (fun e => by rw [e]; exact r) (R.gho x)⟩
/-- a mutable object is forgotten: from now on it stands still -/
theorem Rel.freeze {K : PySem.W.Frag} {b0 : Ba} {a : AS} {σ : L2.St} {H : Hp} (R : Rel K b0 a σ H) {p : Addr} (h : b0.mem p = none) (h0 : (a.mem p).isSome) : Rel K b0 ⟨a.env, mdel a.mem p⟩ σ H ∧ Ex (mask H a.mem) (mask H (mdel a.mem p)) := by
  have me : Ex (mask H a.mem) (mask H (mdel a.mem p)) := fun q u hq => by
    obtain ⟨h1, h2⟩ := mask_some hq
    refine mask_mk ?_ h2
    unfold mdel
    split
    · rfl
    · exact h1
  refine ⟨⟨R.len, fun i b hb => ?_, fun q u hq => ?_, R.keep, fun q hq => ?_, fun q hq h2 => ?_, fun x hx => (R.gho x hx).mono me⟩, me⟩
  · obtain ⟨v, h1, h2⟩ := R.slot i b hb
    exact ⟨v, h1, h2.mono me⟩
  · have hq2 : a.mem q = some u := by
      have h1 : mdel a.mem p q = some u := hq
      unfold mdel at h1
      split at h1
      · cases h1
      · exact h1
    obtain ⟨o', h1, h2⟩ := R.cont q u hq2
    exact ⟨o', h1, h2.mono me⟩
  · have ne : q ≠ p := fun e => by rw [e, h] at hq; cases hq
    show (mdel a.mem p q).isSome = true
    rw [mdel_ne ne]
    exact R.old q hq
  · have hq2 : (a.mem q).isSome = true := by
      have h1 : (mdel a.mem p q).isSome = true := hq
      unfold mdel at h1
      split at h1
      · cases h1
      · exact h1
    exact R.new q hq2 h2
/-- pointers to p become the list itself -/
inductive Fz (p : Addr) (d : D) : List (Option B) → List (Option B) → Prop
  | nil : Fz p d [] []
  | keep {b : Option B} {l m : List (Option B)} : Fz p d l m → Fz p d (b :: l) (b :: m)
  | hit {l m : List (Option B)} : Fz p d l m → Fz p d (some (.ptr p) :: l) (some (.dat d) :: m)
  | drop {b : Option B} {l m : List (Option B)} : Fz p d l m → Fz p d (b :: l) (none :: m)
theorem Fz.len {p : Addr} {d : D} : ∀ {l m : List (Option B)}, Fz p d l m → l.length = m.length
  | _, _, .nil => rfl
  | _, _, .keep h => congrArg Nat.succ h.len
  | _, _, .hit h => congrArg Nat.succ h.len
  | _, _, .drop h => congrArg Nat.succ h.len
theorem Fz.get {p : Addr} {d : D} : ∀ {l m : List (Option B)} {i : Nat} {b : B}, Fz p d l m → m[i]? = some (some b) → l[i]? = some (some b) ∨ (l[i]? = some (some (.ptr p)) ∧ b = .dat d)
  | _, _, _, _, .nil, e => .inl e
  | _, _, 0, _, .keep _, e => .inl e
  | _, _, 0, _, .hit _, e => by simp at e; exact .inr ⟨rfl, e.symm⟩
  | _, _, 0, _, .drop _, e => by simp at e
  | _, _, i + 1, _, .keep h, e => by
    rw [List.getElem?_cons_succ] at e ⊢
    exact h.get e
  | _, _, i + 1, _, .hit h, e => by
    rw [List.getElem?_cons_succ] at e ⊢
    exact h.get e
  | _, _, i + 1, _, .drop h, e => by
    rw [List.getElem?_cons_succ] at e ⊢
    exact h.get e

/-- what stands at a forgotten address as data -/
def CtoD : C → D → Prop
  | .lst bs, d => ∃ ds, bs = ds.map B.dat ∧ d = .lst ds
  | .dic ks, d => d = .dct (ks.map (·.1)) (ks.map (·.2))
  | .ins _ _ _, _ => False
theorem repK_zip {K : PySem.W.Frag} {F : Hp} : ∀ {ks : List (Int × D)} {kvs : List (Key × V)}, RepK K F ks kvs → ∃ vs, kvs = ((ks.map (·.1)).map Sum.inl).zip vs ∧ ks.length = vs.length ∧ Reps K F (ks.map (·.2)) vs
  | _, _, .nil => ⟨[], rfl, rfl, rfl⟩
  | _ :: _, _, .cons (b := (q, v)) ⟨e, r⟩ t => by
    obtain ⟨vs, h1, h2, h3⟩ := repK_zip t
    subst h1
    have e' : q = _ := e
    subst e'
    exact ⟨v :: vs, rfl, congrArg Nat.succ h2, .cons r h3⟩
theorem repK_of {K : PySem.W.Frag} {F : Hp} : ∀ {ks : List Int} {ds : List D} {vs : List V}, ks.length = vs.length → Reps K F ds vs → RepK K F (ks.zip ds) ((ks.map Sum.inl).zip vs)
  | [], _, _, _, _ => .nil
  | _ :: _, [], vs, h, r => by cases (show vs = [] from r); cases h
  | k :: ks, d :: ds, vs, h, r => by
    obtain ⟨v, u, rfl, h1, h2⟩ := r
    exact .cons ⟨rfl, h1⟩ (repK_of (Nat.succ.inj h) h2)
theorem CtoD.rep {K : PySem.W.Frag} {F F' : Hp} {c : C} {d : D} {o : HO} {p : Addr} (h : CtoD c d) (r : RepC K F c o) (e : Ex F F') (hp : F' p = some o) : Rep K F' d (.ref p) := by
  cases c with
  | lst bs =>
    obtain ⟨ds, rfl, rfl⟩ := h
    obtain ⟨vs, rfl, rv⟩ := r
    exact ⟨p, vs, rfl, hp, (RepBs.dats rv).mono e⟩
  | dic ks =>
    cases (show d = _ from h)
    obtain ⟨kvs, rfl, rv⟩ := r
    obtain ⟨vs, h1, h2, h3⟩ := repK_zip rv
    subst h1
    exact ⟨p, vs, rfl, hp, by rw [List.length_map]; exact h2, h3.mono e⟩
  | ins _ _ _ => exact h.elim
/-- what is at p stands still from now on -/
theorem Rel.frz {K : PySem.W.Frag} {b0 : Ba} {a : AS} {σ : L2.St} {H : Hp} (R : Rel K b0 a σ H) {p : Addr} {c : C} {d : D} {e : List (Option B)} (h : b0.mem p = none) (h0 : a.mem p = some c) (hc : CtoD c d) (z : Fz p d a.env e) :
    Rel K b0 ⟨e, mdel a.mem p⟩ σ H ∧ Ex (mask H a.mem) (mask H (mdel a.mem p)) := by
  obtain ⟨R2, e2⟩ := R.freeze h (by rw [h0]; rfl)
  refine ⟨⟨R.len.trans z.len, fun i b hb => ?_, R2.cont, R2.keep, R2.old, R2.new, R2.gho⟩, e2⟩
  rcases z.get hb with q | ⟨q, rfl⟩
  · exact R2.slot i b q
  · obtain ⟨v, h1, h2⟩ := R.slot i _ q
    obtain ⟨o, ho, rc⟩ := R.cont p _ h0
    cases (show v = .ref p from h2)
    exact ⟨_, h1, hc.rep rc e2 (mask_mk (if_pos rfl) ho)⟩
end MP
/-! MPB -/
namespace MP
open PySem PySem.Spec PyProof.Rows L2

theorem maskEx (H : Hp) (m : Ms) : Ex (mask H m) H := fun _ _ h => (mask_some h).2

/-! ### judgements -/
def EV (K : PySem.W.Frag) (b0 : Ba) (te : TE) (a : AS) (k : B → AS → Prop) : Prop := ∀ (σ : L2.St) (H : Hp) (Q : VK), Rel K b0 a σ H →
  (∀ (v : V) (H' : Hp) (b : B) (a' : AS), k b a' → Rel K b0 a' σ H' → Ex (mask H a.mem) (mask H' a'.mem) → RepB K (mask H' a'.mem) b v → Q v H') → te σ H Q
def ET (K : PySem.W.Frag) (b0 : Ba) (tt : TT) (a : AS) (k : Bool → AS → Prop) : Prop := ∀ (σ : L2.St) (H : Hp) (Q : Bool → Hp → Prop), Rel K b0 a σ H →
  (∀ (c : Bool) (H' : Hp) (a' : AS), k c a' → Rel K b0 a' σ H' → Ex (mask H a.mem) (mask H' a'.mem) → Q c H') → tt σ H Q
def EA (K : PySem.W.Frag) (b0 : Ba) (ta : TA) (a : AS) (k : List B → AS → Prop) : Prop := ∀ (σ : L2.St) (H : Hp) (Q : List V → Hp → Prop), Rel K b0 a σ H →
  (∀ (vs : List V) (H' : Hp) (bs : List B) (a' : AS), k bs a' → Rel K b0 a' σ H' → Ex (mask H a.mem) (mask H' a'.mem) → RepBs K (mask H' a'.mem) bs vs → Q vs H') → ta σ H Q
def EO (K : PySem.W.Frag) (b0 : Ba) (to : TO) (a : AS) (k : Option Int → AS → Prop) : Prop := ∀ (σ : L2.St) (H : Hp) (Q : Option Int → Hp → Prop), Rel K b0 a σ H →
  (∀ (o : Option Int) (H' : Hp) (a' : AS), k o a' → Rel K b0 a' σ H' → Ex (mask H a.mem) (mask H' a'.mem) → Q o H') → to σ H Q
def GS (K : PySem.W.Frag) (b0 : Ba) (t : TS) (D : Ends) (a : AS) : Prop := ∀ (σ : L2.St) (H : Hp), Rel K b0 a σ H → t D σ H
def NX (K : PySem.W.Frag) (b0 : Ba) (f : L2.St → Hp → Prop) (a : AS) : Prop := ∀ (σ : L2.St) (H : Hp), Rel K b0 a σ H → f σ H
def RT (K : PySem.W.Frag) (b0 : Ba) (rt : VK) (b : B) (a : AS) : Prop := ∀ (σ : L2.St) (H : Hp) (v : V), Rel K b0 a σ H → RepB K (mask H a.mem) b v → rt v H
def GG (K : PySem.W.Frag) (b0 : Ba) (g : TG) (b : B) (a : AS) (k : AS → Prop) : Prop := ∀ (σ : L2.St) (H : Hp) (v : V) (Q : L2.St → Hp → Prop), Rel K b0 a σ H → RepB K (mask H a.mem) b v →
  (∀ (σ' : L2.St) (H' : Hp) (a' : AS), k a' → Rel K b0 a' σ' H' → Ex (mask H a.mem) (mask H' a'.mem) → Q σ' H') → g v σ H Q
def GGs (K : PySem.W.Frag) (b0 : Ba) (g : TGs) (bs : List B) (a : AS) (k : AS → Prop) : Prop := ∀ (σ : L2.St) (H : Hp) (vs : List V) (Q : L2.St → Hp → Prop), Rel K b0 a σ H → RepBs K (mask H a.mem) bs vs →
  (∀ (σ' : L2.St) (H' : Hp) (a' : AS), k a' → Rel K b0 a' σ' H' → Ex (mask H a.mem) (mask H' a'.mem) → Q σ' H') → g vs σ H Q
def RO (K : PySem.W.Frag) (b0 : Ba) (r : R2) (x y : B) (a : AS) (k : B → AS → Prop) : Prop := ∀ (σ : L2.St) (H : Hp) (u v : V) (Q : VK), Rel K b0 a σ H → RepB K (mask H a.mem) x u → RepB K (mask H a.mem) y v →
  (∀ (w : V) (H' : Hp) (b : B) (a' : AS), k b a' → Rel K b0 a' σ H' → Ex (mask H a.mem) (mask H' a'.mem) → RepB K (mask H' a'.mem) b w → Q w H') → r u v H Q
def RCl (K : PySem.W.Frag) (b0 : Ba) (r : List V → Hp → VK → Prop) (bs : List B) (a : AS) (k : B → AS → Prop) : Prop := ∀ (σ : L2.St) (H : Hp) (vs : List V) (Q : VK), Rel K b0 a σ H → RepBs K (mask H a.mem) bs vs →
  (∀ (w : V) (H' : Hp) (b : B) (a' : AS), k b a' → Rel K b0 a' σ H' → Ex (mask H a.mem) (mask H' a'.mem) → RepB K (mask H' a'.mem) b w → Q w H') → r vs H Q

section
variable {K : PySem.W.Frag} {b0 : Ba} {a : AS} {te ta tb tc : TE} {k : B → AS → Prop} {kt : Bool → AS → Prop}

/-! ### expressions -/
theorem ev_var {i : Nat} {b : B} (h : a.env[i]? = some (some b)) (hk : k b a) : EV K b0 (tVar i) a k := fun σ H Q R q => by
  obtain ⟨v, h1, h2⟩ := R.slot i b h
  exact ⟨v, h1, q v H b a hk R (Ex.refl _) h2⟩
theorem ev_int {i : Int} (hk : k (.dat (.int i)) a) : EV K b0 (tC (.int i)) a k := fun σ H Q R q => q _ H _ a hk R (Ex.refl _) rfl
theorem ev_bl {i : Bool} (hk : k (.dat (.bl i)) a) : EV K b0 (tC (.bl i)) a k := fun σ H Q R q => q _ H _ a hk R (Ex.refl _) rfl
theorem ev_str {i : Str} (hk : k (.dat (.str i)) a) : EV K b0 (tC (.str i)) a k := fun σ H Q R q => q _ H _ a hk R (Ex.refl _) rfl
theorem ev_non (hk : k (.dat .non) a) : EV K b0 (tC .non) a k := fun σ H Q R q => q _ H _ a hk R (Ex.refl _) rfl
theorem ev_raw {u : V} (hk : k (.raw u) a) : EV K b0 (tC u) a k := fun σ H Q R q => q _ H _ a hk R (Ex.refl _) rfl
theorem ev_op {r : R2} (h : EV K b0 ta a fun x a1 => EV K b0 tb a1 fun y a2 => RO K b0 r x y a2 k) : EV K b0 (tOp r ta tb) a k := fun σ H Q R q =>
  h σ H _ R fun u H1 x a1 h1 R1 e1 r1 => h1 σ H1 _ R1 fun v H2 y a2 h2 R2 e2 r2 => h2 σ H2 u v Q R2 (r1.mono e2) r2 fun w H' b a' hk R' e' r' => q w H' b a' hk R' (e1.trans (e2.trans e')) r'
/-- a value-only operator -/
theorem ro_here {r : R2} {x y b : B} (hk : k b a) (h : ∀ (F H : Hp) (u v : V), Ex F H → RepB K F x u → RepB K F y v → ∃ w, RepB K F b w ∧ ∀ Q : VK, Q w H → r u v H Q) : RO K b0 r x y a k := fun σ H u v Q R ru rv q => by
  obtain ⟨w, h1, h2⟩ := h (mask H a.mem) H u v (maskEx _ _) ru rv
  exact h2 Q (q w H b a hk R (Ex.refl _) h1)
theorem ro_I0 {f : Int → Int → Int} {i j : Int} (hk : k (.dat (.int (f i j))) a) : RO K b0 (rI0 fun i j => .int (f i j)) (.dat (.int i)) (.dat (.int j)) a k :=
  ro_here hk fun F H u v e ru rv => ⟨_, rfl, fun Q q => ⟨i, j, ru, rv, q⟩⟩
theorem ro_I {c : Int → Int → Prop} {f : Int → Int → Int} {i j : Int} (hc : c i j) (hk : k (.dat (.int (f i j))) a) : RO K b0 (rI c fun i j => .int (f i j)) (.dat (.int i)) (.dat (.int j)) a k :=
  ro_here hk fun F H u v e ru rv => ⟨_, rfl, fun Q q => ⟨i, j, ru, rv, hc, q⟩⟩
theorem ro_B0 {f : Int → Int → Bool} {i j : Int} (hk : k (.dat (.bl (f i j))) a) : RO K b0 (rI0 fun i j => .bl (f i j)) (.dat (.int i)) (.dat (.int j)) a k :=
  ro_here hk fun F H u v e ru rv => ⟨_, rfl, fun Q q => ⟨i, j, ru, rv, q⟩⟩
/-- scalars -/
def scV : D → Option V
  | .non => some .non
  | .bl b => some (.bl b)
  | .int i => some (.int i)
  | .str s => some (.str s)
  | _ => none
theorem scV_rep {F : Hp} {d : D} {x v : V} (h : scV d = some x) (r : Rep K F d v) : v = x := by
  cases d <;> simp [scV] at h <;> subst h <;> exact r
theorem ro_eq {d e : D} {x y : V} (hx : scV d = some x) (hy : scV e = some y) (hs : scal x y = true) (hk : k (.dat (.bl (decide (x = y)))) a) : RO K b0 rEq (.dat d) (.dat e) a k :=
  ro_here hk fun F H u v _ ru rv => ⟨_, rfl, fun Q q => by
    rw [scV_rep hx ru, scV_rep hy rv]
    exact ⟨hs, q⟩⟩
theorem ro_ne {d e : D} {x y : V} (hx : scV d = some x) (hy : scV e = some y) (hs : scal x y = true) (hk : k (.dat (.bl (!decide (x = y)))) a) : RO K b0 rNe (.dat d) (.dat e) a k :=
  ro_here hk fun F H u v _ ru rv => ⟨_, rfl, fun Q q => by
    rw [scV_rep hx ru, scV_rep hy rv]
    exact ⟨hs, q⟩⟩
theorem vint_dec {i j : Int} : decide (V.int i = V.int j) = decide (i = j) := by
  by_cases h : i = j
  · subst h; simp
  · rw [decide_eq_false h, decide_eq_false (fun e => h (V.int.inj e))]
theorem vstr_dec {i j : Str} : decide (V.str i = V.str j) = decide (i = j) := by
  by_cases h : i = j
  · subst h; simp
  · rw [decide_eq_false h, decide_eq_false (fun e => h (V.str.inj e))]
theorem vbl_dec {i j : Bool} : decide (V.bl i = V.bl j) = decide (i = j) := by
  by_cases h : i = j
  · subst h; simp
  · rw [decide_eq_false h, decide_eq_false (fun e => h (V.bl.inj e))]
theorem ro_eqI {i j : Int} (hk : k (.dat (.bl (decide (i = j)))) a) : RO K b0 rEq (.dat (.int i)) (.dat (.int j)) a k := ro_eq (x := .int i) (y := .int j) rfl rfl rfl (by rw [vint_dec]; exact hk)
theorem ro_neI {i j : Int} (hk : k (.dat (.bl (!decide (i = j)))) a) : RO K b0 rNe (.dat (.int i)) (.dat (.int j)) a k := ro_ne (x := .int i) (y := .int j) rfl rfl rfl (by rw [vint_dec]; exact hk)
theorem ro_neB {i j : Bool} (hk : k (.dat (.bl (!decide (i = j)))) a) : RO K b0 rNe (.dat (.bl i)) (.dat (.bl j)) a k := ro_ne (x := .bl i) (y := .bl j) rfl rfl rfl (by rw [vbl_dec]; exact hk)
theorem ro_eqB {i j : Bool} (hk : k (.dat (.bl (decide (i = j)))) a) : RO K b0 rEq (.dat (.bl i)) (.dat (.bl j)) a k := ro_eq (x := .bl i) (y := .bl j) rfl rfl rfl (by rw [vbl_dec]; exact hk)
theorem ro_or1 {r r' : R2} {x y : B} (h : RO K b0 r x y a k) : RO K b0 (fun x y H Q => r x y H Q ∨ r' x y H Q) x y a k := fun σ H u v Q R ru rv q => .inl (h σ H u v Q R ru rv q)
theorem ro_or2 {r r' : R2} {x y : B} (h : RO K b0 r' x y a k) : RO K b0 (fun x y H Q => r x y H Q ∨ r' x y H Q) x y a k := fun σ H u v Q R ru rv q => .inr (h σ H u v Q R ru rv q)
theorem ro_isN {b : B} (hk : ∀ (F : Hp) (u : V), RepB K F b u → k (.dat (.bl (decide (u = .non)))) a) : RO K b0 (fun x y H Q => y = .non ∧ Q (.bl (decide (x = .non))) H) b (.dat .non) a k := fun σ H u v Q R ru rv q =>
  ⟨rv, q _ H _ a (hk _ u ru) R (Ex.refl _) rfl⟩
theorem ro_isB {i j : Bool} (hk : k (.dat (.bl (decide (i = j)))) a) : RO K b0 rIsB (.dat (.bl i)) (.dat (.bl j)) a k := ro_here hk fun F H u v e ru rv => ⟨_, rfl, fun Q q => ⟨i, j, ru, rv, q⟩⟩
theorem ro_notB {i j : Bool} (hk : k (.dat (.bl (!decide (i = j)))) a) : RO K b0 rNotB (.dat (.bl i)) (.dat (.bl j)) a k := ro_here hk fun F H u v e ru rv => ⟨_, rfl, fun Q q => ⟨i, j, ru, rv, q⟩⟩
theorem ev_un {f : Int → Int} (h : EV K b0 ta a fun x a1 => ∃ i, x = .dat (.int i) ∧ k (.dat (.int (f i))) a1) : EV K b0 (tUn (rU fun i => .int (f i)) ta) a k := fun σ H Q R q =>
  h σ H _ R fun u H1 x a1 ⟨i, e, h1⟩ R1 e1 r1 => by
    subst e
    exact ⟨i, r1, q _ H1 _ a1 h1 R1 e1 rfl⟩

/-! ### tests -/
theorem et_test (h : EV K b0 te a fun x a1 => ∃ c, x = .dat (.bl c) ∧ kt c a1) : ET K b0 (tTest te) a kt := fun σ H Q R q =>
  h σ H _ R fun u H1 x a1 ⟨c, e, h1⟩ R1 e1 r1 => by
    subst e
    exact ⟨c, r1, q c H1 a1 h1 R1 e1⟩
theorem et_B (h : EV K b0 te a fun x a1 => ∃ c, x = .dat (.bl c) ∧ kt c a1) : ET K b0 (tB te) a kt := fun σ H Q R q =>
  h σ H _ R fun u H1 x a1 ⟨c, e, h1⟩ R1 e1 r1 => by
    subst e
    exact ⟨c, r1, q c H1 a1 h1 R1 e1⟩
theorem et_and {t u : TT} (h : ET K b0 t a fun c a1 => (c = true → ET K b0 u a1 kt) ∧ (c = false → kt false a1)) : ET K b0 (tAnd t u) a kt := fun σ H Q R q =>
  h σ H _ R fun c H1 a1 ⟨h1, h2⟩ R1 e1 => by
    cases c with
    | true => exact iteT (h1 rfl σ H1 Q R1 fun c2 H2 a2 h3 R2 e2 => q c2 H2 a2 h3 R2 (e1.trans e2))
    | false => exact iteF (q false H1 a1 (h2 rfl) R1 e1)
theorem et_or {t u : TT} (h : ET K b0 t a fun c a1 => (c = false → ET K b0 u a1 kt) ∧ (c = true → kt true a1)) : ET K b0 (tOr t u) a kt := fun σ H Q R q =>
  h σ H _ R fun c H1 a1 ⟨h1, h2⟩ R1 e1 => by
    cases c with
    | false => exact iteF (h1 rfl σ H1 Q R1 fun c2 H2 a2 h3 R2 e2 => q c2 H2 a2 h3 R2 (e1.trans e2))
    | true => exact iteT (q true H1 a1 (h2 rfl) R1 e1)
theorem et_not {t : TT} (h : ET K b0 t a fun c a1 => kt (!c) a1) : ET K b0 (tNot t) a kt := fun σ H Q R q =>
  h σ H _ R fun c H1 a1 h1 R1 e1 => q (!c) H1 a1 h1 R1 e1
theorem et_yes (h : kt true a) : ET K b0 tYes a kt := fun σ H Q R q => q true H a h R (Ex.refl _)
theorem ev_andV (h : EV K b0 ta a fun x a1 => ∃ c, x = .dat (.bl c) ∧ (c = true → EV K b0 tb a1 k) ∧ (c = false → k (.dat (.bl false)) a1)) : EV K b0 (tAndV ta tb) a k := fun σ H Q R q =>
  h σ H _ R fun u H1 x a1 ⟨c, e, h1, h2⟩ R1 e1 r1 => by
    subst e
    refine ⟨c, r1, ?_⟩
    cases c with
    | true => exact iteT (h1 rfl σ H1 Q R1 fun v H2 b a2 h3 R2 e2 r2 => q v H2 b a2 h3 R2 (e1.trans e2) r2)
    | false => exact iteF (q _ H1 _ a1 (h2 rfl) R1 e1 rfl)
theorem ev_orV (h : EV K b0 ta a fun x a1 => ∃ c, x = .dat (.bl c) ∧ (c = false → EV K b0 tb a1 k) ∧ (c = true → k (.dat (.bl true)) a1)) : EV K b0 (tOrV ta tb) a k := fun σ H Q R q =>
  h σ H _ R fun u H1 x a1 ⟨c, e, h1, h2⟩ R1 e1 r1 => by
    subst e
    refine ⟨c, r1, ?_⟩
    cases c with
    | false => exact iteF (h1 rfl σ H1 Q R1 fun v H2 b a2 h3 R2 e2 r2 => q v H2 b a2 h3 R2 (e1.trans e2) r2)
    | true => exact iteT (q _ H1 _ a1 (h2 rfl) R1 e1 rfl)
theorem ev_notV (h : EV K b0 ta a fun x a1 => ∃ c, x = .dat (.bl c) ∧ k (.dat (.bl (!c))) a1) : EV K b0 (tNotV ta) a k := fun σ H Q R q =>
  h σ H _ R fun u H1 x a1 ⟨c, e, h1⟩ R1 e1 r1 => by
    subst e
    exact ⟨c, r1, q _ H1 _ a1 h1 R1 e1 rfl⟩
theorem ev_if {t : TT} (h : ET K b0 t a fun c a1 => (c = true → EV K b0 ta a1 k) ∧ (c = false → EV K b0 tb a1 k)) : EV K b0 (tIf t ta tb) a k := fun σ H Q R q =>
  h σ H _ R fun c H1 a1 ⟨h1, h2⟩ R1 e1 => by
    cases c with
    | true => exact iteT (h1 rfl σ H1 Q R1 fun v H2 b a2 h3 R2 e2 r2 => q v H2 b a2 h3 R2 (e1.trans e2) r2)
    | false => exact iteF (h2 rfl σ H1 Q R1 fun v H2 b a2 h3 R2 e2 r2 => q v H2 b a2 h3 R2 (e1.trans e2) r2)
/-- a op b op' c -/
theorem ev_chain {r r' : R2} (h : EV K b0 ta a fun x a1 => EV K b0 tb a1 fun y a2 => RO K b0 r x y a2 fun z a3 => ∃ c, z = .dat (.bl c) ∧ (c = true → EV K b0 tc a3 fun w a4 => RO K b0 r' y w a4 k) ∧ (c = false → k (.dat (.bl false)) a3)) : EV K b0 (tChain r r' ta tb tc) a k := fun σ H Q R q =>
  h σ H _ R fun u H1 x a1 h1 R1 e1 r1 => h1 σ H1 _ R1 fun v H2 y a2 h2 R2 e2 r2 => h2 σ H2 u v _ R2 (r1.mono e2) r2 fun z H3 b3 a3 ⟨c, e, hc1, hc2⟩ R3 e3 r3 => by
    subst e
    refine ⟨c, r3, ?_⟩
    cases c with
    | true => exact iteT (hc1 rfl σ H3 _ R3 fun w H4 b4 a4 h4 R4 e4 r4 => h4 σ H4 v w Q R4 (r2.mono (e3.trans e4)) r4 fun w' H5 b5 a5 h5 R5 e5 r5 => q w' H5 b5 a5 h5 R5 (e1.trans (e2.trans (e3.trans (e4.trans e5)))) r5)
    | false => exact iteF (q _ H3 _ a3 (hc2 rfl) R3 (e1.trans (e2.trans e3)) rfl)

/-! ### arguments, displays -/
variable {kl : List B → AS → Prop} {tas : TA}
theorem ea_nil (h : kl [] a) : EA K b0 tNil a kl := fun σ H Q R q => q [] H [] a h R (Ex.refl _) .nil
theorem ea_cons (h : EV K b0 te a fun x a1 => EA K b0 tas a1 fun bs a2 => kl (x :: bs) a2) : EA K b0 (tCons te tas) a kl := fun σ H Q R q =>
  h σ H _ R fun u H1 x a1 h1 R1 e1 r1 => h1 σ H1 _ R1 fun vs H2 bs a2 h2 R2 e2 r2 => q (u :: vs) H2 (x :: bs) a2 h2 R2 (e1.trans e2) (.cons (r1.mono e2) r2)
theorem small {n : Nat} (h : n ≤ 100000) : n ≤ sizeLine := Nat.le_trans h (by decide)
theorem small' {n : Nat} (h : n < 100000) : n < sizeLine := Nat.lt_of_lt_of_le h (by decide)
/-- a tuple of data -/
theorem ev_tup (h : EA K b0 tas a fun bs a1 => ∃ ds, bs = ds.map B.dat ∧ ds.length ≤ 100000 ∧ k (.dat (.tup ds)) a1) : EV K b0 (tTup tas) a k := fun σ H Q R q =>
  h σ H _ R fun vs H1 bs a1 ⟨ds, e, hl, hk⟩ R1 e1 r1 => by
    subst e
    have rs := RepBs.dats r1
    refine ⟨small (by rw [← rs.length]; exact hl), fun p hp => ?_⟩
    have g := R1.maskGrow (ex_upd (o := .tup vs) hp)
    exact q _ _ _ a1 hk (R1.alloc hp) (e1.trans g) ⟨p, vs, rfl, .inl (.inl (mask_mk (R1.free hp) upd_same)), rs.mono g⟩
/-- a list of data that stands still -/
theorem ev_lstD (h : EA K b0 tas a fun bs a1 => ∃ ds, bs = ds.map B.dat ∧ ds.length ≤ 100000 ∧ k (.dat (.lst ds)) a1) : EV K b0 (tLst tas) a k := fun σ H Q R q =>
  h σ H _ R fun vs H1 bs a1 ⟨ds, e, hl, hk⟩ R1 e1 r1 => by
    subst e
    have rs := RepBs.dats r1
    refine ⟨small (by rw [← rs.length]; exact hl), fun p hp => ?_⟩
    have g := R1.maskGrow (ex_upd (o := .lst vs) hp)
    exact q _ _ _ a1 hk (R1.alloc hp) (e1.trans g) ⟨p, vs, rfl, mask_mk (R1.free hp) upd_same, rs.mono g⟩
/-- a list that will change -/
theorem ev_lstM (h : EA K b0 tas a fun bs a1 => bs.length ≤ 100000 ∧ ∀ p, a1.mem p = none → b0.mem p = none → k (.ptr p) (a1.at (mput a1.mem p (.lst bs)))) : EV K b0 (tLst tas) a k := fun σ H Q R q =>
  h σ H _ R fun vs H1 bs a1 ⟨hl, hk⟩ R1 e1 r1 => by
    refine ⟨small (by rw [← Pd.len r1]; exact hl), fun p hp => ?_⟩
    obtain ⟨R2, e2⟩ := R1.allocM (c := .lst bs) (o := .lst vs) hp ⟨vs, rfl, r1⟩
    exact q _ _ _ _ (hk p (R1.free hp) (R1.free0 hp).1) R2 (e1.trans e2) rfl
end
end MP
/-! MPC -/
namespace MP
open PySem PySem.Spec PyProof.Rows L2

section
variable {K : PySem.W.Frag} {b0 : Ba} {a : AS} {te ta tb tc : TE} {k : B → AS → Prop} {kt : Bool → AS → Prop} {Z : Ends} {t u : TS}

/-! ### statements -/
theorem gs_asg {g : TG} (h : EV K b0 te a fun b a1 => GG K b0 g b a1 fun a2 => NX K b0 Z.nx a2) : GS K b0 (tAsg te g) Z a := fun σ H R =>
  h σ H _ R fun v H1 b a1 h1 R1 e1 r1 => h1 σ H1 v Z.nx R1 r1 fun σ2 H2 a2 h2 R2 _ => h2 σ2 H2 R2
theorem gg_name {b : B} {i : Nat} {kg : AS → Prop} (h : kg (a.put i b)) : GG K b0 (gName i) b a kg := fun σ H v Q R r q => q _ H _ h (R.set r) (Ex.refl _)
theorem gs_set {i : Nat} (h : EV K b0 te a fun b a1 => NX K b0 Z.nx (a1.put i b)) : GS K b0 (tAsg te (gName i)) Z a := gs_asg fun σ H Q R q => h σ H Q R fun v H1 b a1 h1 R1 e1 r1 => q v H1 b a1 (gg_name h1) R1 e1 r1
theorem ggs_nil {kg : AS → Prop} (h : kg a) : GGs K b0 gNil [] a kg := fun σ H vs Q R r q => by
  cases r
  exact ⟨rfl, q σ H a h R (Ex.refl _)⟩
theorem ggs_cons {g : TG} {gs : TGs} {b : B} {bs : List B} {kg : AS → Prop} (h : GG K b0 g b a fun a1 => GGs K b0 gs bs a1 kg) : GGs K b0 (gCons g gs) (b :: bs) a kg := fun σ H vs Q R r q => by
  cases r with
  | cons r1 r2 => exact ⟨_, _, rfl, h σ H _ _ R r1 fun σ1 H1 a1 h1 R1 e1 => h1 σ1 H1 _ Q R1 (Pd.mono (fun _ _ z => z.mono e1) r2) fun σ2 H2 a2 h2 R2 e2 => q σ2 H2 a2 h2 R2 (e1.trans e2)⟩
theorem gg_tup {n : Nat} {gs : TGs} {ds : List D} {kg : AS → Prop} (hn : ds.length = n) (h : GGs K b0 gs (ds.map B.dat) a kg) : GG K b0 (gTup K n gs) (.dat (.tup ds)) a kg := fun σ H v Q R r q => by
  obtain ⟨p, vs, e, h1, h2⟩ := r
  exact ⟨p, vs, e, (maskEx _ _).sqT h1, by rw [← h2.length]; exact hn, h σ H vs Q R (RepBs.of h2) q⟩
theorem gg_sub {to ti : TE} {b : B} {kg : AS → Prop} (h : EV K b0 to a fun x a1 => EV K b0 ti a1 fun y a2 => ∃ p bs i j, x = .ptr p ∧ y = .dat (.int i) ∧ a2.mem p = some (.lst bs) ∧ ixN bs.length i = some j ∧ kg (a2.at (mput a2.mem p (.lst (bs.set j b))))) :
    GG K b0 (gSub to ti rSetL) b a kg := fun σ H v Q R r q =>
  h σ H _ R fun o H1 x a1 h1 R1 e1 r1 => h1 σ H1 _ R1 fun y H2 yb a2 ⟨p, bs, i, j, ex, ey, hm, hj, hk⟩ R2 e2 r2 => by
    subst ex ey
    obtain ⟨ob, ho, vs, rfl, rv⟩ := R2.cont p _ hm
    have hl : bs.length = vs.length := Pd.len rv
    have rb := r.mono (e1.trans e2)
    obtain ⟨R3, e3⟩ := R2.write (c := .lst (bs.set j b)) (o := .lst (vs.set j v)) hm ⟨_, rfl, Pd.set rb j rv⟩
    exact ⟨p, vs, i, j, r1, r2, ho, by rw [← hl]; exact hj, q _ _ _ hk R3 (e1.trans (e2.trans e3))⟩
theorem gs_seq (h : GS K b0 t { Z with nx := u Z } a) : GS K b0 (tSeq t u) Z a := h
theorem nx_seq (h : GS K b0 u Z a) : NX K b0 (u Z) a := h
theorem gs_next (h : NX K b0 Z.nx a) : GS K b0 tNext Z a := h
theorem gs_break (h : NX K b0 Z.bk a) : GS K b0 tBreak Z a := h
theorem gs_cont (h : NX K b0 Z.ct a) : GS K b0 tCont Z a := h
theorem gs_drop (h : EV K b0 te a fun _ a1 => NX K b0 Z.nx a1) : GS K b0 (tDrop te) Z a := fun σ H R => h σ H _ R fun v H1 b a1 h1 R1 _ _ => h1 σ H1 R1
theorem gs_ret (h : EV K b0 te a fun b a1 => RT K b0 Z.rt b a1) : GS K b0 (tRet te) Z a := fun σ H R => h σ H Z.rt R fun v H1 b a1 h1 R1 _ r1 => h1 σ H1 v R1 r1
theorem gs_if {c : TT} (h : ET K b0 c a fun b a1 => (b = true → GS K b0 t Z a1) ∧ (b = false → GS K b0 u Z a1)) : GS K b0 (tIfS c t u) Z a := fun σ H R =>
  h σ H _ R fun b H1 a1 ⟨h1, h2⟩ R1 _ => by
    cases b with
    | true => exact iteT (h1 rfl σ H1 R1)
    | false => exact iteF (h2 rfl σ H1 R1)
theorem gs_par {i j : Nat} {tas : TA} (h : EA K b0 tas a fun bs a1 => ∃ x y, bs = [x, y] ∧ NX K b0 Z.nx ((a1.put i x).put j y)) : GS K b0 (tPar i j tas) Z a := fun σ H R =>
  h σ H _ R fun vs H1 bs a1 ⟨x, y, e, h1⟩ R1 _ r1 => by
    subst e
    cases r1 with
    | cons p q =>
      cases q with
      | cons p' q' =>
        cases q'
        exact ⟨_, _, rfl, h1 _ H1 ((R1.set p).set (i := j) p')⟩
/-- cut with a word: what follows is shown once -/
theorem nx_weak {f : L2.St → Hp → Prop} {e : List (Option B)} (w : Wk a.env e) (h : NX K b0 f ⟨e, a.mem⟩) : NX K b0 f a := fun σ H R => h σ H (R.weak w)
theorem gs_weak {e : List (Option B)} (w : Wk a.env e) (h : GS K b0 t Z ⟨e, a.mem⟩) : GS K b0 t Z a := fun σ H R => h σ H (R.weak w)

/-! ### loops -/
/-- the loop's word: a state of I that is held -/
def InvS (K : PySem.W.Frag) (b0 : Ba) (I : AS → Prop) : L2.St → Hp → Prop := fun σ H => ∃ a, I a ∧ Rel K b0 a σ H
theorem nx_inv {I : AS → Prop} (h : I a) : NX K b0 (InvS K b0 I) a := fun σ H R => ⟨a, h, R⟩
theorem nx_invW {I : AS → Prop} {e : List (Option B)} (w : Wk a.env e) (h : I ⟨e, a.mem⟩) : NX K b0 (InvS K b0 I) a := fun σ H R => ⟨_, h, R.weak w⟩
abbrev loopEnds (K : PySem.W.Frag) (b0 : Ba) (Z : Ends) (I : AS → Prop) : Ends := { Z with nx := InvS K b0 I, ct := InvS K b0 I, bk := Z.nx }
theorem gs_forR {tas : TA} {g : TG} {lo : Int} {n : Nat} (I : Nat → AS → Prop) (a1 : AS) (h0 : I 0 a1)
    (hs : ∀ i a2, i < n → I i a2 → GG K b0 g (.dat (.int (lo + (i : Int)))) a2 fun a3 => GS K b0 t (loopEnds K b0 Z (I (i + 1))) a3)
    (hd : ∀ a2, I n a2 → NX K b0 Z.nx a2) {σ : L2.St} {H : Hp} (R : Rel K b0 a1 σ H) : ∃ W : Nat → Nat → L2.St → Hp → Prop, (∃ m, W 0 m σ H) ∧ ∀ i m σ H, W i m σ H →
      ((Itr lo n).stop i H ∧ Z.nx σ H) ∨ ((Itr lo n).go i H ∧ ∃ N : L2.St → Hp → Prop, (∀ σ' H', N σ' H' → ∃ m', m' < m ∧ W (i + 1) m' σ' H') ∧ ∀ x H', (Itr lo n).yld i H x H' → g x σ H' fun σ2 H2 => t { Z with nx := N, ct := N, bk := Z.nx } σ2 H2) :=
  for_range (fun i => InvS K b0 (I i)) ⟨a1, h0, R⟩ (fun i σ H hi ⟨a2, h2, R2⟩ => hs i a2 hi h2 σ H _ _ R2 rfl fun σ3 H3 a3 h3 R3 _ => h3 σ3 H3 R3) (fun σ H ⟨a2, h2, R2⟩ => hd a2 h2 σ H R2)
theorem gs_for1 {tas : TA} {g : TG} (h : EA K b0 tas a fun bs a1 => ∃ n : Int, bs = [.dat (.int n)] ∧ n ≤ 1000000 ∧ -1000000 ≤ n ∧ ∃ I : Nat → AS → Prop, I 0 a1 ∧
    (∀ i a2, i < n.toNat → I i a2 → GG K b0 g (.dat (.int (i : Int))) a2 fun a3 => GS K b0 t (loopEnds K b0 Z (I (i + 1))) a3) ∧ (∀ a2, I n.toNat a2 → NX K b0 Z.nx a2)) : GS K b0 (tFor (iRng1 tas) g t) Z a := fun σ H R =>
  h σ H _ R fun vs H1 bs a1 ⟨n, e, hn, hn2, I, h0, hs, hd⟩ R1 _ r1 => by
    subst e
    cases r1 with
    | cons p q =>
      cases q
      cases (show _ = V.int n from p)
      refine ⟨n, rfl, by omega, by omega, gs_forR (tas := tas) I a1 h0 (fun i a2 hi h2 => ?_) hd R1⟩
      rw [Int.zero_add]
      exact hs i a2 hi h2
theorem gs_for2 {tas : TA} {g : TG} (h : EA K b0 tas a fun bs a1 => ∃ lo hi : Int, bs = [.dat (.int lo), .dat (.int hi)] ∧ (-1000000 ≤ lo ∧ lo ≤ 1000000 ∧ -1000000 ≤ hi ∧ hi ≤ 1000000) ∧ ∃ I : Nat → AS → Prop, I 0 a1 ∧
    (∀ i a2, i < (hi - lo).toNat → I i a2 → GG K b0 g (.dat (.int (lo + (i : Int)))) a2 fun a3 => GS K b0 t (loopEnds K b0 Z (I (i + 1))) a3) ∧ (∀ a2, I (hi - lo).toNat a2 → NX K b0 Z.nx a2)) : GS K b0 (tFor (iRng2 tas) g t) Z a := fun σ H R =>
  h σ H _ R fun vs H1 bs a1 ⟨lo, hi, e, hn, I, h0, hs, hd⟩ R1 _ r1 => by
    subst e
    cases r1 with
    | cons p q =>
      cases q with
      | cons p' q' =>
        cases q'
        cases (show _ = V.int lo from p)
        cases (show _ = V.int hi from p')
        exact ⟨lo, hi, rfl, ⟨by omega, by omega, by omega, by omega⟩, gs_forR (tas := tas) I a1 h0 hs hd R1⟩
/-- over data: a tuple, a list that stands still (the loop itself holds it) -/
theorem gs_forT {g : TG} (h : EV K b0 te a fun b a1 => ∃ ds, b = .dat (.tup ds) ∧ ∃ I : Nat → AS → Prop, I 0 a1 ∧
    (∀ v i d a2, ds[i]? = some d → I i a2 → GG K (b0.add (.tup ds) v) g (.dat d) a2 fun a3 => GS K (b0.add (.tup ds) v) t (loopEnds K (b0.add (.tup ds) v) Z (I (i + 1))) a3) ∧ (∀ a2, I ds.length a2 → NX K b0 Z.nx a2)) : GS K b0 (tFor (iTup K te) g t) Z a := fun σ H R =>
  h σ H _ R fun v H1 b a1 ⟨ds, e, I, h0, hs, hd⟩ R1 _ r1 => by
    subst e
    have r0 := r1
    obtain ⟨p, vs, rfl, hp, rs⟩ := r1
    have at_ : ∀ {a2 : AS} {σ2 : L2.St} {H2 : Hp}, Rel K (b0.add (.tup ds) (.ref p)) a2 σ2 H2 → ∃ us, SqT K (mask H2 a2.mem) p us ∧ Reps K (mask H2 a2.mem) ds us := fun {a2 σ2 H2} R2 => by
      obtain ⟨p', us, e1, e2, e3⟩ := R2.gho _ (List.mem_cons_self ..)
      cases e1
      exact ⟨us, e2, e3⟩
    have hl := rs.length
    refine ⟨p, rfl, ⟨vs, (maskEx _ _).sqT hp⟩, fun i m σ2 H2 => m = ds.length - i ∧ i ≤ ds.length ∧ InvS K (b0.add (.tup ds) (.ref p)) (I i) σ2 H2, ⟨ds.length, by simp, Nat.zero_le _, a1, h0, R1.addgh r0⟩, ?_⟩
    rintro i m σ2 H2 ⟨rfl, hi, a2, h2, R2⟩
    obtain ⟨us, e2, e3⟩ := at_ R2
    have hl2 := e3.length
    by_cases hlt : i < ds.length
    · refine .inr ⟨⟨us, us[i], (maskEx _ _).sqT e2, by simp [← hl2, hlt]⟩, InvS K (b0.add (.tup ds) (.ref p)) (I (i + 1)), fun σ' H' p' => ⟨ds.length - (i + 1), by omega, rfl, hlt, p'⟩, fun x H' y => ?_⟩
      obtain ⟨eH, y⟩ := y
      subst eH
      have hx := y us ((maskEx _ _).sqT e2)
      obtain ⟨d, hd1, hd2⟩ := e3.getV hx
      refine hs (.ref p) i d a2 hd1 h2 σ2 _ x _ R2 hd2 fun σ3 H3 a3 hg R3 _ => hg σ3 H3 R3
    · have e : i = ds.length := by omega
      subst e
      exact .inl ⟨⟨us, (maskEx _ _).sqT e2, by omega⟩, hd a2 h2 σ2 H2 R2.ungh⟩
theorem gs_forL {g : TG} (h : EV K b0 te a fun b a1 => ∃ ds, b = .dat (.lst ds) ∧ ∃ I : Nat → AS → Prop, I 0 a1 ∧
    (∀ v i d a2, ds[i]? = some d → I i a2 → GG K (b0.add (.lst ds) v) g (.dat d) a2 fun a3 => GS K (b0.add (.lst ds) v) t (loopEnds K (b0.add (.lst ds) v) Z (I (i + 1))) a3) ∧ (∀ a2, I ds.length a2 → NX K b0 Z.nx a2)) : GS K b0 (tFor (iList K te) g t) Z a := fun σ H R =>
  h σ H _ R fun v H1 b a1 ⟨ds, e, I, h0, hs, hd⟩ R1 _ r1 => by
    subst e
    have r0 := r1
    obtain ⟨p, vs, rfl, hp, rs⟩ := r1
    have at_ : ∀ {a2 : AS} {σ2 : L2.St} {H2 : Hp}, Rel K (b0.add (.lst ds) (.ref p)) a2 σ2 H2 → ∃ us, SqL K H2 p us ∧ Reps K (mask H2 a2.mem) ds us := fun {a2 σ2 H2} R2 => by
      obtain ⟨p', us, e1, e2, e3⟩ := R2.gho _ (List.mem_cons_self ..)
      cases e1
      exact ⟨us, .inl (.inl (maskEx _ _ _ _ e2)), e3⟩
    have hl := rs.length
    refine ⟨p, rfl, ⟨vs, .inl (.inl (maskEx _ _ _ _ hp))⟩, fun i m σ2 H2 => m = ds.length - i ∧ i ≤ ds.length ∧ InvS K (b0.add (.lst ds) (.ref p)) (I i) σ2 H2, ⟨ds.length, by simp, Nat.zero_le _, a1, h0, R1.addgh r0⟩, ?_⟩
    rintro i m σ2 H2 ⟨rfl, hi, a2, h2, R2⟩
    obtain ⟨us, e2, e3⟩ := at_ R2
    have hl2 := e3.length
    by_cases hlt : i < ds.length
    · refine .inr ⟨⟨us, us[i], e2, by simp [← hl2, hlt]⟩, InvS K (b0.add (.lst ds) (.ref p)) (I (i + 1)), fun σ' H' p' => ⟨ds.length - (i + 1), by omega, rfl, hlt, p'⟩, fun x H' y => ?_⟩
      obtain ⟨eH, y⟩ := y
      subst eH
      have hx := y us e2
      obtain ⟨d, hd1, hd2⟩ := e3.getV hx
      refine hs (.ref p) i d a2 hd1 h2 σ2 _ x _ R2 hd2 fun σ3 H3 a3 hg R3 _ => hg σ3 H3 R3
    · have e : i = ds.length := by omega
      subst e
      exact .inl ⟨⟨us, e2, by omega⟩, hd a2 h2 σ2 H2 R2.ungh⟩
/-- while: I by a number that falls -/
theorem gs_while {c : TT} (I : Nat → AS → Prop) (m0 : Nat) (h0 : I m0 a)
    (hs : ∀ m a1, I m a1 → ET K b0 c a1 fun b a2 => (b = true → GS K b0 t (loopEnds K b0 Z fun a3 => ∃ m', m' < m ∧ I m' a3) a2) ∧ (b = false → NX K b0 Z.nx a2)) : GS K b0 (tWhile c t) Z a := fun σ H R =>
  ⟨fun m => InvS K b0 (I m), ⟨m0, a, h0, R⟩, fun m σ2 H2 ⟨a1, h1, R1⟩ => hs m a1 h1 σ2 H2 _ R1 fun b H3 a2 ⟨h2, h3⟩ R2 _ => by
    cases b with
    | true => exact iteT ⟨InvS K b0 fun a3 => ∃ m', m' < m ∧ I m' a3, fun σ' H' ⟨a3, ⟨m', h4, h5⟩, R3⟩ => ⟨m', h4, a3, h5, R3⟩, h2 rfl σ2 H3 R2⟩
    | false => exact iteF (h3 rfl σ2 H3 R2)⟩
/-- the list at p stands still from now on -/
theorem gs_frz {p : Addr} {ds : List D} {e : List (Option B)} (h : b0.mem p = none) (h0 : a.mem p = some (.lst (ds.map B.dat))) (z : Fz p (.lst ds) a.env e) (hk : GS K b0 t Z ⟨e, mdel a.mem p⟩) : GS K b0 t Z a := fun σ H R => hk σ H (R.frz h h0 ⟨ds, rfl, rfl⟩ z).1
theorem nx_frz {f : L2.St → Hp → Prop} {p : Addr} {ds : List D} {e : List (Option B)} (h : b0.mem p = none) (h0 : a.mem p = some (.lst (ds.map B.dat))) (z : Fz p (.lst ds) a.env e) (hk : NX K b0 f ⟨e, mdel a.mem p⟩) : NX K b0 f a := fun σ H R => hk σ H (R.frz h h0 ⟨ds, rfl, rfl⟩ z).1
/-- any of them -/
theorem gs_frzC {p : Addr} {c : C} {d : D} {e : List (Option B)} (h : b0.mem p = none) (h0 : a.mem p = some c) (hc : CtoD c d) (z : Fz p d a.env e) (hk : GS K b0 t Z ⟨e, mdel a.mem p⟩) : GS K b0 t Z a := fun σ H R => hk σ H (R.frz h h0 hc z).1
end
end MP
/-! MPD -/
namespace MP
open PySem PySem.Spec PyProof.Rows L2

section
variable {K : PySem.W.Frag} {F G : Hp}
theorem Reps.atI {ds : List D} {vs : List V} {i : Int} {d : D} (h : Reps K F ds vs) (e : atI ds i = some d) : ∃ v, L2.atI vs i = some v ∧ Rep K F d v := by
  unfold L2.atI at e ⊢
  rw [← h.length]
  cases q : ixN ds.length i with
  | none => rw [q] at e; cases e
  | some j =>
    rw [q] at e
    obtain ⟨v, h1, h2⟩ := h.get (show ds[j]? = some d from e)
    exact ⟨v, h1, h2⟩
theorem Pd.atI {R : B → V → Prop} {bs : List B} {vs : List V} {i : Int} {d : B} (h : Paired R bs vs) (e : atI bs i = some d) : ∃ v, L2.atI vs i = some v ∧ R d v := by
  unfold L2.atI at e ⊢
  rw [← Pd.len h]
  cases q : ixN bs.length i with
  | none => rw [q] at e; cases e
  | some j =>
    rw [q] at e
    obtain ⟨v, h1, h2⟩ := Pd.get h (show bs[j]? = some d from e)
    exact ⟨v, h1, h2⟩
def cutG {α : Type} (xs : List α) (lo hi : Option Int) : List α := (xs.drop (HT.sIx xs.length 0 lo)).take (HT.sIx xs.length xs.length hi - HT.sIx xs.length 0 lo)
theorem Reps.cut {ds : List D} {vs : List V} {lo hi : Option Int} (h : Reps K F ds vs) : Reps K F (cutG ds lo hi) (cutV vs lo hi) := by
  unfold cutG cutV
  rw [← h.length]
  exact (h.drop _).take _
theorem cut_whole {α : Type} {xs : List α} {lo hi : Option Int} (h : HT.sIx xs.length 0 lo = 0 ∧ HT.sIx xs.length xs.length hi = xs.length) : cutG xs lo hi = xs := by
  unfold cutG
  rw [h.1, h.2]
  simp
theorem cut_to {α : Type} (xs : List α) (n : Nat) : cutG xs none (some (n : Int)) = xs.take n := by
  unfold cutG
  rw [HT.sIx_none, HT.sIx_nat, List.drop_zero, Nat.sub_zero]
  rcases Nat.le_total n xs.length with h | h
  · rw [Nat.min_eq_left h]
  · rw [Nat.min_eq_right h, List.take_of_length_le h, List.take_of_length_le (Nat.le_refl _)]
theorem cut_from {α : Type} (xs : List α) (n : Nat) : cutG xs (some (n : Int)) none = xs.drop n := by
  unfold cutG
  rw [HT.sIx_none, HT.sIx_nat]
  rcases Nat.le_total n xs.length with h | h
  · rw [Nat.min_eq_left h, List.take_of_length_le (by rw [List.length_drop]; exact Nat.le_refl _)]
  · rw [Nat.min_eq_right h, List.drop_of_length_le h, List.drop_of_length_le (Nat.le_refl _)]
    simp
end

section
variable {K : PySem.W.Frag} {b0 : Ba} {a : AS} {te ta tb tc : TE} {k : B → AS → Prop} {kt : Bool → AS → Prop} {Z : Ends} {t u : TS}

/-! ### subscripts, slices -/
theorem ro_ixT {ds : List D} {i : Int} {d : D} (h : atI ds i = some d) (hk : k (.dat d) a) : RO K b0 (rIx K) (.dat (.tup ds)) (.dat (.int i)) a k :=
  ro_here hk fun F H u v e ru rv => by
    obtain ⟨p, vs, h1, h2, h3⟩ := ru
    obtain ⟨w, h4, h5⟩ := h3.atI h
    exact ⟨w, h5, fun Q q => .inr (.inl ⟨p, vs, i, w, h1, rv, e.sqT h2, h4, q⟩)⟩
theorem ro_ixL {ds : List D} {i : Int} {d : D} (h : atI ds i = some d) (hk : k (.dat d) a) : RO K b0 (rIx K) (.dat (.lst ds)) (.dat (.int i)) a k :=
  ro_here hk fun F H u v e ru rv => by
    obtain ⟨p, vs, h1, h2, h3⟩ := ru
    obtain ⟨w, h4, h5⟩ := h3.atI h
    exact ⟨w, h5, fun Q q => .inl ⟨p, vs, i, w, h1, rv, .inl (.inl (e _ _ h2)), h4, q⟩⟩
theorem ro_ixP {p : Addr} {bs : List B} {i : Int} {b : B} (hm : a.mem p = some (.lst bs)) (h : atI bs i = some b) (hk : k b a) : RO K b0 (rIx K) (.ptr p) (.dat (.int i)) a k := fun σ H u v Q R ru rv q => by
  obtain ⟨o, ho, vs, rfl, rb⟩ := R.cont p _ hm
  obtain ⟨w, h4, h5⟩ := Pd.atI rb h
  exact .inl ⟨p, vs, i, w, ru, rv, .inl (.inl ho), h4, q w H b a hk R (Ex.refl _) h5⟩
theorem eo_none {ko : Option Int → AS → Prop} (h : ko none a) : EO K b0 tNoPart a ko := fun σ H Q R q => q none H a h R (Ex.refl _)
theorem eo_some {ko : Option Int → AS → Prop} (h : EV K b0 te a fun x a1 => ∃ i, x = .dat (.int i) ∧ ko (some i) a1) : EO K b0 (tPart te) a ko := fun σ H Q R q =>
  h σ H _ R fun v H1 x a1 ⟨i, e, h1⟩ R1 e1 r1 => by
    subst e
    exact ⟨i, r1, q (some i) H1 a1 h1 R1 e1⟩
abbrev rSlAny (K : PySem.W.Frag) : V → Option Int → Option Int → Hp → VK → Prop := fun x lo hi H Q => rSlA K x lo hi H Q ∨ rSlL K x lo hi H Q
theorem sl_any {X : Cx} : SlR X (rSlAny X.K) := sl_tupA.or sl_list
theorem ev_sl {tl th : TO} (h : EV K b0 te a fun x a1 => EO K b0 tl a1 fun l a2 => EO K b0 th a2 fun u a3 =>
    ∃ ds, (x = .dat (.tup ds) ∧ k (.dat (.tup (cutG ds l u))) a3) ∨ ((x = .dat (.lst ds) ∨ x = .dat (.ro ds)) ∧ k (.dat (.lst (cutG ds l u))) a3)) : EV K b0 (tSl (rSlAny K) te tl th) a k := fun σ H Q R q =>
  h σ H _ R fun v H1 x a1 h1 R1 e1 r1 => h1 σ H1 _ R1 fun l H2 a2 h2 R2 e2 => h2 σ H2 _ R2 fun u H3 a3 h3 R3 e3 => by
    obtain ⟨ds, ⟨rfl, hk⟩ | ⟨hx, hk⟩⟩ := h3
    · obtain ⟨p, vs, rfl, hp, rs⟩ := r1.mono (e2.trans e3)
      refine .inl ⟨p, vs, rfl, (maskEx _ _).sqT hp, fun hw => ?_, fun hw r hr => ?_⟩
      · rw [← rs.length] at hw
        rw [cut_whole hw] at hk
        exact q _ H3 _ a3 hk R3 (e1.trans (e2.trans e3)) ⟨p, vs, rfl, hp, rs⟩
      · have g := R3.maskGrow (ex_upd (o := .tup (cutV vs l u)) hr)
        exact q _ _ _ a3 hk (R3.alloc hr) (e1.trans (e2.trans (e3.trans g))) ⟨r, _, rfl, .inl (.inl (mask_mk (R3.free hr) upd_same)), rs.cut.mono g⟩
    · have rr := r1.mono (e2.trans e3)
      have : ∃ p vs, v = .ref p ∧ SqL K H3 p vs ∧ Reps K (mask H3 a3.mem) ds vs := by
        rcases hx with rfl | rfl
        · obtain ⟨p, vs, h1, h2, h3⟩ := rr
          exact ⟨p, vs, h1, .inl (.inl (maskEx _ _ _ _ h2)), h3⟩
        · obtain ⟨p, vs, h1, h2, h3⟩ := rr
          exact ⟨p, vs, h1, (maskEx _ _).sqL h2, h3⟩
      obtain ⟨p, vs, rfl, hp, rs⟩ := this
      refine .inr ⟨p, vs, rfl, hp, fun r hr => ?_⟩
      have g := R3.maskGrow (ex_upd (o := .lst (cutV vs l u)) hr)
      exact q _ _ _ a3 hk (R3.alloc hr) (e1.trans (e2.trans (e3.trans g))) ⟨r, _, rfl, mask_mk (R3.free hr) upd_same, rs.cut.mono g⟩

/-! ### lists as contents -/
/-- x is a list of bs -/
def IsL (a : AS) (x : B) (bs : List B) : Prop := (∃ p, x = .ptr p ∧ a.mem p = some (.lst bs)) ∨ ∃ ds, x = .dat (.lst ds) ∧ bs = ds.map B.dat
theorem IsL.get {σ : L2.St} {H : Hp} {x : B} {bs : List B} {v : V} (h : IsL a x bs) (R : Rel K b0 a σ H) (r : RepB K (mask H a.mem) x v) : ∃ p vs, v = .ref p ∧ H p = some (.lst vs) ∧ RepBs K (mask H a.mem) bs vs := by
  rcases h with ⟨p, rfl, hm⟩ | ⟨ds, rfl, rfl⟩
  · obtain ⟨o, ho, vs, rfl, rb⟩ := R.cont p _ hm
    exact ⟨p, vs, r, ho, rb⟩
  · obtain ⟨p, vs, h1, h2, h3⟩ := r
    exact ⟨p, vs, h1, maskEx _ _ _ _ h2, RepBs.of h3⟩
theorem ro_catT {ds es : List D} (hl : ds.length + es.length ≤ 100000) (hk : k (.dat (.tup (ds ++ es))) a) : RO K b0 (rCatA K) (.dat (.tup ds)) (.dat (.tup es)) a k := fun σ H u v Q R ru rv q => by
  obtain ⟨p, vs, rfl, hp, rs⟩ := id ru
  obtain ⟨p2, vs2, rfl, hp2, rs2⟩ := id rv
  refine ⟨p, p2, vs, vs2, rfl, rfl, (maskEx _ _).sqT hp, (maskEx _ _).sqT hp2, small (by rw [← rs.length, ← rs2.length]; exact hl), fun e => ?_, fun _ e => ?_, fun _ _ r hr => ?_⟩
  · have : ds = [] := by
      have := rs.length
      rw [e] at this
      exact List.eq_nil_of_length_eq_zero this
    subst this
    exact q _ H _ a hk R (Ex.refl _) rv
  · have : es = [] := by
      have := rs2.length
      rw [e] at this
      exact List.eq_nil_of_length_eq_zero this
    subst this
    rw [List.append_nil] at hk
    exact q _ H _ a hk R (Ex.refl _) ru
  · have g := R.maskGrow (ex_upd (o := .tup (vs ++ vs2)) hr)
    exact q _ _ _ a hk (R.alloc hr) g ⟨r, _, rfl, .inl (.inl (mask_mk (R.free hr) upd_same)), (rs.append rs2).mono g⟩
theorem ro_catL {x y : B} {ds es : List D} (hx : IsL a x (ds.map B.dat)) (hy : IsL a y (es.map B.dat)) (hl : ds.length + es.length ≤ 100000) (hk : k (.dat (.lst (ds ++ es))) a) : RO K b0 rCat x y a k := fun σ H u v Q R ru rv q => by
  obtain ⟨p, vs, rfl, hp, rb⟩ := hx.get R ru
  obtain ⟨p2, vs2, rfl, hp2, rb2⟩ := hy.get R rv
  have rs := RepBs.dats rb
  have rs2 := RepBs.dats rb2
  refine ⟨p, p2, vs, vs2, rfl, rfl, hp, hp2, small (by rw [← rs.length, ← rs2.length]; exact hl), fun r hr => ?_⟩
  have g := R.maskGrow (ex_upd (o := .lst (vs ++ vs2)) hr)
  exact q _ _ _ a hk (R.alloc hr) g ⟨r, _, rfl, mask_mk (R.free hr) upd_same, (rs.append rs2).mono g⟩
theorem ro_catM {x y : B} {bs cs : List B} (hx : IsL a x bs) (hy : IsL a y cs) (hl : bs.length + cs.length ≤ 100000) (hk : ∀ p, a.mem p = none → b0.mem p = none → k (.ptr p) (a.at (mput a.mem p (.lst (bs ++ cs))))) : RO K b0 rCat x y a k := fun σ H u v Q R ru rv q => by
  obtain ⟨p, vs, rfl, hp, rb⟩ := hx.get R ru
  obtain ⟨p2, vs2, rfl, hp2, rb2⟩ := hy.get R rv
  refine ⟨p, p2, vs, vs2, rfl, rfl, hp, hp2, small (by rw [← Pd.len rb, ← Pd.len rb2]; exact hl), fun r hr => ?_⟩
  obtain ⟨R2, e2⟩ := R.allocM (c := .lst (bs ++ cs)) (o := .lst (vs ++ vs2)) hr ⟨_, rfl, Pd.app rb rb2⟩
  exact q _ _ _ _ (hk r (R.free hr) (R.free0 hr).1) R2 e2 rfl

/-! ### methods of lists -/
theorem tyL {σ : L2.St} {H : Hp} {p : Addr} {bs : List B} (hm : a.mem p = some (.lst bs)) (R : Rel K b0 a σ H) : tyV K "list" (.ref p) H := by
  obtain ⟨o, ho, vs, rfl, rb⟩ := R.cont p _ hm
  exact .inl ⟨rfl, vs, .inl (.inl ho)⟩
theorem gs_app (h : EV K b0 ta a fun x a1 => ∃ p bs, x = .ptr p ∧ a1.mem p = some (.lst bs) ∧ EV K b0 te a1 fun b a2 => ∃ cs, a2.mem p = some (.lst cs) ∧ cs.length < 100000 ∧ NX K b0 Z.nx (a2.at (mput a2.mem p (.lst (cs ++ [b]))))) :
    GS K b0 (tDrop (tBM K "list" rAppend ta (tCons te tNil))) Z a := fun σ H R =>
  h σ H _ R fun v H1 x a1 ⟨p, bs, e, hm, h1⟩ R1 e1 r1 => by
    subst e
    cases (show v = .ref p from r1)
    refine ⟨tyL hm R1, h1 σ H1 _ R1 fun w H2 b a2 ⟨cs, hm2, hl, h2⟩ R2 e2 r2 => ?_⟩
    obtain ⟨o, ho, vs, rfl, rb⟩ := R2.cont p _ hm2
    obtain ⟨R3, e3⟩ := R2.write (c := .lst (cs ++ [b])) (o := .lst (vs ++ [w])) hm2 ⟨_, rfl, Pd.app rb (.cons r2 .nil)⟩
    exact ⟨p, vs, w, rfl, rfl, ho, small' (by rw [← Pd.len rb]; exact hl), h2 σ _ R3⟩
theorem gs_ext (h : EV K b0 ta a fun x a1 => ∃ p bs, x = .ptr p ∧ a1.mem p = some (.lst bs) ∧ EV K b0 te a1 fun y a2 => ∃ cs ds, a2.mem p = some (.lst cs) ∧ IsL a2 y ds ∧ cs.length + ds.length ≤ 100000 ∧ NX K b0 Z.nx (a2.at (mput a2.mem p (.lst (cs ++ ds))))) :
    GS K b0 (tDrop (tBM K "list" rExtend ta (tCons te tNil))) Z a := fun σ H R =>
  h σ H _ R fun v H1 x a1 ⟨p, bs, e, hm, h1⟩ R1 e1 r1 => by
    subst e
    cases (show v = .ref p from r1)
    refine ⟨tyL hm R1, h1 σ H1 _ R1 fun w H2 b a2 ⟨cs, ds, hm2, hy, hl, h2⟩ R2 e2 r2 => ?_⟩
    obtain ⟨o, ho, vs, rfl, rb⟩ := R2.cont p _ hm2
    obtain ⟨p2, vs2, rfl, hp2, rb2⟩ := hy.get R2 r2
    obtain ⟨R3, e3⟩ := R2.write (c := .lst (cs ++ ds)) (o := .lst (vs ++ vs2)) hm2 ⟨_, rfl, Pd.app rb rb2⟩
    exact ⟨p, p2, vs, vs2, rfl, rfl, ho, hp2, small (by rw [← Pd.len rb, ← Pd.len rb2]; exact hl), h2 σ _ R3⟩
theorem ev_pop (h : EV K b0 ta a fun x a1 => ∃ p bs b, x = .ptr p ∧ a1.mem p = some (.lst (bs ++ [b])) ∧ k b (a1.at (mput a1.mem p (.lst bs)))) : EV K b0 (tBM0 K "list" rPop ta) a k := fun σ H Q R q =>
  h σ H _ R fun v H1 x a1 ⟨p, bs, b, e, hm, h1⟩ R1 e1 r1 => by
    subst e
    cases (show v = .ref p from r1)
    refine ⟨tyL hm R1, ?_⟩
    obtain ⟨o, ho, vs, rfl, rb⟩ := R1.cont p _ hm
    have hl : (bs ++ [b]).length = vs.length := Pd.len rb
    rw [List.length_append, List.length_singleton] at hl
    obtain ⟨w, hw, rw'⟩ := Pd.get rb (show (bs ++ [b])[bs.length]? = some b by simp)
    have rd : RepBs K (mask H1 a1.mem) bs vs.dropLast := by
      have := Pd.take bs.length rb
      rw [List.take_left] at this
      rw [List.dropLast_eq_take, ← hl]
      exact this
    obtain ⟨R3, e3⟩ := R1.write (c := .lst bs) (o := .lst vs.dropLast) hm ⟨_, rfl, rd⟩
    refine ⟨p, vs, w, rfl, rfl, ho, ?_, q _ _ _ _ h1 R3 (e1.trans e3) (rw'.mono e3)⟩
    rw [← hl, Nat.add_sub_cancel]
    exact hw
theorem ev_popAt (h : EV K b0 ta a fun x a1 => ∃ p bs0, x = .ptr p ∧ a1.mem p = some (.lst bs0) ∧ EV K b0 te a1 fun y a2 => ∃ (bs : List B) (i : Nat) (b : B), y = .dat (.int (i : Int)) ∧ a2.mem p = some (.lst bs) ∧ bs[i]? = some b ∧ bs.length ≤ 100000 ∧ k b (a2.at (mput a2.mem p (.lst (bs.eraseIdx i))))) :
    EV K b0 (tBM K "list" rPopAt ta (tCons te tNil)) a k := fun σ H Q R q =>
  h σ H _ R fun v H1 x a1 ⟨p, bs0, e, hm, h1⟩ R1 e1 r1 => by
    subst e
    cases (show v = .ref p from r1)
    refine ⟨tyL hm R1, h1 σ H1 _ R1 fun w H2 y a2 ⟨bs, i, b, ey, hm2, hb, hl, h2⟩ R2 e2 r2 => ?_⟩
    subst ey
    cases (show w = V.int (i : Int) from r2)
    obtain ⟨o, ho, vs, rfl, rb⟩ := R2.cont p _ hm2
    have hl2 : bs.length = vs.length := Pd.len rb
    obtain ⟨z, hz, rz⟩ := Pd.get rb hb
    have hi := (List.getElem?_eq_some_iff.mp hb).1
    obtain ⟨R3, e3⟩ := R2.write (c := .lst (bs.eraseIdx i)) (o := .lst (vs.eraseIdx i)) hm2 ⟨_, rfl, Pd.eraseIdx i rb⟩
    refine ⟨p, vs, (i : Int), i, z, rfl, rfl, ho, by omega, by omega, ?_, hz, q _ _ _ _ h2 R3 (e1.trans (e2.trans e3)) (rz.mono e3)⟩
    have := (ixN_seq (n := vs.length) (i := (i : Int)) (j := i) (by
      unfold ixN
      rw [if_pos (by omega), if_pos (by omega)]
      simp)).1
    exact this

/-! ### calls of what is built in -/
theorem ev_cb {r : List V → Hp → VK → Prop} {tas : TA} (h : EA K b0 tas a fun bs a1 => RCl K b0 r bs a1 k) : EV K b0 (tCB r tas) a k := fun σ H Q R q =>
  h σ H _ R fun vs H1 bs a1 h1 R1 e1 r1 => h1 σ H1 vs Q R1 r1 fun w H2 b a2 h2 R2 e2 r2 => q w H2 b a2 h2 R2 (e1.trans e2) r2
abbrev rLenAny (K : PySem.W.Frag) : List V → Hp → VK → Prop := fun xs H Q => (∃ p ys, xs = [.ref p] ∧ (SqL K H p ys ∨ SqT K H p ys) ∧ Q (.int ys.length) H) ∨ (∃ a kvs, xs = [V.ref a] ∧ H a = some (.dK kvs) ∧ Q (.int kvs.length) H)
theorem call_len_any {X : Cx} : CallR X (.builtin "len") (rLenAny X.K) := call_len_seq.or call_lenD
theorem pd1 {R : B → V → Prop} {b : B} {vs : List V} (h : Paired R [b] vs) : ∃ v, vs = [v] ∧ R b v := by
  cases h with
  | cons p q =>
    cases q
    exact ⟨_, rfl, p⟩
theorem pd2 {R : B → V → Prop} {b c : B} {vs : List V} (h : Paired R [b, c] vs) : ∃ v w, vs = [v, w] ∧ R b v ∧ R c w := by
  cases h with
  | cons p q =>
    obtain ⟨w, rfl, hw⟩ := pd1 q
    exact ⟨_, w, rfl, p, hw⟩
theorem rc_lenT {ds : List D} (hk : k (.dat (.int (ds.length : Int))) a) : RCl K b0 (rLenAny K) [.dat (.tup ds)] a k := fun σ H vs Q R r q => by
  obtain ⟨v, rfl, p, us, rfl, hp, rs⟩ := pd1 r
  refine .inl ⟨p, us, rfl, .inr ((maskEx _ _).sqT hp), ?_⟩
  rw [← rs.length]
  exact q _ H _ a hk R (Ex.refl _) rfl
theorem rc_lenL {x : B} {bs : List B} (h : IsL a x bs) (hk : k (.dat (.int (bs.length : Int))) a) : RCl K b0 (rLenAny K) [x] a k := fun σ H vs Q R r q => by
  obtain ⟨v, rfl, rv⟩ := pd1 r
  obtain ⟨p, us, rfl, hp, rb⟩ := h.get R rv
  refine .inl ⟨p, us, rfl, .inl (.inl (.inl hp)), ?_⟩
  rw [← Pd.len rb]
  exact q _ H _ a hk R (Ex.refl _) rfl
theorem rc_lenD {p : Addr} {ks : List (Int × D)} (h : a.mem p = some (.dic ks)) (hk : k (.dat (.int (ks.length : Int))) a) : RCl K b0 (rLenAny K) [.ptr p] a k := fun σ H vs Q R r q => by
  obtain ⟨v, rfl, rv⟩ := pd1 r
  cases (show v = .ref p from rv)
  obtain ⟨o, ho, kvs, rfl, rb⟩ := R.cont p _ h
  refine .inr ⟨p, kvs, rfl, ho, ?_⟩
  rw [← Pd.len rb]
  exact q _ H _ a hk R (Ex.refl _) rfl
theorem rc_abs {i : Int} (hk : k (.dat (.int (if i < 0 then -i else i))) a) : RCl K b0 (fun xs H Q => ∃ i, xs = [.int i] ∧ Q (.int (if i < 0 then -i else i)) H) [.dat (.int i)] a k := fun σ H vs Q R r q => by
  obtain ⟨v, rfl, rv⟩ := pd1 r
  cases (show v = .int i from rv)
  exact ⟨i, rfl, q _ H _ a hk R (Ex.refl _) rfl⟩
theorem rc_int {i : Int} (hk : k (.dat (.int i)) a) : RCl K b0 (fun xs H Q => (∃ i, xs = [.int i] ∧ Q (.int i) H) ∨ ∃ k, xs = [.bl k] ∧ Q (.int (if k then 1 else 0)) H) [.dat (.int i)] a k := fun σ H vs Q R r q => by
  obtain ⟨v, rfl, rv⟩ := pd1 r
  cases (show v = .int i from rv)
  exact .inl ⟨i, rfl, q _ H _ a hk R (Ex.refl _) rfl⟩
theorem rc_intB {i : Bool} (hk : k (.dat (.int (if i then 1 else 0))) a) : RCl K b0 (fun xs H Q => (∃ i, xs = [.int i] ∧ Q (.int i) H) ∨ ∃ k, xs = [.bl k] ∧ Q (.int (if k then 1 else 0)) H) [.dat (.bl i)] a k := fun σ H vs Q R r q => by
  obtain ⟨v, rfl, rv⟩ := pd1 r
  cases (show v = .bl i from rv)
  exact .inr ⟨i, rfl, q _ H _ a hk R (Ex.refl _) rfl⟩
theorem rc_min2 {i j : Int} (hk : k (.dat (.int (if j < i then j else i))) a) : RCl K b0 (fun xs H Q => ∃ i j, xs = [.int i, .int j] ∧ Q (.int (if j < i then j else i)) H) [.dat (.int i), .dat (.int j)] a k := fun σ H vs Q R r q => by
  obtain ⟨v, w, rfl, rv, rw'⟩ := pd2 r
  cases (show v = .int i from rv)
  cases (show w = .int j from rw')
  exact ⟨i, j, rfl, q _ H _ a hk R (Ex.refl _) rfl⟩
theorem rc_gcd {i j : Int} (hk : k (.dat (.int ((Nat.gcd i.natAbs j.natAbs : Nat) : Int))) a) : RCl K b0 rGcd [.dat (.int i), .dat (.int j)] a k := fun σ H vs Q R r q => by
  obtain ⟨v, w, rfl, rv, rw'⟩ := pd2 r
  cases (show v = .int i from rv)
  cases (show w = .int j from rw')
  exact ⟨i, j, rfl, q _ H _ a hk R (Ex.refl _) rfl⟩
theorem map_dat_int {is : List Int} : (is.map D.int).map B.dat = is.map (fun i => B.dat (.int i)) := by rw [List.map_map]; rfl
theorem rc_minL {x : B} {is : List Int} (h : IsL a x ((is.map D.int).map B.dat)) (h0 : 0 < is.length) (hk : ∀ m, m ∈ is → (∀ y ∈ is, m ≤ y) → k (.dat (.int m)) a) : RCl K b0 (rMin K) [x] a k := fun σ H vs Q R r q => by
  obtain ⟨v, rfl, rv⟩ := pd1 r
  obtain ⟨p, us, rfl, hp, rb⟩ := h.get R rv
  have e := (RepBs.dats rb).ints
  subst e
  exact ⟨p, is, rfl, .inl (.inl hp), h0, fun m h1 h2 => q _ H _ a (hk m h1 h2) R (Ex.refl _) rfl⟩
theorem rc_any {x : B} {is : List Bool} (h : IsL a x ((is.map D.bl).map B.dat)) (hk : k (.dat (.bl (is.any id))) a) : RCl K b0 (rAny K) [x] a k := fun σ H vs Q R r q => by
  obtain ⟨v, rfl, rv⟩ := pd1 r
  obtain ⟨p, us, rfl, hp, rb⟩ := h.get R rv
  have e := (RepBs.dats rb).bls
  subst e
  exact ⟨p, is, rfl, .inl (.inl hp), q _ H _ a hk R (Ex.refl _) rfl⟩
abbrev rTupleOf (K : PySem.W.Frag) : List V → Hp → VK → Prop := fun xs H Q => ∃ p ys, xs = [.ref p] ∧ ((SqL K H p ys ∧ ∀ l, H l = none → Q (.ref l) (upd H l (.tup ys))) ∨ (SqT K H p ys ∧ Q (.ref p) H))
abbrev rListOf (K : PySem.W.Frag) : List V → Hp → VK → Prop := fun xs H Q => ∃ p ys, xs = [.ref p] ∧ (SqL K H p ys ∨ SqT K H p ys) ∧ ∀ l, H l = none → Q (.ref l) (upd H l (.lst ys))
theorem rc_tupleL {x : B} {ds : List D} (h : IsL a x (ds.map B.dat)) (hk : k (.dat (.tup ds)) a) : RCl K b0 (rTupleOf K) [x] a k := fun σ H vs Q R r q => by
  obtain ⟨v, rfl, rv⟩ := pd1 r
  obtain ⟨p, us, rfl, hp, rb⟩ := h.get R rv
  refine ⟨p, us, rfl, .inl ⟨.inl (.inl hp), fun r hr => ?_⟩⟩
  have g := R.maskGrow (ex_upd (o := .tup us) hr)
  exact q _ _ _ a hk (R.alloc hr) g ⟨r, _, rfl, .inl (.inl (mask_mk (R.free hr) upd_same)), (RepBs.dats rb).mono g⟩
theorem seq_of {σ : L2.St} {H : Hp} {x : B} {ds : List D} {v : V} (h : IsL a x (ds.map B.dat) ∨ x = .dat (.tup ds)) (R : Rel K b0 a σ H) (r : RepB K (mask H a.mem) x v) : ∃ p vs, v = .ref p ∧ (SqL K H p vs ∨ SqT K H p vs) ∧ Reps K (mask H a.mem) ds vs := by
  rcases h with h | rfl
  · obtain ⟨p, us, rfl, hp, rb⟩ := h.get R r
    exact ⟨p, us, rfl, .inl (.inl (.inl hp)), RepBs.dats rb⟩
  · obtain ⟨p, us, rfl, hp, rs⟩ := r
    exact ⟨p, us, rfl, .inr ((maskEx _ _).sqT hp), rs⟩
theorem rc_listD {x : B} {ds : List D} (h : IsL a x (ds.map B.dat) ∨ x = .dat (.tup ds)) (hk : k (.dat (.lst ds)) a) : RCl K b0 (rListOf K) [x] a k := fun σ H vs Q R r q => by
  obtain ⟨v, rfl, rv⟩ := pd1 r
  obtain ⟨p, us, rfl, hp, rs⟩ := seq_of h R rv
  refine ⟨p, us, rfl, hp, fun r hr => ?_⟩
  have g := R.maskGrow (ex_upd (o := .lst us) hr)
  exact q _ _ _ a hk (R.alloc hr) g ⟨r, _, rfl, mask_mk (R.free hr) upd_same, rs.mono g⟩
theorem rc_listM {x : B} {ds : List D} (h : IsL a x (ds.map B.dat) ∨ x = .dat (.tup ds)) (hk : ∀ p, a.mem p = none → b0.mem p = none → k (.ptr p) (a.at (mput a.mem p (.lst (ds.map B.dat))))) : RCl K b0 (rListOf K) [x] a k := fun σ H vs Q R r q => by
  obtain ⟨v, rfl, rv⟩ := pd1 r
  obtain ⟨p, us, rfl, hp, rs⟩ := seq_of h R rv
  refine ⟨p, us, rfl, hp, fun r hr => ?_⟩
  obtain ⟨R2, e2⟩ := R.allocM (c := .lst (ds.map B.dat)) (o := .lst us) hr ⟨_, rfl, RepBs.of rs⟩
  exact q _ _ _ _ (hk r (R.free hr) (R.free0 hr).1) R2 e2 rfl

/-! ### dicts with int keys -/
def dget (ks : List (Int × D)) (i : Int) : Option D := (ks.find? fun x => decide (x.1 = i)).map (·.2)
theorem repK_get {F : Hp} : ∀ {ks : List (Int × D)} {kvs : List (Key × V)} (i : Int), RepK K F ks kvs → (∀ d, dget ks i = some d → ∃ v, valV kvs (Sum.inl i) = some v ∧ Rep K F d v) ∧ (dget ks i = none → valV kvs (Sum.inl i) = none)
  | _, _, i, .nil => And.intro (fun d h => nomatch (show (none : Option D) = some d from h)) (fun _ => rfl)
  | (j, d) :: ks, (q, v) :: kvs, i, .cons ⟨e, r⟩ t => by
    have e' : q = Sum.inl j := e
    subst e'
    by_cases h : j = i
    · subst h
      have h1 : dget ((j, d) :: ks) j = some d := by simp [dget]
      have h2 : valV ((Sum.inl j, v) :: kvs) (Sum.inl j : Key) = some v := valV_pos rfl
      rw [h1, h2]
      refine ⟨fun d' e => ?_, fun e => nomatch e⟩
      cases e
      exact ⟨v, rfl, r⟩
    · have h1 : dget ((j, d) :: ks) i = dget ks i := by simp [dget, List.find?_cons, h]
      have h2 : valV ((Sum.inl j, v) :: kvs) (Sum.inl i : Key) = valV kvs (Sum.inl i) := valV_neg (fun e => h (Sum.inl.inj e))
      rw [h1, h2]
      exact repK_get i t
theorem repK_snoc {F : Hp} {ks : List (Int × D)} {kvs : List (Key × V)} {i : Int} {d : D} {v : V} (r : RepK K F ks kvs) (h : dget ks i = none) (rv : Rep K F d v) : RepK K F (ks ++ [(i, d)]) (putK kvs (Sum.inl i) v) := by
  rw [putK_new v ((repK_get i r).2 h)]
  exact Pd.app r (.cons ⟨rfl, rv⟩ .nil)
theorem kv_int (i : Int) : kV (Sum.inl i) = V.int i := rfl
theorem ev_dget (h : EV K b0 ta a fun x a1 => EV K b0 tb a1 fun y a2 => ∃ p ks i d, x = .ptr p ∧ y = .dat (.int i) ∧ a2.mem p = some (.dic ks) ∧ dget ks i = some d ∧ k (.dat d) a2) : EV K b0 (tDGet ta tb) a k := fun σ H Q R q =>
  h σ H _ R fun v H1 x a1 h1 R1 e1 r1 => h1 σ H1 _ R1 fun w H2 y a2 ⟨p, ks, i, d, ex, ey, hm, hd, hk⟩ R2 e2 r2 => by
    subst ex ey
    cases (show v = .ref p from r1)
    cases (show w = .int i from r2)
    obtain ⟨o, ho, kvs, rfl, rb⟩ := R2.cont p _ hm
    obtain ⟨z, hz, rz⟩ := (repK_get i rb).1 d hd
    have g := DGet.k (k := Sum.inl i) ho
    rw [hz] at g
    exact ⟨p, z, rfl, g, q z H2 _ a2 hk R2 (e1.trans e2) rz⟩
theorem ev_din (h : EV K b0 tb a fun y a1 => EV K b0 ta a1 fun x a2 => ∃ p ks i, x = .ptr p ∧ y = .dat (.int i) ∧ a2.mem p = some (.dic ks) ∧ k (.dat (.bl (dget ks i).isSome)) a2) : EV K b0 (tDIn tb ta) a k := fun σ H Q R q =>
  h σ H _ R fun v H1 x a1 h1 R1 e1 r1 => h1 σ H1 _ R1 fun w H2 y a2 ⟨p, ks, i, ex, ey, hm, hk⟩ R2 e2 r2 => by
    subst ex ey
    cases (show w = .ref p from r2)
    cases (show v = .int i from r1)
    obtain ⟨o, ho, kvs, rfl, rb⟩ := R2.cont p _ hm
    refine ⟨p, valV kvs (Sum.inl i), rfl, DGet.k (k := Sum.inl i) ho, ?_⟩
    have e : (valV kvs (Sum.inl i)).isSome = (dget ks i).isSome := by
      cases hd : dget ks i with
      | none => rw [(repK_get i rb).2 hd]; rfl
      | some d =>
        obtain ⟨z, hz, _⟩ := (repK_get i rb).1 d hd
        rw [hz]; rfl
    rw [e]
    exact q _ H2 _ a2 hk R2 (e1.trans e2) rfl
theorem ev_dnin (h : EV K b0 tb a fun y a1 => EV K b0 ta a1 fun x a2 => ∃ p ks i, x = .ptr p ∧ y = .dat (.int i) ∧ a2.mem p = some (.dic ks) ∧ k (.dat (.bl (!(dget ks i).isSome))) a2) : EV K b0 (tDNotIn tb ta) a k := fun σ H Q R q =>
  h σ H _ R fun v H1 x a1 h1 R1 e1 r1 => h1 σ H1 _ R1 fun w H2 y a2 ⟨p, ks, i, ex, ey, hm, hk⟩ R2 e2 r2 => by
    subst ex ey
    cases (show w = .ref p from r2)
    cases (show v = .int i from r1)
    obtain ⟨o, ho, kvs, rfl, rb⟩ := R2.cont p _ hm
    refine ⟨p, valV kvs (Sum.inl i), rfl, DGet.k (k := Sum.inl i) ho, ?_⟩
    have e : (valV kvs (Sum.inl i)).isSome = (dget ks i).isSome := by
      cases hd : dget ks i with
      | none => rw [(repK_get i rb).2 hd]; rfl
      | some d =>
        obtain ⟨z, hz, _⟩ := (repK_get i rb).1 d hd
        rw [hz]; rfl
    rw [e]
    exact q _ H2 _ a2 hk R2 (e1.trans e2) rfl
/-- d[k] = v, k not yet in -/
theorem gs_dput (h : EV K b0 tc a fun z a0 => EV K b0 ta a0 fun x a1 => EV K b0 tb a1 fun y a2 => ∃ p ks i d, z = .dat d ∧ x = .ptr p ∧ y = .dat (.int i) ∧ a2.mem p = some (.dic ks) ∧ dget ks i = none ∧ ks.length < 100000 ∧ NX K b0 Z.nx (a2.at (mput a2.mem p (.dic (ks ++ [(i, d)]))))) :
    GS K b0 (sDPut ta tb tc) Z a := fun σ H R =>
  h σ H _ R fun v0 H0 z a0 h0 R0 e0 r0 => h0 σ H0 _ R0 fun v H1 x a1 h1 R1 e1 r1 => h1 σ H1 _ R1 fun w H2 y a2 ⟨p, ks, i, d, ez, ex, ey, hm, hd, hl, hk⟩ R2 e2 r2 => by
    subst ez ex ey
    cases (show v = .ref p from r1)
    cases (show w = .int i from r2)
    obtain ⟨o, ho, kvs, rfl, rb⟩ := R2.cont p _ hm
    obtain ⟨R3, e3⟩ := R2.write (c := .dic (ks ++ [(i, d)])) (o := .dK (putK kvs (Sum.inl i) v0)) hm ⟨_, rfl, repK_snoc rb hd (Rep.mono (e1.trans e2) r0)⟩
    exact ⟨p, _, rfl, DPut.k (k := Sum.inl i) ho (small' (by rw [← Pd.len rb]; exact hl)), hk σ _ R3⟩
/-- {k: v} -/
theorem ev_disp1 {tk tv : TE} (h : ∀ p, a.mem p = none → b0.mem p = none → EV K b0 tk (a.at (mput a.mem p (.dic []))) fun x a1 => EV K b0 tv a1 fun y a2 => ∃ i d, x = .dat (.int i) ∧ y = .dat d ∧ a2.mem p = some (.dic []) ∧ k (.ptr p) (a2.at (mput a2.mem p (.dic [(i, d)])))) :
    EV K b0 (tDisp [(tk, tv)]) a k := fun σ H Q R q p hp => by
  obtain ⟨R1, e1⟩ := R.allocM (c := .dic []) (o := .dK []) hp ⟨[], rfl, .nil⟩
  refine h p (R.free hp) (R.free0 hp).1 σ _ _ R1 fun v H2 x a1 h1 R2 e2 r2 => h1 σ H2 _ R2 fun w H3 y a2 ⟨i, d, ex, ey, hm, hk⟩ R3 e3 r3 => ?_
  subst ex ey
  cases (show v = .int i from r2)
  obtain ⟨o, ho, kvs, rfl, rb⟩ := R3.cont p _ hm
  cases rb
  obtain ⟨R4, e4⟩ := R3.write (c := .dic [(i, d)]) (o := .dK [(Sum.inl i, w)]) hm ⟨_, rfl, .cons ⟨rfl, r3⟩ .nil⟩
  exact ⟨ho, [(Sum.inl i, w)], rfl, by simp, q _ _ _ _ hk R4 (e1.trans (e2.trans (e3.trans e4))) rfl⟩

/-! ### dicts that stand still -/
theorem ro_lenF {ks : List Int} {ds : List D} (hk : k (.dat (.int (ks.length : Int))) a) : RCl K b0 (rLenAny K) [.dat (.dct ks ds)] a k := fun σ H vs Q R r q => by
  obtain ⟨v, rfl, rv⟩ := pd1 r
  obtain ⟨p, us, rfl, hp, hl, rs⟩ := rv
  refine .inr ⟨p, _, rfl, maskEx _ _ _ _ hp, ?_⟩
  rw [List.length_zip, List.length_map, ← hl, Nat.min_self]
  exact q _ H _ a hk R (Ex.refl _) rfl
theorem ev_dgetF (h : EV K b0 ta a fun x a1 => EV K b0 tb a1 fun y a2 => ∃ ks ds i d, x = .dat (.dct ks ds) ∧ y = .dat (.int i) ∧ dget (ks.zip ds) i = some d ∧ k (.dat d) a2) : EV K b0 (tDGet ta tb) a k := fun σ H Q R q =>
  h σ H _ R fun v H1 x a1 h1 R1 e1 r1 => h1 σ H1 _ R1 fun w H2 y a2 ⟨ks, ds, i, d, ex, ey, hd, hk⟩ R2 e2 r2 => by
    subst ex ey
    cases (show w = .int i from r2)
    obtain ⟨p, us, rfl, hp, hl, rs⟩ := r1.mono e2
    obtain ⟨z, hz, rz⟩ := (repK_get i (repK_of hl rs)).1 d hd
    have g := DGet.k (k := Sum.inl i) (maskEx _ _ _ _ hp)
    rw [hz] at g
    exact ⟨p, z, rfl, g, q z H2 _ a2 hk R2 (e1.trans e2) rz⟩
end
end MP
/-! MPE -/
namespace MP
open PySem PySem.Spec PyProof.Rows L2

/-! ### what a def promises -/
/-- the mutable things ahead and behind -/
abbrev SpR := List B → Ms → B → Ms → Prop
/-- the contents of m stand in H -/
def Conts (K : PySem.W.Frag) (m : Ms) (H : Hp) : Prop := ∀ p c, m p = some c → ∃ o, H p = some o ∧ RepC K (mask H m) c o
def Dn (K : PySem.W.Frag) (H : Hp) (m : Ms) (b : B) (m' : Ms) (Q : VK) : Prop := ∀ (v : V) (H' : Hp), (∀ p o, H p = some o → m p = none → H' p = some o) → Conts K m' H' → RepB K (mask H' m') b v → Q v H'
def spA (K : PySem.W.Frag) (R : SpR) : Sp := fun vs H Q _ => ∃ (bs : List B) (m : Ms) (b : B) (m' : Ms), Conts K m H ∧ RepBs K (mask H m) bs vs ∧ R bs m b m' ∧ (∀ p, (m' p).isSome = (m p).isSome) ∧ Dn K H m b m' Q
/-- a def that changes nothing and hands back data -/
def pw (f : List B → D → Prop) : SpR := fun bs m b m' => m' = m ∧ ∃ d, b = .dat d ∧ f bs d

section
variable {K : PySem.W.Frag} {b0 : Ba} {a : AS} {te ta tb tc : TE} {k : B → AS → Prop} {kt : Bool → AS → Prop} {Z : Ends} {t u : TS}
theorem run_sp {R : SpR} {bs : List B} {vs : List V} {σ : L2.St} {H : Hp} {E : XK} {Q : VK} (h : ∃ b m', R bs a.mem b m' ∧ (∀ p, (m' p).isSome = (a.mem p).isSome) ∧ k b (a.at m')) (R1 : Rel K b0 a σ H) (r : RepBs K (mask H a.mem) bs vs)
    (q : ∀ (v : V) (H' : Hp) (b : B) (a' : AS), k b a' → Rel K b0 a' σ H' → Ex (mask H a.mem) (mask H' a'.mem) → RepB K (mask H' a'.mem) b v → Q v H') : spA K R vs H Q E := by
  obtain ⟨b, m', h1, h2, h3⟩ := h
  refine ⟨bs, a.mem, b, m', R1.cont, r, h1, h2, fun v H' hk hc hb => ?_⟩
  have e : Ex (mask H a.mem) (mask H' m') := fun p o hp => by
    obtain ⟨z1, z2⟩ := mask_some hp
    refine mask_mk ?_ (hk p o z2 z1)
    have := h2 p
    rw [z1] at this
    cases q : m' p with
    | none => rfl
    | some c => rw [q] at this; cases this
  refine q v H' b (a.at m') h3 ⟨R1.len, fun i c hi => ?_, hc, fun p o hp hm => ?_, fun p hp => ?_, fun p hp hm => ?_, fun x hx => (R1.gho x hx).mono e⟩ e hb
  · obtain ⟨w, h4, h5⟩ := R1.slot i c hi
    exact ⟨w, h4, h5.mono e⟩
  · refine hk p o (R1.keep p o hp hm) ?_
    cases q : a.mem p with
    | none => rfl
    | some c =>
      have := R1.new p (by rw [q]; rfl) hm
      rw [hp] at this
      cases this
  · show (m' p).isSome = true
    rw [h2 p]
    exact R1.old p hp
  · have : (m' p).isSome = true := hp
    rw [h2 p] at this
    exact R1.new p this hm
theorem ev_call {R : SpR} {dvs : List V} {dbs : List B} {E : XK} {tas : TA} (hd : ∀ F, RepBs K F dbs dvs) (h : EA K b0 tas a fun bs a1 => ∃ b m', R (bs ++ dbs) a1.mem b m' ∧ (∀ p, (m' p).isSome = (a1.mem p).isSome) ∧ k b (a1.at m')) : EV K b0 (tCall (spA K R) dvs E tas) a k := fun σ H Q R0 q =>
  h σ H _ R0 fun vs H1 bs a1 h1 R1 e1 r1 => run_sp h1 R1 (Pd.app r1 (hd _)) fun v H' b a' hk R' e' r' => q v H' b a' hk R' (e1.trans e') r'
/-- a pure def, no defaults -/
theorem ev_callP {f : List B → D → Prop} {E : XK} {tas : TA} (h : EA K b0 tas a fun bs a1 => ∃ d, f bs d ∧ k (.dat d) a1) : EV K b0 (tCall (spA K (pw f)) [] E tas) a k :=
  ev_call (dbs := []) (fun _ => .nil) fun σ H Q R q => h σ H Q R fun vs H1 bs a1 ⟨d, h1, h2⟩ R1 e1 r1 => q vs H1 bs a1 ⟨.dat d, a1.mem, by rw [List.append_nil]; exact ⟨rfl, d, rfl, h1⟩, fun _ => rfl, h2⟩ R1 e1 r1
/-- an object that may be asked: its class, its attributes' names -/
def insOf : D → Option (Str × List Str)
  | .rat _ => some ("Ratio", ["n", "d"])
  | .obj c ns _ => some (c, ns)
  | _ => none
theorem ins_rep {F : Hp} {d : D} {c : Str} {ns : List Str} {v : V} (h : insOf d = some (c, ns)) (r : Rep K F d v) : ∃ p dx vs, v = .ref p ∧ F p = some (.ins (He.ga K c) dx (ns.zip vs)) ∧ ns.length = vs.length := by
  cases d <;> simp [insOf] at h
  · obtain ⟨rfl, rfl⟩ := h
    obtain ⟨p, dx, h1, h2⟩ := r
    exact ⟨p, dx, [_, _], h1, h2, rfl⟩
  · obtain ⟨rfl, rfl⟩ := h
    obtain ⟨p, dx, vs, h1, h2, h3, _⟩ := r
    exact ⟨p, dx, vs, h1, h2, h3⟩
theorem zip_none {ns : List Str} {vs : List V} {m : Str} (h : m ∉ ns) : (ns.zip vs).lookup m = none := by
  induction ns generalizing vs with
  | nil => rfl
  | cons x ns ih =>
    cases vs with
    | nil => rfl
    | cons v vs =>
      show ((x, v) :: ns.zip vs).lookup m = none
      rw [List.lookup_cons]
      have h1 : (m == x) = false := by
        rw [beq_eq_false_iff_ne]
        exact fun e => h (e ▸ List.mem_cons_self ..)
      rw [h1]
      exact ih (fun e => h (List.mem_cons_of_mem _ e))
/-- o.m(..): a pure method -/
theorem ev_methP {f : List B → D → Prop} {c m : Str} {E : XK} {tas : TA} (h : EV K b0 ta a fun x a1 => ∃ d ns, x = .dat d ∧ insOf d = some (c, ns) ∧ m ∉ ns ∧ EA K b0 tas a1 fun bs a2 => ∃ d2, f (x :: bs) d2 ∧ k (.dat d2) a2) :
    EV K b0 (tMeth (He.ga K c) m (spA K (pw f)) [] E ta tas) a k := fun σ H Q R q =>
  h σ H _ R fun v H1 x a1 ⟨d, ns, e, hi, hm, h1⟩ R1 e1 r1 => by
    subst e
    obtain ⟨p, dx, us, rfl, hp, hl⟩ := ins_rep hi r1
    refine ⟨p, dx, _, rfl, maskEx _ _ _ _ hp, zip_none hm, h1 σ H1 _ R1 fun vs H2 bs a2 ⟨d2, h2, h3⟩ R2 e2 r2 => ?_⟩
    refine run_sp (a := a2) (bs := .dat d :: bs) (k := k) ⟨.dat d2, a2.mem, ⟨rfl, d2, rfl, h2⟩, fun _ => rfl, h3⟩ R2 ?_ fun w H' b a' hk R' e' r' => q w H' b a' hk R' (e1.trans (e2.trans e')) r'
    rw [List.append_nil]
    exact .cons (Rep.mono e2 r1) r2
/-- o.f -/
theorem zip_get {ns : List Str} {ds : List D} {vs : List V} {F : Hp} {f : Str} {d : D} (h : (ns.zip ds).lookup f = some d) (r : Reps K F ds vs) : ∃ v, (ns.zip vs).lookup f = some v ∧ Rep K F d v := by
  induction ns generalizing ds vs with
  | nil => cases h
  | cons x ns ih =>
    cases ds with
    | nil => cases h
    | cons e ds =>
      obtain ⟨v, us, rfl, h2, h3⟩ := r
      have h' : ((x, e) :: ns.zip ds).lookup f = some d := h
      show ∃ w, ((x, v) :: ns.zip us).lookup f = some w ∧ Rep K F d w
      rw [List.lookup_cons] at h' ⊢
      cases q : (f == x) with
      | true =>
        rw [q] at h'
        cases h'
        exact ⟨v, rfl, h2⟩
      | false =>
        rw [q] at h'
        exact ih h' h3
theorem ev_fldO {f : Str} (h : EV K b0 ta a fun x a1 => ∃ c ns ds d, x = .dat (.obj c ns ds) ∧ Cls K (He.ga K c) ∧ NoAttr K (He.ga K c) f ∧ (ns.zip ds).lookup f = some d ∧ k (.dat d) a1) : EV K b0 (tFld K ta f) a k := fun σ H Q R q =>
  h σ H _ R fun v H1 x a1 ⟨c, ns, ds, d, e, hc, hn, hl, hk⟩ R1 e1 r1 => by
    subst e
    obtain ⟨p, dx, vs, rfl, hp, hl2, rs⟩ := r1
    obtain ⟨w, h1, h2⟩ := zip_get hl rs
    exact ⟨p, _, dx, _, w, rfl, maskEx _ _ _ _ hp, hc, hn, h1, q w H1 _ a1 hk R1 e1 h2⟩
theorem ev_fldN (hc : Cls K (He.ga K "Ratio")) (hn : NoAttr K (He.ga K "Ratio") "n") (h : EV K b0 ta a fun x a1 => ∃ z, x = .dat (.rat z) ∧ k (.dat (.int z.num)) a1) : EV K b0 (tFld K ta "n") a k := fun σ H Q R q =>
  h σ H _ R fun v H1 x a1 ⟨z, e, hk⟩ R1 e1 r1 => by
    subst e
    obtain ⟨p, dx, rfl, hp⟩ := r1
    exact ⟨p, _, dx, _, _, rfl, maskEx _ _ _ _ hp, hc, hn, rfl, q _ H1 _ a1 hk R1 e1 rfl⟩
theorem qd_lookup (z : Rat) : (qFs z).lookup ("d" : Str) = some (.int (z.den : Int)) := by
  have h1 : (("d" : Str) == "n") = false := by decide +kernel
  have h2 : (("d" : Str) == "d") = true := by decide +kernel
  unfold qFs
  rw [List.lookup_cons, h1]
  show (match ("d" : Str) == "d" with | true => some (V.int (z.den : Int)) | false => none) = _
  rw [h2]
theorem ev_fldD (hc : Cls K (He.ga K "Ratio")) (hn : NoAttr K (He.ga K "Ratio") "d") (h : EV K b0 ta a fun x a1 => ∃ z, x = .dat (.rat z) ∧ k (.dat (.int (z.den : Int))) a1) : EV K b0 (tFld K ta "d") a k := fun σ H Q R q =>
  h σ H _ R fun v H1 x a1 ⟨z, e, hk⟩ R1 e1 r1 => by
    subst e
    obtain ⟨p, dx, rfl, hp⟩ := r1
    exact ⟨p, _, dx, _, _, rfl, maskEx _ _ _ _ hp, hc, hn, qd_lookup z, q _ H1 _ a1 hk R1 e1 rfl⟩
/-- self.f = e within __init__, f not yet there -/
theorem putF_new {ns : List Str} {vs : List V} {f : Str} {v : V} (hl : ns.length = vs.length) (h : f ∉ ns) : putF f v (ns.zip vs) = (ns ++ [f]).zip (vs ++ [v]) := by
  induction ns generalizing vs with
  | nil =>
    cases vs with
    | nil => rfl
    | cons => cases hl
  | cons x ns ih =>
    cases vs with
    | nil => cases hl
    | cons u vs =>
      show (if x = f then (x, v) :: ns.zip vs else (x, u) :: putF f v (ns.zip vs)) = (x, u) :: (ns ++ [f]).zip (vs ++ [v])
      rw [if_neg (fun e : x = f => h (e ▸ List.mem_cons_self ..)), ih (Nat.succ.inj hl) (fun e => h (List.mem_cons_of_mem _ e))]
theorem gs_fld {f : Str} (h : EV K b0 tb a fun y a0 => EV K b0 ta a0 fun x a1 => ∃ p c ns bs, x = .ptr p ∧ a1.mem p = some (.ins c ns bs) ∧ Cls K (He.ga K c) ∧ NoAttr K (He.ga K c) f ∧ f ∉ ns ∧ ns.length < 900 ∧ NX K b0 Z.nx (a1.at (mput a1.mem p (.ins c (ns ++ [f]) (bs ++ [y]))))) :
    GS K b0 (sFld K ta tb f) Z a := fun σ H R =>
  h σ H _ R fun w H0 y a0 h0 R0 e0 r0 => h0 σ H0 _ R0 fun v H1 x a1 ⟨p, c, ns, bs, e, hm, hc, hn, hf, hl, hk⟩ R1 e1 r1 => by
    subst e
    cases (show v = .ref p from r1)
    obtain ⟨o, ho, dx, vs, rfl, hl2, rb⟩ := R1.cont p _ hm
    refine ⟨p, _, dx, _, rfl, ho, hc, hn, ?_, ?_⟩
    · rw [List.length_zip, ← hl2, Nat.min_self]
      omega
    · rw [putF_new hl2 hf]
      obtain ⟨R2, e2⟩ := R1.write (c := .ins c (ns ++ [f]) (bs ++ [y])) (o := .ins (He.ga K c) dx ((ns ++ [f]).zip (vs ++ [w]))) hm ⟨dx, _, rfl, by rw [List.length_append, List.length_append, hl2]; rfl, Pd.app rb (.cons (r0.mono e1) .nil)⟩
      exact hk σ _ R2
/-- C(..) -/
theorem make_core {R : SpR} {c : Str} {dvs : List V} {dbs : List B} {E : XK} {tas : TA} (hd : ∀ F, RepBs K F dbs dvs)
    (h : EA K b0 tas a fun bs a1 => ∀ x, a1.mem x = none → ∃ ns ds, R (.ptr x :: (bs ++ dbs)) (mput a1.mem x (.ins c [] [])) (.dat .non) (mput a1.mem x (.ins c ns (ds.map B.dat))) ∧ k (.dat (.obj c ns ds)) a1) : EV K b0 (tMake (He.ga K c) (spA K R) dvs E tas) a k := fun σ H Q R0 q =>
  h σ H _ R0 fun vs H1 bs a1 h1 R1 e1 r1 x dx hx hdx hne => by
    have R2 := R1.alloc (o := .own x) hdx
    have hx2 : upd H1 dx (.own x) x = none := by rw [upd_ne hne.symm]; exact hx
    have g2 := R1.maskGrow (ex_upd (o := .own x) hdx)
    obtain ⟨R3, e3⟩ := R2.allocM (c := .ins c [] []) (o := .ins (He.ga K c) dx []) hx2 ⟨dx, [], rfl, rfl, .nil⟩
    obtain ⟨ns, ds, h2, h3⟩ := h1 x (R1.free hx)
    have e13 : Ex (mask H1 a1.mem) (mask (upd (upd H1 dx (.own x)) x (.ins (He.ga K c) dx [])) (mput a1.mem x (.ins c [] []))) := g2.trans e3
    refine run_sp (a := ⟨a1.env, mput a1.mem x (.ins c [] [])⟩) (b0 := b0) (bs := .ptr x :: (bs ++ dbs)) (σ := σ) (k := fun b a' => b = .dat .non ∧ a' = ⟨a1.env, mput a1.mem x (.ins c ns (ds.map B.dat))⟩) ⟨_, _, h2, fun p => ?_, rfl, rfl⟩ R3 (.cons rfl (Pd.app (Pd.mono (fun _ _ z => z.mono e13) r1) (hd _))) fun v H' b a' hk R' e' r' => ?_
    · by_cases e : p = x
      · subst e
        rw [mput_same]
        show _ = (mput a1.mem p (.ins c [] []) p).isSome
        rw [mput_same]
        rfl
      · rw [mput_ne e]
        show _ = (mput a1.mem x (.ins c [] []) p).isSome
        rw [mput_ne e]
    · obtain ⟨rfl, rfl⟩ := hk
      refine ⟨r', ?_⟩
      obtain ⟨f1, f2⟩ := R1.free0 hx
      obtain ⟨R4, e4⟩ := R'.freeze (p := x) f1 (by show (mput a1.mem x _ x).isSome = true; rw [mput_same]; rfl)
      obtain ⟨o, ho, dx', us, rfl, hl, rb⟩ := R'.cont x (.ins c ns (ds.map B.dat)) mput_same
      have em : mdel (mput a1.mem x (.ins c ns (ds.map B.dat))) x = a1.mem := mdel_mput (R1.free hx)
      have R5 : Rel K b0 a1 σ H' := by
        have z : Rel K b0 ⟨a1.env, mdel (mput a1.mem x (.ins c ns (ds.map B.dat))) x⟩ σ H' := R4
        rw [em] at z
        exact z
      have e5 : Ex (mask H' (mput a1.mem x (.ins c ns (ds.map B.dat)))) (mask H' a1.mem) := by
        have z : Ex (mask H' (mput a1.mem x (.ins c ns (ds.map B.dat)))) (mask H' (mdel (mput a1.mem x (.ins c ns (ds.map B.dat))) x)) := e4
        rw [em] at z
        exact z
      refine q (.ref x) H' _ a1 h3 R5 (e1.trans (e13.trans (Ex.trans e' e5))) ⟨x, dx', us, rfl, mask_mk (R1.free hx) ho, hl, (RepBs.dats rb).mono e5⟩
theorem rat_of_obj {F : Hp} {z : Rat} {v : V} (r : Rep K F (.obj "Ratio" ["n", "d"] [.int z.num, .int (z.den : Int)]) v) : Rep K F (.rat z) v := by
  obtain ⟨p, dx, vs, h1, h2, h3, h4⟩ := r
  obtain ⟨v1, r1, rfl, e1, v2, r2, rfl, e2, e3⟩ := h4
  cases (show v1 = _ from e1)
  cases (show v2 = _ from e2)
  cases (show r2 = [] from e3)
  exact ⟨p, dx, h1, h2⟩
/-- Ratio(..) -/
theorem ev_makeR {R : SpR} {dvs : List V} {dbs : List B} {E : XK} {tas : TA} (hd : ∀ F, RepBs K F dbs dvs)
    (h : EA K b0 tas a fun bs a1 => ∃ z : Rat, k (.dat (.rat z)) a1 ∧ ∀ x, a1.mem x = none → R (.ptr x :: (bs ++ dbs)) (mput a1.mem x (.ins "Ratio" [] [])) (.dat .non) (mput a1.mem x (.ins "Ratio" ["n", "d"] [.dat (.int z.num), .dat (.int (z.den : Int))]))) :
    EV K b0 (tMake (He.ga K "Ratio") (spA K R) dvs E tas) a k := fun σ H Q R0 q =>
  make_core (k := fun b a' => ∃ z, b = .dat (.obj "Ratio" ["n", "d"] [.int z.num, .int (z.den : Int)]) ∧ k (.dat (.rat z)) a') hd (fun σ H Q R q => h σ H Q R fun vs H1 bs a1 ⟨z, h1, h2⟩ R1 e1 r1 => q vs H1 bs a1 (fun x hx => ⟨["n", "d"], [.int z.num, .int (z.den : Int)], h2 x hx, z, rfl, h1⟩) R1 e1 r1) σ H Q R0
    fun v H' b a' ⟨z, e, hk⟩ R' e' r' => by
      subst e
      exact q v H' _ a' hk R' e' (rat_of_obj r')

/-! ### isinstance -/
def tyD (K : PySem.W.Frag) : D → Value
  | .non => .type "NoneType"
  | .bl _ => .type "bool"
  | .int _ => .type "int"
  | .str _ => .type "str"
  | .rat _ => .ref (He.ga K "Ratio")
  | .tup _ => .type "tuple"
  | .lst _ => .type "list"
  | .ro _ => .type "list"
  | .obj c _ _ => .ref (He.ga K c)
  | .dct _ _ => .type "dict"
def okD : D → Prop
  | .ro _ => False
  | .obj _ _ _ => False
  | .dct _ _ => False
  | _ => True
theorem tyX_rep {H : Hp} {F : Hp} {d : D} {v : V} (e : Ex F H) (hc : C8.InsC K (He.ga K "Ratio")) (ho : okD d) (r : Rep K F d v) : TyX K H v (tyD K d) := by
  cases d with
  | non => cases (show v = .non from r); exact .base .non
  | bl b => cases (show v = .bl b from r); exact .base (.bl b)
  | int b => cases (show v = .int b from r); exact .base (.int b)
  | str b => cases (show v = .str b from r); exact .base (.str b)
  | rat z =>
    obtain ⟨p, dx, rfl, hp⟩ := r
    exact .base (.ins (e _ _ hp) hc.cl hc.ha hc.hn hc.htk hc.hm)
  | tup ds =>
    obtain ⟨p, vs, rfl, hp, _⟩ := r
    rcases e.sqT hp with (h | ⟨o, h⟩) | ⟨o, its, n, h1, h2, h3, h4, h5⟩
    · exact .base (.tup h)
    · exact .fTuple h
    · exact .kTuple h1 h2
  | lst ds =>
    obtain ⟨p, vs, rfl, hp, _⟩ := r
    exact .base (.lst (e _ _ hp))
  | ro _ => exact ho.elim
  | obj _ _ _ => exact ho.elim
  | dct _ _ => exact ho.elim
theorem rc_isi {d : D} {c : V} {w : Value} {b : Bool} (hc : C8.InsC K (He.ga K "Ratio")) (ho : okD d) (hw : ClsV c w) (hk2 : PySem.W.kitOne K (tyD K d) w = some b) (hk : k (.dat (.bl b)) a) : RCl K b0 (rIsi K) [.dat d, .raw c] a k := fun σ H vs Q R r q => by
  obtain ⟨v, w', rfl, rv, rw'⟩ := pd2 r
  cases (show w' = c from rw')
  exact ⟨v, c, _, w, b, rfl, hw, tyX_rep (maskEx _ _) hc ho rv, hk2, q _ H _ a hk R (Ex.refl _) rfl⟩
end
end MP
/-! MPF -/
namespace MP
open PySem PySem.Spec PyProof.Rows L2

/-! ### comprehensions -/
def wipeA (e : List (Option B)) : List Nat → List (Option B)
  | [] => e
  | v :: vs => (wipeA e vs).set v none
theorem wipeA_len (e : List (Option B)) : ∀ vs : List Nat, (wipeA e vs).length = e.length
  | [] => rfl
  | v :: vs => by unfold wipeA; rw [List.length_set, wipeA_len e vs]
theorem wipeA_get {e : List (Option B)} {i : Nat} {x : B} : ∀ {vs : List Nat}, (wipeA e vs)[i]? = some (some x) → e[i]? = some (some x) ∧ i ∉ vs
  | [], h => ⟨h, by simp⟩
  | v :: vs, h => by
    unfold wipeA at h
    by_cases hi : v = i
    · subst hi
      by_cases hv : v < (wipeA e vs).length
      · rw [List.getElem?_set_self hv] at h; cases h
      · rw [List.getElem?_eq_none (by simpa using hv)] at h; cases h
    · rw [List.getElem?_set_ne hi] at h
      obtain ⟨h1, h2⟩ := wipeA_get h
      exact ⟨h1, by simp only [List.mem_cons, not_or]; exact ⟨fun e => hi e.symm, h2⟩⟩
theorem wipe_not {σ : L2.St} {i : Nat} : ∀ {vs : List Nat}, i ∉ vs → (wipe σ vs)[i]? = σ[i]?
  | [], _ => rfl
  | v :: vs, h => by
    unfold wipe
    rw [List.getElem?_set_ne (fun e : v = i => h (e ▸ List.mem_cons_self ..))]
    exact wipe_not fun q => h (List.mem_cons_of_mem _ q)
theorem wipe_in {σ : L2.St} {i : Nat} : ∀ {vs : List Nat}, i ∈ vs → (wipe σ vs)[i]? = (σ[i]?).map fun _ => none
  | [], h => by cases h
  | v :: vs, h => by
    unfold wipe
    by_cases e : v = i
    · subst e
      by_cases hv : v < σ.length
      · rw [List.getElem?_set_self (by rw [wipe_length]; exact hv), List.getElem?_eq_getElem hv]
        rfl
      · rw [List.getElem?_eq_none (by rw [List.length_set, wipe_length]; omega), List.getElem?_eq_none (by omega)]
        rfl
    · rw [List.getElem?_set_ne e]
      exact wipe_in ((List.mem_cons.mp h).resolve_left fun q => e q.symm)
/-- the block's own store leaves the rest -/
theorem wipe_set {σ : L2.St} {j : Nat} {x : V} {vs : List Nat} (hj : j ∈ vs) : wipe ((wipe σ vs).set j (some x)) vs = wipe σ vs := by
  apply List.ext_getElem?
  intro i
  by_cases hi : i ∈ vs
  · rw [wipe_in hi, wipe_in hi]
    by_cases h : i < σ.length
    · rw [List.getElem?_eq_getElem (by rw [List.length_set, wipe_length]; exact h), List.getElem?_eq_getElem h]
      rfl
    · rw [List.getElem?_eq_none (by rw [List.length_set, wipe_length]; omega), List.getElem?_eq_none (by omega)]
  · rw [wipe_not hi, List.getElem?_set_ne (fun e : j = i => hi (e ▸ hj))]
section
variable {K : PySem.W.Frag} {b0 : Ba} {a : AS} {te ta tb tc : TE} {k : B → AS → Prop} {tt : TT}
theorem Rel.reslot {a4 : AS} {σ σ' : L2.St} {H : Hp} {e : List (Option B)} (R : Rel K b0 a4 σ' H) (hl : σ.length = e.length) (hs : ∀ (i : Nat) (b : B), e[i]? = some (some b) → ∃ v, σ[i]? = some (some v) ∧ RepB K (mask H a4.mem) b v) : Rel K b0 ⟨e, a4.mem⟩ σ H :=
  ⟨hl, hs, R.cont, R.keep, R.old, R.new, R.gho⟩
theorem Rel.wipe {σ : L2.St} {H : Hp} (R : Rel K b0 a σ H) (vs : List Nat) : Rel K b0 ⟨wipeA a.env vs, a.mem⟩ (L2.wipe σ vs) H :=
  R.reslot (by rw [wipe_length, wipeA_len, R.len]) fun i b h => by
    obtain ⟨h1, h2⟩ := wipeA_get h
    obtain ⟨v, h3, h4⟩ := R.slot i b h1
    exact ⟨v, by rw [wipe_not h2]; exact h3, h4⟩
/-- the turns of a comprehension: items item 0 .. item (n - 1); J: what is held, by the turn, what is made, the mutable things -/
theorem lc_turns {It0 : It} {n j : Nat} {item : Nat → B} {vs : List Nat} {a1 : AS} {σ : L2.St} {H1 : Hp} {Q : VK} (hj : j ∈ vs) (J : Addr → Nat → List B → Ms → Prop) (R1 : Rel K b0 a1 σ H1)
    (hgo : ∀ i H m, i < n → Ex (mask H1 a1.mem) (mask H m) → It0.go i H) (hstop : ∀ H m, Ex (mask H1 a1.mem) (mask H m) → It0.stop n H)
    (hy : ∀ i H m x H', i < n → Ex (mask H1 a1.mem) (mask H m) → It0.yld i H x H' → H' = H ∧ RepB K (mask H m) (item i) x)
    (h0 : ∀ p, a1.mem p = none → b0.mem p = none → J p 0 [] (mput a1.mem p (.lst [])))
    (hs : ∀ p i acc m, i < n → b0.mem p = none → J p i acc m → m p = some (.lst acc) → ET K b0 tt ⟨(wipeA a1.env vs).set j (some (item i)), m⟩ fun c a3 =>
      (c = true → EV K b0 te a3 fun y a4 => acc.length < 100000 ∧ a4.mem p = some (.lst acc) ∧ J p (i + 1) (acc ++ [y]) (mput a4.mem p (.lst (acc ++ [y])))) ∧ (c = false → a3.mem p = some (.lst acc) ∧ J p (i + 1) acc a3.mem))
    (hd : ∀ p acc m, a1.mem p = none → b0.mem p = none → J p n acc m → m p = some (.lst acc) → k (.ptr p) (a1.at m))
    (q : ∀ (v : V) (H' : Hp) (b : B) (a' : AS), k b a' → Rel K b0 a' σ H' → Ex (mask H1 a1.mem) (mask H' a'.mem) → RepB K (mask H' a'.mem) b v → Q v H') (p : Addr) (hp : H1 p = none) :
    ∃ W : Nat → Nat → Hp → Prop, (∃ m, W 0 m (upd H1 p (.lst []))) ∧ ∀ i m H, W i m H →
      (It0.stop i H ∧ Q (.ref p) H) ∨ (It0.go i H ∧ ∃ Nx : Hp → Prop, (∀ H', Nx H' → ∃ m', m' < m ∧ W (i + 1) m' H') ∧ ∀ x H', It0.yld i H x H' → gName j x (wipe σ vs) H' fun σ2 H2 => wipe σ2 vs = wipe σ vs ∧ tt σ2 H2 fun b H3 =>
        if b = true then te σ2 H3 fun y H4 => ∃ acc, H4 p = some (.lst acc) ∧ acc.length < sizeLine ∧ Nx (upd H4 p (.lst (acc ++ [y]))) else Nx H3) := by
  obtain ⟨f1, f2⟩ := R1.free0 hp
  have fm := R1.free hp
  obtain ⟨R2, e2⟩ := R1.allocM (c := .lst []) (o := .lst []) hp ⟨[], rfl, .nil⟩
  let Pv : Nat → Hp → Prop := fun i H => ∃ acc m, J p i acc m ∧ m p = some (.lst acc) ∧ Ex (mask H1 a1.mem) (mask H m) ∧ Rel K b0 ⟨wipeA a1.env vs, m⟩ (wipe σ vs) H
  have p0 : Pv 0 (upd H1 p (.lst [])) := ⟨[], _, h0 p fm f1, mput_same, e2, R2.wipe vs⟩
  -- back to the block's own slots
  have back : ∀ {a4 : AS} {σ4 : L2.St} {H4 : Hp}, Rel K b0 a4 σ4 H4 → Ex (mask H1 a1.mem) (mask H4 a4.mem) → Rel K b0 ⟨wipeA a1.env vs, a4.mem⟩ (wipe σ vs) H4 := fun {a4 σ4 H4} R4 e4 =>
    R4.reslot (by rw [wipe_length, wipeA_len, R1.len]) fun i b h => by
      obtain ⟨z1, z2⟩ := wipeA_get h
      obtain ⟨v, h3, h4⟩ := R1.slot i b z1
      exact ⟨v, by rw [wipe_not z2]; exact h3, h4.mono e4⟩
  refine ⟨fun i m H => m = n - i ∧ i ≤ n ∧ Pv i H, ⟨n, by simp, Nat.zero_le _, p0⟩, ?_⟩
  rintro i m H ⟨rfl, hi, acc, mm, hJ, hm, eH, RH⟩
  by_cases hlt : i < n
  · refine .inr ⟨hgo i H mm hlt eH, Pv (i + 1), fun H' p' => ⟨n - (i + 1), by omega, rfl, hlt, p'⟩, fun x H' y => ?_⟩
    obtain ⟨rfl, rx⟩ := hy i H mm x H' hlt eH y
    refine ⟨wipe_set hj, hs p i acc mm hlt f1 hJ hm _ _ _ (RH.set rx) fun c H3 a3 ⟨c1, c2⟩ R3 e3 => ?_⟩
    cases c with
    | true =>
      refine iteT (c1 rfl _ H3 _ R3 fun w H4 b a4 ⟨hl, hm4, hJ4⟩ R4 e4 r4 => ?_)
      obtain ⟨o, ho, us, rfl, rb⟩ := R4.cont p _ hm4
      obtain ⟨R5, e5⟩ := R4.write (c := .lst (acc ++ [b])) (o := .lst (us ++ [w])) hm4 ⟨_, rfl, Pd.app rb (.cons r4 .nil)⟩
      have e15 := eH.trans (e3.trans (e4.trans e5))
      exact ⟨us, ho, small' (by rw [← Pd.len rb]; exact hl), acc ++ [b], _, hJ4, mput_same, e15, back R5 e15⟩
    | false =>
      obtain ⟨hm3, hJ3⟩ := c2 rfl
      exact iteF ⟨acc, a3.mem, hJ3, hm3, eH.trans e3, back R3 (eH.trans e3)⟩
  · have e : i = n := by omega
    subst e
    refine .inl ⟨hstop H mm eH, q (.ref p) H (.ptr p) (a1.at mm) (hd p acc mm fm f1 hJ hm) (RH.reslot R1.len fun i b h => ?_) eH rfl⟩
    obtain ⟨v, h3, h4⟩ := R1.slot i b h
    exact ⟨v, h3, h4.mono eH⟩
/-- what a comprehension's turns ask -/
structure Turns (K : PySem.W.Frag) (b0 : Ba) (tt : TT) (te : TE) (vs : List Nat) (j : Nat) (n : Nat) (item : Nat → B) (a1 : AS) (k : B → AS → Prop) : Prop where
  ex : ∃ J : Addr → Nat → List B → Ms → Prop, (∀ p, a1.mem p = none → b0.mem p = none → J p 0 [] (mput a1.mem p (.lst []))) ∧
    (∀ p i acc m, i < n → b0.mem p = none → J p i acc m → m p = some (.lst acc) → ET K b0 tt ⟨(wipeA a1.env vs).set j (some (item i)), m⟩ fun c a3 =>
      (c = true → EV K b0 te a3 fun y a4 => acc.length < 100000 ∧ a4.mem p = some (.lst acc) ∧ J p (i + 1) (acc ++ [y]) (mput a4.mem p (.lst (acc ++ [y])))) ∧ (c = false → a3.mem p = some (.lst acc) ∧ J p (i + 1) acc a3.mem)) ∧
    (∀ p acc m, a1.mem p = none → b0.mem p = none → J p n acc m → m p = some (.lst acc) → k (.ptr p) (a1.at m))
theorem ev_lcR {tas : TA} {j : Nat} {vs : List Nat} (hj : j ∈ vs) (h : EA K b0 tas a fun bs a1 => ∃ n : Int, bs = [.dat (.int n)] ∧ n ≤ 1000000 ∧ -1000000 ≤ n ∧ Turns K b0 tt te vs j n.toNat (fun i => .dat (.int (i : Int))) a1 k) :
    EV K b0 (tLc (iRng1 tas) (gName j) tt te vs) a k := fun σ H Q R q =>
  h σ H _ R fun us H1 bs a1 ⟨n, e, hn, hn2, T⟩ R1 e1 r1 => by
    subst e
    obtain ⟨v, rfl, rv⟩ := pd1 r1
    cases (show v = .int n from rv)
    obtain ⟨J, h0, hs, hd⟩ := T.ex
    refine ⟨n, rfl, by omega, by omega, fun p hp => ?_⟩
    refine lc_turns (k := k) hj J R1 (fun i H m hi _ => hi) (fun H m _ => Nat.le_refl _) (fun i H m x H' hi _ hy => ?_) h0 hs hd (fun v H' b a' hk R' e' r' => q v H' b a' hk R' (e1.trans e') r') p hp
    obtain ⟨rfl, rfl⟩ := hy
    exact ⟨rfl, by rw [Int.zero_add]; rfl⟩
theorem ev_lcR2 {tas : TA} {j : Nat} {vs : List Nat} (hj : j ∈ vs) (h : EA K b0 tas a fun bs a1 => ∃ lo hi : Int, bs = [.dat (.int lo), .dat (.int hi)] ∧ (-1000000 ≤ lo ∧ lo ≤ 1000000 ∧ -1000000 ≤ hi ∧ hi ≤ 1000000) ∧ Turns K b0 tt te vs j (hi - lo).toNat (fun i => .dat (.int (lo + (i : Int)))) a1 k) :
    EV K b0 (tLc (iRng2 tas) (gName j) tt te vs) a k := fun σ H Q R q =>
  h σ H _ R fun us H1 bs a1 ⟨lo, hi, e, hn, T⟩ R1 e1 r1 => by
    subst e
    obtain ⟨v, w, rfl, rv, rw'⟩ := pd2 r1
    cases (show v = .int lo from rv)
    cases (show w = .int hi from rw')
    obtain ⟨J, h0, hs, hd⟩ := T.ex
    refine ⟨lo, hi, rfl, ⟨by omega, by omega, by omega, by omega⟩, fun p hp => ?_⟩
    refine lc_turns (k := k) hj J R1 (fun i H m hi _ => hi) (fun H m _ => Nat.le_refl _) (fun i H m x H' hi _ hy => ?_) h0 hs hd (fun v H' b a' hk R' e' r' => q v H' b a' hk R' (e1.trans e') r') p hp
    obtain ⟨rfl, rfl⟩ := hy
    exact ⟨rfl, rfl⟩
theorem ev_lcT {j : Nat} {vs : List Nat} (hj : j ∈ vs) (h : EV K b0 ta a fun x a1 => ∃ ds, x = .dat (.tup ds) ∧ Turns K b0 tt te vs j ds.length (fun i => .dat (ds.getD i .non)) a1 k) :
    EV K b0 (tLc (iTup K ta) (gName j) tt te vs) a k := fun σ H Q R q =>
  h σ H _ R fun v H1 x a1 ⟨ds, e, T⟩ R1 e1 r1 => by
    subst e
    obtain ⟨r, us, rfl, hr, rs⟩ := r1
    obtain ⟨J, h0, hs, hd⟩ := T.ex
    have g : ∀ {H m}, Ex (mask H1 a1.mem) (mask H m) → SqT K H r us := fun {H m} e => (maskEx _ _).sqT (e.sqT hr)
    refine ⟨r, rfl, ⟨us, (maskEx _ _).sqT hr⟩, fun p hp => ?_⟩
    refine lc_turns (It0 := Itt K r) (k := k) hj J R1 (fun i H m hi e => ⟨us, us[i]'(by rw [← rs.length]; exact hi), g e, by simp⟩) (fun H m e => ⟨us, g e, by rw [rs.length]; exact Nat.le_refl _⟩) (fun i H m x H' hi e hy => ?_) h0 hs hd (fun v H' b a' hk R' e' r' => q v H' b a' hk R' (e1.trans e') r') p hp
    obtain ⟨eH, y⟩ := hy
    subst eH
    obtain ⟨d, hd1, hd2⟩ := rs.getV (y us (g e))
    refine ⟨rfl, ?_⟩
    rw [List.getD_eq_getElem?_getD, hd1]
    exact Rep.mono e hd2
theorem ev_lcL {j : Nat} {vs : List Nat} (hj : j ∈ vs) (h : EV K b0 ta a fun x a1 => ∃ ds, x = .dat (.lst ds) ∧ Turns K b0 tt te vs j ds.length (fun i => .dat (ds.getD i .non)) a1 k) :
    EV K b0 (tLc (iList K ta) (gName j) tt te vs) a k := fun σ H Q R q =>
  h σ H _ R fun v H1 x a1 ⟨ds, e, T⟩ R1 e1 r1 => by
    subst e
    obtain ⟨r, us, rfl, hr, rs⟩ := r1
    obtain ⟨J, h0, hs, hd⟩ := T.ex
    have g : ∀ {H m}, Ex (mask H1 a1.mem) (mask H m) → SqL K H r us := fun {H m} e => .inl (.inl (maskEx _ _ _ _ (e _ _ hr)))
    refine ⟨r, rfl, ⟨us, .inl (.inl (maskEx _ _ _ _ hr))⟩, fun p hp => ?_⟩
    refine lc_turns (It0 := Itl K r) (k := k) hj J R1 (fun i H m hi e => ⟨us, us[i]'(by rw [← rs.length]; exact hi), g e, by simp⟩) (fun H m e => ⟨us, g e, by rw [rs.length]; exact Nat.le_refl _⟩) (fun i H m x H' hi e hy => ?_) h0 hs hd (fun v H' b a' hk R' e' r' => q v H' b a' hk R' (e1.trans e') r') p hp
    obtain ⟨eH, y⟩ := hy
    subst eH
    obtain ⟨d, hd1, hd2⟩ := rs.getV (y us (g e))
    refine ⟨rfl, ?_⟩
    rw [List.getD_eq_getElem?_getD, hd1]
    exact Rep.mono e hd2
/-- a list just made stands still -/
theorem ev_frz (h : EV K b0 te a fun b a' => ∃ p ds, b = .ptr p ∧ a'.mem p = some (.lst (ds.map B.dat)) ∧ b0.mem p = none ∧ a.mem p = none ∧ k (.dat (.lst ds)) (a'.at (mdel a'.mem p))) : EV K b0 te a k := fun σ H Q R q =>
  h σ H Q R fun v H' b a' ⟨p, ds, e, hm, h0, _, hk⟩ R' e' r' => by
    subst e
    cases (show v = .ref p from r')
    obtain ⟨R2, e2⟩ := R'.freeze h0 (by rw [hm]; rfl)
    obtain ⟨o, ho, us, rfl, rb⟩ := R'.cont p _ hm
    exact q _ H' _ _ hk R2 (e'.trans e2) ⟨p, us, rfl, mask_mk (if_pos rfl) ho, (RepBs.dats rb).mono e2⟩
/-- the turns of a comprehension that only reads: what is kept, what is made -/
theorem Turns.pure {vs : List Nat} {j n : Nat} {item : Nat → B} {a1 : AS} {kd : B → AS → Prop} (c : Nat → Bool) (f : Nat → D) (hn : n ≤ 50000)
    (hs : ∀ i m, i < n → (∀ q x, a1.mem q = some x → m q = some x) → ET K b0 tt ⟨(wipeA a1.env vs).set j (some (item i)), m⟩ fun b a3 => b = c i ∧ a3.mem = m ∧ (b = true → EV K b0 te a3 fun y a4 => y = .dat (f i) ∧ a4.mem = m))
    (hk : kd (.dat (.lst (((List.range n).filter c).map f))) a1) : Turns K b0 tt te vs j n item a1 (fun b a' => ∃ p ds, b = .ptr p ∧ a'.mem p = some (.lst (ds.map B.dat)) ∧ b0.mem p = none ∧ a1.mem p = none ∧ kd (.dat (.lst ds)) (a'.at (mdel a'.mem p))) := by
  refine ⟨fun p i acc m => a1.mem p = none ∧ m = mput a1.mem p (.lst acc) ∧ acc = (((List.range i).filter c).map f).map B.dat, fun p h1 _ => ⟨h1, rfl, rfl⟩, ?_, ?_⟩
  · rintro p i acc m hi hb ⟨hp, rfl, rfl⟩ hm σ H Q R q
    refine hs i _ hi (fun q x hq => by rw [mput_ne (fun e => by rw [e, hp] at hq; cases hq)]; exact hq) σ H Q R fun b H' a3 ⟨e1, e2, e3⟩ R3 ex => q b H' a3 ⟨fun hc => ?_, fun hc => ?_⟩ R3 ex
    · intro σ H Q R q
      refine e3 hc σ H Q R fun v H' y a4 ⟨y1, y2⟩ R4 ex4 r4 => q v H' y a4 ⟨?_, ?_, hp, ?_, ?_⟩ R4 ex4 r4
      · rw [List.length_map, List.length_map]
        have := List.length_filter_le c (List.range i)
        rw [List.length_range] at this
        omega
      · rw [y2, mput_same]
      · rw [y2, mput_mput]
      · rw [y1, List.range_succ, List.filter_append, List.map_append, List.map_append, List.filter_cons, if_pos (by rw [← e1]; exact hc)]
        rfl
    · refine ⟨by rw [e2, mput_same], hp, e2, ?_⟩
      rw [List.range_succ, List.filter_append, List.map_append, List.map_append, List.filter_cons, if_neg (by rw [← e1, hc]; decide)]
      simp
  · rintro p acc m h1 h2 ⟨_, rfl, rfl⟩ hm
    refine ⟨p, _, rfl, mput_same, h2, h1, ?_⟩
    show kd _ ⟨a1.env, mdel (mput a1.mem p _) p⟩
    rw [mdel_mput h1]
    exact hk
end
end MP
/-! MPO -/
/-! own operators of Ratio -/
namespace MP
open PySem PySem.Spec PyProof.Rows L2
section
variable {prog : Program} {w : World} {A : Around} {E : Value → Shared → Prop} {s : Shared} {K : PySem.W.Frag} {x C L f : Addr} {h₀ : Heap} {m : Str → Option Value} {ox : Obj} {od : Option Obj} {b tb : Value}
theorem ifBound_S {M : Model} {name : Str} {id : String} {args : List Value} {Q : Option Value → Shared → Prop} (X : K.In s.heap) (I : PySem.W.InstAt s.heap x ox C od) (hs : PySem.W.findIn K (.ref C) name = some (some (.builtin id))) (S : Slot "object" name id)
    (h : wpAny M A (call (.builtin id) (.ref x :: args)) (fun v => Q (some v)) E s) : wpAny M A (callSpecialIfBound? (.ref x) name args) Q E s := by
  simp only [callSpecialIfBound?, bindSpecialIfBound?]
  refine wpAny_holding (wpAny_bind (wpAny_bind (wpAny_bind (I.type.here ((PySem.W.looks_findIn X hs).here ?_)))))
  simp only [S.bind]
  refine wpAny_bind (wpAny_askSetting (wpAny_ite ?_))
  have fin : wpAny M A (call (.builtin id) ([.ref x] ++ args) >>= fun v => pure (some v)) Q E s := wpAny_bind (wpAny_mono h (fun v s' h' => wpAny_pure h') fun _ _ h' => h')
  split
  · exact wpAny_bind (wpAny_pure (wpAny_pure (by exact fin)))
  · exact wpAny_tryCatch (wpAny_bind (wpAny_pure (wpAny_pure (by exact fin))))
theorem objNe_K (X : K.In s.heap) (I : PySem.W.InstAt s.heap x ox C od) (hs : PySem.W.findIn K (.ref C) "__eq__" = some (some (.ref f))) (hf : PySem.W.isFn K (.ref f) = true) (hu : A.units < cLine) {Q : Fin → Shared → Prop}
    (hcall : wpAny (model prog w) A (call (.ref f) [.ref x, b]) (fun v s' => ∃ c, v = .bool c ∧ Q (.done (.ret (.bool (!c)))) s') E s) :
    wpAny (model prog w) A (Builtin.«object.__ne__» ⟨[.ref x, b], []⟩) Q E s := by
  unfold Builtin.«object.__ne__»
  repeat (first
    | with_reducible refine wpAny_cRoomFor hu ?_
    | (refine wpAny_bind (m := callSpecialIfBound? (.ref x) (Str.ofString "__eq__") [b])
        (PySem.W.ifBound_K X I hs hf (wpAny_mono hcall (fun r s' hr => by
          obtain ⟨c, rfl, hq⟩ := hr
          repeat (first | exact hq | exact wpAny_pure hq | exact wpAny_truthy_bool hq | (refine wpAny_bind (m := truthy (.bool _)) (wpAny_truthy_bool ?_)) | wp_step)) fun _ _ e => e)))
    | wp_step)
theorem ne_K {Q : Value → Shared → Prop} (hu : A.units + 1 < cLine) (F : Fr h₀ L s.heap m) (X₀ : K.In h₀) (I : PySem.W.InstAt s.heap x ox C od) (hb : PySem.W.Looks (model prog w) s.heap (typeOf b) tb) (hn : PySem.W.notFirst K C tb = true)
    (hne : PySem.W.findIn K (.ref C) "__ne__" = some (some (.builtin "object.__ne__"))) (hs : PySem.W.findIn K (.ref C) "__eq__" = some (some (.ref f))) (hf : PySem.W.isFn K (.ref f) = true) (ho : PySem.W.subIn K (.ref C) (.type "object") = some true)
    (h : wpAny (model prog w) A.in1 (call (.ref f) [.ref x, b]) (fun v s' => ∃ c, v = .bool c ∧ Q (.bool (!c)) s') E s) : wpAny (model prog w) A (richCompare .NotEq (.ref x) b) Q E s := by
  have X := X₀.keeps F.keep
  have one : wpAny (model prog w) A (tryCompare (.ref x) "__ne__" b) (fun r s' => ∃ v, r = some v ∧ Q v s') E s := by
    unfold tryCompare
    refine wpAny_bind (ifBound_S X I hne PySem.F.cmp_object.ne ?_)
    have ti : PySem.W.Looks (model prog w) s.heap (isInstance (.ref x) (.type "object")) true := I.type.andThen (PySem.W.looks_subIn X ho)
    refine wpAny_call (codeAny_call_builtin PySem.F.cmp_object.ne.plain PySem.F.cmpEntry_ne (PySem.W.check_slot PySem.F.cmpKind_ne PySem.F.cmpSplit_ne ti (PySem.F.cmpArgs_ne _ _) ?_))
    refine objNe_K (A := A.in1) X I hs hf hu (wpAny_mono h (fun v s' hv => ?_) fun _ _ e => e)
    obtain ⟨c, rfl, hq⟩ := hv
    exact ⟨c, rfl, wpAny_pure ⟨_, rfl, hq⟩⟩
  unfold richCompare
  simp only [oneThing_ref]
  refine wpAny_holding (wpAny_bind (wpAny_cRoomFor (Nat.lt_of_succ_lt hu) ?_))
  rw [cmpInfo_NotEq]
  dsimp only
  refine wpAny_bind (I.type.here (wpAny_bind (hb.here ?_)))
  split
  · rename_i q
    have e : PySem.W.subIn K tb (.ref C) = some false := by
      rcases Bool.or_eq_true_iff.mp hn with e | e
      · rw [beq_iff_eq.mp e] at q; simp at q
      · exact beq_iff_eq.mp e
    refine wpAny_bind ((PySem.W.looks_subIn X e).here ?_)
    simp only [Bool.false_eq_true, if_false]
    refine wpAny_bind (wpAny_mono one (fun r s' z => ?_) fun _ _ e => e)
    obtain ⟨v, rfl, hq⟩ := z
    exact wpAny_pure hq
  · refine wpAny_bind (wpAny_pure ?_)
    simp only [Bool.false_eq_true, if_false]
    refine wpAny_bind (wpAny_mono one (fun r s' z => ?_) fun _ _ e => e)
    obtain ⟨v, rfl, hq⟩ := z
    exact wpAny_pure hq
end
end MP
/-! MPG -/
/-! the def rule; the facts; Ratio's operators by its methods' promises -/
namespace MP
open PySem PySem.Spec PyProof.Rows L2

/-! ### facts -/
structure FX (K : PySem.W.Frag) (mg : Str → Option Value) : Prop where
  top : ∃ h : Heap, K.In h ∧ h.Ns mainGlobals mg
  said : He.SaysD fa fn K
  ex : exK K = true
section
variable {K : PySem.W.Frag} {mg : Str → Option Value}
abbrev CR (K : PySem.W.Frag) : Addr := He.ga K "Ratio"
theorem eqB_ok {a b : Option Bool} (h : eqB a b = true) : a = b := of_decide_eq_true h
theorem FX.glo (M : FX K mg) (i : Nat) {x : Str} (h : fa[i]? = some (.glo x) := by rfl) : mg x = some (.ref (He.ga K x)) := by
  obtain ⟨hp, X, G⟩ := M.top
  exact He.glo_ok X G (M.said.fact i h)
theorem FX.free (M : FX K mg) (i : Nat) {x : Str} (h : fa[i]? = some (.free x) := by rfl) : mg x = none := by
  obtain ⟨hp, X, G⟩ := M.top
  exact He.free_ok X G (M.said.fact i h)
theorem FX.int (M : FX K mg) (i : Nat) {x : Str} {z : Int} (h : fa[i]? = some (.int x z) := by rfl) : ∃ u, mg x = some u ∧ RelV (.int z) u := by
  obtain ⟨hp, X, G⟩ := M.top
  obtain ⟨t, e⟩ := He.int_ok X G (M.said.fact i h)
  exact ⟨_, e, t, rfl⟩
theorem FX.exi (M : FX K mg) (i : Nat) {b : Bool} (h : (exL K)[i]? = some b := by rfl) : b = true :=
  List.all_eq_true.mp M.ex b (List.mem_of_getElem? h)
theorem FX.gcd (M : FX K mg) : mg "gcd" = some (.builtin "math.gcd") := by
  obtain ⟨hp, X, G⟩ := M.top
  exact PySem.W.mg_of X G (He.eqO_ok (M.exi 0))
theorem FX.self (M : FX K mg) : PySem.W.selfFirst K (CR K) = true := M.exi 1
theorem FX.ne (M : FX K mg) : PySem.W.findIn K (.ref (CR K)) "__ne__" = some (some (.builtin "object.__ne__")) := He.eqO_ok (M.exi 2)
theorem FX.sub (M : FX K mg) : PySem.W.subIn K (.ref (CR K)) (.type "object") = some true := eqB_ok (M.exi 3)
theorem FX.kitR (M : FX K mg) : PySem.W.kitOne K (.ref (CR K)) (.ref (CR K)) = some true := eqB_ok (M.exi 8)
theorem FX.kitRT (M : FX K mg) {t : String} (h : t ∈ (["int", "bool", "tuple", "list"] : List String)) : PySem.W.kitOne K (.ref (CR K)) (.type t) = some false := eqB_ok (List.all_eq_true.mp (M.exi 9) t h)
theorem FX.kitTR (M : FX K mg) {t : String} (h : t ∈ tyNames) : PySem.W.kitOne K (.type t) (.ref (CR K)) = some false := eqB_ok (List.all_eq_true.mp (M.exi 10) t h)
theorem FX.subT (M : FX K mg) {t : String} (h : t ∈ tyNames) : PySem.W.subIn K (.type t) (.ref (CR K)) = some false := eqB_ok (List.all_eq_true.mp (M.exi 11) t h)
theorem FX.cls (M : FX K mg) (i : Nat) {x : Str} (h : fa[i]? = some (.cls x) := by rfl) : Cls K (He.ga K x) := He.cls_ok (M.said.fact i h)
theorem FX.noat (M : FX K mg) (i : Nat) {x f : Str} (h : fa[i]? = some (.noat x f) := by rfl) : NoAttr K (He.ga K x) f := He.noat_ok (M.said.fact i h)
theorem FX.meth (M : FX K mg) (i : Nat) {x m : Str} (h : fa[i]? = some (.meth x m) := by rfl) : Meth K (He.ga K x) m (He.ma K (He.ga K x) m) := He.meth_ok (M.said.fact i h)
theorem FX.mkr (M : FX K mg) (i : Nat) {x : Str} (h : fa[i]? = some (.mkr x) := by rfl) : Mk K (He.ga K x) (He.ma K (He.ga K x) "__init__") := He.mkr_ok (M.said.fact i h)
theorem FX.ins (M : FX K mg) (c : Cls K (CR K)) : C8.InsC K (CR K) := ⟨c, He.eqO_ok (M.exi 4), He.eqO_ok (M.exi 5), eqB_ok (M.exi 6), eqB_ok (M.exi 7), M.kitR⟩
end

/-! ### the def rule -/
def startA (N : List Str) (bs : List B) : List (Option B) := bs.map some ++ List.replicate (N.length - bs.length) none
section
variable {P : Program} {w : World} {K : PySem.W.Frag} {mg : Str → Option Value} {base : Heap}
theorem rel_start {m : Ms} {H : Hp} {bs : List B} {vs : List V} {N : List Str} (hc : Conts K m H) (hr : RepBs K (mask H m) bs vs) : Rel K ⟨H, m, []⟩ ⟨startA N bs, m⟩ (L2.start N vs) H := by
  have hl := Pd.len hr
  refine ⟨?_, fun i b h => ?_, hc, fun p o h _ => h, fun p h => h, fun p h h2 => ?_, fun x hx => by cases hx⟩
  · show (L2.start N vs).length = (startA N bs).length
    unfold L2.start startA
    simp [hl]
  · have h' : (startA N bs)[i]? = some (some b) := h
    unfold startA at h'
    by_cases hi : i < bs.length
    · rw [List.getElem?_append_left (by simpa using hi), List.getElem?_map] at h'
      cases q : bs[i]? with
      | none => rw [q] at h'; cases h'
      | some c =>
        rw [q] at h'
        have e : c = b := by
          have : some (some c) = some (some b) := h'
          exact Option.some.inj (Option.some.inj this)
        subst e
        obtain ⟨v, h1, h2⟩ := Pd.get hr q
        refine ⟨v, ?_, h2⟩
        unfold L2.start
        rw [List.getElem?_append_left (by simpa [← hl] using hi), List.getElem?_map, h1]
        rfl
    · rw [List.getElem?_append_right (by simpa using hi)] at h'
      exfalso
      rw [List.getElem?_replicate] at h'
      split at h'
      · exact nomatch (Option.some.inj h')
      · cases h'
  · have h3 : (m p).isSome = true := h
    rw [show m p = none from h2] at h3
    cases h3
theorem rt_fin {b0 : Ba} {b : B} {m' : Ms} {Q : VK} {a : AS} (hf : Dn K b0.hp b0.mem b m' Q) (hd : ∀ p, (m' p).isSome = (b0.mem p).isSome) (h : ∀ p, (b0.mem p).isSome → m' p = a.mem p) : RT K b0 Q b a := fun σ H v R rb => by
  have e : Ex (mask H a.mem) (mask H m') := fun p o hp => by
    obtain ⟨z1, z2⟩ := mask_some hp
    refine mask_mk ?_ z2
    cases q : m' p with
    | none => rfl
    | some c =>
      have s : (b0.mem p).isSome = true := by rw [← hd, q]; rfl
      rw [← h p s, q] at z1
      cases z1
  refine hf v H (fun p o h1 h2 => R.keep p o h1 h2) (fun p c hc => ?_) (rb.mono e)
  have s : (b0.mem p).isSome = true := by rw [← hd, hc]; rfl
  obtain ⟨o, h1, h2⟩ := R.cont p c (by rw [← h p s]; exact hc)
  exact ⟨o, h1, h2.mono e⟩
/-- data may be handed back, all mutable things as they were -/
def Ret (K : PySem.W.Frag) (b0 : Ba) (Z : Ends) (d : D) : Prop := ∀ a : AS, (∀ p c, b0.mem p = some c → a.mem p = some c) → RT K b0 Z.rt (.dat d) a
theorem Ret.up {b0 : Ba} {Z : Ends} {d e : D} {v : V} (h : Ret K b0 Z d) : Ret K (b0.add e v) Z d := fun a ha σ H u R r => h a ha σ H u R.ungh r
theorem Ret.ends {b0 : Ba} {Z Z' : Ends} {d : D} (h : Ret K b0 Z d) (e : Z'.rt = Z.rt) : Ret K b0 Z' d := fun a ha σ H u R r => by rw [e]; exact h a ha σ H u R r
/-- .. with changes -/
def RetE (K : PySem.W.Frag) (b0 : Ba) (Z : Ends) (b : B) (m' : Ms) : Prop := ∀ a : AS, (∀ p, (b0.mem p).isSome → m' p = a.mem p) → RT K b0 Z.rt b a ∧ (b = .dat .non → NX K b0 Z.nx a)
theorem RetE.up {b0 : Ba} {Z : Ends} {b : B} {m' : Ms} {e : D} {v : V} (h : RetE K b0 Z b m') : RetE K (b0.add e v) Z b m' := fun a ha => ⟨fun σ H u R r => (h a ha).1 σ H u R.ungh r, fun eb σ H R => (h a ha).2 eb σ H R.ungh⟩
variable {x qual : Str} {params : Arguments} {body : List Stmt} {scope : Scope} {dvs : List V} {kws : List (Str × V)} {f : Addr} {fd : FuncData} {N ps : List Str} {j : Nat}
theorem def_eff {R : SpR} (F : FunD K x qual params body scope dvs kws f fd) (S : FnScope N ps scope) (len : ∀ bs m b m', R bs m b m' → bs.length = ps.length)
    (hbody : ∀ (cdv : Value) (A : Around) (outer : List Env) (s : Shared) (H : Hp) (E : XK), Room j (A.deeper (envOfC qual scope s.heap.objs.size f cdv)) →
      ∃ t, PSs (cxOf CX0 P w K mg base N qual scope f cdv A outer s H E).nox body t ∧ ∀ (b0 : Ba) (Z : Ends) (bs : List B) (b : B) (m' : Ms), R bs b0.mem b m' → RetE K b0 Z b m' → GS K b0 t Z ⟨startA N bs, b0.mem⟩) : FnOk P w K mg base CX0 (j + 1) f fd ps (spA K R) := by
  refine F.ok S (fun vs H Q E h => ?_) (fun cdv A outer s H vs Q E hr h => ?_)
  · obtain ⟨bs, m, b, m', _, hr, h1, _⟩ := h
    rw [← Pd.len hr]
    exact len bs m b m' h1
  · obtain ⟨bs, m, b, m', hc, hrb, h1, hd, hf⟩ := h
    obtain ⟨t, h2, h3⟩ := hbody cdv A outer s H E hr
    refine ⟨t, h2.nox, h3 ⟨H, m, []⟩ _ bs b m' h1 (fun a ha => ⟨rt_fin hf hd ha, fun e σ H' R' => ?_⟩) _ _ (rel_start hc hrb)⟩
    subst e
    exact rt_fin (b0 := ⟨H, m, []⟩) hf hd ha σ H' .non R' rfl
theorem def_pure {fr : List B → D → Prop} (F : FunD K x qual params body scope dvs kws f fd) (S : FnScope N ps scope) (len : ∀ bs d, fr bs d → bs.length = ps.length)
    (hbody : ∀ (cdv : Value) (A : Around) (outer : List Env) (s : Shared) (H : Hp) (E : XK), Room j (A.deeper (envOfC qual scope s.heap.objs.size f cdv)) →
      ∃ t, PSs (cxOf CX0 P w K mg base N qual scope f cdv A outer s H E).nox body t ∧ ∀ (b0 : Ba) (Z : Ends) (bs : List B) (d : D), fr bs d → Ret K b0 Z d → GS K b0 t Z ⟨startA N bs, b0.mem⟩) : FnOk P w K mg base CX0 (j + 1) f fd ps (spA K (pw fr)) := by
  refine def_eff F S (fun bs m b m' ⟨_, d, _, h⟩ => len bs d h) fun cdv A outer s H E hr => ?_
  obtain ⟨t, h1, h2⟩ := hbody cdv A outer s H E hr
  refine ⟨t, h1, fun b0 Z bs b m' ⟨e1, d, e2, h3⟩ h4 => ?_⟩
  subst e1 e2
  exact h2 b0 Z bs d h3 fun a ha => (h4 a fun p hp => by
    cases q : b0.mem p with
    | none => rw [q] at hp; cases hp
    | some c => exact (ha p c q).symm).1
end

/-! ### Ratio's operators -/
section
variable {X : Cx} {k : Nat} {f : Addr} {fd : FuncData} {ps : List Str}
theorem run_cmp {sp : Sp} {pins : List (Addr × Obj)} {σ : L2.St} {H : Hp} {s : Shared} {Q : VK} {us : List Value} {vs : List V} (F : FnOk X.prog X.w X.K X.mg X.base CX0 k f fd ps sp) (hr : Room k X.A) (hb : Binds X.K fd ps [])
    (I : Inv X pins σ H s) (r : Vals vs us) (h : sp vs H Q E0) : wpAny (model X.prog X.w) X.A (call (.ref f) us) (PySem.W.CmpBack (EP X pins σ Q)) X.xe s := by
  refine wpAny_mono (run_fn F hr hb (dvs := []) .nil pass0 I r (by rw [List.append_nil]; exact h)) (fun v s' hq => ?_) fun _ _ e => e
  obtain ⟨y, H', I', ry, q⟩ := id hq
  cases v with
  | notImplemented => cases y <;> first | (cases (show Value.notImplemented = _ from ry)) | (obtain ⟨_, z⟩ := (show ∃ t, Value.notImplemented = _ from ry); cases z)
  | _ => exact hq
def IsI (C : Addr) (H : Hp) (x : V) : Prop := ∃ p dx fs, x = .ref p ∧ H p = some (.ins C dx fs)
/-- a op b, both of the class at C -/
def rOwn2 (C : Addr) (sp : Sp) : R2 := fun x y H Q => IsI C H x ∧ IsI C H y ∧ sp [x, y] H Q E0
theorem op_own2 {op : Operator} {C : Addr} {sp : Sp} (F : FnOk X.prog X.w X.K X.mg X.base CX0 k f fd ps sp) (hr : Room k X.A) (hb : Binds X.K fd ps []) (hc : PySem.W.selfFirst X.K C = true)
    (hs : PySem.W.findIn X.K (.ref C) (PySem.dunder op.info.2) = some (some (.ref f))) (hf : PySem.W.isFn X.K (.ref f) = true) : OpR X (binaryOp op) (rOwn2 C sp) := by
  intro pins s σ H x y v u Q I rx ry h
  obtain ⟨⟨p, dx, fs, rfl, hp⟩, ⟨p2, dx2, fs2, rfl, hp2⟩, hq⟩ := h
  cases rx
  cases ry
  obtain ⟨mA, J, _⟩ := ins_get I.hok hp
  obtain ⟨mB, J', _⟩ := ins_get I.hok hp2
  obtain ⟨od, J, _⟩ := J.look
  obtain ⟨od', J', _⟩ := J'.look
  obtain ⟨m, hF⟩ := I.fr
  refine wpAny_mono (PySem.W.binop_K (Q := EP X pins σ Q) hF I.ok.mod.kin J J'.type hc hs hf (run_cmp F hr hb I (vs := [.ref p, .ref p2]) (.cons rfl (.cons rfl .nil)) hq)) (fun v s' q => q) fun _ _ e => e
/-- -a -/
def rOwn1 (C : Addr) (sp : Sp) : V → Hp → VK → Prop := fun x H Q => IsI C H x ∧ sp [x] H Q E0
theorem un_own {C : Addr} {sp : Sp} (F : FnOk X.prog X.w X.K X.mg X.base CX0 k f fd ps sp) (hr : Room k X.A) (hb : Binds X.K fd ps [])
    (hs : PySem.W.findIn X.K (.ref C) "__neg__" = some (some (.ref f))) (hf : PySem.W.isFn X.K (.ref f) = true) : UnR X (unaryOp .USub) (rOwn1 C sp) := by
  intro pins s σ H x v Q I rx h
  obtain ⟨⟨p, dx, fs, rfl, hp⟩, hq⟩ := h
  cases rx
  obtain ⟨mA, J, _⟩ := ins_get I.hok hp
  obtain ⟨od, J, _⟩ := J.look
  obtain ⟨m, hF⟩ := I.fr
  exact PySem.W.ksp_neg (Q := EP X pins σ Q) hF I.ok.mod.kin J hs hf (run_fn F hr hb (dvs := []) (vs := [.ref p]) .nil pass0 I (.cons rfl .nil) (by rw [List.append_nil]; exact hq))
end
end MP
/-! MPI -/
/-! == and in where what is compared has an own == : loops that change the state -/
namespace MP.Eq
open PySem PySem.SeqAt
open AutoSeq1 (wpAny_loadPart')
open MeetsSeq MeetsSeq2 MeetsSeq3 SeqRoads2
section
variable {prog : Program} {w : World} {A : Around} {R : Result → Shared → Prop}
abbrev FinOf (prog : Program) (w : World) (A : Around) (R : Result → Shared → Prop) : PySem.Fin → Shared → Prop := fun fin s' => match fin with
  | .done f => R (.ok f) s'
  | .again c' => c'.quiet = true ∧ codeAny (model prog w) A c' R s'
/-- the list at l as it is read at each turn -/
def ListC (prog : Program) (w : World) (A : Around) (E : Value → Shared → Prop) (l : Addr) (x : Value) (N : Nat) (e : Nat → Bool) (I : Nat → Shared → Prop) : Prop :=
  ∀ i s, I i s → ∃ (items : Array Value) (n : Nat), s.heap.get? l = some { cls := .type "list", data := .seq items n } ∧ items.size = N ∧
    ∀ (h1 : i < items.size), wpAny (model prog w) A.in1 (eqBool items[i] x) (fun r s' => r = e i ∧ I (i + 1) s') E s
theorem any_from (e : Nat → Bool) (i n : Nat) (hi : i < n) : ((List.range n).drop i).any e = (e i || ((List.range n).drop (i + 1)).any e) := by
  rw [List.drop_eq_getElem_cons (by simpa using hi), List.any_cons]
  simp
theorem contains_loopC (l : Addr) (x : Value) (N : Nat) (e : Nat → Bool) (I : Nat → Shared → Prop) (hl : ListC prog w A (fun e s' => R (.error e) s') l x N e I) (b : Bool)
    (fin : ∀ i s, I i s → R (.ok (.ret (.bool b))) s) (k : Nat) :
    ∀ i : Nat, N - i = k → i ≤ N → ((List.range N).drop i).any e = b → ∀ s, I i s →
      wpAny (model prog w) A.in1 (Builtin.«list.__contains__.loop» ⟨[.ref l, x, rawInt i], []⟩) (FinOf prog w A R) (fun e s' => R (.error e) s') s := by
  induction k with
  | zero =>
    intro i hk hi hb s h
    obtain ⟨items, n, hl1, hs1, _⟩ := hl _ _ h
    have hR := fin i s h
    have hd : (List.range N).drop i = [] := by simp; omega
    rw [hd] at hb
    have hb' : b = false := hb.symm
    subst hb'
    obtain ⟨hp, g, d, tk, os⟩ := s
    wp_walk using wpAny_loadPart' hl1
    have hi1 : items[((i : Nat) : Int).toNat]? = none := by simp; omega
    rw [hi1]
    wp_walk
    exact hR
  | succ k ih =>
    intro i hk hi hb s h
    obtain ⟨items, n, hl1, hs1, turn⟩ := hl _ _ h
    have hlt : i < items.size := by omega
    have ht := turn hlt
    obtain ⟨hp, g, d, tk, os⟩ := s
    wp_walk using wpAny_loadPart' hl1
    have hi1 : items[((i : Nat) : Int).toNat]? = some items[i] := by simp [hlt]
    have hc : ((i : Int) + 1) = ((i + 1 : Nat) : Int) := by push_cast; rfl
    rw [any_from e i N (by omega)] at hb
    rw [hi1]
    refine wpAny_bind (wpAny_mono ht (fun r s2 h2 => ?_) fun _ _ z => z)
    obtain ⟨hr, h2⟩ := h2
    subst hr
    cases he : e i with
    | true =>
      rw [he] at hb
      have hb' : b = true := hb.symm
      subst hb'
      have hR := fin (i + 1) s2 h2
      obtain ⟨hp2, g2, d2, tk2, os2⟩ := s2
      wp_walk
      exact hR
    | false =>
      rw [he, Bool.false_or] at hb
      have hrec := ih (i + 1) (by omega) (by omega) hb s2 h2
      obtain ⟨hp2, g2, d2, tk2, os2⟩ := s2
      wp_walk
      rw [hc]
      exact ⟨plainId_quiet plain_contains_loop _, codeAny_builtin entry_contains_loop (by
        rw [Around.under_plainId plain_contains_loop _]
        exact hrec)⟩
theorem list_containsC (l : Addr) (x : Value) (N : Nat) (e : Nat → Bool) (I : Nat → Shared → Prop) (hl : ListC prog w A (fun e s' => R (.error e) s') l x N e I)
    (fin : ∀ i s, I i s → R (.ok (.ret (.bool ((List.range N).any e)))) s) {s : Shared} (h : I 0 s) :
    wpAny (model prog w) A.in1 (Builtin.«list.__contains__» ⟨[.ref l, x], []⟩) (FinOf prog w A R) (fun e s' => R (.error e) s') s := by
  obtain ⟨items, n, hl1, hs1, _⟩ := hl _ _ h
  have hrec := contains_loopC (A := A) (R := R) l x N e I hl _ fin _ 0 rfl (Nat.zero_le _) rfl s h
  obtain ⟨hp, g, d, tk, os⟩ := s
  wp_walk using wpAny_loadPart' hl1
  exact ⟨plainId_quiet plain_contains_loop _, codeAny_builtin entry_contains_loop (by
    rw [Around.under_plainId plain_contains_loop _]
    exact hrec)⟩
theorem tuple_eqC (l b : Addr) (items items2 : Array Value) (n n2 : Nat) (dd dd2 : Option Addr) (sl sl2 : Array (Option Value)) (hsz : items.size = items2.size) (e : Nat → Bool) (I : Nat → Shared → Prop)
    (turn : ∀ i (h1 : i < items.size) (h2 : i < items2.size) s, I i s → wpAny (model prog w) A.in1 (eqBool items[i] items2[i]) (fun r s' => r = e i ∧ I (i + 1) s') (fun e s' => R (.error e) s') s)
    (fin : ∀ i s, I i s → R (.ok (.ret (.bool ((List.range items.size).all e)))) s) {s : Shared} (hl1 : s.heap.get? l = some { cls := .type "tuple", dict := dd, data := .seq items n, slots := sl }) (hb1 : s.heap.get? b = some { cls := .type "tuple", dict := dd2, data := .seq items2 n2, slots := sl2 }) (h : I 0 s) :
    wpAny (model prog w) A.in1 (Builtin.«tuple.__eq__» ⟨[.ref l, .ref b], []⟩) (FinOf prog w A R) (fun e s' => R (.error e) s') s := by
  have f2 := AutoSeq1.sub_tuple_tuple
  have hZ : (items.toList.zip items2.toList).length = items.size := by simp [hsz]
  have h0 := h
  obtain ⟨hp, g, d, tk, os⟩ := s
  wp_walk using wpAny_loadPart' hl1, wpAny_loadPart' hb1, wpAny_forIn_list _ (fun rest b s' => b.1 = none ∧ ∃ i, rest = (items.toList.zip items2.toList).drop i ∧ i ≤ items.size ∧ ((List.range items.size).drop i).all e = (List.range items.size).all e ∧ I i s') _
  case turn =>
    rintro ⟨y, x⟩ rest b s' ⟨hb', i, hz, hi, hall, hI⟩
    have hlt : i < (items.toList.zip items2.toList).length := by
      rcases Nat.lt_or_ge i (items.toList.zip items2.toList).length with h' | h'
      · exact h'
      · rw [List.drop_of_length_le h'] at hz; cases hz
    have h1 : i < items.size := hZ ▸ hlt
    have h2 : i < items2.size := hsz ▸ h1
    rw [List.drop_eq_getElem_cons hlt] at hz
    injection hz with hyx hrest
    have hy : y = items[i] := by have := congrArg Prod.fst hyx; simpa using this
    have hx : x = items2[i] := by have := congrArg Prod.snd hyx; simpa using this
    subst hy hx
    have hd : (List.range items.size).drop i = i :: (List.range items.size).drop (i + 1) := by simp [List.drop_eq_getElem_cons, h1]
    rw [hd, List.all_cons] at hall
    refine wpAny_bind (wpAny_mono (turn i h1 h2 s' hI) (fun r s2 q2 => ?_) fun _ _ x => x)
    obtain ⟨hr, q2⟩ := q2
    subst hr
    have hR := fin (i + 1) s2 q2
    cases he : e i with
    | true =>
      rw [he, Bool.true_and] at hall
      wp_walk
      exact ⟨rfl, i + 1, hrest, h1, hall, q2⟩
    | false =>
      rw [he, Bool.false_and] at hall
      rw [← hall] at hR
      wp_walk
      exact hR
  case fin =>
    rintro ⟨b1, b2⟩ s' ⟨hb', i, hz, hi, hall, hI⟩
    simp only at hb'
    subst hb'
    have hge : items.size ≤ i := by
      rcases Nat.lt_or_ge i (items.toList.zip items2.toList).length with h' | h'
      · rw [List.drop_eq_getElem_cons h'] at hz; cases hz
      · exact hZ ▸ h'
    have hR := fin i s' hI
    rw [List.drop_of_length_le (by simpa using hge)] at hall
    rw [← hall] at hR
    wp_walk
    simpa [Builtin.Tuple.tupleCompareSizes, hsz] using hR
  case h =>
    exact ⟨rfl, 0, rfl, Nat.zero_le _, rfl, h0⟩
end
section
variable {prog : Program} {w : World} {A : Around} {E : Value → Shared → Prop} {s : Shared}
theorem in_listC {l : Addr} {x : Value} {N : Nat} {Q : Value → Shared → Prop} (e : Nat → Bool) (I : Nat → Shared → Prop) (hl : ListC prog w A E l x N e I) (fin : ∀ i s, I i s → Q (.bool ((List.range N).any e)) s) (h : I 0 s) :
    wpAny (model prog w) A (compareOp .In x (.ref l)) Q E s := by
  obtain ⟨items, n, hl1, hs1, _⟩ := hl _ _ h
  have hT : s.TypeIs (.ref l) "list" := ⟨_, hl1, rfl⟩
  show wpAny _ A (do return .bool (← contains (.ref l) x)) Q E s
  refine wpAny_bind (wpAny_contains_slot hT F.slot_list_contains (wpAny_mono (GQ.call_here F.slot_list_contains hT F.entry_list_contains (F.args_list_contains_2 _ _) (E := E) (Q := fun v s' => ∃ b, v = .bool b ∧ Q (.bool b) s')
    (list_containsC (R := wants (fun v s' => ∃ b, v = .bool b ∧ Q (.bool b) s') E) l x N e I hl (fun i s' q => ⟨_, rfl, fin i s' q⟩) h)) (fun v s' hv => ?_) fun _ _ e => e))
  obtain ⟨b, rfl, hq⟩ := hv
  exact wpAny_truthy_bool (wpAny_pure hq)
theorem notIn_listC {l : Addr} {x : Value} {N : Nat} {Q : Value → Shared → Prop} (e : Nat → Bool) (I : Nat → Shared → Prop) (hl : ListC prog w A E l x N e I) (fin : ∀ i s, I i s → Q (.bool (!(List.range N).any e)) s) (h : I 0 s) :
    wpAny (model prog w) A (compareOp .NotIn x (.ref l)) Q E s := by
  obtain ⟨items, n, hl1, hs1, _⟩ := hl _ _ h
  have hT : s.TypeIs (.ref l) "list" := ⟨_, hl1, rfl⟩
  show wpAny _ A (do return .bool (!(← contains (.ref l) x))) Q E s
  refine wpAny_bind (wpAny_contains_slot hT F.slot_list_contains (wpAny_mono (GQ.call_here F.slot_list_contains hT F.entry_list_contains (F.args_list_contains_2 _ _) (E := E) (Q := fun v s' => ∃ b, v = .bool b ∧ Q (.bool (!b)) s')
    (list_containsC (R := wants (fun v s' => ∃ b, v = .bool b ∧ Q (.bool (!b)) s') E) l x N e I hl (fun i s' q => ⟨_, rfl, fin i s' q⟩) h)) (fun v s' hv => ?_) fun _ _ e => e))
  obtain ⟨b, rfl, hq⟩ := hv
  exact wpAny_truthy_bool (wpAny_pure hq)
theorem rc_tupC {l b : Addr} {items items2 : Array Value} {Q : Value → Shared → Prop} (hsz : items.size = items2.size) (hu : A.units < cLine) (e : Nat → Bool) (I : Nat → Shared → Prop)
    (hl : s.heap.IsTuple l items) (hb : s.heap.IsTuple b items2)
    (turn : ∀ i (h1 : i < items.size) (h2 : i < items2.size) s, I i s → wpAny (model prog w) A.in1 (eqBool items[i] items2[i]) (fun r s' => r = e i ∧ I (i + 1) s') E s)
    (fin : ∀ i s, I i s → Q (.bool ((List.range items.size).all e)) s) (h : I 0 s) : wpAny (model prog w) A (richCompare .Eq (.ref l) (.ref b)) Q E s := by
  obtain ⟨⟨cls, dd, data, sl⟩, ho, hc, n, hd⟩ := id hl
  obtain ⟨⟨cls2, dd2, data2, sl2⟩, ho2, hc2, n2, hd2⟩ := id hb
  simp only at hc hd hc2 hd2
  subst hc hd hc2 hd2
  refine wpAny_richCompare_same_room (op := .Eq) ⟨_, ho, rfl⟩ ⟨_, ho2, rfl⟩ F.slot_tuple_eq (GQ.call_here F.slot_tuple_eq ⟨_, ho, rfl⟩ F.entry_tuple_eq (F.args_tuple_eq_2 _ _) ?_) hu
  exact tuple_eqC (R := wants (fun v s' => v ≠ .notImplemented ∧ Q v s') E) l b items items2 n n2 dd dd2 sl sl2 hsz e I turn (fun i s' q => ⟨(fun x => nomatch x), fin i s' q⟩) ho ho2 h
end
end MP.Eq
/-! MPJ -/
/-! ==, !=, in with Ratio: rules and readings -/
namespace MP
open PySem PySem.Spec PyProof.Rows L2

theorem rat_ext {p q : Rat} (h1 : p.num = q.num) (h2 : p.den = q.den) : p = q := Rat.ext h1 h2
/-- what Ratio.__eq__ hands back -/
def eqQ (q : Rat) : D → Bool
  | .rat r => decide (q = r)
  | _ => false
/-- what it is asked with -/
def yOk : D → Prop
  | .rat _ => True
  | .str _ => True
  | .non => True
  | _ => False
def sEq : List B → D → Prop := fun bs d => ∃ q y, bs = [.dat (.rat q), .dat y] ∧ yOk y ∧ d = .bl (eqQ q y)
abbrev m0 : Ms := fun _ => none
theorem mask0 (H : Hp) : mask H m0 = H := by
  funext a
  rfl
theorem conts0 {K : PySem.W.Frag} {H : Hp} : Conts K m0 H := fun p c h => by cases h
/-- two data by == : the answer -/
structure EqD (X : Cx) (n : Nat) (d e : D) (b : Bool) : Prop where
  run : ∀ (A : Around) (pins : List (Addr × Obj)) (s : Shared) (σ : L2.St) (H : Hp) (x y : V) (u v : Value), Sub X n A → Inv X pins σ H s → RelV x u → RelV y v → Rep X.K H d x → Rep X.K H e y →
    wpAny (model X.prog X.w) A (eqBool u v) (fun c s' => c = b ∧ ∃ H', Inv X pins σ H' s' ∧ Ex H H') X.xe s
  same : ∀ (pins : List (Addr × Obj)) (s : Shared) (σ : L2.St) (H : Hp) (x : V), Inv X pins σ H s → Rep X.K H d x → Rep X.K H e x → b = true
section
variable {X : Cx} {n : Nat}
/-- the type of what stands right of == -/
inductive Yty (K : PySem.W.Frag) (H : Hp) : V → Value → Prop where
  | ins {x : V} (h : IsI (CR K) H x) : Yty K H x (.ref (CR K))
  | str (s : Str) : Yty K H (.str s) (.type "str")
  | non : Yty K H .non (.type "NoneType")
theorem Yty.of {K : PySem.W.Frag} {H : Hp} {y : D} {v : V} (h : yOk y) (r : Rep K H y v) : ∃ t, Yty K H v t := by
  cases y with
  | rat q =>
    obtain ⟨p, dx, rfl, hp⟩ := r
    exact ⟨_, .ins ⟨p, dx, _, rfl, hp⟩⟩
  | str s => cases (show v = .str s from r); exact ⟨_, .str s⟩
  | non => cases (show v = .non from r); exact ⟨_, .non⟩
  | _ => exact h.elim
theorem Yty.looks {M : Model} {pins : List (Addr × Obj)} {σ : L2.St} {H : Hp} {s : Shared} {v : V} {u t : Value} (I : Inv X pins σ H s) (r : RelV v u) (h : Yty X.K H v t) : PySem.W.Looks M s.heap (typeOf u) t := by
  cases h with
  | ins h =>
    obtain ⟨p, dx, fs, rfl, hp⟩ := h
    cases (show u = Value.ref p from r)
    obtain ⟨mA, J, _⟩ := ins_get I.hok hp
    obtain ⟨od, J, _⟩ := J.look
    exact J.type
  | str s =>
    obtain ⟨t, rfl⟩ := (show ∃ t, u = Value.str s t from r)
    exact PySem.W.Looks.of_pure rfl
  | non =>
    cases (show u = Value.none from r)
    exact PySem.W.Looks.of_pure rfl
theorem Yty.first {mg : Str → Option Value} {K : PySem.W.Frag} {H : Hp} (M : FX K mg) {v : V} {t : Value} (h : Yty K H v t) : PySem.W.notFirst K (CR K) t = true := by
  unfold PySem.W.notFirst
  cases h with
  | ins h => simp
  | str s => rw [M.subT (by decide : "str" ∈ tyNames)]; simp
  | non => rw [M.subT (by decide : "NoneType" ∈ tyNames)]; simp
/-- what is known of Ratio.__eq__ -/
structure EqF (X : Cx) (n : Nat) (f : Addr) (fd : FuncData) (ps : List Str) : Prop where
  ok : FnOk X.prog X.w X.K X.mg X.base CX0 n f fd ps (spA X.K (pw sEq))
  hb : Binds X.K fd ps []
  hs : PySem.W.findIn X.K (.ref (CR X.K)) "__eq__" = some (some (.ref f))
  hf : PySem.W.isFn X.K (.ref f) = true
variable {f : Addr} {fd : FuncData} {ps : List Str}
/-- the call of __eq__ anywhere below -/
theorem EqF.call (F : EqF X n f fd ps) {A : Around} {pins : List (Addr × Obj)} {s : Shared} {σ : L2.St} {H : Hp} {x y : V} {u v : Value} {q : Rat} {e : D} (sb : Sub X n A) (I : Inv X pins σ H s) (rx : RelV x u) (ry : RelV y v) (hx : Rep X.K H (.rat q) x) (hy : Rep X.K H e y) (ho : yOk e) :
    wpAny (model X.prog X.w) A (PySem.call (.ref f) [u, v]) (fun w s' => w = .bool (eqQ q e) ∧ ∃ H', Inv X pins σ H' s' ∧ Ex H H') X.xe s := by
  have e0 : Env0 X.prog X.w X.K X.mg X.base A X.stack s H := by
    have e := I.env0
    exact ⟨by rw [sb.fr]; exact e.frames, e.mod, e.bs, e.bsz, e.funs, e.frf, e.hok, e.bare⟩
  have hsp : spA X.K (pw sEq) [x, y] H (fun w H' => w = .bl (eqQ q e) ∧ Ex H H') E0 := by
    refine ⟨[.dat (.rat q), .dat e], m0, .dat (.bl (eqQ q e)), m0, conts0, ?_, ⟨rfl, _, rfl, q, e, rfl, ho, rfl⟩, fun _ => rfl, fun w H' hk _ hw => ⟨hw, fun a o h => hk a o h rfl⟩⟩
    rw [mask0]
    exact .cons hx (.cons hy .nil)
  have r2 : Vals [x, y] [u, v] := .cons rx (.cons ry .nil)
  have hl := F.ok.len _ _ _ _ hsp
  refine wpAny_call (codeAny_mono (F.ok.run A X.stack s H ⟨[u, v], []⟩ [u, v] [x, y] _ E0 sb.room e0 (by
    have := F.hb s [u, v] I.kIn (by simpa using hl)
    simpa using this) r2 hsp) fun r s' hq => ?_)
  cases r with
  | error e => exact hq.elim
  | ok fl =>
    cases fl with
    | ret w =>
      obtain ⟨z, H', I', rz, ez, ex⟩ := I.after hq
      subst ez
      exact ⟨rz, H', I', ex⟩
    | next => exact False.elim hq
    | brk => exact False.elim hq
    | cont => exact False.elim hq
theorem rc_rat {mg : Str → Option Value} (M : FX X.K mg) (F : EqF X n f fd ps) {A : Around} {pins : List (Addr × Obj)} {s : Shared} {σ : L2.St} {H : Hp} {x y : V} {u v : Value} {q : Rat} {e : D} (sb : Sub X n A) (I : Inv X pins σ H s) (rx : RelV x u) (ry : RelV y v) (hx : Rep X.K H (.rat q) x) (hy : Rep X.K H e y) (ho : yOk e) :
    wpAny (model X.prog X.w) A (richCompare .Eq u v) (fun w s' => w = .bool (eqQ q e) ∧ ∃ H', Inv X pins σ H' s' ∧ Ex H H') X.xe s := by
  obtain ⟨t, ht⟩ := Yty.of ho hy
  have hc := F.call sb I rx ry hx hy ho
  obtain ⟨p, dx, rfl, hp⟩ := hx
  cases (show u = Value.ref p from rx)
  obtain ⟨mA, J, _⟩ := ins_get I.hok hp
  obtain ⟨od, J, _⟩ := J.look
  obtain ⟨m, hF⟩ := I.fr
  refine PySem.W.cmp_K (op := .Eq) sb.room.units0 hF I.ok.mod.kin J (ht.looks I ry) (ht.first M) F.hs F.hf (wpAny_mono hc (fun w s' hw => ?_) fun _ _ e => e)
  obtain ⟨rfl, h2⟩ := hw
  exact ⟨rfl, h2⟩
theorem nerc_rat {mg : Str → Option Value} (M : FX X.K mg) (F : EqF X n f fd ps) {pins : List (Addr × Obj)} {s : Shared} {σ : L2.St} {H : Hp} {x y : V} {u v : Value} {q : Rat} {e : D} (hr : Room (n + 1) X.A) (I : Inv X pins σ H s) (rx : RelV x u) (ry : RelV y v) (hx : Rep X.K H (.rat q) x) (hy : Rep X.K H e y) (ho : yOk e) :
    wpAny (model X.prog X.w) X.A (richCompare .NotEq u v) (fun w s' => w = .bool (!(eqQ q e)) ∧ ∃ H', Inv X pins σ H' s' ∧ Ex H H') X.xe s := by
  obtain ⟨t, ht⟩ := Yty.of ho hy
  have hc := F.call (A := X.A.in1) ⟨hr.in1, rfl⟩ I rx ry hx hy ho
  obtain ⟨p, dx, rfl, hp⟩ := hx
  cases (show u = Value.ref p from rx)
  obtain ⟨mA, J, _⟩ := ins_get I.hok hp
  obtain ⟨od, J, _⟩ := J.look
  obtain ⟨m, hF⟩ := I.fr
  refine ne_K (hu_of hr) hF I.ok.mod.kin J (ht.looks I ry) (ht.first M) M.ne F.hs F.hf M.sub (wpAny_mono hc (fun w s' hw => ?_) fun _ _ e => e)
  obtain ⟨rfl, h2⟩ := hw
  exact ⟨_, rfl, rfl, h2⟩
theorem eqBool_of {A : Around} {E : Value → Shared → Prop} {s : Shared} {prog : Program} {w : World} {a b : Value} {Q : Bool → Shared → Prop} (hne : (a == b) = false) (hnf : ∀ i t, a ≠ .float i t) (h : wpAny (model prog w) A (richCompare .Eq a b) (fun v s' => ∃ r, v = .bool r ∧ Q r s') E s) : wpAny (model prog w) A (eqBool a b) Q E s := by
  unfold eqBool
  refine wpAny_holding ?_
  refine wpAny_ite_split (fun hab => by rw [hne] at hab; cases hab) (fun _ => ?_)
  cases a with
  | float i t => exact absurd rfl (hnf i t)
  | _ =>
    refine wpAny_bind (wpAny_mono h (fun v s' hv => ?_) fun _ _ x => x)
    obtain ⟨r, rfl, q⟩ := hv
    exact wpAny_truthy_bool q
theorem qFs_inj {p q : Rat} (h : qFs p = qFs q) : p = q := by
  have h1 : V.int p.num = V.int q.num := congrArg (fun l : List (Str × V) => (List.map Prod.snd l).getD 0 V.non) h
  have h2 : V.int (p.den : Int) = V.int (q.den : Int) := congrArg (fun l : List (Str × V) => (List.map Prod.snd l).getD 1 V.non) h
  have h3 : (p.den : Int) = (q.den : Int) := V.int.inj h2
  exact rat_ext (V.int.inj h1) (by omega)
theorem ins_inj {K : PySem.W.Frag} {H : Hp} {a dx dy : Addr} {p q : Rat} (e1 : H a = some (.ins (He.ga K "Ratio") dx (qFs p))) (e2 : H a = some (.ins (He.ga K "Ratio") dy (qFs q))) : p = q := by
  have e3 := Option.some.inj (e1.symm.trans e2)
  injection e3 with _ _ e4
  exact qFs_inj e4
theorem eqD_rat {mg : Str → Option Value} (M : FX X.K mg) (F : EqF X n f fd ps) (p q : Rat) : EqD X n (.rat p) (.rat q) (decide (p = q)) where
  same := fun pins s σ H x I h1 h2 => by
    obtain ⟨a, dx, rfl, e1⟩ := h1
    obtain ⟨b, dy, eb, e2⟩ := h2
    have eab : a = b := V.ref.inj eb
    subst eab
    exact decide_eq_true (ins_inj e1 e2)
  run := fun A pins s σ H x y u v sb I rx ry hx hy => by
    obtain ⟨a, dx, ea, e1⟩ := id hx
    obtain ⟨b, dy, eb, e2⟩ := id hy
    have hc := rc_rat M F sb I rx ry hx hy (e := .rat q) trivial
    subst ea eb
    cases (show u = Value.ref a from rx)
    cases (show v = Value.ref b from ry)
    by_cases hab : a = b
    · subst hab
      exact SeqAt.EqAt.same (A := A) (s := s) (.ref a) X.prog X.w X.xe _ ⟨(decide_eq_true (ins_inj e1 e2)).symm, H, I, Ex.refl _⟩
    · refine eqBool_of (beq_eq_false_iff_ne.mpr fun z => hab (Value.ref.inj z)) (fun _ _ z => nomatch z) (wpAny_mono hc (fun w s' hw => ?_) fun _ _ e => e)
      obtain ⟨rfl, h2⟩ := hw
      exact ⟨_, rfl, rfl, h2⟩
theorem eqD_ratN {mg : Str → Option Value} (M : FX X.K mg) (F : EqF X n f fd ps) (p : Rat) : EqD X n (.rat p) .non false where
  same := fun pins s σ H x I h1 h2 => by
    obtain ⟨a, dx, rfl, e1⟩ := h1
    cases (show V.ref a = .non from h2)
  run := fun A pins s σ H x y u v sb I rx ry hx hy => by
    have hc := rc_rat M F sb I rx ry hx hy (e := .non) trivial
    obtain ⟨a, dx, ea, e1⟩ := id hx
    subst ea
    cases (show u = Value.ref a from rx)
    cases (show y = .non from hy)
    cases (show v = Value.none from ry)
    refine eqBool_of (beq_eq_false_iff_ne.mpr fun z => nomatch z) (fun _ _ z => nomatch z) (wpAny_mono hc (fun w s' hw => ?_) fun _ _ e => e)
    obtain ⟨rfl, h2⟩ := hw
    exact ⟨_, rfl, rfl, h2⟩
theorem eqD_non : EqD X n .non .non true where
  same := fun _ _ _ _ _ _ _ _ => rfl
  run := fun A pins s σ H x y u v sb I rx ry hx hy => by
    cases (show x = .non from hx)
    cases (show y = .non from hy)
    cases (show u = Value.none from rx)
    cases (show v = Value.none from ry)
    exact SeqAt.EqAt.same (A := A) (s := s) .none X.prog X.w X.xe _ ⟨rfl, H, I, Ex.refl _⟩
/-- the loops' word -/
abbrev LpI (X : Cx) (pins : List (Addr × Obj)) (σ : L2.St) (H : Hp) (s' : Shared) : Prop := ∃ H', Inv X pins σ H' s' ∧ Ex H H'
theorem eqD_tup {ds es : List D} {e : Nat → Bool} (hl : ds.length = es.length) (h : ∀ i a b, ds[i]? = some a → es[i]? = some b → EqD X n a b (e i)) : EqD X (n + 1) (.tup ds) (.tup es) ((List.range ds.length).all e) := by
  have sm : ∀ (pins : List (Addr × Obj)) (s : Shared) (σ : L2.St) (H : Hp) (x : V), Inv X pins σ H s → Rep X.K H (.tup ds) x → Rep X.K H (.tup es) x → (List.range ds.length).all e = true := fun pins s σ H x I h1 h2 => by
    obtain ⟨p, vs, rfl, hp, rs⟩ := h1
    obtain ⟨p', us, ep, hp', rs'⟩ := h2
    cases ep
    have ev := I.tuple_inj hp hp'
    subst ev
    rw [List.all_eq_true]
    intro i hi
    rw [List.mem_range] at hi
    obtain ⟨z, hz, r1⟩ := rs.get (List.getElem?_eq_getElem hi)
    obtain ⟨z', hz', r2⟩ := rs'.get (List.getElem?_eq_getElem (show i < es.length by omega))
    rw [hz] at hz'
    cases hz'
    exact (h i _ _ (List.getElem?_eq_getElem hi) (List.getElem?_eq_getElem (by omega))).same pins s σ H z I r1 r2
  refine ⟨fun A pins s σ H x y u v sb I rx ry hx hy => ?_, sm⟩
  obtain ⟨p, vs, ex, hp, rs⟩ := id hx
  obtain ⟨p', us, ey, hp', rs'⟩ := id hy
  subst ex ey
  cases (show u = Value.ref p from rx)
  cases (show v = Value.ref p' from ry)
  by_cases hab : p = p'
  · subst hab
    exact SeqAt.EqAt.same (A := A) (s := s) (.ref p) X.prog X.w X.xe _ ⟨(sm pins s σ H _ I hx hy).symm, H, I, Ex.refl _⟩
  · obtain ⟨its, r, e1, z1⟩ := I.tuple hp
    obtain ⟨its2, r2, e2, z2⟩ := I.tuple hp'
    have l1 := rs.length
    have l2 := rs'.length
    have l3 := r.length
    have l4 := r2.length
    have hsz : its.toArray.size = its2.toArray.size := by rw [List.size_toArray, List.size_toArray]; omega
    have hn : its.toArray.size = ds.length := by rw [List.size_toArray]; omega
    refine eqBool_of (beq_eq_false_iff_ne.mpr fun z => hab (Value.ref.inj z)) (fun _ _ z => nomatch z) ?_
    refine Eq.rc_tupC (Q := fun v s' => ∃ r, v = .bool r ∧ (r = (List.range ds.length).all e ∧ LpI X pins σ H s')) hsz sb.room.units0 e (fun _ s' => LpI X pins σ H s') e1 e2 (fun i h1 h2 s' q => ?_) (fun i s' q => ⟨_, rfl, by rw [hn], q⟩) ⟨H, I, Ex.refl _⟩
    obtain ⟨H1, I1, x1⟩ := q
    have hi : i < ds.length := by omega
    obtain ⟨z, hz, q1⟩ := rs.get (List.getElem?_eq_getElem hi)
    obtain ⟨z', hz', q2⟩ := rs'.get (List.getElem?_eq_getElem (show i < es.length by omega))
    obtain ⟨w, hw, rw1⟩ := r.get hz
    obtain ⟨w', hw', rw2⟩ := r2.get hz'
    have g1 : its.toArray[i] = w := by
      have : its[i]? = some its.toArray[i] := by
        rw [List.getElem?_eq_getElem (by simpa using h1)] <;> simp
      rw [hw] at this
      exact (Option.some.inj this).symm
    have g2 : its2.toArray[i] = w' := by
      have : its2[i]? = some its2.toArray[i] := by
        rw [List.getElem?_eq_getElem (by simpa using h2)] <;> simp
      rw [hw'] at this
      exact (Option.some.inj this).symm
    rw [g1, g2]
    refine wpAny_mono ((h i _ _ (List.getElem?_eq_getElem hi) (List.getElem?_eq_getElem (by omega))).run A.in1 pins s' σ H1 z z' w w' sb.in1 I1 rw1 rw2 (q1.mono x1) (q2.mono x1)) (fun c s2 hc => ?_) fun _ _ e => e
    obtain ⟨hc1, H2, I2, x2⟩ := hc
    exact ⟨hc1, H2, I2, x1.trans x2⟩
/-- x in l, x not in l -/
def rInD (K : PySem.W.Frag) (ok : D → D → Prop) (ef : D → D → Bool) (neg : Bool) : R2 := fun x y H Q => ∃ p vs ds e, y = .ref p ∧ H p = some (.lst vs) ∧ Reps K H ds vs ∧ Rep K H e x ∧ (∀ d ∈ ds, ok d e) ∧ ∀ H', Ex H H' → Q (.bl (if neg then !(ds.any fun d => ef d e) else ds.any fun d => ef d e)) H'
theorem any_range {ds : List D} {ef : D → Bool} : (List.range ds.length).any (fun i => ef (ds.getD i .non)) = ds.any ef := by
  rw [Bool.eq_iff_iff, List.any_eq_true, List.any_eq_true]
  constructor
  · rintro ⟨i, hi, h⟩
    rw [List.mem_range] at hi
    refine ⟨ds[i], List.getElem_mem hi, ?_⟩
    simpa [List.getD_eq_getElem?_getD, hi] using h
  · rintro ⟨d, hd, h⟩
    obtain ⟨i, hi, e⟩ := List.mem_iff_getElem.mp hd
    refine ⟨i, List.mem_range.mpr hi, ?_⟩
    simpa [List.getD_eq_getElem?_getD, hi, e] using h
theorem in_turns {ok : D → D → Prop} {ef : D → D → Bool} (hok : ∀ d e, ok d e → EqD X n d e (ef d e)) {pins : List (Addr × Obj)} {s : Shared} {σ : L2.St} {H : Hp} {x : V} {u : Value} {p : Addr} {vs : List V} {ds : List D} {e : D} (hr : Room (n + 1) X.A)
    (rx : RelV x u) (hp : H p = some (.lst vs)) (rs : Reps X.K H ds vs) (re : Rep X.K H e x) (ho : ∀ d ∈ ds, ok d e) :
    Eq.ListC X.prog X.w X.A X.xe p u ds.length (fun i => ef (ds.getD i .non) e) (fun _ s' => LpI X pins σ H s') := by
  rintro i s' ⟨H1, I1, x1⟩
  obtain ⟨z, its, k, r, eo⟩ := I1.hok p _ (x1 _ _ hp)
  have l1 := rs.length
  have l2 := r.length
  refine ⟨its.toArray, k, eo, by rw [List.size_toArray]; omega, fun h1 => ?_⟩
  have hi : i < ds.length := by
    have : i < its.length := by simpa using h1
    omega
  obtain ⟨y, hy, q1⟩ := rs.get (List.getElem?_eq_getElem hi)
  obtain ⟨w, hw, rw1⟩ := r.get hy
  have g1 : its.toArray[i] = w := by
    have : its[i]? = some its.toArray[i] := by
      rw [List.getElem?_eq_getElem (by simpa using h1)] <;> simp
    rw [hw] at this
    exact (Option.some.inj this).symm
  have gd : ds.getD i .non = ds[i] := by simp [List.getD_eq_getElem?_getD, hi]
  rw [g1]
  show wpAny _ _ _ (fun r s2 => r = ef (ds.getD i .non) e ∧ _) _ _
  rw [gd]
  refine wpAny_mono ((hok _ _ (ho _ (List.getElem_mem hi))).run X.A.in1 pins s' σ H1 y x w u ⟨hr.in1, rfl⟩ I1 rw1 rx (q1.mono x1) (re.mono x1)) (fun c s2 hc => ?_) fun _ _ e => e
  obtain ⟨hc1, H2, I2, x2⟩ := hc
  exact ⟨hc1, H2, I2, x1.trans x2⟩
theorem op_inD {ok : D → D → Prop} {ef : D → D → Bool} (hok : ∀ d e, ok d e → EqD X n d e (ef d e)) (hr : Room (n + 1) X.A) : OpR X (compareOp .In) (rInD X.K ok ef false) := by
  intro pins s σ H x y v u Q I rx ry h
  obtain ⟨p, vs, ds, e, rfl, hp, rs, re, ho, q⟩ := h
  cases ry
  refine Eq.in_listC _ _ (in_turns (s := s) hok hr rx hp rs re ho) (fun i s' hI => ?_) ⟨H, I, Ex.refl _⟩
  obtain ⟨H1, I1, x1⟩ := hI
  rw [any_range (ef := fun d => ef d e)]
  exact ⟨.bl _, H1, I1, rfl, q H1 x1⟩
theorem op_notInD {ok : D → D → Prop} {ef : D → D → Bool} (hok : ∀ d e, ok d e → EqD X n d e (ef d e)) (hr : Room (n + 1) X.A) : OpR X (compareOp .NotIn) (rInD X.K ok ef true) := by
  intro pins s σ H x y v u Q I rx ry h
  obtain ⟨p, vs, ds, e, rfl, hp, rs, re, ho, q⟩ := h
  cases ry
  refine Eq.notIn_listC _ _ (in_turns (s := s) hok hr rx hp rs re ho) (fun i s' hI => ?_) ⟨H, I, Ex.refl _⟩
  obtain ⟨H1, I1, x1⟩ := hI
  rw [any_range (ef := fun d => ef d e)]
  exact ⟨.bl _, H1, I1, rfl, q H1 x1⟩
/-- == and != with a Ratio on the left -/
def rEqR (K : PySem.W.Frag) (neg : Bool) : R2 := fun x y H Q => ∃ q e, Rep K H (.rat q) x ∧ Rep K H e y ∧ yOk e ∧ ∀ H', Ex H H' → Q (.bl (if neg then !eqQ q e else eqQ q e)) H'
theorem op_eqR {mg : Str → Option Value} (M : FX X.K mg) (F : EqF X n f fd ps) (hr : Room n X.A) : OpR X (compareOp .Eq) (rEqR X.K false) := by
  intro pins s σ H x y v u Q I rx ry h
  obtain ⟨q, e, hx, hy, ho, hq⟩ := h
  refine wpAny_mono (rc_rat M F ⟨hr, rfl⟩ I rx ry hx hy ho) (fun w s' hw => ?_) fun _ _ e => e
  obtain ⟨rfl, H', I', x'⟩ := hw
  exact ⟨.bl _, H', I', rfl, hq H' x'⟩
theorem op_neR {mg : Str → Option Value} (M : FX X.K mg) (F : EqF X n f fd ps) (hr : Room (n + 1) X.A) : OpR X (compareOp .NotEq) (rEqR X.K true) := by
  intro pins s σ H x y v u Q I rx ry h
  obtain ⟨q, e, hx, hy, ho, hq⟩ := h
  refine wpAny_mono (nerc_rat M F hr I rx ry hx hy ho) (fun w s' hw => ?_) fun _ _ e => e
  obtain ⟨rfl, H', I', x'⟩ := hw
  exact ⟨.bl _, H', I', rfl, hq H' x'⟩
end
end MP
/-! MPK -/
/-! operators of any kind, by one rule each; their readings -/
namespace MP
open PySem PySem.Spec PyProof.Rows L2

/-! ### sizes of rationals -/
/-- small enough to be reckoned with -/
def Wee (q : Rat) : Prop := q.num.natAbs < 2 ^ 3000 ∧ q.den < 2 ^ 3000
theorem mul_ok {i j : Int} {a b : Nat} (ha : i.natAbs < 2 ^ a) (hb : j.natAbs < 2 ^ b) (h : a + b ≤ 900000) : IntMulOk i j := by
  refine CMulW.ok (wide_mul (a := a + 1) (b := b + 1) ?_ ?_ (by omega) (by omega) (by omega))
  · exact Nat.lt_of_lt_of_le ha (Nat.pow_le_pow_right (by omega) (by omega))
  · exact Nat.lt_of_lt_of_le hb (Nat.pow_le_pow_right (by omega) (by omega))

/-! ### Ratio's promises -/
/-- Ratio.__init__ -/
def sInit : SpR := fun bs m b m' => ∃ x n d, bs = [.ptr x, .dat (.int n), .dat (.int d)] ∧ m x = some (.ins "Ratio" [] []) ∧ d ≠ 0 ∧ d.natAbs < 2 ^ 8000 ∧ b = .dat .non ∧ m' = mput m x (.ins "Ratio" ["n", "d"] [.dat (.int (Rat.divInt n d).num), .dat (.int ((Rat.divInt n d).den : Int))])
def sAdd : List B → D → Prop := fun bs d => ∃ p q, bs = [.dat (.rat p), .dat (.rat q)] ∧ Wee p ∧ Wee q ∧ d = .rat (p + q)
def sSub : List B → D → Prop := fun bs d => ∃ p q, bs = [.dat (.rat p), .dat (.rat q)] ∧ Wee p ∧ Wee q ∧ d = .rat (p - q)
def sNeg : List B → D → Prop := fun bs d => ∃ p, bs = [.dat (.rat p)] ∧ Wee p ∧ d = .rat (-p)
structure OwnF (P : Program) (w : World) (K : PySem.W.Frag) (mg : Str → Option Value) (base : Heap) (k : Nat) (name : Str) (sp : Sp) : Prop where
  ex : ∃ (f : Addr) (fd : FuncData) (ps : List Str), FnOk P w K mg base CX0 k f fd ps sp ∧ Binds K fd ps [] ∧ PySem.W.findIn K (.ref (CR K)) name = some (some (.ref f)) ∧ PySem.W.isFn K (.ref f) = true
structure Ops (P : Program) (w : World) (K : PySem.W.Frag) (mg : Str → Option Value) (base : Heap) : Prop where
  eq : OwnF P w K mg base 1 "__eq__" (spA K (pw sEq))
  add : OwnF P w K mg base 3 "__add__" (spA K (pw sAdd))
  sub : OwnF P w K mg base 3 "__sub__" (spA K (pw sSub))
  neg : OwnF P w K mg base 3 "__neg__" (spA K (pw sNeg))

section
variable {X : Cx} {j : Nat}
theorem op_mulI : OpR X (binaryOp .Mult) (rI IntMulOk fun i j => .int (i * j)) := opI fun _ _ _ _ _ _ _ hc q => mul_int q hc
theorem op_fdivI : OpR X (binaryOp .FloorDiv) (rI CDivW fun i j => .int (i / j)) := op_fdivW
theorem op_modI : OpR X (binaryOp .Mod) (rI (fun _ j => 0 < j) fun i j => .int (i % j)) := op_mod

/-! ### + - -/
abbrev rAddI : R2 := rI0 fun i j => .int (i + j)
abbrev rSubI : R2 := rI0 fun i j => .int (i - j)
abbrev rAddAny (K : PySem.W.Frag) : R2 := fun x y H Q => rAddI x y H Q ∨ (rCatA K x y H Q ∨ (rCat x y H Q ∨ rOwn2 (CR K) (spA K (pw sAdd)) x y H Q))
theorem op_addAny {P : Program} {w : World} {K : PySem.W.Frag} {mg : Str → Option Value} {base : Heap} (M : FX K mg) (ops : Ops P w K mg base) (hr : Room j X.A) (h3 : 3 ≤ j := by decide) (e1 : X.prog = P := by rfl) (e2 : X.w = w := by rfl) (e3 : X.K = K := by rfl) (e4 : X.mg = mg := by rfl) (e5 : X.base = base := by rfl) : OpR X (binaryOp .Add) (rAddAny K) := by
  subst e1 e2 e3 e4 e5
  obtain ⟨f, fd, ps, F, b, hs, hf⟩ := ops.add.ex
  exact op_add.or (op_catA.or (op_cat.or (op_own2 F (hr.mono h3) b M.self hs hf)))
abbrev rSubAny (K : PySem.W.Frag) : R2 := fun x y H Q => rSubI x y H Q ∨ rOwn2 (CR K) (spA K (pw sSub)) x y H Q
theorem op_subAny {P : Program} {w : World} {K : PySem.W.Frag} {mg : Str → Option Value} {base : Heap} (M : FX K mg) (ops : Ops P w K mg base) (hr : Room j X.A) (h3 : 3 ≤ j := by decide) (e1 : X.prog = P := by rfl) (e2 : X.w = w := by rfl) (e3 : X.K = K := by rfl) (e4 : X.mg = mg := by rfl) (e5 : X.base = base := by rfl) : OpR X (binaryOp .Sub) (rSubAny K) := by
  subst e1 e2 e3 e4 e5
  obtain ⟨f, fd, ps, F, b, hs, hf⟩ := ops.sub.ex
  exact op_sub.or (op_own2 F (hr.mono h3) b M.self hs hf)
theorem un_negR {P : Program} {w : World} {K : PySem.W.Frag} {mg : Str → Option Value} {base : Heap} (M : FX K mg) (ops : Ops P w K mg base) (hr : Room j X.A) (h3 : 3 ≤ j := by decide) (e1 : X.prog = P := by rfl) (e2 : X.w = w := by rfl) (e3 : X.K = K := by rfl) (e4 : X.mg = mg := by rfl) (e5 : X.base = base := by rfl) : UnR X (unaryOp .USub) (rOwn1 (CR K) (spA K (pw sNeg))) := by
  subst e1 e2 e3 e4 e5
  obtain ⟨f, fd, ps, F, b, hs, hf⟩ := ops.neg.ex
  exact un_own F (hr.mono h3) b hs hf

/-! ### == != -/
/-- a list or a tuple against a text -/
def rSeqS (K : PySem.W.Frag) (neg : Bool) : R2 := fun x y H Q => ∃ p s, x = .ref p ∧ y = .str s ∧ ((∃ xs, SqL K H p xs) ∨ ∃ xs, SqT K H p xs) ∧ Q (.bl neg) H
theorem op_eqSeqS (hr : Room j X.A) : OpR X (compareOp .Eq) (rSeqS X.K false) := by
  intro pins s σ H x y v u Q I rx ry h
  obtain ⟨p, z, rfl, rfl, hp, q⟩ := h
  cases rx
  obtain ⟨t, rfl⟩ := ry
  rcases hp with ⟨xs, hp⟩ | ⟨xs, hp⟩
  · obtain ⟨its, r, pl, hz⟩ := I.list hp
    exact SeqAt.RcAt.list_str z t pl.isList hr.units0 _ _ _ _ ⟨.bl false, H, I, rfl, q⟩
  · obtain ⟨its, r, pl, hz⟩ := I.tuple hp
    exact SeqAt.RcAt.tuple_str z t pl hr.units0 _ _ _ _ ⟨.bl false, H, I, rfl, q⟩
theorem op_neSeqS (hr : Room j X.A) : OpR X (compareOp .NotEq) (rSeqS X.K true) := by
  intro pins s σ H x y v u Q I rx ry h
  obtain ⟨p, z, rfl, rfl, hp, q⟩ := h
  cases rx
  obtain ⟨t, rfl⟩ := ry
  rcases hp with ⟨xs, hp⟩ | ⟨xs, hp⟩
  · obtain ⟨its, r, pl, hz⟩ := I.list hp
    exact SeqAt.RcNeAt.list_str z t pl.isList hr.units0 _ _ _ _ ⟨.bl true, H, I, rfl, q⟩
  · obtain ⟨its, r, pl, hz⟩ := I.tuple hp
    exact SeqAt.RcNeAt.tuple_str z t pl hr.units0 _ _ _ _ ⟨.bl true, H, I, rfl, q⟩
abbrev rEqAny (K : PySem.W.Frag) : R2 := fun x y H Q => rEq x y H Q ∨ (rEqD K x y H Q ∨ (rSeqS K false x y H Q ∨ rEqR K false x y H Q))
abbrev rNeAny (K : PySem.W.Frag) : R2 := fun x y H Q => rNe x y H Q ∨ (rNeD K x y H Q ∨ (rSeqS K true x y H Q ∨ rEqR K true x y H Q))
theorem op_eqAny {P : Program} {w : World} {K : PySem.W.Frag} {mg : Str → Option Value} {base : Heap} (M : FX K mg) (ops : Ops P w K mg base) (hr : Room j X.A) (h3 : 3 ≤ j := by decide) (e1 : X.prog = P := by rfl) (e2 : X.w = w := by rfl) (e3 : X.K = K := by rfl) (e4 : X.mg = mg := by rfl) (e5 : X.base = base := by rfl) : OpR X (compareOp .Eq) (rEqAny K) := by
  subst e1 e2 e3 e4 e5
  obtain ⟨f, fd, ps, F, b, hs, hf⟩ := ops.eq.ex
  exact op_eq.or ((op_eqD hr.units).or ((op_eqSeqS hr).or (op_eqR M ⟨F, b, hs, hf⟩ (hr.mono (by omega)))))
theorem op_neAny {P : Program} {w : World} {K : PySem.W.Frag} {mg : Str → Option Value} {base : Heap} (M : FX K mg) (ops : Ops P w K mg base) (hr : Room j X.A) (h3 : 3 ≤ j := by decide) (e1 : X.prog = P := by rfl) (e2 : X.w = w := by rfl) (e3 : X.K = K := by rfl) (e4 : X.mg = mg := by rfl) (e5 : X.base = base := by rfl) : OpR X (compareOp .NotEq) (rNeAny K) := by
  subst e1 e2 e3 e4 e5
  obtain ⟨f, fd, ps, F, b, hs, hf⟩ := ops.eq.ex
  exact op_ne.or ((op_neD hr.units).or ((op_neSeqS hr).or (op_neR M ⟨F, b, hs, hf⟩ (hr.mono (by omega)))))

/-! ### < in -/
abbrev rLtI : R2 := rI0 fun i j => .bl (decide (i < j))
abbrev rLtAny (K : PySem.W.Frag) : R2 := fun x y H Q => rLtI x y H Q ∨ rLtT K x y H Q
theorem op_ltAny {K : PySem.W.Frag} (hr : Room j X.A) (e3 : X.K = K := by rfl) : OpR X (compareOp .Lt) (rLtAny K) := by
  subst e3
  exact op_lt.or (op_ltT hr.units0)
/-- what == tells of data that stand in one list -/
def eqf : D → D → Bool
  | .rat p, .rat q => decide (p = q)
  | .non, .non => true
  | .tup ds, .tup es => (List.range ds.length).all fun i => match ds[i]?, es[i]? with
    | some (.rat p), some (.rat q) => decide (p = q)
    | _, _ => false
  | _, _ => false
def okf : D → D → Prop
  | .rat _, .rat _ => True
  | .rat _, .non => True
  | .non, .non => True
  | .tup ds, .tup es => ds.length = es.length ∧ (∀ d ∈ ds, ∃ q, d = .rat q) ∧ ∀ d ∈ es, ∃ q, d = .rat q
  | _, _ => False
theorem eqf_ok {mg : Str → Option Value} {n : Nat} {f : Addr} {fd : FuncData} {ps : List Str} (M : FX X.K mg) (F : EqF X n f fd ps) : ∀ d e, okf d e → EqD X (n + 1) d e (eqf d e) := by
  have up : ∀ {d e b}, EqD X n d e b → EqD X (n + 1) d e b := fun h => ⟨fun A pins s σ H x y u v sb => h.run A pins s σ H x y u v (sb.mono (Nat.le_succ _)), h.same⟩
  intro d e h
  cases d with
  | rat p =>
    cases e with
    | rat q => exact up (eqD_rat M F p q)
    | non => exact up (eqD_ratN M F p)
    | _ => exact h.elim
  | non =>
    cases e with
    | non => exact up eqD_non
    | _ => exact h.elim
  | tup ds =>
    cases e with
    | tup es =>
      obtain ⟨hl, h1, h2⟩ := h
      refine eqD_tup hl fun i a b ha hb => ?_
      obtain ⟨p, rfl⟩ := h1 a (List.mem_of_getElem? ha)
      obtain ⟨q, rfl⟩ := h2 b (List.mem_of_getElem? hb)
      show EqD X n _ _ (match ds[i]?, es[i]? with
        | some (.rat p), some (.rat q) => decide (p = q)
        | _, _ => false)
      rw [ha, hb]
      exact eqD_rat M F p q
    | _ => exact h.elim
  | _ => exact h.elim
abbrev rInAny (K : PySem.W.Frag) (neg : Bool) : R2 := fun x y H Q => rIn K neg x y H Q ∨ rInD K okf eqf neg x y H Q
theorem op_inAny {P : Program} {w : World} {K : PySem.W.Frag} {mg : Str → Option Value} {base : Heap} (M : FX K mg) (ops : Ops P w K mg base) (hr : Room j X.A) (h3 : 3 ≤ j := by decide) (e1 : X.prog = P := by rfl) (e2 : X.w = w := by rfl) (e3 : X.K = K := by rfl) (e4 : X.mg = mg := by rfl) (e5 : X.base = base := by rfl) : OpR X (compareOp .In) (rInAny K false) := by
  subst e1 e2 e3 e4 e5
  obtain ⟨f, fd, ps, F, b, hs, hf⟩ := ops.eq.ex
  exact op_in_seq.or (op_inD (n := 2) (eqf_ok M ⟨F, b, hs, hf⟩) (hr.mono h3))
theorem op_notInAny {P : Program} {w : World} {K : PySem.W.Frag} {mg : Str → Option Value} {base : Heap} (M : FX K mg) (ops : Ops P w K mg base) (hr : Room j X.A) (h3 : 3 ≤ j := by decide) (e1 : X.prog = P := by rfl) (e2 : X.w = w := by rfl) (e3 : X.K = K := by rfl) (e4 : X.mg = mg := by rfl) (e5 : X.base = base := by rfl) : OpR X (compareOp .NotIn) (rInAny K true) := by
  subst e1 e2 e3 e4 e5
  obtain ⟨f, fd, ps, F, b, hs, hf⟩ := ops.eq.ex
  exact op_notIn_seq.or (op_notInD (n := 2) (eqf_ok M ⟨F, b, hs, hf⟩) (hr.mono h3))
end

/-! ### the readings -/
section
variable {K : PySem.W.Frag} {b0 : Ba} {a : AS} {k : B → AS → Prop}
theorem ro_own2 {f : List B → D → Prop} {p q : Rat} {d : D} (h : f [.dat (.rat p), .dat (.rat q)] d) (hk : k (.dat d) a) : RO K b0 (rOwn2 (CR K) (spA K (pw f))) (.dat (.rat p)) (.dat (.rat q)) a k := fun σ H u v Q R ru rv q => by
  refine ⟨?_, ?_, run_sp (bs := [_, _]) (k := k) ⟨.dat d, a.mem, ⟨rfl, d, rfl, h⟩, fun _ => rfl, hk⟩ R (.cons ru (.cons rv .nil)) q⟩
  · obtain ⟨x, dx, e, hx⟩ := ru
    exact ⟨x, dx, _, e, maskEx _ _ _ _ hx⟩
  · obtain ⟨x, dx, e, hx⟩ := rv
    exact ⟨x, dx, _, e, maskEx _ _ _ _ hx⟩
theorem ro_addI {i j : Int} (hk : k (.dat (.int (i + j))) a) : RO K b0 (rAddAny K) (.dat (.int i)) (.dat (.int j)) a k := ro_or1 (ro_I0 hk)
theorem ro_addT {ds es : List D} (hl : ds.length + es.length ≤ 100000) (hk : k (.dat (.tup (ds ++ es))) a) : RO K b0 (rAddAny K) (.dat (.tup ds)) (.dat (.tup es)) a k := ro_or2 (ro_or1 (ro_catT hl hk))
theorem ro_addL {x y : B} {ds es : List D} (hx : IsL a x (ds.map B.dat)) (hy : IsL a y (es.map B.dat)) (hl : ds.length + es.length ≤ 100000) (hk : k (.dat (.lst (ds ++ es))) a) : RO K b0 (rAddAny K) x y a k := ro_or2 (ro_or2 (ro_or1 (ro_catL hx hy hl hk)))
theorem ro_addM {x y : B} {bs cs : List B} (hx : IsL a x bs) (hy : IsL a y cs) (hl : bs.length + cs.length ≤ 100000) (hk : ∀ p, a.mem p = none → b0.mem p = none → k (.ptr p) (a.at (mput a.mem p (.lst (bs ++ cs))))) : RO K b0 (rAddAny K) x y a k := ro_or2 (ro_or2 (ro_or1 (ro_catM hx hy hl hk)))
theorem ro_addR {p q : Rat} (hp : Wee p) (hq : Wee q) (hk : k (.dat (.rat (p + q))) a) : RO K b0 (rAddAny K) (.dat (.rat p)) (.dat (.rat q)) a k := ro_or2 (ro_or2 (ro_or2 (ro_own2 ⟨p, q, rfl, hp, hq, rfl⟩ hk)))
theorem ro_subI {i j : Int} (hk : k (.dat (.int (i - j))) a) : RO K b0 (rSubAny K) (.dat (.int i)) (.dat (.int j)) a k := ro_or1 (ro_I0 hk)
theorem ro_subR {p q : Rat} (hp : Wee p) (hq : Wee q) (hk : k (.dat (.rat (p - q))) a) : RO K b0 (rSubAny K) (.dat (.rat p)) (.dat (.rat q)) a k := ro_or2 (ro_own2 ⟨p, q, rfl, hp, hq, rfl⟩ hk)
theorem ev_negR {ta : TE} (h : EV K b0 ta a fun x a1 => ∃ p, x = .dat (.rat p) ∧ Wee p ∧ k (.dat (.rat (-p))) a1) : EV K b0 (tUn (rOwn1 (CR K) (spA K (pw sNeg))) ta) a k := fun σ H Q R q =>
  h σ H _ R fun v H1 x a1 ⟨p, e, hp, hk⟩ R1 e1 r1 => by
    subst e
    refine ⟨?_, run_sp (a := a1) (bs := [_]) (k := k) ⟨.dat (.rat (-p)), a1.mem, ⟨rfl, _, rfl, p, rfl, hp, rfl⟩, fun _ => rfl, hk⟩ R1 (.cons r1 .nil) fun w H' b a' hk' R' e' r' => q w H' b a' hk' R' (e1.trans e') r'⟩
    obtain ⟨x, dx, e, hx⟩ := r1
    exact ⟨x, dx, _, e, maskEx _ _ _ _ hx⟩
theorem ro_eqR {q : Rat} {e : D} {neg : Bool} (ho : yOk e) (hk : k (.dat (.bl (if neg then !eqQ q e else eqQ q e))) a) : RO K b0 (rEqR K neg) (.dat (.rat q)) (.dat e) a k := fun σ H u v Q R ru rv hq =>
  ⟨q, e, Rep.mono (maskEx _ _) ru, Rep.mono (maskEx _ _) rv, ho, fun H' ex => hq _ H' _ a hk (R.grow ex) (R.maskGrow ex) rfl⟩
theorem ro_seqS {x : D} {s : Str} {neg : Bool} (hx : (∃ ds, x = .tup ds) ∨ ∃ ds, x = .lst ds) (hk : k (.dat (.bl neg)) a) : RO K b0 (rSeqS K neg) (.dat x) (.dat (.str s)) a k :=
  ro_here hk fun F H u v e ru rv => by
    refine ⟨_, rfl, fun Q q => ?_⟩
    rcases hx with ⟨ds, rfl⟩ | ⟨ds, rfl⟩
    · obtain ⟨p, vs, h1, h2, _⟩ := ru
      exact ⟨p, s, h1, rv, .inr ⟨vs, e.sqT h2⟩, q⟩
    · obtain ⟨p, vs, h1, h2, _⟩ := ru
      exact ⟨p, s, h1, rv, .inl ⟨vs, .inl (.inl (e _ _ h2))⟩, q⟩
/-- is it this text -/
def isS (s : Str) : D → Bool
  | .str z => decide (z = s)
  | _ => false
/-- what may stand in a paper -/
def plainD : D → Prop
  | .ro _ => False
  | .obj _ _ _ => False
  | .dct _ _ => False
  | _ => True
theorem ro_eqS {x : D} {s : Str} (hx : plainD x) (hk : k (.dat (.bl (isS s x))) a) : RO K b0 (rEqAny K) (.dat x) (.dat (.str s)) a k := by
  cases x with
  | non => exact ro_or1 (ro_eq (x := .non) (y := .str s) rfl rfl rfl hk)
  | bl b => exact ro_or1 (ro_eq (x := .bl b) (y := .str s) rfl rfl rfl hk)
  | int b => exact ro_or1 (ro_eq (x := .int b) (y := .str s) rfl rfl rfl hk)
  | str b => exact ro_or1 (ro_eq (x := .str b) (y := .str s) rfl rfl rfl (by rw [vstr_dec]; exact hk))
  | rat q => exact ro_or2 (ro_or2 (ro_or2 (ro_eqR trivial hk)))
  | tup ds => exact ro_or2 (ro_or2 (ro_or1 (ro_seqS (.inl ⟨ds, rfl⟩) hk)))
  | lst ds => exact ro_or2 (ro_or2 (ro_or1 (ro_seqS (.inr ⟨ds, rfl⟩) hk)))
  | ro _ => exact hx.elim
  | obj _ _ _ => exact hx.elim
  | dct _ _ => exact hx.elim
theorem ro_neS {x : D} {s : Str} (hx : plainD x) (hk : k (.dat (.bl (!isS s x))) a) : RO K b0 (rNeAny K) (.dat x) (.dat (.str s)) a k := by
  cases x with
  | non => exact ro_or1 (ro_ne (x := .non) (y := .str s) rfl rfl rfl hk)
  | bl b => exact ro_or1 (ro_ne (x := .bl b) (y := .str s) rfl rfl rfl hk)
  | int b => exact ro_or1 (ro_ne (x := .int b) (y := .str s) rfl rfl rfl hk)
  | str b => exact ro_or1 (ro_ne (x := .str b) (y := .str s) rfl rfl rfl (by rw [vstr_dec]; exact hk))
  | rat q => exact ro_or2 (ro_or2 (ro_or2 (ro_eqR trivial hk)))
  | tup ds => exact ro_or2 (ro_or2 (ro_or1 (ro_seqS (.inl ⟨ds, rfl⟩) hk)))
  | lst ds => exact ro_or2 (ro_or2 (ro_or1 (ro_seqS (.inr ⟨ds, rfl⟩) hk)))
  | ro _ => exact hx.elim
  | obj _ _ _ => exact hx.elim
  | dct _ _ => exact hx.elim
theorem ro_eqRR {p q : Rat} (hk : k (.dat (.bl (decide (p = q)))) a) : RO K b0 (rEqAny K) (.dat (.rat p)) (.dat (.rat q)) a k := ro_or2 (ro_or2 (ro_or2 (ro_eqR trivial hk)))
theorem ro_neRR {p q : Rat} (hk : k (.dat (.bl (!decide (p = q)))) a) : RO K b0 (rNeAny K) (.dat (.rat p)) (.dat (.rat q)) a k := ro_or2 (ro_or2 (ro_or2 (ro_eqR trivial hk)))
theorem ro_inD {e : D} {y : B} {ds : List D} {neg : Bool} (hy : IsL a y (ds.map B.dat)) (ho : ∀ d ∈ ds, okf d e) (hk : k (.dat (.bl (if neg then !(ds.any fun d => eqf d e) else ds.any fun d => eqf d e))) a) : RO K b0 (rInAny K neg) (.dat e) y a k := fun σ H u v Q R ru rv hq => by
  obtain ⟨p, vs, rfl, hp, rb⟩ := hy.get R rv
  exact .inr ⟨p, vs, ds, e, rfl, hp, (RepBs.dats rb).mono (maskEx _ _), Rep.mono (maskEx _ _) ru, ho, fun H' ex => hq _ H' _ a hk (R.grow ex) (R.maskGrow ex) rfl⟩
/-- an int in a tuple of ints -/
theorem ro_inI {i : Int} {is : List Int} {neg : Bool} (hk : k (.dat (.bl (if neg then !decide (i ∈ is) else decide (i ∈ is)))) a) : RO K b0 (rInAny K neg) (.dat (.int i)) (.dat (.tup (is.map D.int))) a k := by
  refine ro_or1 (ro_here hk fun F H u v e ru rv => ⟨_, rfl, fun Q q => ?_⟩)
  obtain ⟨p, vs, h1, h2, h3⟩ := rv
  have h4 := h3.ints
  subst h4
  cases (show u = .int i from ru)
  refine ⟨p, _, h1, .inr (e.sqT h2), rfl, ?_, ?_⟩
  · rw [List.all_eq_true]
    intro x hx
    obtain ⟨z, _, rfl⟩ := List.mem_map.mp hx
    rfl
  · have e : inV (.int i) (is.map V.int) = decide (i ∈ is) := by
      unfold inV
      rw [Bool.eq_iff_iff, List.any_eq_true, decide_eq_true_iff]
      constructor
      · rintro ⟨x, hx, hz⟩
        obtain ⟨z, hz2, rfl⟩ := List.mem_map.mp hx
        have : z = i := by simpa [eqV] using hz
        exact this ▸ hz2
      · intro hi
        exact ⟨.int i, List.mem_map.mpr ⟨i, hi, rfl⟩, by simp [eqV]⟩
    rw [e]
    exact q
theorem ro_ltI {i j : Int} (hk : k (.dat (.bl (decide (i < j)))) a) : RO K b0 (rLtAny K) (.dat (.int i)) (.dat (.int j)) a k := ro_or1 (ro_B0 hk)
theorem ro_ltT {is js : List Int} (hk : k (.dat (.bl (HT.lexLt is js))) a) : RO K b0 (rLtAny K) (.dat (.tup (is.map D.int))) (.dat (.tup (js.map D.int))) a k := by
  refine ro_or2 (ro_here hk fun F H u v e ru rv => ⟨_, rfl, fun Q q => ?_⟩)
  obtain ⟨p, vs, h1, h2, h3⟩ := ru
  obtain ⟨p', vs', h1', h2', h3'⟩ := rv
  have h4 := h3.ints
  have h4' := h3'.ints
  subst h4 h4'
  exact ⟨p, p', is, js, h1, h1', e.sqT h2, e.sqT h2', q⟩
theorem ro_eqII {i j : Int} (hk : k (.dat (.bl (decide (i = j)))) a) : RO K b0 (rEqAny K) (.dat (.int i)) (.dat (.int j)) a k := ro_or1 (ro_eqI hk)
theorem ro_neII {i j : Int} (hk : k (.dat (.bl (!decide (i = j)))) a) : RO K b0 (rNeAny K) (.dat (.int i)) (.dat (.int j)) a k := ro_or1 (ro_neI hk)
theorem ro_eqBB {i j : Bool} (hk : k (.dat (.bl (decide (i = j)))) a) : RO K b0 (rEqAny K) (.dat (.bl i)) (.dat (.bl j)) a k := ro_or1 (ro_eqB hk)
theorem ro_neBB {i j : Bool} (hk : k (.dat (.bl (!decide (i = j)))) a) : RO K b0 (rNeAny K) (.dat (.bl i)) (.dat (.bl j)) a k := ro_or1 (ro_neB hk)
end
end MP
/-! MPL -/
/-! t[::-1], isinstance of two classes, list(range(n)), == of int tuples, != of lists of int pairs; the isinstance table -/
namespace MP
open PySem PySem.Spec PyProof.Rows L2

/-! ### the rules with the written part named -/
section
variable {X : Cx} {K : PySem.W.Frag}
theorem ix_seqK (e : X.K = K := by rfl) : IxR X (rIx K) := by subst e; exact ix_seq
theorem sl_anyK (e : X.K = K := by rfl) : SlR X (rSlAny K) := by subst e; exact sl_any
theorem call_len_anyK (e : X.K = K := by rfl) : CallR X (.builtin "len") (rLenAny K) := by subst e; exact call_len_any
theorem call_isiK' (e : X.K = K := by rfl) : CallR X (.builtin "isinstance") (rIsi K) := by subst e; exact call_isi
theorem call_isiTK (e : X.K = K := by rfl) : CallR X (.builtin "isinstance") (rIsiT K) := by subst e; exact call_isiT
theorem call_tuple_ofK (e : X.K = K := by rfl) : CallR X (.type "tuple") (rTupleOf K) := by subst e; exact call_tuple_of
theorem call_list_ofK (e : X.K = K := by rfl) : CallR X (.type "list") (rListOf K) := by subst e; exact call_list_of
theorem cr_minK (hc : X.calm = true) (e : X.K = K := by rfl) : CallR X (.builtin "min") (rMin K) := by subst e; exact cr_min hc
theorem cr_anyK (hc : X.calm = true) (e : X.K = K := by rfl) : CallR X (.builtin "any") (rAny K) := by subst e; exact cr_any hc
theorem pe_fldK {e : Expr} {ta : TE} {f : Str} {pos : Pos} (he : PE X e ta) (hb : attributeBase e f X.env (eval e X.env) = eval e X.env) (e3 : X.K = K := by rfl) : PE X (.Attribute e f pos) (tFld K ta f) := by subst e3; exact pe_fld he hb
theorem pi_listK {tg l : Expr} {tl : TE} (hl : PE X l tl) (e : X.K = K := by rfl) : PI X tg l (iList K tl) := by subst e; exact pi_list hl
theorem pi_tupK {tg l : Expr} {tl : TE} (hl : PE X l tl) (e : X.K = K := by rfl) : PI X tg l (iTup K tl) := by subst e; exact pi_tup hl
abbrev iAny (K : PySem.W.Frag) (te : TE) : TI := fun σ H R => iList K te σ H R ∨ iTup K te σ H R
theorem PI.or {tg e : Expr} {w1 w2 : TI} (h1 : PI X tg e w1) (h2 : PI X tg e w2) : PI X tg e (fun σ H R => w1 σ H R ∨ w2 σ H R) := ⟨fun pins s σ H R I h => h.elim (h1.run pins s σ H R I) (h2.run pins s σ H R I)⟩
theorem pi_anyK {tg e : Expr} {te : TE} (h : PE X e te) (e3 : X.K = K := by rfl) : PI X tg e (iAny K te) := by subst e3; exact PI.or (pi_list h) (pi_tup h)
end
/-! ### t[::-1] of a tuple -/
section
open PyProof.Rows HT
variable {prog : Program} {w : World} {A : Around} {E : Value → Shared → Prop} {s : Shared}
theorem adjust_rev (n : Nat) : Builtin.Slice.sliceAdjust none none (-1) (n : Int) = ((n : Int) - 1, -1) := by
  unfold Builtin.Slice.sliceAdjust
  simp
theorem places_rev (n : Nat) : Builtin.Slice.slicePlaces ((n : Int) - 1) (-1) (-1) = n := by
  unfold Builtin.Slice.slicePlaces
  have h1 : ¬ ((-1 : Int) > 0) := by omega
  have h2 : (- -1 : Int) = 1 := by decide
  simp only [h1, if_false, h2, Int.ediv_one]
  split <;> omega
theorem pick_rev (xs : Array Value) : ((List.range xs.size).filterMap fun (k : Nat) => xs[((xs.size : Int) - 1 + (k : Int) * -1).toNat]?).toArray = xs.toList.reverse.toArray := by
  have e : (fun (m : Nat) => xs[((xs.size : Int) - 1 + (m : Int) * -1).toNat]?) = fun (m : Nat) => xs[((xs.size : Int) - 1 - (m : Int)).toNat]? := by
    funext m
    have : ((xs.size : Int) - 1 + (m : Int) * -1) = (xs.size : Int) - 1 - m := by omega
    rw [this]
  rw [e]
  congr 1
  apply List.ext_getElem?
  intro i
  have key : ∀ n ≤ xs.size, ((List.range n).filterMap fun (k : Nat) => xs[((xs.size : Int) - 1 - k).toNat]?) = xs.toList.reverse.take n := by
    intro n
    induction n with
    | zero => intro _; simp
    | succ n ih =>
      intro hn
      rw [List.range_succ, List.filterMap_append, ih (by omega), List.take_succ]
      congr 1
      have e2 : (((xs.size : Int) - 1 - (n : Int))).toNat = xs.size - 1 - n := by omega
      have h1 : xs.size - 1 - n < xs.size := by omega
      have h2 : n < xs.toList.reverse.length := by simp; omega
      rw [List.getElem?_eq_getElem h2]
      simp only [List.filterMap_cons, List.filterMap_nil, e2, Array.getElem?_eq_getElem h1]
      simp
  rw [key xs.size (Nat.le_refl _), List.take_of_length_le (by simp)]
theorem sliceApplied_rev {sl : Addr} {u : Tok} {n : Nat} {Q : Int × Int × Nat → Shared → Prop} (hs : s.heap.IsSliceOf sl .none .none (.int (-1) u))
    (h : Q ((n : Int) - 1, -1, n) s) : wpAny (model prog w) A (Builtin.Slice.sliceApplied (.ref sl) (pure (n : Int))) Q E s := by
  obtain ⟨os, hos, hcs, hds⟩ := id hs
  unfold Builtin.Slice.sliceApplied Builtin.Slice.sliceFields
  refine wpAny_bind (wpAny_bind (wpAny_field hos hds (x := .none) rfl (wpAny_bind (wpAny_field hos hds (x := .none) rfl (wpAny_bind (wpAny_field hos hds (x := .int (-1) u) rfl (wpAny_pure ?_)))))))
  refine wpAny_bind (slicePart_int ?_)
  show wpAny _ _ (if ((-1 : Int) == 0) = true then _ else _) _ _ s
  rw [if_neg (by decide)]
  refine wpAny_bind (slicePart_none (wpAny_bind (slicePart_none (wpAny_bind (wpAny_pure ?_)))))
  show wpAny _ _ (match Builtin.Slice.sliceAdjust none none (-1) (n : Int) with | (lo, hi) => pure (lo, (-1 : Int), Builtin.Slice.slicePlaces lo hi (-1))) _ _ s
  rw [adjust_rev n]
  show wpAny _ _ (pure ((n : Int) - 1, (-1 : Int), Builtin.Slice.slicePlaces ((n : Int) - 1) (-1) (-1))) _ _ s
  rw [places_rev]
  exact wpAny_pure h
theorem getItem_tuple_rev {t sl : Addr} {items : Array Value} {u : Tok} {Q : Value → Shared → Prop} (ht : IsTup s.heap t items) (hs : s.heap.IsSliceOf sl .none .none (.int (-1) u))
    (h : Q (.ref s.heap.objs.size) { s with heap := s.heap.push { cls := .type "tuple", data := .seq items.toList.reverse.toArray } })
    (hsz : items.size ≤ sizeLine) : wpAny (model prog w) A (getItem (.ref t) (.ref sl)) Q E s := by
  have htake : sizeOk (.seq items.toList.reverse.toArray) := by
    show items.toList.reverse.toArray.size ≤ sizeLine
    rw [List.size_toArray, List.length_reverse, Array.length_toList]
    omega
  obtain ⟨os, hos, hcs, hds⟩ := id hs
  have hTs : s.TypeIs (.ref sl) "slice" := ⟨os, hos, hcs⟩
  unfold getItem
  try with_reducible refine wpAny_holding ?_
  first | refine wpAny_bind (wpAny_pure ?_) | skip
  refine wpAny_bind (wpAny_sequenceKey ht.typeIs (by decide) ?_)
  refine wpAny_bind (wpAny_callSpecial?_slot (name := Str.ofString "__getitem__") ht.typeIs PyProof.Rows.slot_tuple_getitem
    (wpAny_call_entry PyProof.Rows.slot_tuple_getitem ht.typeIs entry_tuple_getitem ?_ (args_tuple_getitem _ _)))
  show wpAny _ _ (Builtin.Tuple.tupleItemsOf (.ref t) >>= _) _ _ s
  refine wpAny_bind (tupleItemsOf_ ht ?_)
  refine wpAny_bind (wpAny_typeOf hTs ?_)
  rw [if_pos (by decide)]
  refine wpAny_bind (sliceApplied_rev hs ?_)
  have hno : ¬ (((items.size : Int) - 1 == 0 && (-1 : Int) == 1 && items.size == items.size) = true) := by simp
  show wpAny _ _ (if ((items.size : Int) - 1 == 0 && (-1 : Int) == 1 && items.size == items.size) = true then _ else _) _ _ s
  rw [if_neg hno, pick_rev]
  first
    | exact wpAny_bind (m := Builtin.Tuple.tupleExact _) (wpAny_newObj_type (wpAny_pure ⟨_, rfl, wpAny_pure h⟩) htake)
    | exact wpAny_bind (m := Builtin.Tuple.tupleExact _) (wpAny_newObj_type (wpAny_bind (wpAny_pure (wpAny_pure ⟨_, rfl, wpAny_pure h⟩))) htake)
    | exact wpAny_bind (wpAny_bind (m := Builtin.Tuple.tupleExact _) (wpAny_newObj_type (wpAny_pure (wpAny_pure ⟨_, rfl, wpAny_pure h⟩)) htake))
    | exact wpAny_bind (wpAny_bind (m := Builtin.Tuple.tupleExact _) (wpAny_newObj_type (wpAny_pure ⟨_, rfl, wpAny_pure h⟩) htake))
end
def tRevT (K : PySem.W.Frag) (te : TE) : TE := fun σ H Q => te σ H fun x H1 => ∃ a xs, x = .ref a ∧ SqT K H1 a xs ∧ ∀ p, H1 p = none → Q (.ref p) (upd H1 p (.tup xs.reverse))
theorem pe_revT {X : Cx} {e : Expr} {te : TE} {k : Nat} {p1 p2 p3 pos : Pos} (he : PE X e te) : PE X (.Subscript e (.Slice none none (some (.UnaryOp .USub (.Constant (.int 1) k p1) p2)) p3) pos) (tRevT X.K te) := by
  refine ⟨fun pins s σ H Q I h => ?_⟩
  refine Subscript_ (thn (he.run pins s σ H _ I h) fun v s1 ⟨x, H1, I1, r1, q1⟩ => ?_)
  obtain ⟨a, xs, ex, hx, q⟩ := q1
  subst ex
  cases r1
  have hst : PO X (some (.UnaryOp .USub (.Constant (.int 1) k p1) p2)) (tPart (tUn (rU fun i => .int (-i)) (tC (.int 1)))) := po_some (pe_un un_neg pe_int)
  refine wpAny_Slice (thn (po_none.run pins s1 σ H1 (fun o H2 => o = none ∧ H2 = H1) I1 ⟨rfl, rfl⟩) fun vl s2 ⟨l, H2, I2, pl, el, e2⟩ => ?_)
  subst el e2
  refine thn (po_none.run pins s2 σ H2 (fun o H3 => o = none ∧ H3 = H2) I2 ⟨rfl, rfl⟩) fun vu s3 ⟨u, H3, I3, pu, eu, e3⟩ => ?_
  subst eu e3
  refine thn (hst.run pins s3 σ H3 (fun o H4 => o = some (-1) ∧ H4 = H3) I3 ⟨1, rfl, -1, rfl, rfl, rfl⟩) fun vs s4 ⟨o, H4, I4, ps, eo, e4⟩ => ?_
  subst eo e4
  have I5 : Inv X pins σ H4 { s4 with heap := s4.heap.push { cls := .type "slice", data := .fields #[vl, vu, vs] } } := I4.kept (t' := s4.toks) fun b ob q => Heap.get?_push_of_some _ q
  obtain ⟨its, r, ht, hz⟩ := I5.tuple hx
  have hlen := r.length
  show wpAny (model X.prog X.w) X.A (subscriptTail e (.Slice none none (some (.UnaryOp .USub (.Constant (.int 1) k p1) p2)) p3) (.ref a) (.ref s4.heap.objs.size)) (EP X pins σ Q) X.xe { s4 with heap := s4.heap.push { cls := .type "slice", data := .fields #[vl, vu, vs] } }
  refine tail_any (ops := [.ref a, .ref s4.heap.objs.size]) ht.typeIs (PyProof.Rows.slot_tuple_getitem.lookup) ?_ (by with_unfolding_all rfl)
  cases pl
  cases pu
  cases ps
  refine getItem_tuple_rev ht (Heap.IsSliceOf.new _ _ _ _) ?_ (by rw [List.size_toArray]; omega)
  refine ⟨.ref _, _, I5.laid (t' := s4.toks) (o := .tup xs.reverse) (fun b ob q => Heap.get?_push_of_some _ q) (Nat.le_refl _) ?_, rfl, q _ (I5.hok.fresh (Nat.le_refl _))⟩
  exact ⟨by rw [List.length_reverse]; exact hz, _, r.reverse, IsTup.new _ _⟩
theorem ixN_nat {n j : Nat} (h : j < n) : ixN n (j : Int) = some j := by
  unfold ixN
  rw [if_pos (by omega), if_pos (by omega)]
  simp
theorem atI_nat {α : Type} {xs : List α} {n : Nat} {x : α} (h : xs[n]? = some x) : atI xs (n : Int) = some x := by
  have hn := (List.getElem?_eq_some_iff.mp h).1
  unfold atI
  rw [ixN_nat hn]
  exact h
section
variable {K : PySem.W.Frag} {b0 : Ba} {a : AS} {te ta tb tc : TE} {k : B → AS → Prop}
theorem Reps.reverse {F : Hp} : ∀ {ds : List D} {vs : List V}, Reps K F ds vs → Reps K F ds.reverse vs.reverse
  | [], vs, h => by cases (show vs = [] from h); exact .nil
  | d :: ds, vs, h => by
    obtain ⟨v, r, rfl, h1, h2⟩ := h
    rw [List.reverse_cons, List.reverse_cons]
    exact (Reps.reverse h2).append (.cons h1 .nil)
theorem ev_revT (h : EV K b0 te a fun x a1 => ∃ ds, x = .dat (.tup ds) ∧ k (.dat (.tup ds.reverse)) a1) : EV K b0 (tRevT K te) a k := fun σ H Q R q =>
  h σ H _ R fun v H1 x a1 ⟨ds, e, hk⟩ R1 e1 r1 => by
    subst e
    obtain ⟨p, vs, rfl, hp, rs⟩ := r1
    refine ⟨p, vs, rfl, (maskEx _ _).sqT hp, fun r hr => ?_⟩
    have g := R1.maskGrow (ex_upd (o := .tup vs.reverse) hr)
    exact q _ _ _ a1 hk (R1.alloc hr) (e1.trans g) ⟨r, _, rfl, .inl (.inl (mask_mk (R1.free hr) upd_same)), rs.reverse.mono g⟩

/-! ### isinstance -/
def isT (t : String) : D → Bool
  | .non => decide (t = "NoneType")
  | .bl _ => decide (t = "bool" ∨ t = "int")
  | .int _ => decide (t = "int")
  | .str _ => decide (t = "str")
  | .tup _ => decide (t = "tuple")
  | .lst _ => decide (t = "list")
  | .ro _ => decide (t = "list")
  | _ => false
def isR : D → Bool
  | .rat _ => true
  | _ => false
theorem kit_isT {mg : Str → Option Value} (M : FX K mg) {t : String} (ht : t ∈ (["int", "bool", "tuple", "list"] : List String)) {d : D} (ho : okD d) : PySem.W.kitOne K (tyD K d) (.type t) = some (isT t d) := by
  cases d with
  | rat q => exact M.kitRT ht
  | ro _ => exact ho.elim
  | obj _ _ _ => exact ho.elim
  | dct _ _ => exact ho.elim
  | _ =>
    rcases List.mem_cons.mp ht with rfl | ht
    · refine kit_ty ?_
      dsimp only [isT]
      decide +kernel
    rcases List.mem_cons.mp ht with rfl | ht
    · refine kit_ty ?_
      dsimp only [isT]
      decide +kernel
    rcases List.mem_cons.mp ht with rfl | ht
    · refine kit_ty ?_
      dsimp only [isT]
      decide +kernel
    rcases List.mem_cons.mp ht with rfl | ht
    · refine kit_ty ?_
      dsimp only [isT]
      decide +kernel
    · cases ht
theorem kit_isR {mg : Str → Option Value} (M : FX K mg) {d : D} (ho : okD d) : PySem.W.kitOne K (tyD K d) (.ref (CR K)) = some (isR d) := by
  cases d with
  | rat q => exact M.kitR
  | ro _ => exact ho.elim
  | obj _ _ _ => exact ho.elim
  | dct _ _ => exact ho.elim
  | _ => exact M.kitTR (by decide)
theorem rc_isT {mg : Str → Option Value} (M : FX K mg) {t : String} {d : D} (ho : okD d) (ht : t ∈ (["int", "bool", "tuple", "list"] : List String) := by decide) (hk : k (.dat (.bl (isT t d))) a) : RCl K b0 (rIsi K) [.dat d, .raw (.ty t)] a k :=
  rc_isi (M.ins (M.cls 73)) ho (.ty t) (kit_isT M ht ho) hk
theorem rc_isT' {mg : Str → Option Value} (M : FX K mg) {t : String} {d : D} (ht : t ∈ (["int", "bool", "tuple", "list"] : List String)) (ho : okD d) (hk : k (.dat (.bl (isT t d))) a) : RCl K b0 (rIsi K) [.dat d, .raw (.ty t)] a k := rc_isT M ho ht hk
theorem rc_isR {mg : Str → Option Value} (M : FX K mg) {d : D} (ho : okD d) (hk : k (.dat (.bl (isR d))) a) : RCl K b0 (rIsi K) [.dat d, .raw (.ref (He.ga K "Ratio"))] a k :=
  rc_isi (M.ins (M.cls 73)) ho (.own _) (kit_isR M ho) hk
theorem ev_isiT2 {mg : Str → Option Value} (M : FX K mg) {t1 t2 : String} (h1 : t1 ∈ (["int", "bool", "tuple", "list"] : List String) := by decide) (h2 : t2 ∈ (["int", "bool", "tuple", "list"] : List String) := by decide)
    (h : EV K b0 te a fun x a1 => ∃ d, x = .dat d ∧ okD d ∧ k (.dat (.bl (isT t1 d || isT t2 d))) a1) : EV K b0 (tCB (rIsiT K) (tCons te (tCons (tTup (tCons (tC (.ty t1)) (tCons (tC (.ty t2)) tNil))) tNil))) a k := fun σ H Q R q =>
  h σ H _ R fun v H1 x a1 ⟨d, e, ho, hk⟩ R1 e1 r1 => by
    subst e
    refine ⟨small (by show 2 ≤ 100000; omega), fun p hp => ?_⟩
    have g := R1.maskGrow (ex_upd (o := .tup [V.ty t1, V.ty t2]) hp)
    refine ⟨v, p, _, _, [.type t1, .type t2], _, rfl, upd_same, .cons (.ty t1) (.cons (.ty t2) .nil), tyX_rep ((Ex.trans g (maskEx _ _))) (M.ins (M.cls 73)) ho r1, ?_, q _ _ _ a1 hk (R1.alloc hp) (e1.trans g) rfl⟩
    refine kitAny_cons (kit_isT M h1 ho) (fun hf => ?_) (fun hf => by rw [hf]; rfl)
    rw [hf, Bool.false_or]
    refine kitAny_cons (kit_isT M h2 ho) (fun hf2 => ?_) (fun hf2 => hf2)
    rw [hf2]
    rfl

/-! ### list(range(n)) -/
theorem ev_listRg (h : EV K b0 te a fun x a1 => ∃ n : Int, x = .dat (.int n) ∧ n ≤ 1000000 ∧ -1000000 ≤ n ∧ ∀ p, a1.mem p = none → b0.mem p = none → k (.ptr p) (a1.at (mput a1.mem p (.lst ((List.range n.toNat).map fun (i : Nat) => B.dat (.int (i : Int))))))) :
    EV K b0 (tLstRg (tRg1 te)) a k := fun σ H Q R q =>
  h σ H _ R fun v H1 x a1 ⟨n, e, hn, hn2, hk⟩ R1 e1 r1 => by
    subst e
    cases (show v = .int n from r1)
    refine ⟨n, rfl, ⟨by omega, by omega, by omega, by omega, by omega⟩, fun p hp => ?_⟩
    obtain ⟨R2, e2⟩ := R1.allocM (c := .lst ((List.range n.toNat).map fun (i : Nat) => B.dat (.int (i : Int)))) (o := .lst (rgV 0 n)) hp ⟨_, rfl, by
      unfold rgV
      rw [Int.sub_zero]
      generalize List.range n.toNat = l
      induction l with
      | nil => exact .nil
      | cons i l ih => exact .cons (show RepB K (mask H1 a1.mem) (.dat (.int (i : Int))) (V.int (0 + (i : Int))) by rw [Int.zero_add]; rfl) ih⟩
    exact q _ _ _ _ (hk p (R1.free hp) (R1.free0 hp).1) R2 (e1.trans e2) rfl

/-! ### == of tuples of ints, != of lists of int pairs -/
theorem dp_ints {F H : Hp} (e : Ex F H) {is : List Int} {v : V} (r : Rep K F (.tup (is.map D.int)) v) : Dp K H v (.tuple (is.map PyData.int)) := by
  obtain ⟨p, vs, rfl, hp, rs⟩ := r
  have h := rs.ints
  subst h
  refine .tup (e.sqT hp) ?_
  clear hp rs
  induction is with
  | nil => exact .nil
  | cons i is ih => exact .cons (.int i) ih
theorem eqvAll_ints : ∀ is js : List Int, PyData.eqvAll (is.map PyData.int) (js.map PyData.int) = decide (is = js)
  | [], [] => by simp [PyData.eqvAll]
  | [], _ :: _ => by simp [PyData.eqvAll]
  | _ :: _, [] => by simp [PyData.eqvAll]
  | i :: is, j :: js => by
    show PyData.eqvAll (.int i :: is.map PyData.int) (.int j :: js.map PyData.int) = _
    rw [PyData.eqvAll, eqvAll_ints is js]
    by_cases h : i = j
    · subst h; simp [PyData.eqv]
    · simp [PyData.eqv, h]
theorem canLay_ints : ∀ is : List Int, PyData.canLayAll0 (is.map PyData.int) = true
  | [] => rfl
  | i :: is => by
    show PyData.canLayAll0 (.int i :: is.map PyData.int) = true
    rw [PyData.canLayAll0, canLay_ints is]
    rfl
theorem depth_ints : ∀ is : List Int, PyData.depthAll (is.map PyData.int) ≤ 1
  | [] => by simp [PyData.depthAll]
  | i :: is => by
    show PyData.depthAll (.int i :: is.map PyData.int) ≤ 1
    rw [PyData.depthAll]
    have := depth_ints is
    simp [PyData.depth]
    omega
theorem shaped_ints {is : List Int} : SeqAt.shaped (.tuple (is.map PyData.int)) = true := by
  unfold SeqAt.shaped
  rw [PyData.canLay0, canLay_ints, PyData.depth]
  have := depth_ints is
  simp
  omega
end
end MP
/-! MPM -/
set_option exponentiation.threshold 10000
/-! Ratio: the walks of its methods -/
namespace MP
open PySem PySem.Spec PyProof.Rows L2

theorem nx_go {K : PySem.W.Frag} {b0 : Ba} {a : AS} {t : TS} {Z : Ends} {rt : VK} {bk ct : L2.St → Hp → Prop} (h : GS K b0 t Z a) : NX K b0 (Ends.nx ⟨t Z, rt, bk, ct⟩) a := h
/-- what follows is shown once -/
theorem gs_cutS {K : PySem.W.Frag} {b0 : Ba} {a : AS} {t u : TS} {Z : Ends} (P : AS → Prop) (h1 : ∀ f, (∀ a, P a → NX K b0 f a) → GS K b0 t { Z with nx := f } a) (h2 : ∀ a, P a → GS K b0 u Z a) : GS K b0 (tSeq t u) Z a := h1 _ h2
theorem nx_mk {K : PySem.W.Frag} {b0 : Ba} {a : AS} {f : L2.St → Hp → Prop} {rt : VK} {bk ct : L2.St → Hp → Prop} (h : NX K b0 f a) : NX K b0 (Ends.nx ⟨f, rt, bk, ct⟩) a := h
/-! ### promises by arity -/
abbrev PF1 := B → D → Prop
def f1 (g : B → D → Prop) : List B → D → Prop := fun bs d => ∃ x, bs = [x] ∧ g x d
def f2 (g : B → B → D → Prop) : List B → D → Prop := fun bs d => ∃ x y, bs = [x, y] ∧ g x y d
def f3 (g : B → B → B → D → Prop) : List B → D → Prop := fun bs d => ∃ x y z, bs = [x, y, z] ∧ g x y z d
def f4 (g : B → B → B → B → D → Prop) : List B → D → Prop := fun bs d => ∃ x y z u, bs = [x, y, z, u] ∧ g x y z u d
def f5 (g : B → B → B → B → B → D → Prop) : List B → D → Prop := fun bs d => ∃ x y z u v, bs = [x, y, z, u, v] ∧ g x y z u v d
theorem f1_len {g} : ∀ bs d, f1 g bs d → bs.length = 1 := by rintro _ _ ⟨_, rfl, _⟩; rfl
theorem f2_len {g} : ∀ bs d, f2 g bs d → bs.length = 2 := by rintro _ _ ⟨_, _, rfl, _⟩; rfl
theorem f3_len {g} : ∀ bs d, f3 g bs d → bs.length = 3 := by rintro _ _ ⟨_, _, _, rfl, _⟩; rfl
theorem f4_len {g} : ∀ bs d, f4 g bs d → bs.length = 4 := by rintro _ _ ⟨_, _, _, _, rfl, _⟩; rfl
theorem f5_len {g} : ∀ bs d, f5 g bs d → bs.length = 5 := by rintro _ _ ⟨_, _, _, _, _, rfl, _⟩; rfl
theorem l_sEq : ∀ bs d, sEq bs d → bs.length = 2 := by rintro _ _ ⟨_, _, rfl, _⟩; rfl
theorem l_sAdd : ∀ bs d, sAdd bs d → bs.length = 2 := by rintro _ _ ⟨_, _, rfl, _⟩; rfl
theorem l_sSub : ∀ bs d, sSub bs d → bs.length = 2 := by rintro _ _ ⟨_, _, rfl, _⟩; rfl
theorem l_sNeg : ∀ bs d, sNeg bs d → bs.length = 1 := by rintro _ _ ⟨_, rfl, _⟩; rfl

/-! ### reckoning -/
theorem div_gcd {n d : Int} (h : 0 < d) : n / ((Nat.gcd n.natAbs d.natAbs : Nat) : Int) = (Rat.divInt n d).num ∧ d / ((Nat.gcd n.natAbs d.natAbs : Nat) : Int) = ((Rat.divInt n d).den : Int) := by
  have e : (Nat.gcd n.natAbs d.natAbs) = Int.gcd d n := by rw [Int.gcd, Nat.gcd_comm]
  rw [Rat.num_divInt, Rat.den_divInt, e]
  constructor
  · rw [Int.sign_eq_one_of_pos h, Int.one_mul]
  · rw [if_neg (by omega)]
    obtain ⟨m, rfl⟩ := Int.eq_ofNat_of_zero_le (Int.le_of_lt h)
    simp
theorem gcd_pos' {n d : Int} (h : 0 < d) : (0 : Int) < ((Nat.gcd n.natAbs d.natAbs : Nat) : Int) := by
  have : 0 < Nat.gcd n.natAbs d.natAbs := Nat.gcd_pos_of_pos_right _ (by omega)
  omega
theorem natAbs_lt_pow {n : Nat} {b : Nat} {i : Int} (h : i.natAbs ≤ n) (h2 : n < 2 ^ b) : i.natAbs < 2 ^ b := Nat.lt_of_le_of_lt h h2
theorem cdivw {i j : Int} (hj : 0 < j) (h : j.natAbs < 2 ^ 8000) : CDivW i j := wide_div hj h (by omega) (by omega)

theorem cx_K {CX : CXT} {P : Program} {w : World} {K : PySem.W.Frag} {mg : Str → Option Value} {base : Heap} {N : List Str} {q : Str} {sc : Scope} {f : Addr} {cdv : Value} {A : Around} {o : List Env} {s : Shared} {H : Hp} {E : XK} : (cxOf CX P w K mg base N q sc f cdv A o s H E).nox.K = K := rfl
theorem sc_Ratio_init : FnScope ["self", "n", "d", "shared"] ["self", "n", "d"] (defScope s_Ratio_init) := ⟨rfl, rfl, rfl, by decide +kernel, rfl, by decide +kernel, by decide +kernel⟩
theorem init_ok {P : Program} {w : World} {K : PySem.W.Frag} {mg : Str → Option Value} {base : Heap} (M : FX K mg) {fd : FuncData} (F : FunD K d_Ratio_init.name d_Ratio_init.qual d_Ratio_init.params d_Ratio_init.body d_Ratio_init.scope (d_Ratio_init.dvs K) (d_Ratio_init.kws K) (He.fAd K d_Ratio_init.at_) fd) :
    FnOk P w K mg base CX0 1 (He.fAd K d_Ratio_init.at_) fd ["self", "n", "d"] (spA K sInit) := by
  refine def_eff (j := 0) F sc_Ratio_init (by rintro _ _ _ _ ⟨_, _, _, rfl, _⟩; rfl) fun cdv A outer s H E hr => ⟨_, (pss_cons (ps_if (pt_cmpR op_eq (pv 2) pe_int (nomark _))
      (pss_one ps_never)
      pss_nil)
      (pss_cons (ps_if (pt_cmpR op_lt (pv 2) pe_int (nomark _))
        (pss_cons (ps_set (i := 1) sc_Ratio_init.nd rfl (by first | exact Or.inl rfl | exact Or.inr rfl) (pe_un un_neg (pv 1)))
          (pss_one (ps_set (i := 2) sc_Ratio_init.nd rfl (by first | exact Or.inl rfl | exact Or.inr rfl) (pe_un un_neg (pv 2)))))
        pss_nil)
        (pss_cons (ps_set (i := 3) sc_Ratio_init.nd rfl (by first | exact Or.inl rfl | exact Or.inr rfl) (pe_callBfun cr_gcd (by rfl) M.gcd (pa_cons (pv 1) (pa_cons (pv 2) pa_nil))))
          (pss_cons (ps_fld (pv 0) (pe_op op_fdivI (pv 1) (pv 3)) rfl)
            (pss_one (ps_fld (pv 0) (pe_op op_fdivI (pv 2) (pv 3)) rfl)))))), ?_⟩
  dsimp only [cx_K]
  rintro b0 Z _ b m' ⟨x, n, d, rfl, hx, hd, hw, rfl, rfl⟩ hret
  walk_at "mpR"
  refine ⟨fun hc => absurd (of_decide_eq_true hc) hd, fun _ => ?_⟩
  refine gs_next (nx_go ?_)
  refine gs_cutS (fun a => ∃ n' d' : Int, 0 < d' ∧ d'.natAbs < 2 ^ 8000 ∧ Rat.divInt n' d' = Rat.divInt n d ∧ a = ⟨[some (.ptr x), some (.dat (.int n')), some (.dat (.int d')), none], b0.mem⟩) (fun f J => ?_) ?_
  · walk_at "mpR"
    refine ⟨fun hc => ?_, fun hc => ?_⟩
    · have hc := of_decide_eq_true hc
      walk_at "mpR"
      exact J _ ⟨-n, -d, by omega, by omega, Rat.neg_divInt_neg _ _, rfl⟩
    · have hc := of_decide_eq_false hc
      walk_at "mpR"
      exact J _ ⟨n, d, by omega, hw, rfl, rfl⟩
  · rintro _ ⟨n', d', h1, h2, h3, rfl⟩
    obtain ⟨g1, g2⟩ := div_gcd (n := n') h1
    have g0 := gcd_pos' (n := n') h1
    have gw : ((Nat.gcd n'.natAbs d'.natAbs : Nat) : Int).natAbs < 2 ^ 8000 := by
      refine Nat.lt_of_le_of_lt ?_ h2
      rw [Int.natAbs_natCast]
      exact Nat.gcd_le_right _ (by omega)
    walk_at "mpR"
    refine gs_fld ?_
    walk_at "mpR"
    refine ro_I (cdivw g0 gw) ?_
    walk_at "mpR"
    refine ⟨_, _, _, _, rfl, hx, M.cls 73, M.noat 74, by simp, by simp, ?_⟩
    refine nx_go (gs_fld ?_)
    walk_at "mpR"
    refine ro_I (cdivw g0 gw) ?_
    walk_at "mpR"
    refine ⟨_, _, _, _, rfl, mput_same, M.cls 73, M.noat 75, by decide +kernel, by simp, ?_⟩
    rw [g1, g2, h3]
    refine (hret _ fun p _ => ?_).2 rfl
    show _ = mput (mput b0.mem x _) x _ p
    rw [mput_mput]
    rfl

/-! ### making -/
theorem divInt1 (n : Int) : Rat.divInt n 1 = (n : Rat) := by
  rw [Rat.divInt_eq_div]
  grind
theorem mk_Ratio2 {P : Program} {w : World} {K : PySem.W.Frag} {mg : Str → Option Value} {base : Heap} (M : FX K mg) : C8.Mak P w K mg base 1 "Ratio" (He.ga K "Ratio") (spA K sInit) [] := by
  obtain ⟨fd, F⟩ := M.said.def_ 1
  obtain ⟨ds, rd, b⟩ := F.binds1 (ps := ["self", "n", "d"]) 3 1 (by intro h; cases h) rfl (fun T kV doc pm an cdv ct us its hu hi => match us, its, hu, hi with | [_, _, _], [_], _, _ => ⟨_, rfl, rfl⟩)
  exact ⟨_, fd, _, ds, M.mkr 76, init_ok M F, M.glo 1, b, rd⟩
theorem mk_Ratio1 {P : Program} {w : World} {K : PySem.W.Frag} {mg : Str → Option Value} {base : Heap} (M : FX K mg) : C8.Mak P w K mg base 1 "Ratio" (He.ga K "Ratio") (spA K sInit) [.int 1] := by
  obtain ⟨fd, F⟩ := M.said.def_ 1
  obtain ⟨ds, rd, b⟩ := F.binds1 (ps := ["self", "n", "d"]) 2 0 (by intro h; cases h) rfl (fun T kV doc pm an cdv ct us its hu hi => match us, its, hu, hi with | [_, _], [_], _, _ => ⟨_, rfl, rfl⟩)
  exact ⟨_, fd, _, ds, M.mkr 76, init_ok M F, M.glo 1, b, rd⟩
section
variable {K : PySem.W.Frag} {b0 : Ba} {a : AS} {te ta tb tc : TE} {k : B → AS → Prop}
theorem ev_mkR2 {E : XK} {tas : TA} (h : EA K b0 tas a fun bs a1 => ∃ n d : Int, bs = [.dat (.int n), .dat (.int d)] ∧ d ≠ 0 ∧ d.natAbs < 2 ^ 8000 ∧ k (.dat (.rat (Rat.divInt n d))) a1) : EV K b0 (tMake (He.ga K "Ratio") (spA K sInit) [] E tas) a k :=
  ev_makeR (dbs := []) (fun _ => .nil) fun σ H Q R q => h σ H Q R fun vs H1 bs a1 ⟨n, d, e, h1, h2, h3⟩ R1 e1 r1 => q vs H1 bs a1 ⟨Rat.divInt n d, h3, fun x hx => ⟨x, n, d, by rw [e]; rfl, mput_same, h1, h2, rfl, by rw [mput_mput]⟩⟩ R1 e1 r1
theorem ev_mkR1 {E : XK} {tas : TA} (h : EA K b0 tas a fun bs a1 => ∃ n : Int, bs = [.dat (.int n)] ∧ k (.dat (.rat (n : Rat))) a1) : EV K b0 (tMake (He.ga K "Ratio") (spA K sInit) [.int 1] E tas) a k :=
  ev_makeR (dbs := [.dat (.int 1)]) (fun _ => .cons rfl .nil) fun σ H Q R q => h σ H Q R fun vs H1 bs a1 ⟨n, e, h3⟩ R1 e1 r1 => q vs H1 bs a1 ⟨Rat.divInt n 1, by rw [divInt1]; exact h3, fun x hx => ⟨x, n, 1, by rw [e]; rfl, mput_same, by decide, by decide +kernel, rfl, by rw [mput_mput]⟩⟩ R1 e1 r1
end
section
variable {K : PySem.W.Frag} {b0 : Ba} {a : AS} {ta : TE} {k : B → AS → Prop} {mg : Str → Option Value}
theorem ev_rn (M : FX K mg) (h : EV K b0 ta a fun x a1 => ∃ z, x = .dat (.rat z) ∧ k (.dat (.int z.num)) a1) : EV K b0 (tFld K ta "n") a k := ev_fldN (M.cls 73) (M.noat 74) h
theorem ev_rd (M : FX K mg) (h : EV K b0 ta a fun x a1 => ∃ z, x = .dat (.rat z) ∧ k (.dat (.int (z.den : Int))) a1) : EV K b0 (tFld K ta "d") a k := ev_fldD (M.cls 73) (M.noat 75) h
end
theorem wee_mul {p q : Rat} (hp : Wee p) (hq : Wee q) : IntMulOk p.num (q.den : Int) ∧ IntMulOk (p.den : Int) (q.den : Int) :=
  ⟨mul_ok (a := 3000) (b := 3000) hp.1 (by rw [Int.natAbs_natCast]; exact hq.2) (by omega), mul_ok (a := 3000) (b := 3000) (by rw [Int.natAbs_natCast]; exact hp.2) (by rw [Int.natAbs_natCast]; exact hq.2) (by omega)⟩
theorem wee_den2 {p q : Rat} (hp : Wee p) (hq : Wee q) : (p.den : Int) * (q.den : Int) ≠ 0 ∧ ((p.den : Int) * (q.den : Int)).natAbs < 2 ^ 8000 := by
  constructor
  · have := p.den_pos
    have := q.den_pos
    exact Int.mul_ne_zero (by omega) (by omega)
  · rw [Int.natAbs_mul, Int.natAbs_natCast, Int.natAbs_natCast]
    refine Nat.lt_of_lt_of_le (Nat.mul_lt_mul_of_lt_of_lt hp.2 hq.2) ?_
    rw [← Nat.pow_add]
    exact Nat.pow_le_pow_right (by omega) (by omega)
theorem rat_add_eq (p q : Rat) : Rat.divInt (p.num * (q.den : Int) + q.num * (p.den : Int)) ((p.den : Int) * (q.den : Int)) = p + q := by
  have hp := p.den_pos
  have hq := q.den_pos
  conv => rhs; rw [← Rat.num_divInt_den p, ← Rat.num_divInt_den q]
  rw [Rat.divInt_add_divInt _ _ (by omega) (by omega)]
theorem rat_sub_eq (p q : Rat) : Rat.divInt (p.num * (q.den : Int) - q.num * (p.den : Int)) ((p.den : Int) * (q.den : Int)) = p - q := by
  have hp := p.den_pos
  have hq := q.den_pos
  conv => rhs; rw [← Rat.num_divInt_den p, ← Rat.num_divInt_den q]
  rw [Rat.divInt_sub_divInt _ _ (by omega) (by omega)]

/-! ### the operators -/
theorem sc_Ratio_eq : FnScope ["self", "other"] ["self", "other"] (defScope s_Ratio_eq) := ⟨rfl, rfl, rfl, by decide +kernel, rfl, by decide +kernel, by decide +kernel⟩
theorem o_Ratio_eq {P : Program} {w : World} {K : PySem.W.Frag} {mg : Str → Option Value} {base : Heap} (M : FX K mg) : OwnF P w K mg base 1 "__eq__" (spA K (pw sEq)) := by
  obtain ⟨fd, F⟩ := M.said.def_ 2
  refine ⟨_, fd, ["self", "other"], (def_pure (j := 0) F sc_Ratio_eq l_sEq fun cdv A outer s H E hr => ⟨_, (pss_one (ps_ret (pe_and (pe_callB (call_isiK' (K := K)) (by rfl) (M.free 63) (by decide +kernel) (pa_cons (pv 1) (pa_cons (pe_glob (v := .ref (He.ga K "Ratio")) rfl (M.glo 1) rfl) pa_nil))) (pe_and (pe_cmpR op_eq (pe_fldK (K := K) (pv 0) rfl) (pe_fldK (K := K) (pv 1) rfl) (nomark _)) (pe_one (pe_cmpR op_eq (pe_fldK (K := K) (pv 0) rfl) (pe_fldK (K := K) (pv 1) rfl) (nomark _))))))), ?_⟩), F.bindsN fun _ _ _ _ _ _ us hl => match us, hl with | [_, _], _ => rfl, (M.meth 91).at_, (M.meth 91).fn⟩
  try dsimp only [cx_K]
  intro b0 Z bs d h hret
  obtain ⟨q, y, rfl, hy, rfl⟩ := h
  have ho : okD y := by cases y <;> first | trivial | exact hy.elim
  walk_at "mpR"
  refine ⟨fun hc => ?_, fun hc => ?_⟩
  · cases y with
    | rat r =>
      walk_at "mpR"
      refine ⟨fun hc => ?_, fun hc => ?_⟩
      · have hc := of_decide_eq_true hc
        walk_at "mpR"
        rw [show decide ((q.den : Int) = (r.den : Int)) = eqQ q (.rat r) from ?_]
        · exact hret _ fun _ _ h => h
        · exact decide_eq_decide.mpr ⟨fun h => rat_ext hc (by exact_mod_cast h), fun h => by rw [h]⟩
      · have hc := of_decide_eq_false hc
        rw [show false = eqQ q (.rat r) from (decide_eq_false fun h => hc (by rw [h])).symm]
        exact hret _ fun _ _ h => h
    | _ => cases hc
  · rw [show false = eqQ q y from by cases y <;> first | rfl | cases hc]
    exact hret _ fun _ _ h => h
theorem sc_Ratio_add : FnScope ["self", "other"] ["self", "other"] (defScope s_Ratio_add) := ⟨rfl, rfl, rfl, by decide +kernel, rfl, by decide +kernel, by decide +kernel⟩
theorem o_Ratio_add {P : Program} {w : World} {K : PySem.W.Frag} {mg : Str → Option Value} {base : Heap} (M : FX K mg) : OwnF P w K mg base 3 "__add__" (spA K (pw sAdd)) := by
  obtain ⟨fd, F⟩ := M.said.def_ 3
  refine ⟨_, fd, ["self", "other"], (def_pure (j := 2) F sc_Ratio_add l_sAdd fun cdv A outer s H E hr => ⟨_, (pss_one (ps_ret (C8.pe_mk (mk_Ratio2 M) hr (by decide) (by rfl) (pa_cons (pe_op op_add (pe_op op_mulI (pe_fldK (K := K) (pv 0) rfl) (pe_fldK (K := K) (pv 1) rfl)) (pe_op op_mulI (pe_fldK (K := K) (pv 1) rfl) (pe_fldK (K := K) (pv 0) rfl))) (pa_cons (pe_op op_mulI (pe_fldK (K := K) (pv 0) rfl) (pe_fldK (K := K) (pv 1) rfl)) pa_nil))))), ?_⟩), F.bindsN fun _ _ _ _ _ _ us hl => match us, hl with | [_, _], _ => rfl, (M.meth 92).at_, (M.meth 92).fn⟩
  try dsimp only [cx_K]
  intro b0 Z bs d h hret
  obtain ⟨p, q, rfl, hp, hq, rfl⟩ := h
  obtain ⟨m1, m2⟩ := wee_mul hp hq
  obtain ⟨m3, m4⟩ := wee_mul hq hp
  obtain ⟨d1, d2⟩ := wee_den2 hp hq
  refine gs_ret (ev_mkR2 ?_)
  walk_at "mpR"
  refine ⟨_, _, rfl, d1, d2, ?_⟩
  rw [rat_add_eq]
  exact hret _ fun _ _ h => h
theorem sc_Ratio_sub : FnScope ["self", "other"] ["self", "other"] (defScope s_Ratio_sub) := ⟨rfl, rfl, rfl, by decide +kernel, rfl, by decide +kernel, by decide +kernel⟩
theorem o_Ratio_sub {P : Program} {w : World} {K : PySem.W.Frag} {mg : Str → Option Value} {base : Heap} (M : FX K mg) : OwnF P w K mg base 3 "__sub__" (spA K (pw sSub)) := by
  obtain ⟨fd, F⟩ := M.said.def_ 4
  refine ⟨_, fd, ["self", "other"], (def_pure (j := 2) F sc_Ratio_sub l_sSub fun cdv A outer s H E hr => ⟨_, (pss_one (ps_ret (C8.pe_mk (mk_Ratio2 M) hr (by decide) (by rfl) (pa_cons (pe_op op_sub (pe_op op_mulI (pe_fldK (K := K) (pv 0) rfl) (pe_fldK (K := K) (pv 1) rfl)) (pe_op op_mulI (pe_fldK (K := K) (pv 1) rfl) (pe_fldK (K := K) (pv 0) rfl))) (pa_cons (pe_op op_mulI (pe_fldK (K := K) (pv 0) rfl) (pe_fldK (K := K) (pv 1) rfl)) pa_nil))))), ?_⟩), F.bindsN fun _ _ _ _ _ _ us hl => match us, hl with | [_, _], _ => rfl, (M.meth 93).at_, (M.meth 93).fn⟩
  try dsimp only [cx_K]
  intro b0 Z bs d h hret
  obtain ⟨p, q, rfl, hp, hq, rfl⟩ := h
  obtain ⟨m1, m2⟩ := wee_mul hp hq
  obtain ⟨m3, m4⟩ := wee_mul hq hp
  obtain ⟨d1, d2⟩ := wee_den2 hp hq
  refine gs_ret (ev_mkR2 ?_)
  walk_at "mpR"
  refine ⟨_, _, rfl, d1, d2, ?_⟩
  rw [rat_sub_eq]
  exact hret _ fun _ _ h => h
theorem sc_Ratio_neg : FnScope ["self"] ["self"] (defScope s_Ratio_neg) := ⟨rfl, rfl, rfl, by decide +kernel, rfl, by decide +kernel, by decide +kernel⟩
theorem o_Ratio_neg {P : Program} {w : World} {K : PySem.W.Frag} {mg : Str → Option Value} {base : Heap} (M : FX K mg) : OwnF P w K mg base 3 "__neg__" (spA K (pw sNeg)) := by
  obtain ⟨fd, F⟩ := M.said.def_ 5
  refine ⟨_, fd, ["self"], (def_pure (j := 2) F sc_Ratio_neg l_sNeg fun cdv A outer s H E hr => ⟨_, (pss_one (ps_ret (C8.pe_mk (mk_Ratio2 M) hr (by decide) (by rfl) (pa_cons (pe_un un_neg (pe_fldK (K := K) (pv 0) rfl)) (pa_cons (pe_fldK (K := K) (pv 0) rfl) pa_nil))))), ?_⟩), F.bindsN fun _ _ _ _ _ _ us hl => match us, hl with | [_], _ => rfl, (M.meth 94).at_, (M.meth 94).fn⟩
  try dsimp only [cx_K]
  intro b0 Z bs d h hret
  obtain ⟨p, rfl, hp, rfl⟩ := h
  refine gs_ret (ev_mkR2 ?_)
  walk_at "mpR"
  refine ⟨_, _, rfl, by have := p.den_pos; omega, ?_, ?_⟩
  · rw [Int.natAbs_natCast]
    exact Nat.lt_of_lt_of_le hp.2 (Nat.pow_le_pow_right (by omega) (by omega))
  rw [show Rat.divInt (-p.num) (p.den : Int) = -p from by rw [← Rat.neg_divInt, Rat.num_divInt_den]]
  exact hret _ fun _ _ h => h
theorem ops {P : Program} {w : World} {K : PySem.W.Frag} {mg : Str → Option Value} {base : Heap} (M : FX K mg) : Ops P w K mg base := ⟨o_Ratio_eq M, o_Ratio_add M, o_Ratio_sub M, o_Ratio_neg M⟩
/-- the law's promise -/
def sLaw : B → D → Prop := fun x d => ∃ ns : List Int, x = .dat (.ro (ns.map D.int)) ∧ d = .bl true
end MP
/-! MPEnd -/
/-! the end: the law's promise gives the statement -/
namespace MP
open PySem PySem.Spec PyProof.Rows L2
abbrev LawOk : Prop := ∀ {P : Program} {w : World} {K : PySem.W.Frag} {mg : Str → Option Value} {base : Heap}, FX K mg → ∀ {fd : FuncData}, FunD K d_law.name d_law.qual d_law.params d_law.body d_law.scope (d_law.dvs K) (d_law.kws K) (He.fAd K d_law.at_) fd →
  FnOk P w K mg base CX0 30 (He.fAd K d_law.at_) fd ["_law_script"] (spA K (pw (f1 sLaw)))
theorem reps_ints {K : PySem.W.Frag} {F : Hp} : ∀ ns : List Int, Reps K F (ns.map D.int) (ns.map V.int)
  | [] => .nil
  | _ :: ns => .cons rfl (reps_ints ns)
theorem law_sp {K : PySem.W.Frag} {H : Hp} {a : Addr} {ns : List Int} (hl : ns.length ≤ 63) (hb : ∀ z ∈ ns, Builtin.Int.intBits z ≤ 1048576) (hS : SqL K H a (ns.map V.int)) : spA K (pw (f1 sLaw)) [.ref a] H (fun v _ => v = .bl true) fun _ _ _ => False := by
  have em : mask H (fun _ => none) = H := by funext a; rfl
  refine ⟨[.dat (.ro (ns.map D.int))], fun _ => none, .dat (.bl true), fun _ => none, fun p c h => (by cases h), ?_, ⟨rfl, _, rfl, _, rfl, ns, rfl, rfl⟩, fun _ => rfl, fun v H' _ _ hv => hv⟩
  rw [em]
  exact .cons ⟨a, _, rfl, hS, reps_ints ns⟩ .nil
end MP
open PySem PySem.W PySem.Calls PyProof.Rows
theorem MP.holds_of (LO : MP.LawOk) : PySem.Challenge.rw_metricparts_k46_whole_papers_of_trees.Holds := by
  w_on; o_law
  refine HandSHeadRun.head_imp (r := OpenLaw.row PySem.Challenge.rw_metricparts_k46_whole_papers_of_trees) (q := view (OpenLaw.row PySem.Challenge.rw_metricparts_k46_whole_papers_of_trees).prog [0, MP.lawAt]) (H := MP.hk) (ob := MP.ob) (M := 8000) (loose := MP.names.drop 1) (d := HandSHeadRun.topDef (OpenLaw.row PySem.Challenge.rw_metricparts_k46_whole_papers_of_trees).prog MP.lawAt) (kwd := []) MP.ob_eq
    MP.run (by kernel_rfl) (by kernel_rfl) (by kernel_rfl) (by rfl) (by first | assumption | decide +kernel) (by decide +kernel) ⟨rfl, rfl, rfl, rfl, rfl, by decide +kernel⟩ ?hw ?hc
  case hw => w_witness2
  case hc =>
    refine Att.attach_callB (l := PySem.Challenge.rw_metricparts_k46_whole_papers_of_trees) (n := 63) rfl (by kernel_rfl) fun w s₀ s₁ mg mb fa o pm cd doc a vs ns G Y ho hd hcd hmg0 hobj hints hlen hbits hg => ?_
    obtain ⟨K, KX, said, ex⟩ := Y
    have M : MP.FX K mg := ⟨⟨_, KX, G.T.g⟩, said, ex⟩
    have hmg : mg ("law" : PySem.Str) = some (.ref fa) := by
      have e : (HandSHeadRun.topDef (OpenLaw.row PySem.Challenge.rw_metricparts_k46_whole_papers_of_trees).prog MP.lawAt).name = ("law" : PySem.Str) := by kernel_rfl
      rw [← e]
      exact hmg0
    obtain ⟨fd, F⟩ := M.said.def_ 69 (d := MP.d_law) rfl
    have efa : fa = He.fAd K MP.d_law.at_ := by
      have e := hmg.symm.trans (M.glo 60)
      cases e
      rfl
    subst efa
    have b := L2.FunD.bindsA (ps := ["_law_script"]) F fun _ _ _ _ _ _ us hl => match us, hl with | [_], _ => rfl
    exact L2.law_call (x := "_law_script") KX G.T.g G.T.b G.T.builtins G.T.nolimit hg hobj hints (Nat.le_trans hlen (by decide)) (k := 30) ⟨by decide, by decide, by decide⟩ (fun base _ _ => LO M F) (fun s v => b s [v] rfl) (fun H _ hS => MP.law_sp hlen hbits hS) fun H e s' z => z
/-! MPN -/
set_option exponentiation.threshold 10000
/-! Ratio's other methods, the module's small defs -/
namespace MP
open PySem PySem.Spec PyProof.Rows L2

def isI : D → Bool
  | .int _ => true
  | _ => false
theorem isI_eq (d : D) : (isT "int" d && !isT "bool" d) = isI d := by
  cases d <;> simp [isT, isI] <;> decide
theorem num_neg' {p : Rat} : p.num < 0 ↔ p < 0 := by
  have := @Rat.num_nonneg p
  rw [← Int.not_le, ← Rat.not_le, this]
def rabs (p : Rat) : Rat := if p < 0 then -p else p
theorem num_sgn (p : Rat) : (if decide (0 < p.num) = true then (1 : Int) else 0) - (if decide (p.num < 0) = true then 1 else 0) = p.num.sign := by
  rcases Int.lt_trichotomy p.num 0 with h | h | h
  · rw [Int.sign_eq_neg_one_of_neg h]; simp [h]; omega
  · simp [h]
  · rw [Int.sign_eq_one_of_pos h]; simp [h]; omega
theorem abs_eq (p : Rat) : Rat.divInt (if p.num < 0 then -p.num else p.num) (p.den : Int) = rabs p := by
  unfold rabs
  by_cases h : p.num < 0
  · rw [if_pos h, if_pos (num_neg'.mp h), ← Rat.neg_divInt, Rat.num_divInt_den]
  · rw [if_neg h, if_neg (fun e => h (num_neg'.mpr e)), Rat.num_divInt_den]
theorem half_eq (p : Rat) : Rat.divInt p.num (2 * (p.den : Int)) = p / 2 := by
  rw [Rat.divInt_eq_div]
  have : p = (p.num : Rat) / (p.den : Int) := by rw [← Rat.divInt_eq_div, Rat.num_divInt_den]
  grind
theorem wee_den {p : Rat} (hp : Wee p) : (p.den : Int) ≠ 0 ∧ (p.den : Int).natAbs < 2 ^ 8000 := by
  refine ⟨by have := p.den_pos; omega, ?_⟩
  rw [Int.natAbs_natCast]
  exact Nat.lt_of_lt_of_le hp.2 (Nat.pow_le_pow_right (by omega) (by omega))

def sIsI : B → D → Prop := fun x d => ∃ e, x = .dat e ∧ okD e ∧ d = .bl (isI e)
theorem sc_is_integer : FnScope ["value"] ["value"] (defScope s_is_integer) := ⟨rfl, rfl, rfl, by decide +kernel, rfl, by decide +kernel, by decide +kernel⟩
theorem c_is_integer {P : Program} {w : World} {K : PySem.W.Frag} {mg : Str → Option Value} {base : Heap} (M : FX K mg) : C8.Cal P w K mg base 1 "is_integer" (spA K (pw (f1 sIsI))) [] := by
  obtain ⟨fd, F⟩ := M.said.def_ 0
  refine ⟨_, fd, ["value"], [], (def_pure (j := 0) F sc_is_integer f1_len fun cdv A outer s H E hr => ⟨_, (pss_one (ps_ret (pe_and (pe_callB (call_isiK' (K := K)) (by rfl) (M.free 63) (by decide +kernel) (pa_cons (pv 0) (pa_cons (pe_bltn (v := .ty "int") rfl (M.free 64) (by decide +kernel) rfl) pa_nil))) (pe_one (pe_not (pe_callB (call_isiK' (K := K)) (by rfl) (M.free 63) (by decide +kernel) (pa_cons (pv 0) (pa_cons (pe_bltn (v := .ty "bool") rfl (M.free 65) (by decide +kernel) rfl) pa_nil)))))))), ?_⟩), M.glo 0, F.kp, F.bindsN fun _ _ _ _ _ _ us hl => match us, hl with | [_], _ => rfl, .nil⟩
  try dsimp only [cx_K]
  intro b0 Z bs d h hret
  obtain ⟨_, rfl, e, rfl, ho, rfl⟩ := h
  walk_at "mpR"
  rw [← isI_eq] at hret
  refine ⟨fun hc => ?_, fun hc => ?_⟩
  · walk_at "mpR"
    rw [hc] at hret
    exact hret _ fun _ _ h => h
  · rw [hc] at hret
    exact hret _ fun _ _ h => h
def sZero : B → D → Prop := fun x d => ∃ p : Rat, x = .dat (.rat p) ∧ d = .bl (decide (p = 0))
theorem sc_Ratio_is_zero : FnScope ["self"] ["self"] (defScope s_Ratio_is_zero) := ⟨rfl, rfl, rfl, by decide +kernel, rfl, by decide +kernel, by decide +kernel⟩
theorem c_Ratio_is_zero {P : Program} {w : World} {K : PySem.W.Frag} {mg : Str → Option Value} {base : Heap} (M : FX K mg) : C8.Met P w K mg base 1 (He.ga K "Ratio") "is_zero" (spA K (pw (f1 sZero))) [] := by
  obtain ⟨fd, F⟩ := M.said.def_ 6
  refine ⟨_, fd, ["self"], [], M.cls 73, M.meth 87, (def_pure (j := 0) F sc_Ratio_is_zero f1_len fun cdv A outer s H E hr => ⟨_, (pss_one (ps_ret (pe_cmpR op_eq (pe_fldK (K := K) (pv 0) rfl) pe_int (nomark _)))), ?_⟩), F.bindsN fun _ _ _ _ _ _ us hl => match us, hl with | [_], _ => rfl, .nil⟩
  try dsimp only [cx_K]
  intro b0 Z bs d h hret
  obtain ⟨_, rfl, p, rfl, rfl⟩ := h
  walk_at "mpR"
  rw [show decide (p.num = 0) = decide (p = 0) from decide_eq_decide.mpr Rat.num_eq_zero]
  exact hret _ fun _ _ h => h
def sSign : B → D → Prop := fun x d => ∃ p : Rat, x = .dat (.rat p) ∧ d = .int p.num.sign
theorem sc_Ratio_sign : FnScope ["self"] ["self"] (defScope s_Ratio_sign) := ⟨rfl, rfl, rfl, by decide +kernel, rfl, by decide +kernel, by decide +kernel⟩
theorem c_Ratio_sign {P : Program} {w : World} {K : PySem.W.Frag} {mg : Str → Option Value} {base : Heap} (M : FX K mg) : C8.Met P w K mg base 1 (He.ga K "Ratio") "sign" (spA K (pw (f1 sSign))) [] := by
  obtain ⟨fd, F⟩ := M.said.def_ 7
  refine ⟨_, fd, ["self"], [], M.cls 73, M.meth 88, (def_pure (j := 0) F sc_Ratio_sign f1_len fun cdv A outer s H E hr => ⟨_, (pss_one (ps_ret (pe_op op_sub (pe_callTy (T := "int") call_int1 (by rfl) (M.free 64) (by decide +kernel) (pa_cons (pe_cmpR op_gt (pe_fldK (K := K) (pv 0) rfl) pe_int (nomark _)) pa_nil)) (pe_callTy (T := "int") call_int1 (by rfl) (M.free 64) (by decide +kernel) (pa_cons (pe_cmpR op_lt (pe_fldK (K := K) (pv 0) rfl) pe_int (nomark _)) pa_nil))))), ?_⟩), F.bindsN fun _ _ _ _ _ _ us hl => match us, hl with | [_], _ => rfl, .nil⟩
  try dsimp only [cx_K]
  intro b0 Z bs d h hret
  obtain ⟨_, rfl, p, rfl, rfl⟩ := h
  walk_at "mpR"
  rw [num_sgn]
  exact hret _ fun _ _ h => h
def sAbs : B → D → Prop := fun x d => ∃ p : Rat, x = .dat (.rat p) ∧ Wee p ∧ d = .rat (rabs p)
theorem sc_Ratio_absolute : FnScope ["self"] ["self"] (defScope s_Ratio_absolute) := ⟨rfl, rfl, rfl, by decide +kernel, rfl, by decide +kernel, by decide +kernel⟩
theorem c_Ratio_absolute {P : Program} {w : World} {K : PySem.W.Frag} {mg : Str → Option Value} {base : Heap} (M : FX K mg) : C8.Met P w K mg base 3 (He.ga K "Ratio") "absolute" (spA K (pw (f1 sAbs))) [] := by
  obtain ⟨fd, F⟩ := M.said.def_ 8
  refine ⟨_, fd, ["self"], [], M.cls 73, M.meth 89, (def_pure (j := 2) F sc_Ratio_absolute f1_len fun cdv A outer s H E hr => ⟨_, (pss_one (ps_ret (C8.pe_mk (mk_Ratio2 M) hr (by decide) (by rfl) (pa_cons (pe_callB call_abs (by rfl) (M.free 68) (by decide +kernel) (pa_cons (pe_fldK (K := K) (pv 0) rfl) pa_nil)) (pa_cons (pe_fldK (K := K) (pv 0) rfl) pa_nil))))), ?_⟩), F.bindsN fun _ _ _ _ _ _ us hl => match us, hl with | [_], _ => rfl, .nil⟩
  try dsimp only [cx_K]
  intro b0 Z bs d h hret
  obtain ⟨_, rfl, p, rfl, hp, rfl⟩ := h
  refine gs_ret (ev_mkR2 ?_)
  walk_at "mpR"
  refine ⟨_, _, rfl, (wee_den hp).1, (wee_den hp).2, ?_⟩
  rw [abs_eq]
  exact hret _ fun _ _ h => h
def sHalf : B → D → Prop := fun x d => ∃ p : Rat, x = .dat (.rat p) ∧ Wee p ∧ d = .rat (p / 2)
theorem sc_Ratio_half : FnScope ["self"] ["self"] (defScope s_Ratio_half) := ⟨rfl, rfl, rfl, by decide +kernel, rfl, by decide +kernel, by decide +kernel⟩
theorem c_Ratio_half {P : Program} {w : World} {K : PySem.W.Frag} {mg : Str → Option Value} {base : Heap} (M : FX K mg) : C8.Met P w K mg base 3 (He.ga K "Ratio") "half" (spA K (pw (f1 sHalf))) [] := by
  obtain ⟨fd, F⟩ := M.said.def_ 9
  refine ⟨_, fd, ["self"], [], M.cls 73, M.meth 90, (def_pure (j := 2) F sc_Ratio_half f1_len fun cdv A outer s H E hr => ⟨_, (pss_one (ps_ret (C8.pe_mk (mk_Ratio2 M) hr (by decide) (by rfl) (pa_cons (pe_fldK (K := K) (pv 0) rfl) (pa_cons (pe_op op_mulI pe_int (pe_fldK (K := K) (pv 0) rfl)) pa_nil))))), ?_⟩), F.bindsN fun _ _ _ _ _ _ us hl => match us, hl with | [_], _ => rfl, .nil⟩
  try dsimp only [cx_K]
  intro b0 Z bs d h hret
  obtain ⟨_, rfl, p, rfl, hp, rfl⟩ := h
  have m1 : IntMulOk 2 (p.den : Int) := mul_ok (a := 2) (b := 3000) (by decide) (by rw [Int.natAbs_natCast]; exact hp.2) (by omega)
  refine gs_ret (ev_mkR2 ?_)
  walk_at "mpR"
  refine ⟨_, _, rfl, by have := p.den_pos; omega, ?_, ?_⟩
  · rw [Int.natAbs_mul, Int.natAbs_natCast]
    refine Nat.lt_of_lt_of_le (Nat.mul_lt_mul_of_lt_of_lt (show (2 : Int).natAbs < 2 ^ 2 by decide) hp.2) ?_
    rw [← Nat.pow_add]
    exact Nat.pow_le_pow_right (by omega) (by omega)
  rw [half_eq]
  exact hret _ fun _ _ h => h
def sLess : B → B → D → Prop := fun x y d => ∃ p q : Rat, x = .dat (.rat p) ∧ y = .dat (.rat q) ∧ Wee p ∧ Wee q ∧ d = .bl (decide (p < q))
theorem sc_less : FnScope ["a", "b"] ["a", "b"] (defScope s_less) := ⟨rfl, rfl, rfl, by decide +kernel, rfl, by decide +kernel, by decide +kernel⟩
theorem c_less {P : Program} {w : World} {K : PySem.W.Frag} {mg : Str → Option Value} {base : Heap} (M : FX K mg) : C8.Cal P w K mg base 1 "less" (spA K (pw (f2 sLess))) [] := by
  obtain ⟨fd, F⟩ := M.said.def_ 10
  refine ⟨_, fd, ["a", "b"], [], (def_pure (j := 0) F sc_less f2_len fun cdv A outer s H E hr => ⟨_, (pss_one (ps_ret (pe_cmpR op_lt (pe_op op_mulI (pe_fldK (K := K) (pv 0) rfl) (pe_fldK (K := K) (pv 1) rfl)) (pe_op op_mulI (pe_fldK (K := K) (pv 1) rfl) (pe_fldK (K := K) (pv 0) rfl)) (nomark _)))), ?_⟩), M.glo 2, F.kp, F.bindsN fun _ _ _ _ _ _ us hl => match us, hl with | [_, _], _ => rfl, .nil⟩
  try dsimp only [cx_K]
  intro b0 Z bs d h hret
  obtain ⟨_, _, rfl, p, q, rfl, rfl, hp, hq, rfl⟩ := h
  obtain ⟨m1, m2⟩ := wee_mul hp hq
  obtain ⟨m3, m4⟩ := wee_mul hq hp
  walk_at "mpR"
  rw [show decide (p.num * (q.den : Int) < q.num * (p.den : Int)) = decide (p < q) from decide_eq_decide.mpr (Rat.lt_iff p q).symm]
  exact hret _ fun _ _ h => h
def isQ : D → Bool
  | .int _ => true
  | .rat _ => true
  | _ => false
def sIsQ : B → D → Prop := fun x d => ∃ e, x = .dat e ∧ okD e ∧ d = .bl (isQ e)
theorem sc_is_rational : FnScope ["value"] ["value"] (defScope s_is_rational) := ⟨rfl, rfl, rfl, by decide +kernel, rfl, by decide +kernel, by decide +kernel⟩
theorem c_is_rational {P : Program} {w : World} {K : PySem.W.Frag} {mg : Str → Option Value} {base : Heap} (M : FX K mg) : C8.Cal P w K mg base 2 "is_rational" (spA K (pw (f1 sIsQ))) [] := by
  obtain ⟨fd, F⟩ := M.said.def_ 11
  refine ⟨_, fd, ["value"], [], (def_pure (j := 1) F sc_is_rational f1_len fun cdv A outer s H E hr => ⟨_, (pss_one (ps_ret (pe_or (pe_callB (call_isiK' (K := K)) (by rfl) (M.free 63) (by decide +kernel) (pa_cons (pv 0) (pa_cons (pe_glob (v := .ref (He.ga K "Ratio")) rfl (M.glo 1) rfl) pa_nil))) (pe_one (C8.pe_c (c_is_integer M) hr (by decide) (by rfl) (pa_cons (pv 0) pa_nil)))))), ?_⟩), M.glo 3, F.kp, F.bindsN fun _ _ _ _ _ _ us hl => match us, hl with | [_], _ => rfl, .nil⟩
  try dsimp only [cx_K]
  intro b0 Z bs d h hret
  obtain ⟨_, rfl, e, rfl, ho, rfl⟩ := h
  walk_at "mpR"
  refine ⟨fun hc => ?_, fun hc => ?_⟩
  · refine ev_callP ?_
    walk_at "mpR"
    refine ⟨_, ⟨_, rfl, e, rfl, ho, rfl⟩, ?_⟩
    rw [show isI e = isQ e from by cases e <;> first | rfl | cases hc]
    exact hret _ fun _ _ h => h
  · rw [show true = isQ e from by cases e <;> first | rfl | cases hc]
    exact hret _ fun _ _ h => h
def toQ : D → Rat
  | .int i => i
  | .rat q => q
  | _ => 0
def sAsQ : B → D → Prop := fun x d => ∃ e, x = .dat e ∧ isQ e = true ∧ d = .rat (toQ e)
theorem sc_as_ratio : FnScope ["value"] ["value"] (defScope s_as_ratio) := ⟨rfl, rfl, rfl, by decide +kernel, rfl, by decide +kernel, by decide +kernel⟩
theorem c_as_ratio {P : Program} {w : World} {K : PySem.W.Frag} {mg : Str → Option Value} {base : Heap} (M : FX K mg) : C8.Cal P w K mg base 3 "as_ratio" (spA K (pw (f1 sAsQ))) [] := by
  obtain ⟨fd, F⟩ := M.said.def_ 12
  refine ⟨_, fd, ["value"], [], (def_pure (j := 2) F sc_as_ratio f1_len fun cdv A outer s H E hr => ⟨_, (pss_cons (ps_if (pt_val (pe_callB (call_isiK' (K := K)) (by rfl) (M.free 63) (by decide +kernel) (pa_cons (pv 0) (pa_cons (pe_glob (v := .ref (He.ga K "Ratio")) rfl (M.glo 1) rfl) pa_nil))))
      (pss_one (ps_ret (pv 0)))
      pss_nil)
      (pss_cons (ps_if (pt_not (pt_val (C8.pe_c (c_is_integer M) hr (by decide) (by rfl) (pa_cons (pv 0) pa_nil))))
        (pss_one ps_never)
        pss_nil)
        (pss_one (ps_ret (C8.pe_mk (mk_Ratio1 M) hr (by decide) (by rfl) (pa_cons (pv 0) pa_nil)))))), ?_⟩), M.glo 4, F.kp, F.bindsN fun _ _ _ _ _ _ us hl => match us, hl with | [_], _ => rfl, .nil⟩
  try dsimp only [cx_K]
  intro b0 Z bs d h hret
  obtain ⟨_, rfl, e, rfl, hq, rfl⟩ := h
  cases e with
  | rat q =>
    walk_at "mpR"
    refine ⟨fun _ => ?_, fun hc => by cases hc⟩
    walk_at "mpR"
    exact hret _ fun _ _ h => h
  | int i =>
    walk_at "mpR"
    refine ⟨fun hc => (by cases hc), fun _ => ?_⟩
    walk_at "mpR"
    refine ⟨_, ⟨_, rfl, .int i, rfl, trivial, rfl⟩, _, rfl, ⟨fun hc => (by cases hc), fun _ => ?_⟩⟩
    walk_at "mpR"
    refine ev_mkR1 ?_
    walk_at "mpR"
    exact hret _ fun _ _ h => h
  | _ => cases hq
def gmax (q : Rat) (qs : List Rat) : Rat := qs.foldl (fun f x => if f < x then x else f) q
theorem gmax_mem {q : Rat} {qs : List Rat} : gmax q qs = q ∨ gmax q qs ∈ qs := by
  induction qs generalizing q with
  | nil => exact .inl rfl
  | cons x qs ih =>
    show gmax (if q < x then x else q) qs = q ∨ gmax (if q < x then x else q) qs ∈ x :: qs
    rcases ih (q := if q < x then x else q) with h | h
    · rw [h]
      split
      · exact .inr (List.mem_cons_self ..)
      · exact .inl rfl
    · exact .inr (List.mem_cons_of_mem _ h)
end MP
/-! MPQ -/
set_option exponentiation.threshold 10000
/-! defs of several answers; lists or tuples; freezing at return -/
namespace MP
open PySem PySem.Spec PyProof.Rows L2

/-! ### promises of several answers -/
def spN (K : PySem.W.Frag) {ι : Type} (Pre : ι → List B → Ms → Prop) (Post : ι → List B → Ms → B → Ms → Prop) : Sp := fun vs H Q _ => ∃ (i : ι) (bs : List B) (m : Ms), Conts K m H ∧ RepBs K (mask H m) bs vs ∧ Pre i bs m ∧ ∀ b m', Post i bs m b m' → (∀ p, (m' p).isSome = (m p).isSome) ∧ Dn K H m b m' Q
section
variable {P : Program} {w : World} {K : PySem.W.Frag} {mg : Str → Option Value} {base : Heap} {b0 : Ba} {a : AS} {te ta tb tc : TE} {k : B → AS → Prop} {Z : Ends} {t u : TS}
variable {x qual : Str} {params : Arguments} {body : List Stmt} {scope : Scope} {dvs : List V} {kws : List (Str × V)} {f : Addr} {fd : FuncData} {N ps : List Str} {j : Nat}
theorem def_non {ι : Type} {Pre : ι → List B → Ms → Prop} {Post : ι → List B → Ms → B → Ms → Prop} (F : FunD K x qual params body scope dvs kws f fd) (S : FnScope N ps scope) (len : ∀ i bs m, Pre i bs m → bs.length = ps.length)
    (hbody : ∀ (cdv : Value) (A : Around) (outer : List Env) (s : Shared) (H : Hp) (E : XK), Room j (A.deeper (envOfC qual scope s.heap.objs.size f cdv)) →
      ∃ t, PSs (cxOf CX0 P w K mg base N qual scope f cdv A outer s H E).nox body t ∧ ∀ (b0 : Ba) (Z : Ends) (i : ι) (bs : List B), Pre i bs b0.mem → (∀ b m', Post i bs b0.mem b m' → RetE K b0 Z b m') → GS K b0 t Z ⟨startA N bs, b0.mem⟩) : FnOk P w K mg base CX0 (j + 1) f fd ps (spN K Pre Post) := by
  refine F.ok S (fun vs H Q E h => ?_) (fun cdv A outer s H vs Q E hr h => ?_)
  · obtain ⟨i, bs, m, _, hr, h1, _⟩ := h
    rw [← Pd.len hr]
    exact len i bs m h1
  · obtain ⟨i, bs, m, hc, hrb, h1, hf⟩ := h
    obtain ⟨t, h2, h3⟩ := hbody cdv A outer s H E hr
    refine ⟨t, h2.nox, h3 ⟨H, m, []⟩ _ i bs h1 (fun b m' hp a ha => ⟨rt_fin (hf b m' hp).2 (hf b m' hp).1 ha, fun e σ H' R' => ?_⟩) _ _ (rel_start hc hrb)⟩
    subst e
    exact rt_fin (b0 := ⟨H, m, []⟩) (hf _ m' hp).2 (hf _ m' hp).1 ha σ H' .non R' rfl
theorem run_spN {ι : Type} {Pre : ι → List B → Ms → Prop} {Post : ι → List B → Ms → B → Ms → Prop} {bs : List B} {vs : List V} {σ : L2.St} {H : Hp} {E : XK} {Q : VK} (h : ∃ i, Pre i bs a.mem ∧ ∀ b m', Post i bs a.mem b m' → (∀ p, (m' p).isSome = (a.mem p).isSome) ∧ k b (a.at m')) (R1 : Rel K b0 a σ H) (r : RepBs K (mask H a.mem) bs vs)
    (q : ∀ (v : V) (H' : Hp) (b : B) (a' : AS), k b a' → Rel K b0 a' σ H' → Ex (mask H a.mem) (mask H' a'.mem) → RepB K (mask H' a'.mem) b v → Q v H') : spN K Pre Post vs H Q E := by
  obtain ⟨i, h⟩ := h
  refine ⟨i, bs, a.mem, R1.cont, r, h.1, fun b m' hp => ⟨(h.2 b m' hp).1, ?_⟩⟩
  obtain ⟨h2, h3⟩ := h.2 b m' hp
  have key : spA K (fun bs' m1 b1 m2 => bs' = bs ∧ m1 = a.mem ∧ b1 = b ∧ m2 = m') vs H Q E := run_sp (k := k) ⟨b, m', ⟨rfl, rfl, rfl, rfl⟩, h2, h3⟩ R1 r q
  obtain ⟨bs', m1, b1, m2, _, _, ⟨rfl, rfl, rfl, rfl⟩, _, hd⟩ := key
  exact hd
theorem ev_callN {ι : Type} {Pre : ι → List B → Ms → Prop} {Post : ι → List B → Ms → B → Ms → Prop} {E : XK} {tas : TA} (h : EA K b0 tas a fun bs a1 => ∃ i, Pre i bs a1.mem ∧ ∀ b m', Post i bs a1.mem b m' → (∀ p, (m' p).isSome = (a1.mem p).isSome) ∧ k b (a1.at m')) : EV K b0 (tCall (spN K Pre Post) [] E tas) a k := fun σ H Q R0 q =>
  h σ H _ R0 fun vs H1 bs a1 h1 R1 e1 r1 => run_spN h1 R1 (by rw [List.append_nil]; exact r1) fun v H' b a' hk R' e' r' => q v H' b a' hk R' (e1.trans e') r'
/-- .. that change nothing and hand back data -/
def pnA {ι : Type} (pre : ι → List B → Prop) : ι → List B → Ms → Prop := fun i bs _ => pre i bs
def pnB {ι : Type} (post : ι → D → Prop) : ι → List B → Ms → B → Ms → Prop := fun i bs m b m' => m' = m ∧ ∃ d, b = .dat d ∧ post i d
abbrev spP (K : PySem.W.Frag) {ι : Type} (pre : ι → List B → Prop) (post : ι → D → Prop) : Sp := spN K (pnA pre) (pnB post)
theorem def_pn {ι : Type} {pre : ι → List B → Prop} {post : ι → D → Prop} (F : FunD K x qual params body scope dvs kws f fd) (S : FnScope N ps scope) (len : ∀ i bs, pre i bs → bs.length = ps.length)
    (hbody : ∀ (cdv : Value) (A : Around) (outer : List Env) (s : Shared) (H : Hp) (E : XK), Room j (A.deeper (envOfC qual scope s.heap.objs.size f cdv)) →
      ∃ t, PSs (cxOf CX0 P w K mg base N qual scope f cdv A outer s H E).nox body t ∧ ∀ (b0 : Ba) (Z : Ends) (i : ι) (bs : List B), pre i bs → (∀ d, post i d → Ret K b0 Z d) → GS K b0 t Z ⟨startA N bs, b0.mem⟩) : FnOk P w K mg base CX0 (j + 1) f fd ps (spP K pre post) := by
  refine def_non F S (fun i bs m h => len i bs h) fun cdv A outer s H E hr => ?_
  obtain ⟨t, h1, h2⟩ := hbody cdv A outer s H E hr
  refine ⟨t, h1, fun b0 Z i bs h3 h4 => h2 b0 Z i bs h3 fun d hd a ha => (h4 (.dat d) b0.mem ⟨rfl, d, rfl, hd⟩ a fun p hp => ?_).1⟩
  cases q : b0.mem p with
  | none => rw [q] at hp; cases hp
  | some c => exact (ha p c q).symm
theorem ev_callPn {ι : Type} {pre : ι → List B → Prop} {post : ι → D → Prop} {E : XK} {tas : TA} (h : EA K b0 tas a fun bs a1 => ∃ i, pre i bs ∧ ∀ d, post i d → k (.dat d) a1) : EV K b0 (tCall (spP K pre post) [] E tas) a k :=
  ev_callN fun σ H Q R q => h σ H Q R fun vs H1 bs a1 ⟨i, h1, h2⟩ R1 e1 r1 => q vs H1 bs a1 ⟨i, h1, fun b m' ⟨e, d, e2, h3⟩ => by
    subst e e2
    exact ⟨fun _ => rfl, h2 d h3⟩⟩ R1 e1 r1
theorem gg_tup2 {gs : TGs} {x y : D} {kg : AS → Prop} (h : GGs K b0 gs [.dat x, .dat y] a kg) : GG K b0 (gTup K 2 gs) (.dat (.tup [x, y])) a kg := gg_tup rfl h
theorem gg_tup3 {gs : TGs} {x y z : D} {kg : AS → Prop} (h : GGs K b0 gs [.dat x, .dat y, .dat z] a kg) : GG K b0 (gTup K 3 gs) (.dat (.tup [x, y, z])) a kg := gg_tup rfl h
theorem gg_tup4 {gs : TGs} {x y z u : D} {kg : AS → Prop} (h : GGs K b0 gs [.dat x, .dat y, .dat z, .dat u] a kg) : GG K b0 (gTup K 4 gs) (.dat (.tup [x, y, z, u])) a kg := gg_tup rfl h
/-- for i in range(n), n not below 0 -/
theorem gs_forN1 {tas : TA} {g : TG} (h : EA K b0 tas a fun bs a1 => ∃ n : Nat, bs = [.dat (.int (n : Int))] ∧ n ≤ 100000 ∧ ∃ I : Nat → AS → Prop, I 0 a1 ∧
    (∀ i a2, i < n → I i a2 → GG K b0 g (.dat (.int (i : Int))) a2 fun a3 => GS K b0 t (loopEnds K b0 Z (I (i + 1))) a3) ∧ (∀ a2, I n a2 → NX K b0 Z.nx a2)) : GS K b0 (tFor (iRng1 tas) g t) Z a :=
  gs_for1 fun σ H Q R q => h σ H Q R fun vs H1 bs a1 ⟨n, e, hn, I, h0, hs, hd⟩ R1 e1 r1 => q vs H1 bs a1 ⟨n, e, by omega, by omega, I, h0, fun i a2 hi => hs i a2 (by omega), fun a2 h2 => hd a2 (by simpa using h2)⟩ R1 e1 r1
/-- for i in range(lo, hi), lo not above hi -/
theorem gs_forN2 {tas : TA} {g : TG} (h : EA K b0 tas a fun bs a1 => ∃ lo hi : Nat, bs = [.dat (.int (lo : Int)), .dat (.int (hi : Int))] ∧ (lo ≤ hi ∧ hi ≤ 100000) ∧ ∃ I : Nat → AS → Prop, I lo a1 ∧
    (∀ i a2, lo ≤ i → i < hi → I i a2 → GG K b0 g (.dat (.int (i : Int))) a2 fun a3 => GS K b0 t (loopEnds K b0 Z (I (i + 1))) a3) ∧ (∀ a2, I hi a2 → NX K b0 Z.nx a2)) : GS K b0 (tFor (iRng2 tas) g t) Z a :=
  gs_for2 fun σ H Q R q => h σ H Q R fun vs H1 bs a1 ⟨lo, hi, e, hn, I, h0, hs, hd⟩ R1 e1 r1 => q vs H1 bs a1 ⟨lo, hi, e, ⟨by omega, by omega, by omega, by omega⟩, fun i => I (lo + i), h0, fun i a2 hi' h2 => by
    have := hs (lo + i) a2 (by omega) (by omega) h2
    rw [Int.natCast_add] at this
    exact this, fun a2 h2 => hd a2 (by
    have e : lo + ((hi : Int) - (lo : Int)).toNat = hi := by omega
    have h3 : I (lo + ((hi : Int) - (lo : Int)).toNat) a2 := h2
    rw [e] at h3
    exact h3)⟩ R1 e1 r1
theorem ev_lcN1 {tas : TA} {tt : TT} {j : Nat} {vs : List Nat} (h : j ∈ vs ∧ EA K b0 tas a fun bs a1 => ∃ n : Nat, bs = [.dat (.int (n : Int))] ∧ n ≤ 100000 ∧ Turns K b0 tt te vs j n (fun i => .dat (.int (i : Int))) a1 k) :
    EV K b0 (tLc (iRng1 tas) (gName j) tt te vs) a k := ev_lcR h.1 fun σ H Q R q => h.2 σ H Q R fun us H1 bs a1 ⟨n, e, hn, T⟩ R1 e1 r1 => q us H1 bs a1 ⟨n, e, by omega, by omega, T⟩ R1 e1 r1
theorem ev_lcN2 {tas : TA} {tt : TT} {j : Nat} {vs : List Nat} (h : j ∈ vs ∧ EA K b0 tas a fun bs a1 => ∃ lo hi : Nat, bs = [.dat (.int (lo : Int)), .dat (.int (hi : Int))] ∧ (lo ≤ hi ∧ hi ≤ 100000) ∧ Turns K b0 tt te vs j (hi - lo) (fun i => .dat (.int ((lo + i : Nat) : Int))) a1 k) :
    EV K b0 (tLc (iRng2 tas) (gName j) tt te vs) a k := ev_lcR2 h.1 fun σ H Q R q => h.2 σ H Q R fun us H1 bs a1 ⟨lo, hi, e, hn, T⟩ R1 e1 r1 => q us H1 bs a1 ⟨lo, hi, e, ⟨by omega, by omega, by omega, by omega⟩, by
    have e1 : ((hi : Int) - (lo : Int)).toNat = hi - lo := by omega
    have e2 : (fun i : Nat => B.dat (.int ((lo : Int) + (i : Int)))) = fun i : Nat => B.dat (.int ((lo + i : Nat) : Int)) := by funext i; rw [Int.natCast_add]
    rw [e1, e2]
    exact T⟩ R1 e1 r1
theorem EV.mono {k' : B → AS → Prop} (h : EV K b0 te a k) (e : ∀ b a', k b a' → k' b a') : EV K b0 te a k' := fun σ H Q R q => h σ H Q R fun v H1 b a1 h1 => q v H1 b a1 (e b a1 h1)
theorem ev_tup0 (h : k (.dat (.tup [])) a) : EV K b0 (tTup tNil) a k := ev_tup (ea_nil ⟨[], rfl, by simp, h⟩)
theorem ev_tup1 {t0 : TE} (h : EV K b0 t0 a fun x0 a1 => ∃ d0, x0 = .dat d0 ∧ k (.dat (.tup [d0])) a1) : EV K b0 (tTup (tCons t0 tNil)) a k := ev_tup (ea_cons (EV.mono h fun x0 a1 ⟨d0, e0, h⟩ => e0 ▸ ea_nil ⟨[d0], rfl, by simp, h⟩))
theorem ev_tup2 {t0 t1 : TE} (h : EV K b0 t0 a fun x0 a1 => ∃ d0, x0 = .dat d0 ∧ EV K b0 t1 a1 fun x1 a2 => ∃ d1, x1 = .dat d1 ∧ k (.dat (.tup [d0, d1])) a2) : EV K b0 (tTup (tCons t0 (tCons t1 tNil))) a k := ev_tup (ea_cons (EV.mono h fun x0 a1 ⟨d0, e0, h⟩ => e0 ▸ ea_cons (EV.mono h fun x1 a2 ⟨d1, e1, h⟩ => e1 ▸ ea_nil ⟨[d0, d1], rfl, by simp, h⟩)))
theorem ev_tup3 {t0 t1 t2 : TE} (h : EV K b0 t0 a fun x0 a1 => ∃ d0, x0 = .dat d0 ∧ EV K b0 t1 a1 fun x1 a2 => ∃ d1, x1 = .dat d1 ∧ EV K b0 t2 a2 fun x2 a3 => ∃ d2, x2 = .dat d2 ∧ k (.dat (.tup [d0, d1, d2])) a3) : EV K b0 (tTup (tCons t0 (tCons t1 (tCons t2 tNil)))) a k := ev_tup (ea_cons (EV.mono h fun x0 a1 ⟨d0, e0, h⟩ => e0 ▸ ea_cons (EV.mono h fun x1 a2 ⟨d1, e1, h⟩ => e1 ▸ ea_cons (EV.mono h fun x2 a3 ⟨d2, e2, h⟩ => e2 ▸ ea_nil ⟨[d0, d1, d2], rfl, by simp, h⟩))))
theorem ev_tup4 {t0 t1 t2 t3 : TE} (h : EV K b0 t0 a fun x0 a1 => ∃ d0, x0 = .dat d0 ∧ EV K b0 t1 a1 fun x1 a2 => ∃ d1, x1 = .dat d1 ∧ EV K b0 t2 a2 fun x2 a3 => ∃ d2, x2 = .dat d2 ∧ EV K b0 t3 a3 fun x3 a4 => ∃ d3, x3 = .dat d3 ∧ k (.dat (.tup [d0, d1, d2, d3])) a4) : EV K b0 (tTup (tCons t0 (tCons t1 (tCons t2 (tCons t3 tNil))))) a k := ev_tup (ea_cons (EV.mono h fun x0 a1 ⟨d0, e0, h⟩ => e0 ▸ ea_cons (EV.mono h fun x1 a2 ⟨d1, e1, h⟩ => e1 ▸ ea_cons (EV.mono h fun x2 a3 ⟨d2, e2, h⟩ => e2 ▸ ea_cons (EV.mono h fun x3 a4 ⟨d3, e3, h⟩ => e3 ▸ ea_nil ⟨[d0, d1, d2, d3], rfl, by simp, h⟩)))))
theorem ev_tup5 {t0 t1 t2 t3 t4 : TE} (h : EV K b0 t0 a fun x0 a1 => ∃ d0, x0 = .dat d0 ∧ EV K b0 t1 a1 fun x1 a2 => ∃ d1, x1 = .dat d1 ∧ EV K b0 t2 a2 fun x2 a3 => ∃ d2, x2 = .dat d2 ∧ EV K b0 t3 a3 fun x3 a4 => ∃ d3, x3 = .dat d3 ∧ EV K b0 t4 a4 fun x4 a5 => ∃ d4, x4 = .dat d4 ∧ k (.dat (.tup [d0, d1, d2, d3, d4])) a5) : EV K b0 (tTup (tCons t0 (tCons t1 (tCons t2 (tCons t3 (tCons t4 tNil)))))) a k := ev_tup (ea_cons (EV.mono h fun x0 a1 ⟨d0, e0, h⟩ => e0 ▸ ea_cons (EV.mono h fun x1 a2 ⟨d1, e1, h⟩ => e1 ▸ ea_cons (EV.mono h fun x2 a3 ⟨d2, e2, h⟩ => e2 ▸ ea_cons (EV.mono h fun x3 a4 ⟨d3, e3, h⟩ => e3 ▸ ea_cons (EV.mono h fun x4 a5 ⟨d4, e4, h⟩ => e4 ▸ ea_nil ⟨[d0, d1, d2, d3, d4], rfl, by simp, h⟩))))))
theorem ev_lst0 (h : k (.dat (.lst [])) a) : EV K b0 (tLst tNil) a k := ev_lstD (ea_nil ⟨[], rfl, by simp, h⟩)
theorem ev_lst1 {t0 : TE} (h : EV K b0 t0 a fun x0 a1 => ∃ d0, x0 = .dat d0 ∧ k (.dat (.lst [d0])) a1) : EV K b0 (tLst (tCons t0 tNil)) a k := ev_lstD (ea_cons (EV.mono h fun x0 a1 ⟨d0, e0, h⟩ => e0 ▸ ea_nil ⟨[d0], rfl, by simp, h⟩))
theorem ev_lst2 {t0 t1 : TE} (h : EV K b0 t0 a fun x0 a1 => ∃ d0, x0 = .dat d0 ∧ EV K b0 t1 a1 fun x1 a2 => ∃ d1, x1 = .dat d1 ∧ k (.dat (.lst [d0, d1])) a2) : EV K b0 (tLst (tCons t0 (tCons t1 tNil))) a k := ev_lstD (ea_cons (EV.mono h fun x0 a1 ⟨d0, e0, h⟩ => e0 ▸ ea_cons (EV.mono h fun x1 a2 ⟨d1, e1, h⟩ => e1 ▸ ea_nil ⟨[d0, d1], rfl, by simp, h⟩)))
theorem ev_lst3 {t0 t1 t2 : TE} (h : EV K b0 t0 a fun x0 a1 => ∃ d0, x0 = .dat d0 ∧ EV K b0 t1 a1 fun x1 a2 => ∃ d1, x1 = .dat d1 ∧ EV K b0 t2 a2 fun x2 a3 => ∃ d2, x2 = .dat d2 ∧ k (.dat (.lst [d0, d1, d2])) a3) : EV K b0 (tLst (tCons t0 (tCons t1 (tCons t2 tNil)))) a k := ev_lstD (ea_cons (EV.mono h fun x0 a1 ⟨d0, e0, h⟩ => e0 ▸ ea_cons (EV.mono h fun x1 a2 ⟨d1, e1, h⟩ => e1 ▸ ea_cons (EV.mono h fun x2 a3 ⟨d2, e2, h⟩ => e2 ▸ ea_nil ⟨[d0, d1, d2], rfl, by simp, h⟩))))
theorem ev_lst5 {t0 t1 t2 t3 t4 : TE} (h : EV K b0 t0 a fun x0 a1 => ∃ d0, x0 = .dat d0 ∧ EV K b0 t1 a1 fun x1 a2 => ∃ d1, x1 = .dat d1 ∧ EV K b0 t2 a2 fun x2 a3 => ∃ d2, x2 = .dat d2 ∧ EV K b0 t3 a3 fun x3 a4 => ∃ d3, x3 = .dat d3 ∧ EV K b0 t4 a4 fun x4 a5 => ∃ d4, x4 = .dat d4 ∧ k (.dat (.lst [d0, d1, d2, d3, d4])) a5) : EV K b0 (tLst (tCons t0 (tCons t1 (tCons t2 (tCons t3 (tCons t4 tNil)))))) a k := ev_lstD (ea_cons (EV.mono h fun x0 a1 ⟨d0, e0, h⟩ => e0 ▸ ea_cons (EV.mono h fun x1 a2 ⟨d1, e1, h⟩ => e1 ▸ ea_cons (EV.mono h fun x2 a3 ⟨d2, e2, h⟩ => e2 ▸ ea_cons (EV.mono h fun x3 a4 ⟨d3, e3, h⟩ => e3 ▸ ea_cons (EV.mono h fun x4 a5 ⟨d4, e4, h⟩ => e4 ▸ ea_nil ⟨[d0, d1, d2, d3, d4], rfl, by simp, h⟩))))))
theorem cut_tail {α : Type} (x : α) (xs : List α) : cutG (x :: xs) (some 1) none = xs := cut_from (x :: xs) 1
/-- the two ways to hand back -/
theorem Ret.go {d : D} (h : Ret K b0 Z d) (ha : ∀ p c, b0.mem p = some c → a.mem p = some c) : RT K b0 Z.rt (.dat d) a := h a ha
theorem Ret.goUp {d e : D} {v : V} (h : Ret K b0 Z d) (ha : ∀ p c, b0.mem p = some c → a.mem p = some c) : RT K (b0.add e v) Z.rt (.dat d) a := h.up a ha
theorem Ret.goUp2 {d e e' : D} {v v' : V} (h : Ret K b0 Z d) (ha : ∀ p c, b0.mem p = some c → a.mem p = some c) : RT K ((b0.add e v).add e' v') Z.rt (.dat d) a := h.up.up a ha
theorem Ret.goUp3 {d e e' e'' : D} {v v' v'' : V} (h : Ret K b0 Z d) (ha : ∀ p c, b0.mem p = some c → a.mem p = some c) : RT K (((b0.add e v).add e' v').add e'' v'') Z.rt (.dat d) a := h.up.up.up a ha
/-! ### freezing at return -/
theorem rt_frz {rt : VK} {p : Addr} {c : C} {d : D} (h : b0.mem p = none) (h0 : a.mem p = some c) (hc : CtoD c d) (hk : RT K b0 rt (.dat d) (a.at (mdel a.mem p))) : RT K b0 rt (.ptr p) a := fun σ H v R r => by
  cases (show v = .ref p from r)
  obtain ⟨o, ho, rc⟩ := R.cont p _ h0
  obtain ⟨R2, e2⟩ := R.freeze h (by rw [h0]; rfl)
  exact hk σ H _ R2 (hc.rep rc e2 (mask_mk (if_pos rfl) ho))
def mdelL (m : Ms) (ps : List Addr) : Ms := fun b => if b ∈ ps then none else m b
theorem mdelL_nil {m : Ms} : mdelL m [] = m := by funext b; simp [mdelL]
theorem mdelL_not {m : Ms} {ps : List Addr} {b : Addr} (h : b ∉ ps) : mdelL m ps b = m b := if_neg h
theorem mdelL_in {m : Ms} {ps : List Addr} {b : Addr} (h : b ∈ ps) : mdelL m ps b = none := if_pos h
theorem Rel.freezeL {σ : L2.St} {H : Hp} {ps : List Addr} (R : Rel K b0 a σ H) (h : ∀ p ∈ ps, b0.mem p = none) : Rel K b0 ⟨a.env, mdelL a.mem ps⟩ σ H ∧ Ex (mask H a.mem) (mask H (mdelL a.mem ps)) := by
  have sub : ∀ q u, mdelL a.mem ps q = some u → a.mem q = some u := fun q u h1 => by
    unfold mdelL at h1
    split at h1
    · cases h1
    · exact h1
  have me : Ex (mask H a.mem) (mask H (mdelL a.mem ps)) := fun q u hq => by
    obtain ⟨h1, h2⟩ := mask_some hq
    refine mask_mk ?_ h2
    unfold mdelL
    split
    · rfl
    · exact h1
  refine ⟨⟨R.len, fun i b hb => ?_, fun q u hq => ?_, R.keep, fun q hq => ?_, fun q hq h2 => ?_, fun x hx => (R.gho x hx).mono me⟩, me⟩
  · obtain ⟨v, h1, h2⟩ := R.slot i b hb
    exact ⟨v, h1, h2.mono me⟩
  · obtain ⟨o', h1, h2⟩ := R.cont q u (sub q u hq)
    exact ⟨o', h1, h2.mono me⟩
  · have ne : q ∉ ps := fun e => by rw [h q e] at hq; cases hq
    show (mdelL a.mem ps q).isSome = true
    rw [mdelL_not ne]
    exact R.old q hq
  · cases z : mdelL a.mem ps q with
    | none =>
      have hq2 : (mdelL a.mem ps q).isSome = true := hq
      rw [z] at hq2
      cases hq2
    | some u => exact R.new q (by rw [sub q u z]; rfl) h2
/-- the rows of a matrix: their places, what stands there -/
abbrev Mat (b0 : Ba) (m : Ms) : List Addr → List (List D) → Prop := Paired fun q ds => b0.mem q = none ∧ m q = some (.lst (ds.map B.dat))
theorem mat_rep {σ : L2.St} {H : Hp} {qs : List Addr} {dss : List (List D)} {m' : Ms} (R : Rel K b0 a σ H) (e : Ex (mask H a.mem) (mask H m')) : ∀ {qs : List Addr} {dss : List (List D)}, Mat b0 a.mem qs dss → (∀ q ∈ qs, m' q = none) → Reps K (mask H m') (dss.map D.lst) (qs.map V.ref)
  | _, _, .nil, _ => .nil
  | q :: qs, ds :: dss, .cons ⟨_, h⟩ t, hn => by
    obtain ⟨o, ho, vs, rfl, rv⟩ := R.cont q _ h
    exact .cons ⟨q, vs, rfl, mask_mk (hn q (List.mem_cons_self ..)) ho, (RepBs.dats rv).mono e⟩ (mat_rep (qs := qs) (dss := dss) R e t fun x hx => hn x (List.mem_cons_of_mem _ hx))
theorem ptrs_rep {F : Hp} : ∀ {qs : List Addr} {vs : List V}, RepBs K F (qs.map B.ptr) vs → vs = qs.map V.ref
  | [], _, .nil => rfl
  | q :: qs, _, .cons h t => by
    rw [ptrs_rep t, show _ = V.ref q from h]
    rfl
theorem Rel.frzM {σ : L2.St} {H : Hp} {p : Addr} {qs : List Addr} {dss : List (List D)} (R : Rel K b0 a σ H) (h : b0.mem p = none) (hm : a.mem p = some (.lst (qs.map B.ptr))) (hq : Mat b0 a.mem qs dss) :
    Rel K b0 ⟨a.env, mdelL a.mem (p :: qs)⟩ σ H ∧ Ex (mask H a.mem) (mask H (mdelL a.mem (p :: qs))) ∧ Rep K (mask H (mdelL a.mem (p :: qs))) (.lst (dss.map D.lst)) (.ref p) := by
  have hb : ∀ {qs : List Addr} {dss : List (List D)}, Mat b0 a.mem qs dss → ∀ q ∈ qs, b0.mem q = none := fun {qs dss} hq => by
    induction hq with
    | nil => intro q h; cases h
    | cons a b ih =>
      intro q hq
      rcases List.mem_cons.mp hq with rfl | hq
      · exact a.1
      · exact ih q hq
  obtain ⟨R2, e2⟩ := R.freezeL (ps := p :: qs) fun q hq' => by
    rcases List.mem_cons.mp hq' with rfl | hq'
    · exact h
    · exact hb hq q hq'
  obtain ⟨o, ho, vs, rfl, rv⟩ := R.cont p _ hm
  have e := ptrs_rep rv
  subst e
  exact ⟨R2, e2, p, _, rfl, mask_mk (mdelL_in (List.mem_cons_self ..)) ho, mat_rep (qs := qs) (dss := dss) R e2 hq fun q hq => mdelL_in (List.mem_cons_of_mem _ hq)⟩
theorem rt_frzM {rt : VK} {p : Addr} {qs : List Addr} {dss : List (List D)} (h : b0.mem p = none) (hm : a.mem p = some (.lst (qs.map B.ptr))) (hq : Mat b0 a.mem qs dss) (hk : RT K b0 rt (.dat (.lst (dss.map D.lst))) (a.at (mdelL a.mem (p :: qs)))) : RT K b0 rt (.ptr p) a := fun σ H v R r => by
  cases (show v = .ref p from r)
  obtain ⟨R2, e2, r2⟩ := R.frzM h hm hq
  exact hk σ H _ R2 r2
theorem Rel.fzSlot {σ : L2.St} {H : Hp} {p : Addr} {d : D} {m : Ms} {e : List (Option B)} (R : Rel K b0 ⟨a.env, m⟩ σ H) (z : Fz p d a.env e) (r : Rep K (mask H m) d (.ref p)) : Rel K b0 ⟨e, m⟩ σ H := by
  refine ⟨R.len.trans z.len, fun i b hb => ?_, R.cont, R.keep, R.old, R.new, R.gho⟩
  rcases z.get hb with q | ⟨q, rfl⟩
  · exact R.slot i b q
  · obtain ⟨v, h1, h2⟩ := R.slot i _ q
    cases (show v = .ref p from h2)
    exact ⟨_, h1, r⟩
theorem gs_frzM {p : Addr} {qs : List Addr} {dss : List (List D)} {e : List (Option B)} (h : b0.mem p = none) (hm : a.mem p = some (.lst (qs.map B.ptr))) (hq : Mat b0 a.mem qs dss) (z : Fz p (.lst (dss.map D.lst)) a.env e) (hk : GS K b0 t Z ⟨e, mdelL a.mem (p :: qs)⟩) : GS K b0 t Z a := fun σ H R => by
  obtain ⟨R2, e2, r2⟩ := R.frzM h hm hq
  exact hk σ H (R2.fzSlot z r2)

/-! ### for over a list or a tuple -/
theorem gs_forAL {g : TG} (h : GS K b0 (tFor (iList K te) g t) Z a) : GS K b0 (tFor (iAny K te) g t) Z a := fun σ H R => .inl (h σ H R)
theorem gs_forAT {g : TG} (h : GS K b0 (tFor (iTup K te) g t) Z a) : GS K b0 (tFor (iAny K te) g t) Z a := fun σ H R => .inr (h σ H R)
theorem ev_lcAL {g : TG} {tt : TT} {vs : List Nat} (h : EV K b0 (tLc (iList K te) g tt ta vs) a k) : EV K b0 (tLc (iAny K te) g tt ta vs) a k := fun σ H Q R q => .inl (h σ H Q R q)
theorem ev_lcAT {g : TG} {tt : TT} {vs : List Nat} (h : EV K b0 (tLc (iTup K te) g tt ta vs) a k) : EV K b0 (tLc (iAny K te) g tt ta vs) a k := fun σ H Q R q => .inr (h σ H Q R q)
end
/-! arities of the others -/
def p1 {ι : Type} (g : ι → B → Prop) : ι → List B → Prop := fun i bs => ∃ x, bs = [x] ∧ g i x
def p2 {ι : Type} (g : ι → B → B → Prop) : ι → List B → Prop := fun i bs => ∃ x y, bs = [x, y] ∧ g i x y
def p3 {ι : Type} (g : ι → B → B → B → Prop) : ι → List B → Prop := fun i bs => ∃ x y z, bs = [x, y, z] ∧ g i x y z
theorem p1_len {ι : Type} {g : ι → B → Prop} : ∀ i bs, p1 g i bs → bs.length = 1 := by rintro _ _ ⟨_, rfl, _⟩; rfl
theorem p2_len {ι : Type} {g : ι → B → B → Prop} : ∀ i bs, p2 g i bs → bs.length = 2 := by rintro _ _ ⟨_, _, rfl, _⟩; rfl
theorem p3_len {ι : Type} {g : ι → B → B → B → Prop} : ∀ i bs, p3 g i bs → bs.length = 3 := by rintro _ _ ⟨_, _, _, rfl, _⟩; rfl
def n1 {ι : Type} (g : ι → B → Ms → Prop) : ι → List B → Ms → Prop := fun i bs m => ∃ x, bs = [x] ∧ g i x m
def n2 {ι : Type} (g : ι → B → B → Ms → Prop) : ι → List B → Ms → Prop := fun i bs m => ∃ x y, bs = [x, y] ∧ g i x y m
def n3 {ι : Type} (g : ι → B → B → B → Ms → Prop) : ι → List B → Ms → Prop := fun i bs m => ∃ x y z, bs = [x, y, z] ∧ g i x y z m
def n4 {ι : Type} (g : ι → B → B → B → B → Ms → Prop) : ι → List B → Ms → Prop := fun i bs m => ∃ x y z u, bs = [x, y, z, u] ∧ g i x y z u m
theorem n1_len {ι : Type} {g : ι → B → Ms → Prop} : ∀ i bs m, n1 g i bs m → bs.length = 1 := by rintro _ _ _ ⟨_, rfl, _⟩; rfl
theorem n2_len {ι : Type} {g : ι → B → B → Ms → Prop} : ∀ i bs m, n2 g i bs m → bs.length = 2 := by rintro _ _ _ ⟨_, _, rfl, _⟩; rfl
theorem n3_len {ι : Type} {g : ι → B → B → B → Ms → Prop} : ∀ i bs m, n3 g i bs m → bs.length = 3 := by rintro _ _ _ ⟨_, _, _, rfl, _⟩; rfl
theorem n4_len {ι : Type} {g : ι → B → B → B → B → Ms → Prop} : ∀ i bs m, n4 g i bs m → bs.length = 4 := by rintro _ _ _ ⟨_, _, _, _, rfl, _⟩; rfl
end MP
/-! MPP -/
set_option exponentiation.threshold 10000
/-! plain definitions: sizes, papers, ways -/
namespace MP
open PySem PySem.Spec PyProof.Rows L2

/-! ### sizes: a multiple of 1/N, numerator at most b -/
def Bd (N b : Nat) (q : Rat) : Prop := ∃ k : Int, q = Rat.divInt k N ∧ k.natAbs ≤ b
theorem Bd.mono {N b c : Nat} {q : Rat} (h : Bd N b q) (e : b ≤ c) : Bd N c q := by
  obtain ⟨k, h1, h2⟩ := h
  exact ⟨k, h1, Nat.le_trans h2 e⟩
theorem Bd.up {N b : Nat} {q : Rat} (M : Nat) (hM : 0 < M) (h : Bd N b q) : Bd (N * M) (b * M) q := by
  obtain ⟨k, h1, h2⟩ := h
  refine ⟨k * M, ?_, ?_⟩
  · rw [h1, Rat.divInt_eq_div, Rat.divInt_eq_div]
    have : ((M : Int) : Rat) ≠ 0 := by
      have h0 : (M : Int) ≠ 0 := by omega
      exact_mod_cast h0
    rw [Int.natCast_mul, Rat.intCast_mul, Rat.intCast_mul]
    grind
  · rw [Int.natAbs_mul, Int.natAbs_natCast]
    exact Nat.mul_le_mul_right _ h2
theorem Bd.add {N b c : Nat} {p q : Rat} (h : Bd N b p) (g : Bd N c q) : Bd N (b + c) (p + q) := by
  obtain ⟨k, h1, h2⟩ := h
  obtain ⟨l, g1, g2⟩ := g
  refine ⟨k + l, ?_, by omega⟩
  rw [h1, g1, Rat.divInt_eq_div, Rat.divInt_eq_div, Rat.divInt_eq_div, Rat.intCast_add]
  grind
theorem Bd.neg {N b : Nat} {p : Rat} (h : Bd N b p) : Bd N b (-p) := by
  obtain ⟨k, h1, h2⟩ := h
  refine ⟨-k, ?_, by omega⟩
  rw [h1, Rat.neg_divInt]
theorem Bd.sub {N b c : Nat} {p q : Rat} (h : Bd N b p) (g : Bd N c q) : Bd N (b + c) (p - q) := by
  rw [Rat.sub_eq_add_neg]
  exact h.add g.neg
theorem Bd.half {N b : Nat} {p : Rat} (h : Bd N b p) : Bd (N * 2) b (p / 2) := by
  obtain ⟨k, h1, h2⟩ := h
  refine ⟨k, ?_, h2⟩
  rw [h1, Rat.divInt_eq_div, Rat.divInt_eq_div, Int.natCast_mul, Rat.intCast_mul]
  have : (((2 : Nat) : Int) : Rat) = 2 := rfl
  rw [this]
  grind
theorem Bd.abs {N b : Nat} {p : Rat} (h : Bd N b p) : Bd N b (rabs p) := by
  unfold rabs
  split
  · exact h.neg
  · exact h
theorem Bd.wee {N b : Nat} {q : Rat} (h : Bd N b q) (h0 : 0 < N) (h1 : N < 2 ^ 2000) (h2 : b < 2 ^ 2000) : Wee q := by
  obtain ⟨k, e, h3⟩ := h
  subst e
  have hp : (2 : Nat) ^ 2000 < 2 ^ 3000 := Nat.pow_lt_pow_right (by omega) (by omega)
  constructor
  · rw [Rat.num_divInt]
    refine Nat.lt_of_le_of_lt ?_ (Nat.lt_trans h2 hp)
    rw [Int.sign_eq_one_of_pos (by omega), Int.one_mul]
    refine Nat.le_trans ?_ h3
    rw [Int.natAbs_ediv_of_dvd]
    · exact Nat.div_le_self _ _
    · exact Int.gcd_dvd_right ..
  · rw [Rat.den_divInt, if_neg (by omega)]
    refine Nat.lt_of_le_of_lt (Nat.div_le_self _ _) ?_
    rw [Int.natAbs_natCast]
    exact Nat.lt_trans h1 hp
theorem Bd.int {N b : Nat} (h0 : 0 < N) {i : Int} (h : i.natAbs * N ≤ b) : Bd N b (i : Rat) := by
  refine ⟨i * N, ?_, by rw [Int.natAbs_mul, Int.natAbs_natCast]; exact h⟩
  rw [Rat.divInt_eq_div, Rat.intCast_mul]
  have : ((N : Int) : Rat) ≠ 0 := by
    have h0 : (N : Int) ≠ 0 := by omega
    exact_mod_cast h0
  grind

/-! ### papers -/
abbrev BIG : Nat := 2 ^ 70
mutual
/-- what may stand in a paper: no rational is large -/
def Psm : D → Prop
  | .rat q => Bd 24 BIG q
  | .tup ds => Psms ds
  | .lst ds => Psms ds
  | .ro _ => False
  | .obj _ _ _ => False
  | .dct _ _ => False
  | _ => True
def Psms : List D → Prop
  | [] => True
  | d :: ds => Psm d ∧ Psms ds
end
theorem Psms.iff : ∀ {ds : List D}, Psms ds ↔ ∀ d ∈ ds, Psm d
  | [] => ⟨fun _ d h => (nomatch h), fun _ => trivial⟩
  | d :: ds => by
    show Psm d ∧ Psms ds ↔ _
    rw [Psms.iff]
    constructor
    · rintro ⟨h1, h2⟩ x hx
      rcases List.mem_cons.mp hx with rfl | hx
      · exact h1
      · exact h2 x hx
    · exact fun h => ⟨h d (List.mem_cons_self ..), fun x hx => h x (List.mem_cons_of_mem _ hx)⟩
theorem Psm.ok {d : D} (h : Psm d) : okD d := by
  cases d <;> first | trivial | (exact (show False from h))
theorem Psm.plain {d : D} (h : Psm d) : plainD d := by
  cases d <;> first | trivial | (exact (show False from h))
theorem Psm.tup {ds : List D} (h : Psm (.tup ds)) : ∀ d ∈ ds, Psm d := Psms.iff.mp h

/-! ### what the checkers ask -/
def isPt (n : Int) : D → Bool
  | .int i => decide (0 ≤ i) && decide (i < n)
  | _ => false
theorem isPt_eq {n : Int} {d : D} (h : isPt n d = true) : ∃ i : Int, d = .int i ∧ 0 ≤ i ∧ i < n := by
  unfold isPt at h
  split at h
  · simp only [Bool.and_eq_true, decide_eq_true_eq] at h
    exact ⟨_, rfl, h.1, h.2⟩
  · cases h
theorem isPt_int {n i : Int} (h0 : 0 ≤ i) (h1 : i < n) : isPt n (.int i) = true := by simp [isPt, h0, h1]
def arePts (n : Int) (c : Int) : D → Bool
  | .tup ds => decide ((ds.length : Int) = c) && ds.all (isPt n)
  | _ => false
abbrev Edge := Int × Int × Rat
def isEdge (m : Int) : D → Bool
  | .tup [.int u, .int v, .rat l] => decide (0 ≤ u) && decide (u < v) && decide (v < m) && decide (0 < l)
  | _ => false
theorem isEdge_len {m : Int} {ds : List D} (h : ds.length ≠ 3) : isEdge m (.tup ds) = false := by
  unfold isEdge
  split
  · rename_i e
    cases e
    exact absurd rfl h
  · rfl
theorem isEdge_tup {m : Int} {ds : List D} (h : isEdge m (.tup ds) = true) : ∃ u v l, ds = [.int u, .int v, .rat l] ∧ 0 ≤ u ∧ u < v ∧ v < m ∧ 0 < l := by
  unfold isEdge at h
  split at h
  · rename_i u v l e
    cases e
    simp only [Bool.and_eq_true, decide_eq_true_eq] at h
    exact ⟨_, _, _, rfl, h.1.1.1, h.1.1.2, h.1.2, h.2⟩
  · cases h
theorem isEdge_no {m : Int} {d0 d1 d2 : D} (h : arePts m 2 (.tup [d0, d1]) = false) : isEdge m (.tup [d0, d1, d2]) = false := by
  cases q : isEdge m (.tup [d0, d1, d2]) with
  | false => rfl
  | true =>
    obtain ⟨u, v, l, e, h1, h2, h3, _⟩ := isEdge_tup q
    cases e
    have : arePts m 2 (.tup [.int u, .int v]) = true := by simp [arePts, isPt]; omega
    rw [this] at h
    cases h
def edgeOf : D → Edge
  | .tup [.int u, .int v, .rat l] => (u, v, l)
  | _ => (0, 0, 0)
abbrev edgeD (e : Edge) : D := .tup [.int e.1, .int e.2.1, .rat e.2.2]
theorem isEdge_eq {m : Int} {d : D} (h : isEdge m d = true) : ∃ e : Edge, d = edgeD e ∧ edgeOf d = e ∧ 0 ≤ e.1 ∧ e.1 < e.2.1 ∧ e.2.1 < m ∧ 0 < e.2.2 := by
  unfold isEdge at h
  split at h
  · simp only [Bool.and_eq_true, decide_eq_true_eq] at h
    exact ⟨(_, _, _), rfl, rfl, h.1.1.1, h.1.1.2, h.1.2, h.2⟩
  · cases h
/-- the found -/
abbrev Fnd := List (Int × Rat)
def fget (fd : Fnd) (i : Int) : Option Rat := (fd.find? fun x => decide (x.1 = i)).map (·.2)
def wHalf (fd : Fnd) (x y : Int) (l : Rat) : Fnd := match fget fd x, fget fd y with
  | some q, none => fd ++ [(y, q + l)]
  | _, _ => fd
def wStep (fd : Fnd) (e : Edge) : Fnd := wHalf (wHalf fd e.1 e.2.1 e.2.2) e.2.1 e.1 e.2.2
def wRound (es : List Edge) (fd : Fnd) : Fnd := es.foldl wStep fd
def waysN (es : List Edge) (s : Int) : Nat → Fnd
  | 0 => [(s, 0)]
  | k + 1 => wRound es (waysN es s k)
/-- from x all vertices are found, the points as far as f says -/
def wayOk (n : Nat) (f : Nat → Nat → Rat) (m : Nat) (es : List Edge) (x : Nat) : Bool :=
  let fd := waysN es x m
  decide (fd.length = m) && (List.range n).all fun y => decide (fget fd y = some (f x y))
def showsT (n : Nat) (f : Nat → Nat → Rat) : D → D → Bool
  | .int m, .tup es => decide ((n : Int) ≤ m) && decide (m ≤ 2 * (n : Int)) && decide ((es.length : Int) = m - 1) && es.all (isEdge m) && (List.range n).all (wayOk n f m.toNat (es.map edgeOf))
  | _, _ => false
/-- one of three is above both others -/
def above3 (a b c : Rat) : Bool := (decide (b < a) && decide (c < a)) || (decide (a < b) && decide (c < b)) || (decide (a < c) && decide (b < c))
def pointsT (f : Nat → Nat → Rat) : List D → Bool
  | [.int x, .int y, .int u, .int v] => above3 (f x.toNat y.toNat + f u.toNat v.toNat) (f x.toNat u.toNat + f y.toNat v.toNat) (f x.toNat v.toNat + f y.toNat u.toNat)
  | _ => false
def treeT (n : Nat) (f : Nat → Nat → Rat) : List D → Bool
  | [p1, p2] => showsT n f p1 p2
  | _ => false
theorem treeT_no {n : Nat} {f : Nat → Nat → Rat} {ps : List D} (h : ps.length ≠ 2) : treeT n f ps = false := by
  unfold treeT
  split
  · exact absurd rfl h
  · rfl
def holdsT (n : Nat) (f : Nat → Nat → Rat) : D → Bool
  | .tup (p0 :: ps) => if isS "tree" p0 then treeT n f ps else isS "points" p0 && arePts n 4 (.tup ps) && pointsT f ps
  | _ => false

/-! ### growth of the found -/
theorem wHalf_cases (fd : Fnd) (x y : Int) (l : Rat) : wHalf fd x y l = fd ∨ ∃ q, fget fd x = some q ∧ fget fd y = none ∧ wHalf fd x y l = fd ++ [(y, q + l)] := by
  unfold wHalf
  split
  · rename_i q h1 h2
    exact .inr ⟨q, h1, h2, rfl⟩
  · exact .inl rfl
theorem fget_mem {fd : Fnd} {i : Int} {q : Rat} (h : fget fd i = some q) : (i, q) ∈ fd := by
  unfold fget at h
  obtain ⟨p, h1, h2⟩ := Option.map_eq_some_iff.mp h
  have h3 := List.find?_some h1
  have h4 := List.mem_of_find?_eq_some h1
  have : p = (i, q) := Prod.ext (of_decide_eq_true h3) h2
  rw [← this]
  exact h4
/-- no value is large -/
def FdB (L : Nat) (fd : Fnd) : Prop := ∀ p ∈ fd, Bd 24 (L * fd.length) p.2
theorem FdB.half {L : Nat} {fd : Fnd} {x y : Int} {l : Rat} (h : FdB L fd) (hl : Bd 24 L l) : FdB L (wHalf fd x y l) ∧ (wHalf fd x y l).length ≤ fd.length + 1 := by
  rcases wHalf_cases fd x y l with e | ⟨q, h1, h2, e⟩
  · rw [e]; exact ⟨h, by omega⟩
  · rw [e]
    refine ⟨fun p hp => ?_, by simp⟩
    rw [List.length_append, List.length_singleton, Nat.mul_add, Nat.mul_one]
    rcases List.mem_append.mp hp with hp | hp
    · exact (h p hp).mono (by omega)
    · rw [List.mem_singleton] at hp
      subst hp
      exact (h _ (fget_mem h1)).add hl
theorem FdB.one {L : Nat} {s : Int} : FdB L [(s, 0)] := fun p hp => by
  rw [List.mem_singleton] at hp
  subst hp
  exact ⟨0, by rw [Rat.zero_divInt], by simp⟩
end MP
/-! MPR -/
set_option exponentiation.threshold 10000
/-! the checker -/
namespace MP
open PySem PySem.Spec PyProof.Rows L2

/-! ### a metric as an object -/
def rowsD (n : Nat) (f : Nat → Nat → Rat) : D := .tup ((List.range n).map fun x => .tup ((List.range n).map fun y => .rat (f x y)))
def mtr (n : Nat) (f : Nat → Nat → Rat) : D := .obj "Metric" ["n", "rows"] [.int (n : Int), rowsD n f]
abbrev BM : Nat := 2 ^ 40
structure MetOk (n : Nat) (f : Nat → Nat → Rat) : Prop where
  lo : 1 ≤ n
  hi : n ≤ 8
  bd : ∀ x y, x < n → y < n → Bd 6 BM (f x y)
theorem MetOk.wee {n : Nat} {f : Nat → Nat → Rat} (h : MetOk n f) {x y : Nat} (hx : x < n) (hy : y < n) : Wee (f x y) := (h.bd x y hx hy).wee (by omega) (Nat.lt_of_lt_of_le (by omega : 6 < 2 ^ 3) (Nat.pow_le_pow_right (by omega) (by omega))) (Nat.pow_lt_pow_right (by omega) (by omega))
section
variable {K : PySem.W.Frag} {b0 : Ba} {a : AS} {ta tb : TE} {k : B → AS → Prop} {mg : Str → Option Value}
theorem mtr_lookup (x y : D) : (([("n" : Str), "rows"] : List Str).zip [x, y]).lookup ("rows" : Str) = some y := by
  have h1 : (("rows" : Str) == "n") = false := by decide +kernel
  have h2 : (("rows" : Str) == "rows") = true := by decide +kernel
  show ([(("n" : Str), x), ("rows", y)] : List (Str × D)).lookup ("rows" : Str) = some y
  rw [List.lookup_cons, h1]
  show (match ("rows" : Str) == "rows" with | true => some y | false => none) = _
  rw [h2]
theorem ev_mn (M : FX K mg) (h : EV K b0 ta a fun x a1 => ∃ n f, x = .dat (mtr n f) ∧ k (.dat (.int (n : Int))) a1) : EV K b0 (tFld K ta "n") a k :=
  ev_fldO fun σ H Q R q => h σ H Q R fun v H1 x a1 ⟨n, f, e, hk⟩ R1 e1 r1 => q v H1 x a1 ⟨_, _, _, _, e, M.cls 77, M.noat 78, rfl, hk⟩ R1 e1 r1
theorem ev_mrows (M : FX K mg) (h : EV K b0 ta a fun x a1 => ∃ n f, x = .dat (mtr n f) ∧ k (.dat (rowsD n f)) a1) : EV K b0 (tFld K ta "rows") a k :=
  ev_fldO fun σ H Q R q => h σ H Q R fun v H1 x a1 ⟨n, f, e, hk⟩ R1 e1 r1 => q v H1 x a1 ⟨_, _, _, _, e, M.cls 77, M.noat 79, mtr_lookup _ _, hk⟩ R1 e1 r1
theorem rows_at {n : Nat} {f : Nat → Nat → Rat} {x : Nat} (h : x < n) : ((List.range n).map fun x => D.tup ((List.range n).map fun y => .rat (f x y)))[x]? = some (.tup ((List.range n).map fun y => .rat (f x y))) := by
  rw [List.getElem?_map, List.getElem?_range h]
  rfl
theorem row_at {n : Nat} {f : Nat → Rat} {y : Nat} (h : y < n) : ((List.range n).map fun y => D.rat (f y))[y]? = some (.rat (f y)) := by
  rw [List.getElem?_map, List.getElem?_range h]
  rfl
theorem ro_row {n : Nat} {f : Nat → Nat → Rat} {x : Nat} (h : x < n) (hk : k (.dat (.tup ((List.range n).map fun y => .rat (f x y)))) a) : RO K b0 (rIx K) (.dat (rowsD n f)) (.dat (.int (x : Int))) a k := ro_ixT (atI_nat (rows_at h)) hk
theorem ro_cell {n : Nat} {f : Nat → Rat} {y : Nat} (h : y < n) (hk : k (.dat (.rat (f y))) a) : RO K b0 (rIx K) (.dat (.tup ((List.range n).map fun y => .rat (f y)))) (.dat (.int (y : Int))) a k := ro_ixT (atI_nat (row_at h)) hk
end

theorem Rat.num_pos' {q : Rat} : 0 < q.num ↔ 0 < q := by
  have h1 := @Rat.num_nonneg (-q)
  have h2 : (-q).num = -q.num := Rat.neg_num _
  rw [h2] at h1
  constructor
  · intro h
    have : ¬ (0 ≤ -q) := fun e => by have := h1.mpr e; omega
    grind
  · intro h
    have : ¬ (0 ≤ -q) := by grind
    have : ¬ (0 ≤ -q.num) := fun e => this (h1.mp e)
    omega
def sPt : B → B → D → Prop := fun x y d => ∃ n e, x = .dat (.int n) ∧ y = .dat e ∧ okD e ∧ d = .bl (isPt n e)
theorem sc_is_point : FnScope ["n", "value"] ["n", "value"] (defScope s_is_point) := ⟨rfl, rfl, rfl, by decide +kernel, rfl, by decide +kernel, by decide +kernel⟩
theorem c_is_point {P : Program} {w : World} {K : PySem.W.Frag} {mg : Str → Option Value} {base : Heap} (M : FX K mg) : C8.Cal P w K mg base 1 "is_point" (spA K (pw (f2 sPt))) [] := by
  obtain ⟨fd, F⟩ := M.said.def_ 14
  refine ⟨_, fd, ["n", "value"], [], (def_pure (j := 0) F sc_is_point f2_len fun cdv A outer s H E hr => ⟨_, (pss_one (ps_ret (pe_and (pe_callB (call_isiK' (K := K)) (by rfl) (M.free 63) (by decide +kernel) (pa_cons (pv 1) (pa_cons (pe_bltn (v := .ty "int") rfl (M.free 64) (by decide +kernel) rfl) pa_nil))) (pe_and (pe_not (pe_callB (call_isiK' (K := K)) (by rfl) (M.free 63) (by decide +kernel) (pa_cons (pv 1) (pa_cons (pe_bltn (v := .ty "bool") rfl (M.free 65) (by decide +kernel) rfl) pa_nil)))) (pe_one (pe_chain op_le op_lt pe_int (pv 1) (pv 0))))))), ?_⟩), M.glo 6, F.kp, F.bindsN fun _ _ _ _ _ _ us hl => match us, hl with | [_, _], _ => rfl, .nil⟩
  try dsimp only [cx_K]
  intro b0 Z bs d h hret
  obtain ⟨_, _, rfl, n, e, rfl, rfl, ho, rfl⟩ := h
  walk_at "mpR"
  refine ⟨fun hc => ?_, fun hc => ?_⟩
  · walk_at "mpR"
    refine ⟨fun hc2 => ?_, fun hc2 => ?_⟩
    · cases e with
      | int i =>
        walk_at "mpR"
        refine ⟨fun hc3 => ?_, fun hc3 => ?_⟩
        · walk_at "mpR"
          have e1 : decide (i < n) = isPt n (.int i) := by
            show _ = (decide (0 ≤ i) && decide (i < n))
            rw [hc3, Bool.true_and]
          rw [e1]
          exact hret _ fun _ _ h => h
        · have e1 : false = isPt n (.int i) := by
            show _ = (decide (0 ≤ i) && decide (i < n))
            rw [hc3, Bool.false_and]
          rw [e1]
          exact hret _ fun _ _ h => h
      | bl b => cases hc2
      | _ => cases hc
    · cases e with
      | int i => cases hc2
      | bl b => exact hret _ fun _ _ h => h
      | _ => cases hc
  · cases e with
    | int i => cases hc
    | bl b => cases hc
    | _ => exact hret _ fun _ _ h => h
def sPts : B → B → B → D → Prop := fun x y z d => ∃ n e c, x = .dat (.int n) ∧ y = .dat e ∧ Psm e ∧ z = .dat (.int c) ∧ d = .bl (arePts n c e)
theorem all_take_succ {α : Type} {p : α → Bool} {l : List α} {i : Nat} {d : α} (h : l[i]? = some d) : (l.take (i + 1)).all p = ((l.take i).all p && p d) := by
  rw [List.take_succ, h]
  simp
theorem all_false {α : Type} {p : α → Bool} {l : List α} {i : Nat} {d : α} (h : l[i]? = some d) (hp : p d = false) : l.all p = false := by
  rw [List.all_eq_false]
  exact ⟨d, List.mem_of_getElem? h, by rw [hp]; decide⟩
theorem sc_are_points : FnScope ["n", "value", "count", "x"] ["n", "value", "count"] (defScope s_are_points) := ⟨rfl, rfl, rfl, by decide +kernel, rfl, by decide +kernel, by decide +kernel⟩
theorem c_are_points {P : Program} {w : World} {K : PySem.W.Frag} {mg : Str → Option Value} {base : Heap} (M : FX K mg) : C8.Cal P w K mg base 4 "are_points" (spA K (pw (f3 sPts))) [] := by
  obtain ⟨fd, F⟩ := M.said.def_ 15
  refine ⟨_, fd, ["n", "value", "count"], [], (def_pure (j := 3) F sc_are_points f3_len fun cdv A outer s H E hr => ⟨_, (pss_cons (ps_if (PW.pt (pw_or (pt_not (pt_val (pe_callB (call_isiK' (K := K)) (by rfl) (M.free 63) (by decide +kernel) (pa_cons (pv 1) (pa_cons (pe_bltn (v := .ty "tuple") rfl (M.free 66) (by decide +kernel) rfl) pa_nil))))) (pw_or1 (pt_cmpR (op_neAny M (ops M) hr) (pe_callB (call_len_anyK (K := K)) (by rfl) (M.free 61) PySem.boot_len (pa_cons (pv 1) pa_nil)) (pv 2) (nomark _)))))
      (pss_one (ps_ret pe_bl))
      pss_nil)
      (pss_cons (ps_for PassesOwn.never rfl (pi_tupK (K := K) (pv 1)) (pg_name (i := 3) sc_are_points.nd rfl (by first | exact Or.inl rfl | exact Or.inr rfl))
        (pss_one (ps_if (pt_not (pt_val (C8.pe_c (c_is_point M) hr (by decide) (by rfl) (pa_cons (pv 0) (pa_cons (pv 3) pa_nil)))))
          (pss_one (ps_ret pe_bl))
          pss_nil)))
        (pss_one (ps_ret pe_bl)))), ?_⟩), M.glo 7, F.kp, F.bindsN fun _ _ _ _ _ _ us hl => match us, hl with | [_, _, _], _ => rfl, .nil⟩
  try dsimp only [cx_K]
  intro b0 Z bs d h hret
  obtain ⟨_, _, _, rfl, n, e, c, rfl, rfl, hp, rfl, rfl⟩ := h
  have ho := hp.ok
  walk_at "mpR"
  refine ⟨fun hc => ?_, fun hc => ?_⟩
  · cases e with
    | tup ds =>
      walk_at "mpR"
      refine ⟨fun hc2 => ?_, fun hc2 => ?_⟩
      · walk_at "mpR"
        have e1 : false = arePts n c (.tup ds) := by
          show _ = (decide ((ds.length : Int) = c) && ds.all (isPt n))
          rw [decide_eq_false (by simpa using hc2), Bool.false_and]
        rw [e1]
        exact hret _ fun _ _ h => h
      · have hl : (ds.length : Int) = c := by simpa using hc2
        walk_at "mpR"
        refine ⟨fun i a => (ds.take i).all (isPt n) = true ∧ ∃ w, a = ⟨[some (.dat (.int n)), some (.dat (.tup ds)), some (.dat (.int c)), w], b0.mem⟩, ⟨by simp, _, rfl⟩, ?_, ?_⟩
        · rintro v i d _ hd ⟨hal, w, rfl⟩
          have hpd := hp.tup d (List.mem_of_getElem? hd)
          walk_at "mpR"
          refine ⟨_, ⟨_, _, rfl, n, d, rfl, rfl, hpd.ok, rfl⟩, ?_⟩
          walk_at "mpR"
          refine ⟨fun hc3 => ?_, fun hc3 => ?_⟩
          · walk_at "mpR"
            have e1 : false = arePts n c (.tup ds) := by
              show _ = (decide ((ds.length : Int) = c) && ds.all (isPt n))
              rw [all_false hd (by simpa using hc3), Bool.and_false]
            rw [e1]
            exact hret.goUp fun _ _ h => h
          · walk_at "mpR"
            exact nx_inv ⟨by rw [all_take_succ hd, hal]; simpa using hc3, _, rfl⟩
        · rintro _ ⟨hal, w, rfl⟩
          walk_at "mpR"
          have e1 : true = arePts n c (.tup ds) := by
            show _ = (decide ((ds.length : Int) = c) && ds.all (isPt n))
            rw [List.take_length] at hal
            rw [hal, decide_eq_true hl]
            rfl
          rw [e1]
          exact hret _ fun _ _ h => h
    | _ => cases hc
  · refine ⟨fun _ => ?_, fun h => (by cases h)⟩
    walk_at "mpR"
    have e1 : false = arePts n c e := by
      cases e with
      | tup ds => cases hc
      | _ => rfl
    rw [e1]
    exact hret _ fun _ _ h => h
def sAbove : B → B → D → Prop := fun x y d => ∃ p q : Rat, x = .dat (.rat p) ∧ y = .dat (.rat q) ∧ Wee p ∧ Wee q ∧ d = .bl (decide (q < p))
theorem sc_is_above : FnScope ["a", "b"] ["a", "b"] (defScope s_is_above) := ⟨rfl, rfl, rfl, by decide +kernel, rfl, by decide +kernel, by decide +kernel⟩
theorem c_is_above {P : Program} {w : World} {K : PySem.W.Frag} {mg : Str → Option Value} {base : Heap} (M : FX K mg) : C8.Cal P w K mg base 4 "is_above" (spA K (pw (f2 sAbove))) [] := by
  obtain ⟨fd, F⟩ := M.said.def_ 16
  refine ⟨_, fd, ["a", "b"], [], (def_pure (j := 3) F sc_is_above f2_len fun cdv A outer s H E hr => ⟨_, (pss_one (ps_ret (pe_cmpR op_gt (pe_fldK (K := K) (pe_op (op_subAny M (ops M) hr) (pv 0) (pv 1)) rfl) pe_int (nomark _)))), ?_⟩), M.glo 8, F.kp, F.bindsN fun _ _ _ _ _ _ us hl => match us, hl with | [_, _], _ => rfl, .nil⟩
  try dsimp only [cx_K]
  intro b0 Z bs d h hret
  obtain ⟨_, _, rfl, p, q, rfl, rfl, hp, hq, rfl⟩ := h
  walk_at "mpR"
  rw [show decide (0 < (p - q).num) = decide (q < p) from decide_eq_decide.mpr ?_]
  · exact hret _ fun _ _ h => h
  · rw [Rat.num_pos']
    constructor <;> intro h <;> grind
/-! ### is_edge -/
theorem cut_to' {α : Type} (xs : List α) (n : Nat) {i : Int} (h : i = (n : Int)) : cutG xs none (some i) = xs.take n := by
  subst h
  exact cut_to xs n
def sEdge : B → B → D → Prop := fun x y d => ∃ m e, x = .dat (.int m) ∧ y = .dat e ∧ Psm e ∧ d = .bl (isEdge m e)
theorem sc_is_edge : FnScope ["m", "value"] ["m", "value"] (defScope s_is_edge) := ⟨rfl, rfl, rfl, by decide +kernel, rfl, by decide +kernel, by decide +kernel⟩
theorem c_is_edge {P : Program} {w : World} {K : PySem.W.Frag} {mg : Str → Option Value} {base : Heap} (M : FX K mg) : C8.Cal P w K mg base 5 "is_edge" (spA K (pw (f2 sEdge))) [] := by
  obtain ⟨fd, F⟩ := M.said.def_ 17
  refine ⟨_, fd, ["m", "value"], [], (def_pure (j := 4) F sc_is_edge f2_len fun cdv A outer s H E hr => ⟨_, (pss_cons (ps_if (PW.pt (pw_or (pt_not (pt_val (pe_callB (call_isiK' (K := K)) (by rfl) (M.free 63) (by decide +kernel) (pa_cons (pv 1) (pa_cons (pe_bltn (v := .ty "tuple") rfl (M.free 66) (by decide +kernel) rfl) pa_nil))))) (pw_or (pt_cmpR (op_neAny M (ops M) hr) (pe_callB (call_len_anyK (K := K)) (by rfl) (M.free 61) PySem.boot_len (pa_cons (pv 1) pa_nil)) pe_int (nomark _)) (pw_or (pt_not (pt_val (C8.pe_c (c_are_points M) hr (by decide) (by rfl) (pa_cons (pv 0) (pa_cons (pe_slice (sl_anyK (K := K)) (pv 1) po_none (po_some pe_int)) (pa_cons pe_int pa_nil)))))) (pw_or1 (pt_cmpR op_ge (pe_ix (ix_seqK (K := K)) (pv 1) pe_int (fun _ _ => rfl)) (pe_ix (ix_seqK (K := K)) (pv 1) pe_int (fun _ _ => rfl)) (nomark _)))))))
      (pss_one (ps_ret pe_bl))
      pss_nil)
      (pss_one (ps_ret (pe_and (pe_callB (call_isiK' (K := K)) (by rfl) (M.free 63) (by decide +kernel) (pa_cons (pe_ix (ix_seqK (K := K)) (pv 1) pe_int (fun _ _ => rfl)) (pa_cons (pe_glob (v := .ref (He.ga K "Ratio")) rfl (M.glo 1) rfl) pa_nil))) (pe_one (pe_cmpR op_gt (pe_fldK (K := K) (pe_ix (ix_seqK (K := K)) (pv 1) pe_int (fun _ _ => rfl)) rfl) pe_int (nomark _))))))), ?_⟩), M.glo 9, F.kp, F.bindsN fun _ _ _ _ _ _ us hl => match us, hl with | [_, _], _ => rfl, .nil⟩
  try dsimp only [cx_K]
  intro b0 Z bs d h hret
  obtain ⟨_, _, rfl, m, e, rfl, rfl, hp, rfl⟩ := h
  have ho := hp.ok
  have no : isEdge m e = false → Ret K b0 Z (.bl false) := fun h => h ▸ hret
  walk_at "mpR"
  refine ⟨fun hc => ?_, fun hc => ?_⟩
  · cases e with
    | tup ds =>
      walk_at "mpR"
      refine ⟨fun hc2 => ?_, fun hc2 => ?_⟩
      · have hl : ds.length = 3 := by have := of_decide_eq_true (by simpa using hc2 : decide ((ds.length : Int) = 3) = true); omega
        obtain ⟨d0, d1, d2, rfl⟩ : ∃ d0 d1 d2, ds = [d0, d1, d2] := by
          match ds, hl with
          | [d0, d1, d2], _ => exact ⟨d0, d1, d2, rfl⟩
        obtain ⟨p0, p1, p2, _⟩ := (show Psms [d0, d1, d2] from hp)
        have o2 := p2.ok
        walk_at "mpR"
        refine ⟨_, ⟨_, _, _, rfl, m, .tup [d0, d1], 2, rfl, rfl, ⟨p0, p1, trivial⟩, rfl, rfl⟩, ?_⟩
        walk_at "mpR"
        refine ⟨fun hc3 => ?_, fun hc3 => ?_⟩
        · have h3 : arePts m 2 (.tup [d0, d1]) = true := by simpa using hc3
          have h4 : isPt m d0 = true ∧ isPt m d1 = true := by simpa [arePts] using h3
          obtain ⟨u, rfl, hu0, hu1⟩ := isPt_eq h4.1
          obtain ⟨v, rfl, hv0, hv1⟩ := isPt_eq h4.2
          walk_at "mpR"
          refine ⟨fun hc4 => ?_, fun hc4 => ?_⟩
          · have h6 : v ≤ u := of_decide_eq_true hc4
            have h7 : isEdge m (.tup [.int u, .int v, d2]) = false := by
              cases q : isEdge m (.tup [.int u, .int v, d2]) with
              | false => rfl
              | true =>
                obtain ⟨u', v', l, e, h1, h2, h3, _⟩ := isEdge_tup q
                cases e
                omega
            walk_at "mpR"
            exact (no h7).go fun _ _ h => h
          · have h6 : u < v := by have := of_decide_eq_false hc4; omega
            walk_at "mpR"
            refine ⟨fun hc5 => ?_, fun hc5 => ?_⟩
            · cases d2 with
              | rat l =>
                walk_at "mpR"
                rw [show decide (0 < l.num) = isEdge m (.tup [.int u, .int v, .rat l]) from ?_]
                · exact hret.go fun _ _ h => h
                · show _ = (decide (0 ≤ u) && decide (u < v) && decide (v < m) && decide (0 < l))
                  rw [decide_eq_true hu0, decide_eq_true h6, decide_eq_true hv1]
                  exact decide_eq_decide.mpr Rat.num_pos'
              | _ => cases hc5
            · refine (no ?_).go fun _ _ h => h
              cases d2 with
              | rat l => cases hc5
              | _ => rfl
        · have h3 : arePts m 2 (.tup [d0, d1]) = false := by simpa using hc3
          refine ⟨fun _ => ?_, fun h => (by cases h)⟩
          walk_at "mpR"
          exact (no (isEdge_no h3)).go fun _ _ h => h
      · have hl : ds.length ≠ 3 := by have := of_decide_eq_false (by simpa using hc2 : decide ((ds.length : Int) = 3) = false); omega
        refine ⟨fun _ => ?_, fun h => (by cases h)⟩
        walk_at "mpR"
        exact (no (isEdge_len hl)).go fun _ _ h => h
    | _ => cases hc
  · refine ⟨fun _ => ?_, fun h => (by cases h)⟩
    walk_at "mpR"
    refine (no ?_).go fun _ _ h => h
    cases e with
    | tup ds => cases hc
    | _ => rfl
end MP
/-! MPS -/
set_option exponentiation.threshold 10000
/-! ways, shows_tree, takes_tree -/
namespace MP
open PySem PySem.Spec PyProof.Rows L2

def dOf (o : Rat → D) (fd : Fnd) : List (Int × D) := fd.map fun p => (p.1, o p.2)
theorem dget_dOf (o : Rat → D) (fd : Fnd) (i : Int) : dget (dOf o fd) i = (fget fd i).map o := by
  unfold dget dOf fget
  rw [List.find?_map]
  cases h : fd.find? ((fun x => decide (x.1 = i)) ∘ fun p => (p.1, o p.2)) with
  | none =>
    have h2 : fd.find? (fun x => decide (x.1 = i)) = none := h
    rw [h2]
    rfl
  | some p =>
    have h2 : fd.find? (fun x => decide (x.1 = i)) = some p := h
    rw [h2]
    rfl
theorem dOf_length {o : Rat → D} {fd : Fnd} : (dOf o fd).length = fd.length := List.length_map ..
section
variable {K : PySem.W.Frag} {b0 : Ba} {a : AS} {te : TE} {Z : Ends}
/-- one half of a turn -/
theorem gs_half {o : Rat → D} {p : Addr} {i j c : Nat} {fd : Fnd} {x y : Int} {l : Rat} (h3 : a.env[c]? = some (some (.ptr p))) (hi : a.env[i]? = some (some (.dat (.int x)))) (hj : a.env[j]? = some (some (.dat (.int y)))) (hm : a.mem p = some (.dic (dOf o fd)))
    (hl : fd.length < 100000) (hte : ∀ q, fget fd x = some q → EV K b0 te a fun b a' => b = .dat (o (q + l)) ∧ a' = a)
    (hk : NX K b0 Z.nx (a.at (mput a.mem p (.dic (dOf o (wHalf fd x y l)))))) : GS K b0 (tIfS (tAnd (tB (tDIn (tVar i) (tVar c))) (tB (tDNotIn (tVar j) (tVar c)))) (sDPut (tVar c) (tVar j) te) tNext) Z a := by
  have stay : wHalf fd x y l = fd → NX K b0 Z.nx a := fun e => by
    rw [e] at hk
    have e2 : mput a.mem p (.dic (dOf o fd)) = a.mem := by
      funext r
      unfold mput
      split
      · rename_i e3; rw [e3, hm]
      · rfl
    rw [e2] at hk
    exact hk
  refine gs_if (et_and (et_B (ev_din (ev_var hi (ev_var h3 ⟨_, _, _, rfl, rfl, hm, _, rfl, fun hc => ?_, fun hc => ⟨fun h => (by cases h), fun _ => gs_next (stay ?_)⟩⟩)))))
  · refine et_B (ev_dnin (ev_var hj (ev_var h3 ⟨_, _, _, rfl, rfl, hm, _, rfl, fun hc2 => ?_, fun hc2 => gs_next (stay ?_)⟩)))
    · rw [dget_dOf] at hc hc2
      cases e1 : fget fd x with
      | none => rw [e1] at hc; cases hc
      | some q =>
        cases e2 : fget fd y with
        | some _ => rw [e2] at hc2; cases hc2
        | none =>
          refine gs_dput fun σ H Q R qq => hte q e1 σ H Q R fun v H1 b a1 ⟨eb, ea⟩ R1 x1 r1 => qq v H1 b a1 ?_ R1 x1 r1
          subst eb ea
          refine ev_var h3 (ev_var hj ⟨_, _, _, _, rfl, rfl, rfl, hm, ?_, by rw [dOf_length]; exact hl, ?_⟩)
          · rw [dget_dOf, e2]
            rfl
          · have e3 : dOf o fd ++ [(y, o (q + l))] = dOf o (wHalf fd x y l) := by
              unfold wHalf
              rw [e1, e2]
              simp [dOf]
            rw [e3]
            exact hk
    · rw [dget_dOf] at hc2
      unfold wHalf
      cases e2 : fget fd y with
      | none => rw [e2] at hc2; cases hc2
      | some _ => cases fget fd x <;> rfl
  · rw [dget_dOf] at hc
    unfold wHalf
    cases e1 : fget fd x with
    | some _ => rw [e1] at hc; cases hc
    | none => rfl
end
def esB (L : Nat) (es : List Edge) : Prop := ∀ e ∈ es, Bd 24 L e.2.2
theorem rnd_take {es : List Edge} {fd : Fnd} {j : Nat} {e : Edge} (h : es[j]? = some e) : (es.take (j + 1)).foldl wStep fd = wStep ((es.take j).foldl wStep fd) e := by
  rw [List.take_succ, h, List.foldl_append]
  rfl
def sWays : B → B → B → D → Prop := fun x y z d => ∃ (m : Nat) (es : List Edge) (s : Int), x = .dat (.int (m : Int)) ∧ y = .dat (.tup (es.map edgeD)) ∧ z = .dat (.int s) ∧ m ≤ 100 ∧ es.length ≤ 100 ∧ esB BIG es ∧ d = .dct ((waysN es s m).map (·.1)) ((waysN es s m).map fun p => .rat p.2)
theorem sc_ways : FnScope ["m", "edges", "start", "found", "_", "x", "y", "length"] ["m", "edges", "start"] (defScope s_ways) := ⟨rfl, rfl, rfl, by decide +kernel, rfl, by decide +kernel, by decide +kernel⟩
theorem c_ways {P : Program} {w : World} {K : PySem.W.Frag} {mg : Str → Option Value} {base : Heap} (M : FX K mg) : C8.Cal P w K mg base 4 "ways" (spA K (pw (f3 sWays))) [] := by
  obtain ⟨fd, F⟩ := M.said.def_ 18
  refine ⟨_, fd, ["m", "edges", "start"], [], (def_pure (j := 3) F sc_ways f3_len fun cdv A outer s H E hr => ⟨_, (pss_cons (ps_set (i := 3) sc_ways.nd rfl (by first | exact Or.inl rfl | exact Or.inr rfl) (pe_disp (pps_cons (pv 2) (C8.pe_mk (mk_Ratio1 M) hr (by decide) (by rfl) (pa_cons pe_int pa_nil)) pps_nil) (by rfl) (by rfl) (fun z => by cases z) (by decide)))
      (pss_cons (ps_for PassesOwn.never rfl (pi_range1 rfl (M.free 62) (pa_cons (pv 0) pa_nil)) (pg_name (i := 4) sc_ways.nd rfl (by first | exact Or.inl rfl | exact Or.inr rfl))
        (pss_one (ps_for PassesOwn.never rfl (pi_tupK (K := K) (pv 1)) (pg_tup (n := 3) rfl (pgs_cons (pg_name (i := 5) sc_ways.nd rfl (by first | exact Or.inl rfl | exact Or.inr rfl)) (pgs_cons (pg_name (i := 6) sc_ways.nd rfl (by first | exact Or.inl rfl | exact Or.inr rfl)) (pgs_cons (pg_name (i := 7) sc_ways.nd rfl (by first | exact Or.inl rfl | exact Or.inr rfl)) pgs_nil))))
          (pss_cons (ps_if (PW.pt (pw_and (pt_cmp (pc_din (hu_of hr) (pv 5) (pv 3)) rfl) (pw_and1 (pt_cmp (pc_dnotin (hu_of hr) (pv 6) (pv 3)) rfl))))
            (pss_one (ps_dput (hu_of hr) (pv 3) (pv 6) (pe_op (op_addAny M (ops M) hr) (pe_dget (hu_of hr) (pv 3) (pv 5) (fun _ _ => rfl)) (pv 7)) rfl))
            pss_nil)
            (pss_one (ps_if (PW.pt (pw_and (pt_cmp (pc_din (hu_of hr) (pv 6) (pv 3)) rfl) (pw_and1 (pt_cmp (pc_dnotin (hu_of hr) (pv 5) (pv 3)) rfl))))
              (pss_one (ps_dput (hu_of hr) (pv 3) (pv 5) (pe_op (op_addAny M (ops M) hr) (pe_dget (hu_of hr) (pv 3) (pv 6) (fun _ _ => rfl)) (pv 7)) rfl))
              pss_nil))))))
        (pss_one (ps_ret (pv 3))))), ?_⟩), M.glo 10, F.kp, F.bindsN fun _ _ _ _ _ _ us hl => match us, hl with | [_, _, _], _ => rfl, .nil⟩
  try dsimp only [cx_K]
  intro b0 Z bs d h hret
  obtain ⟨_, _, _, rfl, m, es, s, rfl, rfl, rfl, hm, hes, hb, rfl⟩ := h
  refine gs_seq (gs_set (ev_disp1 fun p hp0 hp => ?_))
  walk_at "mpR"
  refine ev_mkR1 ?_
  walk_at "mpR"
  refine ⟨s, .rat (0 : Int), rfl, rfl, mput_same, ?_⟩
  rw [mput_mput]
  let St : Nat → Nat → AS → Prop := fun i j a => ∃ w1 w2 w3 w4, a = ⟨[some (.dat (.int (m : Int))), some (.dat (.tup (es.map edgeD))), some (.dat (.int s)), some (.ptr p), w1, w2, w3, w4], mput b0.mem p (.dic (dOf D.rat ((es.take j).foldl wStep (waysN es s i))))⟩ ∧
    FdB BIG ((es.take j).foldl wStep (waysN es s i)) ∧ ((es.take j).foldl wStep (waysN es s i)).length ≤ 1 + 2 * (i * 100 + j)
  walk_at "mpR"
  refine ⟨by omega, fun i a => St i 0 a, ⟨_, _, _, _, rfl, FdB.one, by simp [waysN]⟩, ?_, ?_⟩
  · rintro i _ hi ⟨w1, w2, w3, w4, rfl, hF, hL⟩
    walk_at "mpR"
    refine ⟨fun j a => St i j a, ⟨_, _, _, _, rfl, hF, hL⟩, ?_, ?_⟩
    · rintro v j d _ hd ⟨w1, w2, w3, w4, rfl, hF, hL⟩
      rw [List.getElem?_map] at hd
      obtain ⟨⟨x, y, l⟩, he, rfl⟩ := Option.map_eq_some_iff.mp hd
      have hb1 : Bd 24 BIG l := hb _ (List.mem_of_getElem? he)
      have hj : j < es.length := (List.getElem?_eq_some_iff.mp he).1
      obtain ⟨hF1, hL1⟩ := hF.half (x := x) (y := y) hb1
      obtain ⟨hF2, hL2⟩ := hF1.half (x := y) (y := x) hb1
      have hbig : BIG * 30000 < 2 ^ 2000 := Nat.lt_of_lt_of_le (by decide : BIG * 30000 < 2 ^ 100) (Nat.pow_le_pow_right (by omega) (by omega))
      have h12 : 24 < 2 ^ 2000 := Nat.lt_of_lt_of_le (by decide : 24 < 2 ^ 5) (Nat.pow_le_pow_right (by omega) (by omega))
      have wl : Wee l := hb1.wee (by omega) h12 (Nat.lt_of_le_of_lt (by omega) hbig)
      have wq : ∀ {fd : Fnd} {i q}, FdB BIG fd → fd.length ≤ 30000 → fget fd i = some q → Wee q := fun hF hL e => (hF _ (fget_mem e)).wee (by omega) h12 (Nat.lt_of_le_of_lt (Nat.mul_le_mul_left _ hL) hbig)
      have hij : i * 100 + j ≤ 10000 := by omega
      walk_at "mp1"
      refine gs_half (c := 3) (o := D.rat) (fd := (es.take j).foldl wStep (waysN es s i)) (x := x) (y := y) (l := l) rfl rfl rfl mput_same (by omega) (fun q e => ?_) ?_
      · walk_at "mpR"
        refine ⟨_, _, _, _, rfl, rfl, mput_same, by rw [dget_dOf, e]; rfl, ?_⟩
        walk_at "mpR"
        exact ro_addR (wq hF (by omega) e) wl ⟨rfl, rfl⟩
      refine nx_go ?_
      dsimp only
      rw [mput_mput]
      refine gs_half (c := 3) (o := D.rat) (fd := wHalf ((es.take j).foldl wStep (waysN es s i)) x y l) (x := y) (y := x) (l := l) rfl rfl rfl mput_same (by omega) (fun q e => ?_) ?_
      · walk_at "mpR"
        refine ⟨_, _, _, _, rfl, rfl, mput_same, by rw [dget_dOf, e]; rfl, ?_⟩
        walk_at "mpR"
        exact ro_addR (wq hF1 (by omega) e) wl ⟨rfl, rfl⟩
      dsimp only
      rw [mput_mput]
      have e1 := rnd_take (fd := waysN es s i) he
      refine nx_inv ⟨w1, some (.dat (.int x)), some (.dat (.int y)), some (.dat (.rat l)), ?_, ?_, ?_⟩
      · rw [e1]
        rfl
      · rw [e1]
        exact hF2
      · rw [e1]
        have : (wStep ((es.take j).foldl wStep (waysN es s i)) (x, y, l)).length ≤ ((es.take j).foldl wStep (waysN es s i)).length + 2 := by
          show (wHalf (wHalf _ x y l) y x l).length ≤ _
          omega
        omega
    · rintro _ ⟨w1, w2, w3, w4, rfl, hF, hL⟩
      rw [List.length_map, List.take_length] at hF hL ⊢
      refine nx_inv ⟨_, _, _, _, rfl, hF, ?_⟩
      show (waysN es s (i + 1)).length ≤ _
      have : (waysN es s (i + 1)).length ≤ 1 + 2 * (i * 100 + es.length) := hL
      omega
  · rintro _ ⟨w1, w2, w3, w4, rfl, hF, hL⟩
    walk_at "mpR"
    refine rt_frz (d := .dct ((waysN es s m).map (·.1)) ((waysN es s m).map fun p => .rat p.2)) hp mput_same ?_ (hret.go fun q c hq => ?_)
    · show _ = D.dct _ _
      rw [List.take_zero]
      simp [dOf, Function.comp_def]
    · show mdel (mput b0.mem p _) p q = _
      rw [mdel_mput hp]
      exact hq
end MP
/-! MPT -/
set_option exponentiation.threshold 10000
/-! shows_tree, takes_tree -/
namespace MP
open PySem PySem.Spec PyProof.Rows L2

/-! ### pigeons -/
theorem pigeon : ∀ (m : Nat) (l : List Nat), l.Nodup → (∀ x ∈ l, x < m) → l.length ≤ m
  | 0, l, _, h => by
    cases l with
    | nil => simp
    | cons x l => exact absurd (h x (List.mem_cons_self ..)) (by omega)
  | m + 1, l, hn, h => by
    by_cases hm : m ∈ l
    · have h1 : (l.erase m).length ≤ m := pigeon m (l.erase m) (hn.erase m) fun x hx => by
        obtain ⟨h2, h3⟩ := hn.mem_erase_iff.mp hx
        have := h x h3
        omega
      rw [List.length_erase_of_mem hm] at h1
      omega
    · have := pigeon m l hn fun x hx => by
        have h1 := h x hx
        have h2 : x ≠ m := fun e => hm (e ▸ hx)
        omega
      omega
theorem pigeon_all {m : Nat} {l : List Nat} (hn : l.Nodup) (h : ∀ x ∈ l, x < m) (hl : l.length = m) {y : Nat} (hy : y < m) : y ∈ l := by
  refine Classical.byContradiction fun hc => ?_
  have := pigeon m (y :: l) (List.nodup_cons.mpr ⟨hc, hn⟩) fun x hx => by
    rcases List.mem_cons.mp hx with rfl | hx
    · exact hy
    · exact h x hx
  simp only [List.length_cons] at this
  omega
/-- keys apart, in range -/
structure FdOk (m : Nat) (fd : Fnd) : Prop where
  nd : (fd.map (·.1)).Nodup
  rg : ∀ p ∈ fd, 0 ≤ p.1 ∧ p.1 < (m : Int)
theorem fget_none {fd : Fnd} {i : Int} (h : fget fd i = none) : i ∉ fd.map (·.1) := by
  unfold fget at h
  rw [Option.map_eq_none_iff, List.find?_eq_none] at h
  intro hi
  obtain ⟨p, hp, e⟩ := List.mem_map.mp hi
  exact h p hp (by simpa using e)
theorem fget_some_of_mem {fd : Fnd} {i : Int} (h : i ∈ fd.map (·.1)) : (fget fd i).isSome := by
  cases q : fget fd i with
  | none => exact absurd h (fget_none q)
  | some _ => rfl
theorem FdOk.half {m : Nat} {fd : Fnd} {x y : Int} {l : Rat} (h : FdOk m fd) (hy : 0 ≤ y ∧ y < (m : Int)) : FdOk m (wHalf fd x y l) := by
  rcases wHalf_cases fd x y l with e | ⟨q, h1, h2, e⟩
  · rw [e]; exact h
  · rw [e]
    refine ⟨?_, fun p hp => ?_⟩
    · rw [List.map_append, List.nodup_append]
      refine ⟨h.nd, by simp, fun a ha b hb => ?_⟩
      have hb' : b = y := by simpa using hb
      subst hb'
      exact fun e => fget_none h2 (e ▸ ha)
    · rcases List.mem_append.mp hp with hp | hp
      · exact h.rg p hp
      · rw [List.mem_singleton] at hp
        subst hp
        exact hy
def EsIn (m : Nat) (es : List Edge) : Prop := ∀ e ∈ es, (0 ≤ e.1 ∧ e.1 < (m : Int)) ∧ 0 ≤ e.2.1 ∧ e.2.1 < (m : Int)
theorem fold_inv {P : Fnd → Prop} {es : List Edge} (h : ∀ fd, ∀ e ∈ es, P fd → P (wStep fd e)) : ∀ fd, P fd → P (wRound es fd) := by
  unfold wRound
  induction es with
  | nil => exact fun fd hp => hp
  | cons e es ih => exact fun fd hp => ih (fun fd e' he => h fd e' (List.mem_cons_of_mem _ he)) _ (h fd e (List.mem_cons_self ..) hp)
theorem ways_inv {P : Fnd → Prop} {es : List Edge} {s : Int} (h0 : P [(s, 0)]) (h : ∀ fd, ∀ e ∈ es, P fd → P (wStep fd e)) : ∀ k, P (waysN es s k)
  | 0 => h0
  | k + 1 => fold_inv h _ (ways_inv h0 h k)
theorem ways_ok {es : List Edge} {m : Nat} {s : Int} (h : EsIn m es) (hs : 0 ≤ s ∧ s < (m : Int)) (k : Nat) : FdOk m (waysN es s k) :=
  ways_inv ⟨by simp, fun p hp => by rw [List.mem_singleton] at hp; subst hp; exact hs⟩ (fun fd e he hp => (hp.half (h e he).2).half (h e he).1) k
theorem FdOk.full {m : Nat} {fd : Fnd} (h : FdOk m fd) (hl : fd.length = m) {y : Nat} (hy : y < m) : (fget fd (y : Int)).isSome := by
  refine fget_some_of_mem ?_
  have hn : (fd.map fun p => p.1.toNat).Nodup := by
    have e : (fd.map fun p => p.1.toNat) = (fd.map (·.1)).map Int.toNat := by rw [List.map_map]; rfl
    rw [e, List.Nodup, List.pairwise_map]
    refine (List.pairwise_iff_forall_sublist.mpr fun {a b} hs => ?_)
    have hab := List.pairwise_iff_forall_sublist.mp h.nd hs
    have ha : a ∈ fd.map (·.1) := hs.subset (List.mem_cons_self ..)
    have hb : b ∈ fd.map (·.1) := hs.subset (by simp)
    obtain ⟨p, hp, rfl⟩ := List.mem_map.mp ha
    obtain ⟨q, hq, rfl⟩ := List.mem_map.mp hb
    have h1 := h.rg p hp
    have h2 := h.rg q hq
    intro e
    exact hab (by omega)
  have := pigeon_all hn (fun x hx => by
    obtain ⟨p, hp, rfl⟩ := List.mem_map.mp hx
    have := h.rg p hp
    omega) (by rw [List.length_map]; exact hl) hy
  obtain ⟨p, hp, e⟩ := List.mem_map.mp this
  have h1 := h.rg p hp
  exact List.mem_map.mpr ⟨p, hp, by omega⟩
theorem ways_full {es : List Edge} {m : Nat} {s : Int} (h : EsIn m es) (hs : 0 ≤ s ∧ s < (m : Int)) {k : Nat} (hl : (waysN es s k).length = m) {y : Nat} (hy : y < m) : (fget (waysN es s k) (y : Int)).isSome := (ways_ok h hs k).full hl hy

/-! ### Metric.distance -/
def sDist : B → B → B → D → Prop := fun x y z d => ∃ (n : Nat) (f : Nat → Nat → Rat) (u v : Nat), x = .dat (mtr n f) ∧ y = .dat (.int (u : Int)) ∧ z = .dat (.int (v : Int)) ∧ u < n ∧ v < n ∧ d = .rat (f u v)
theorem sc_Metric_distance : FnScope ["self", "x", "y"] ["self", "x", "y"] (defScope s_Metric_distance) := ⟨rfl, rfl, rfl, by decide +kernel, rfl, by decide +kernel, by decide +kernel⟩
theorem c_Metric_distance {P : Program} {w : World} {K : PySem.W.Frag} {mg : Str → Option Value} {base : Heap} (M : FX K mg) : C8.Met P w K mg base 1 (He.ga K "Metric") "distance" (spA K (pw (f3 sDist))) [] := by
  obtain ⟨fd, F⟩ := M.said.def_ 25
  refine ⟨_, fd, ["self", "x", "y"], [], M.cls 77, M.meth 95, (def_pure (j := 0) F sc_Metric_distance f3_len fun cdv A outer s H E hr => ⟨_, (pss_one (ps_ret (pe_ix (ix_seqK (K := K)) (pe_ix (ix_seqK (K := K)) (pe_fldK (K := K) (pv 0) rfl) (pv 1) (fun _ _ => rfl)) (pv 2) (fun _ _ => rfl)))), ?_⟩), F.bindsN fun _ _ _ _ _ _ us hl => match us, hl with | [_, _, _], _ => rfl, .nil⟩
  try dsimp only [cx_K]
  intro b0 Z bs d h hret
  obtain ⟨_, _, _, rfl, n, f, u, v, rfl, rfl, rfl, hu, hv, rfl⟩ := h
  walk_at "mpM"
  exact hret.go fun _ _ h => h

section
variable {K : PySem.W.Frag} {b0 : Ba} {a : AS} {ta tb tc : TE} {k : B → AS → Prop} {E : XK}
theorem ev_dist (h : EV K b0 ta a fun x a1 => ∃ n f, x = .dat (mtr n f) ∧ EV K b0 tb a1 fun y a2 => ∃ u : Nat, y = .dat (.int (u : Int)) ∧ EV K b0 tc a2 fun z a3 => ∃ v : Nat, z = .dat (.int (v : Int)) ∧ u < n ∧ v < n ∧ k (.dat (.rat (f u v))) a3) :
    EV K b0 (tMeth (He.ga K "Metric") "distance" (spA K (pw (f3 sDist))) [] E ta (tCons tb (tCons tc tNil))) a k := by
  refine ev_methP (EV.mono h ?_)
  rintro x a1 ⟨n, f, rfl, h1⟩
  refine ⟨_, _, rfl, rfl, by decide +kernel, ea_cons (EV.mono h1 ?_)⟩
  rintro y a2 ⟨u, rfl, h2⟩
  refine ea_cons (EV.mono h2 ?_)
  rintro z a3 ⟨v, rfl, h3, h4, h5⟩
  exact ea_nil ⟨_, ⟨_, _, _, rfl, n, f, u, v, rfl, rfl, rfl, h3, h4, rfl⟩, h5⟩
end
/-! ### shows_tree -/
def sShow : B → B → B → D → Prop := fun x y z d => ∃ (n : Nat) (f : Nat → Nat → Rat) (e1 e2 : D), x = .dat (mtr n f) ∧ MetOk n f ∧ y = .dat e1 ∧ Psm e1 ∧ z = .dat e2 ∧ Psm e2 ∧ d = .bl (showsT n f e1 e2)
theorem sc_shows_tree : FnScope ["metric", "m", "edges", "edge", "x", "found", "y"] ["metric", "m", "edges"] (defScope s_shows_tree) := ⟨rfl, rfl, rfl, by decide +kernel, rfl, by decide +kernel, by decide +kernel⟩
theorem c_shows_tree {P : Program} {w : World} {K : PySem.W.Frag} {mg : Str → Option Value} {base : Heap} (M : FX K mg) : C8.Cal P w K mg base 6 "shows_tree" (spA K (pw (f3 sShow))) [] := by
  obtain ⟨fd, F⟩ := M.said.def_ 19
  refine ⟨_, fd, ["metric", "m", "edges"], [], (def_pure (j := 5) F sc_shows_tree f3_len fun cdv A outer s H E hr => ⟨_, (pss_cons (ps_if (PW.pt (pw_or (pt_not (pt_val (pe_callB (call_isiK' (K := K)) (by rfl) (M.free 63) (by decide +kernel) (pa_cons (pv 1) (pa_cons (pe_bltn (v := .ty "int") rfl (M.free 64) (by decide +kernel) rfl) pa_nil))))) (pw_or (pt_val (pe_callB (call_isiK' (K := K)) (by rfl) (M.free 63) (by decide +kernel) (pa_cons (pv 1) (pa_cons (pe_bltn (v := .ty "bool") rfl (M.free 65) (by decide +kernel) rfl) pa_nil)))) (pw_or (pt_cmpR (op_ltAny (K := K) hr) (pv 1) (pe_fldK (K := K) (pv 0) rfl) (nomark _)) (pw_or1 (pt_cmpR op_gt (pv 1) (pe_op op_mulI pe_int (pe_fldK (K := K) (pv 0) rfl)) (nomark _)))))))
      (pss_one (ps_ret pe_bl))
      pss_nil)
      (pss_cons (ps_if (PW.pt (pw_or (pt_not (pt_val (pe_callB (call_isiK' (K := K)) (by rfl) (M.free 63) (by decide +kernel) (pa_cons (pv 2) (pa_cons (pe_bltn (v := .ty "tuple") rfl (M.free 66) (by decide +kernel) rfl) pa_nil))))) (pw_or1 (pt_cmpR (op_neAny M (ops M) hr) (pe_callB (call_len_anyK (K := K)) (by rfl) (M.free 61) PySem.boot_len (pa_cons (pv 2) pa_nil)) (pe_op (op_subAny M (ops M) hr) (pv 1) pe_int) (nomark _)))))
        (pss_one (ps_ret pe_bl))
        pss_nil)
        (pss_cons (ps_for PassesOwn.never rfl (pi_tupK (K := K) (pv 2)) (pg_name (i := 3) sc_shows_tree.nd rfl (by first | exact Or.inl rfl | exact Or.inr rfl))
          (pss_one (ps_if (pt_not (pt_val (C8.pe_c (c_is_edge M) hr (by decide) (by rfl) (pa_cons (pv 1) (pa_cons (pv 3) pa_nil)))))
            (pss_one (ps_ret pe_bl))
            pss_nil)))
          (pss_cons (ps_for PassesOwn.never rfl (pi_range1 rfl (M.free 62) (pa_cons (pe_fldK (K := K) (pv 0) rfl) pa_nil)) (pg_name (i := 4) sc_shows_tree.nd rfl (by first | exact Or.inl rfl | exact Or.inr rfl))
            (pss_cons (ps_set (i := 5) sc_shows_tree.nd rfl (by first | exact Or.inl rfl | exact Or.inr rfl) (C8.pe_c (c_ways M) hr (by decide) (by rfl) (pa_cons (pv 1) (pa_cons (pv 2) (pa_cons (pv 4) pa_nil)))))
              (pss_cons (ps_if (pt_cmpR (op_neAny M (ops M) hr) (pe_callB (call_len_anyK (K := K)) (by rfl) (M.free 61) PySem.boot_len (pa_cons (pv 5) pa_nil)) (pv 1) (nomark _))
                (pss_one (ps_ret pe_bl))
                pss_nil)
                (pss_one (ps_for PassesOwn.never rfl (pi_range1 rfl (M.free 62) (pa_cons (pe_fldK (K := K) (pv 0) rfl) pa_nil)) (pg_name (i := 6) sc_shows_tree.nd rfl (by first | exact Or.inl rfl | exact Or.inr rfl))
                  (pss_one (ps_if (pt_cmpR (op_neAny M (ops M) hr) (pe_dget (hu_of hr) (pv 5) (pv 6) (fun _ _ => rfl)) (C8.pe_mt (c_Metric_distance M) hr (by decide) (pv 0) (pa_cons (pv 4) (pa_cons (pv 6) pa_nil))) (nomark _))
                    (pss_one (ps_ret pe_bl))
                    pss_nil)))))))
            (pss_one (ps_ret pe_bl)))))), ?_⟩), M.glo 11, F.kp, F.bindsN fun _ _ _ _ _ _ us hl => match us, hl with | [_, _, _], _ => rfl, .nil⟩
  try dsimp only [cx_K]
  intro b0 Z bs d h hret
  obtain ⟨_, _, _, rfl, n, f, e1, e2, rfl, hf, rfl, hp1, rfl, hp2, rfl⟩ := h
  have ho1 := hp1.ok
  have ho2 := hp2.ok
  have no : showsT n f e1 e2 = false → Ret K b0 Z (.bl false) := fun h => h ▸ hret
  have m1 : IntMulOk 2 (n : Int) := mul_ok (a := 2) (b := 10) (by decide) (by have := hf.hi; omega) (by omega)
  have h18 := hf.lo
  have h88 := hf.hi
  walk_at "mpM"
  refine ⟨fun hc => ?_, fun hc => ?_⟩
  · cases e1 with
    | int m =>
      walk_at "mpM"
      refine ⟨fun _ => ?_, fun hc2 => (by cases hc2)⟩
      walk_at "mpM"
      refine ⟨fun hc2 => ?_, fun hc2 => ?_⟩
      · have a1 : (n : Int) ≤ m := by have := of_decide_eq_false hc2; omega
        walk_at "mpM"
        refine ⟨fun hc3 => ?_, fun hc3 => ?_⟩
        · have := of_decide_eq_true hc3
          walk_at "mpM"
          refine (no ?_).go fun _ _ h => h
          cases e2 <;> first | rfl | skip
          show (decide ((n : Int) ≤ m) && decide (m ≤ 2 * (n : Int)) && _ && _ && _) = false
          rw [decide_eq_false (by omega : ¬ m ≤ 2 * (n : Int))]
          simp
        · have a2 : m ≤ 2 * (n : Int) := by have := of_decide_eq_false hc3; omega
          walk_at "mpM"
          refine ⟨fun hc4 => ?_, fun hc4 => ?_⟩
          · cases e2 with
            | tup ds =>
              have unf : showsT n f (.int m) (.tup ds) = (decide ((ds.length : Int) = m - 1) && ds.all (isEdge m) && (List.range n).all (wayOk n f m.toNat (ds.map edgeOf))) := by
                show (decide ((n : Int) ≤ m) && decide (m ≤ 2 * (n : Int)) && _ && _ && _) = _
                rw [decide_eq_true a1, decide_eq_true a2]
                rfl
              walk_at "mpM"
              refine ⟨fun hc5 => ?_, fun hc5 => ?_⟩
              · have := of_decide_eq_false (by simpa using hc5 : decide ((ds.length : Int) = m - 1) = false)
                walk_at "mpM"
                refine (no ?_).go fun _ _ h => h
                rw [unf, decide_eq_false this]
                rfl
              · have a3 : (ds.length : Int) = m - 1 := of_decide_eq_true (by simpa using hc5)
                walk_at "mpM"
                refine ⟨fun i a => (ds.take i).all (isEdge m) = true ∧ ∃ w3 w4 w5 w6, a = ⟨[some (.dat (mtr n f)), some (.dat (.int m)), some (.dat (.tup ds)), w3, w4, w5, w6], b0.mem⟩, ⟨by simp, _, _, _, _, rfl⟩, ?_, ?_⟩
                · rintro v i d _ hd ⟨hal, w3, w4, w5, w6, rfl⟩
                  have hpd := hp2.tup d (List.mem_of_getElem? hd)
                  walk_at "mpM"
                  refine ⟨_, ⟨_, _, rfl, m, d, rfl, rfl, hpd, rfl⟩, ?_⟩
                  walk_at "mpM"
                  refine ⟨fun hc6 => ?_, fun hc6 => ?_⟩
                  · walk_at "mpM"
                    refine (no ?_).goUp fun _ _ h => h
                    rw [unf, all_false hd (by simpa using hc6)]
                    simp
                  · walk_at "mpM"
                    exact nx_inv ⟨by rw [all_take_succ hd, hal]; simpa using hc6, _, _, _, _, rfl⟩
                · rintro _ ⟨hal, w3, w4, w5, w6, rfl⟩
                  rw [List.take_length] at hal
                  obtain ⟨mm, rfl⟩ := Int.eq_ofNat_of_zero_le (show 0 ≤ m by omega)
                  let es := ds.map edgeOf
                  have hes : ds = es.map edgeD := by
                    show ds = (ds.map edgeOf).map edgeD
                    rw [List.map_map]
                    conv => lhs; rw [← List.map_id ds]
                    refine List.map_congr_left fun d hd => ?_
                    obtain ⟨e, h1, h2, _⟩ := isEdge_eq (List.all_eq_true.mp hal d hd)
                    show d = edgeD (edgeOf d)
                    rw [h2, ← h1]
                  have hin : EsIn mm es := fun e he => by
                    obtain ⟨d, hd, rfl⟩ := List.mem_map.mp he
                    obtain ⟨e, h1, h2, h3, h4, h5, _⟩ := isEdge_eq (List.all_eq_true.mp hal d hd)
                    rw [h2]
                    exact ⟨⟨h3, by omega⟩, by omega, h5⟩
                  have hb : esB BIG es := fun e he => by
                    obtain ⟨d, hd, rfl⟩ := List.mem_map.mp he
                    obtain ⟨e, h1, h2, _⟩ := isEdge_eq (List.all_eq_true.mp hal d hd)
                    have hpd := hp2.tup d hd
                    rw [h2]
                    rw [h1] at hpd
                    exact hpd.2.2.1
                  have hlen : es.length ≤ 100 := by show (ds.map edgeOf).length ≤ 100; rw [List.length_map]; omega
                  have unf2 : showsT n f (.int (mm : Int)) (.tup ds) = (List.range n).all (wayOk n f mm es) := by
                    rw [unf, decide_eq_true a3, hal]
                    rfl
                  walk_at "mpM"
                  refine ⟨by omega, fun i a => (List.range i).all (wayOk n f mm es) = true ∧ ∃ w3 w4 w5 w6, a = ⟨[some (.dat (mtr n f)), some (.dat (.int (mm : Int))), some (.dat (.tup ds)), w3, w4, w5, w6], b0.mem⟩, ⟨by simp, _, _, _, _, rfl⟩, ?_, ?_⟩
                  · rintro x _ hx ⟨hal2, w3, w4, w5, w6, rfl⟩
                    walk_at "mpM"
                    refine ⟨_, ⟨_, _, _, rfl, mm, es, x, rfl, by rw [← hes], rfl, by omega, hlen, hb, rfl⟩, ?_⟩
                    have noX : wayOk n f mm es x = false → Ret K b0 Z (.bl false) := fun h => no (by
                      rw [unf2, List.all_eq_false]
                      exact ⟨x, List.mem_range.mpr hx, by rw [h]; decide⟩)
                    walk_at "mpM"
                    refine ro_lenF ?_
                    walk_at "mpM"
                    refine ⟨fun hc7 => ?_, fun hc7 => ?_⟩
                    · walk_at "mpM"
                      refine (noX ?_).go fun _ _ h => h
                      have : ¬ (waysN es x mm).length = mm := fun e => by
                        rw [List.length_map, e] at hc7
                        simp at hc7
                      unfold wayOk
                      simp [this]
                    · have hl : (waysN es x mm).length = mm := by
                        rw [List.length_map] at hc7
                        have := of_decide_eq_true (by simpa using hc7 : decide (((waysN es x mm).length : Int) = (mm : Int)) = true)
                        omega
                      walk_at "mpM"
                      refine ⟨by omega, fun j a => (∀ y, y < j → fget (waysN es x mm) (y : Int) = some (f x y)) ∧ ∃ w3 w6, a = ⟨[some (.dat (mtr n f)), some (.dat (.int (mm : Int))), some (.dat (.tup ds)), w3, some (.dat (.int (x : Int))), some (.dat (.dct ((waysN es x mm).map (·.1)) ((waysN es x mm).map fun p => .rat p.2))), w6], b0.mem⟩, ⟨fun y h => by omega, _, _, rfl⟩, ?_, ?_⟩
                      · rintro y _ hy ⟨hY, w3, w6, rfl⟩
                        have hs := ways_full hin ⟨by omega, by omega⟩ hl (show y < mm by omega)
                        obtain ⟨q, hq⟩ := Option.isSome_iff_exists.mp hs
                        have hdg : dget (((waysN es x mm).map (·.1)).zip ((waysN es x mm).map fun p => D.rat p.2)) (y : Int) = some (.rat q) := by
                          have e : ((waysN es x mm).map (·.1)).zip ((waysN es x mm).map fun p => D.rat p.2) = dOf D.rat (waysN es x mm) := by
                            rw [List.zip_map', dOf]
                          rw [e, dget_dOf, hq]
                          rfl
                        walk_at "mp1"
                        refine gs_if (et_test (ev_op (ev_dgetF ?_)))
                        walk_at "mpM"
                        refine ⟨_, _, _, _, rfl, rfl, hdg, ?_⟩
                        refine ev_methP ?_
                        walk_at "mpM"
                        refine ⟨_, _, rfl, rfl, by decide +kernel, ?_⟩
                        walk_at "mpM"
                        refine ⟨_, ⟨_, _, _, rfl, n, f, x, y, rfl, rfl, rfl, hx, hy, rfl⟩, ?_⟩
                        walk_at "mpM"
                        refine ⟨fun hc8 => ?_, fun hc8 => ?_⟩
                        · walk_at "mpM"
                          refine (noX ?_).go fun _ _ h => h
                          have hne : ¬ q = f x y := of_decide_eq_false (by simpa using hc8)
                          unfold wayOk
                          rw [Bool.and_eq_false_iff]
                          right
                          rw [List.all_eq_false]
                          refine ⟨y, List.mem_range.mpr hy, ?_⟩
                          rw [hq]
                          simpa using hne
                        · have heq : q = f x y := of_decide_eq_true (by simpa using hc8)
                          walk_at "mpM"
                          refine nx_inv ⟨fun z hz => ?_, _, _, rfl⟩
                          rcases Nat.lt_succ_iff_lt_or_eq.mp hz with h | rfl
                          · exact hY z h
                          · rw [hq, heq]
                      · rintro _ ⟨hY, w3, w6, rfl⟩
                        refine nx_mk (nx_inv ⟨?_, _, _, _, _, rfl⟩)
                        rw [List.range_succ, List.all_append, hal2]
                        simp only [List.all_cons, List.all_nil, Bool.true_and, Bool.and_true]
                        unfold wayOk
                        simp only [hl, decide_true, Bool.true_and, List.all_eq_true, List.mem_range, decide_eq_true_eq]
                        exact hY
                  · rintro _ ⟨hal2, w3, w4, w5, w6, rfl⟩
                    walk_at "mpM"
                    rw [show true = showsT n f (.int (mm : Int)) (.tup ds) from by rw [unf2, hal2]]
                    exact hret.go fun _ _ h => h
            | _ => cases hc4
          · refine ⟨fun _ => ?_, fun h => (by cases h)⟩
            walk_at "mpM"
            refine (no ?_).go fun _ _ h => h
            cases e2 with
            | tup ds => cases hc4
            | _ => rfl
      · have := of_decide_eq_true hc2
        refine ⟨fun _ => ?_, fun h => (by cases h)⟩
        walk_at "mpM"
        refine (no ?_).go fun _ _ h => h
        cases e2 <;> first | rfl | skip
        show (decide ((n : Int) ≤ m) && decide (m ≤ 2 * (n : Int)) && _ && _ && _) = false
        rw [decide_eq_false (by omega : ¬ (n : Int) ≤ m)]
        simp
    | bl b =>
      walk_at "mpM"
      refine ⟨fun hc => (by cases hc), fun _ => ?_⟩
      refine ⟨fun _ => ?_, fun h => (by cases h)⟩
      walk_at "mpM"
      exact (no rfl).go fun _ _ h => h
    | _ => cases hc
  · refine ⟨fun _ => ?_, fun h => (by cases h)⟩
    walk_at "mpM"
    refine (no ?_).go fun _ _ h => h
    cases e1 with
    | int m => cases hc
    | _ => rfl

/-! ### takes_tree -/
def sTakes : B → B → D → Prop := fun x y d => ∃ (n : Nat) (f : Nat → Nat → Rat) (e : D), x = .dat (mtr n f) ∧ MetOk n f ∧ y = .dat e ∧ Psm e ∧ d = .bl (holdsT n f e)
theorem sc_takes_tree : FnScope ["metric", "paper", "x", "y", "u", "v", "one", "two", "three", "a", "b", "c"] ["metric", "paper"] (defScope s_takes_tree) := ⟨rfl, rfl, rfl, by decide +kernel, rfl, by decide +kernel, by decide +kernel⟩
theorem c_takes_tree {P : Program} {w : World} {K : PySem.W.Frag} {mg : Str → Option Value} {base : Heap} (M : FX K mg) : C8.Cal P w K mg base 7 "takes_tree" (spA K (pw (f2 sTakes))) [] := by
  obtain ⟨fd, F⟩ := M.said.def_ 20
  refine ⟨_, fd, ["metric", "paper"], [], (def_pure (j := 6) F sc_takes_tree f2_len fun cdv A outer s H E hr => ⟨_, (pss_cons (ps_if (PW.pt (pw_or (pt_not (pt_val (pe_callB (call_isiK' (K := K)) (by rfl) (M.free 63) (by decide +kernel) (pa_cons (pv 1) (pa_cons (pe_bltn (v := .ty "tuple") rfl (M.free 66) (by decide +kernel) rfl) pa_nil))))) (pw_or1 (pt_cmpR (op_eqAny M (ops M) hr) (pe_callB (call_len_anyK (K := K)) (by rfl) (M.free 61) PySem.boot_len (pa_cons (pv 1) pa_nil)) pe_int (nomark _)))))
      (pss_one (ps_ret pe_bl))
      pss_nil)
      (pss_cons (ps_if (pt_cmpR (op_eqAny M (ops M) hr) (pe_ix (ix_seqK (K := K)) (pv 1) pe_int (fun _ _ => rfl)) pe_str (nomark _))
        (pss_one (ps_ret (pe_and (pe_cmpR (op_eqAny M (ops M) hr) (pe_callB (call_len_anyK (K := K)) (by rfl) (M.free 61) PySem.boot_len (pa_cons (pv 1) pa_nil)) pe_int (nomark _)) (pe_one (C8.pe_c (c_shows_tree M) hr (by decide) (by rfl) (pa_cons (pv 0) (pa_cons (pe_ix (ix_seqK (K := K)) (pv 1) pe_int (fun _ _ => rfl)) (pa_cons (pe_ix (ix_seqK (K := K)) (pv 1) pe_int (fun _ _ => rfl)) pa_nil))))))))
        pss_nil)
        (pss_cons (ps_if (PW.pt (pw_or (pt_cmpR (op_neAny M (ops M) hr) (pe_ix (ix_seqK (K := K)) (pv 1) pe_int (fun _ _ => rfl)) pe_str (nomark _)) (pw_or1 (pt_not (pt_val (C8.pe_c (c_are_points M) hr (by decide) (by rfl) (pa_cons (pe_fldK (K := K) (pv 0) rfl) (pa_cons (pe_slice (sl_anyK (K := K)) (pv 1) (po_some pe_int) po_none) (pa_cons pe_int pa_nil)))))))))
          (pss_one (ps_ret pe_bl))
          pss_nil)
          (pss_cons (ps_asg (pe_slice (sl_anyK (K := K)) (pv 1) (po_some pe_int) po_none) (pg_tup (n := 4) rfl (pgs_cons (pg_name (i := 2) sc_takes_tree.nd rfl (by first | exact Or.inl rfl | exact Or.inr rfl)) (pgs_cons (pg_name (i := 3) sc_takes_tree.nd rfl (by first | exact Or.inl rfl | exact Or.inr rfl)) (pgs_cons (pg_name (i := 4) sc_takes_tree.nd rfl (by first | exact Or.inl rfl | exact Or.inr rfl)) (pgs_cons (pg_name (i := 5) sc_takes_tree.nd rfl (by first | exact Or.inl rfl | exact Or.inr rfl)) pgs_nil))))))
            (pss_cons (ps_set (i := 6) sc_takes_tree.nd rfl (by first | exact Or.inl rfl | exact Or.inr rfl) (pe_op (op_addAny M (ops M) hr) (C8.pe_mt (c_Metric_distance M) hr (by decide) (pv 0) (pa_cons (pv 2) (pa_cons (pv 3) pa_nil))) (C8.pe_mt (c_Metric_distance M) hr (by decide) (pv 0) (pa_cons (pv 4) (pa_cons (pv 5) pa_nil)))))
              (pss_cons (ps_set (i := 7) sc_takes_tree.nd rfl (by first | exact Or.inl rfl | exact Or.inr rfl) (pe_op (op_addAny M (ops M) hr) (C8.pe_mt (c_Metric_distance M) hr (by decide) (pv 0) (pa_cons (pv 2) (pa_cons (pv 4) pa_nil))) (C8.pe_mt (c_Metric_distance M) hr (by decide) (pv 0) (pa_cons (pv 3) (pa_cons (pv 5) pa_nil)))))
                (pss_cons (ps_set (i := 8) sc_takes_tree.nd rfl (by first | exact Or.inl rfl | exact Or.inr rfl) (pe_op (op_addAny M (ops M) hr) (C8.pe_mt (c_Metric_distance M) hr (by decide) (pv 0) (pa_cons (pv 2) (pa_cons (pv 5) pa_nil))) (C8.pe_mt (c_Metric_distance M) hr (by decide) (pv 0) (pa_cons (pv 3) (pa_cons (pv 4) pa_nil)))))
                  (pss_cons (ps_for PassesOwn.never rfl (pi_listK (K := K) (pe_lst (pa_cons (pe_tup (pa_cons (pv 6) (pa_cons (pv 7) (pa_cons (pv 8) pa_nil)))) (pa_cons (pe_tup (pa_cons (pv 7) (pa_cons (pv 6) (pa_cons (pv 8) pa_nil)))) (pa_cons (pe_tup (pa_cons (pv 8) (pa_cons (pv 6) (pa_cons (pv 7) pa_nil)))) pa_nil))))) (pg_tup (n := 3) rfl (pgs_cons (pg_name (i := 9) sc_takes_tree.nd rfl (by first | exact Or.inl rfl | exact Or.inr rfl)) (pgs_cons (pg_name (i := 10) sc_takes_tree.nd rfl (by first | exact Or.inl rfl | exact Or.inr rfl)) (pgs_cons (pg_name (i := 11) sc_takes_tree.nd rfl (by first | exact Or.inl rfl | exact Or.inr rfl)) pgs_nil))))
                    (pss_one (ps_if (PW.pt (pw_and (pt_val (C8.pe_c (c_is_above M) hr (by decide) (by rfl) (pa_cons (pv 9) (pa_cons (pv 10) pa_nil)))) (pw_and1 (pt_val (C8.pe_c (c_is_above M) hr (by decide) (by rfl) (pa_cons (pv 9) (pa_cons (pv 11) pa_nil)))))))
                      (pss_one (ps_ret pe_bl))
                      pss_nil)))
                    (pss_one (ps_ret pe_bl)))))))))), ?_⟩), M.glo 12, F.kp, F.bindsN fun _ _ _ _ _ _ us hl => match us, hl with | [_, _], _ => rfl, .nil⟩
  try dsimp only [cx_K]
  intro b0 Z bs d h hret
  obtain ⟨_, _, rfl, n, f, e, rfl, hf, rfl, hp, rfl⟩ := h
  have ho := hp.ok
  have no : holdsT n f e = false → Ret K b0 Z (.bl false) := fun h => h ▸ hret
  walk_at "mpM"
  refine ⟨fun hc => ?_, fun hc => ?_⟩
  · cases e with
    | tup ds =>
      walk_at "mpM"
      refine ⟨fun hc2 => ?_, fun hc2 => ?_⟩
      · walk_at "mpM"
        refine (no ?_).go fun _ _ h => h
        cases ds with
        | nil => rfl
        | cons => simp at hc2; omega
      · cases ds with
        | nil => simp at hc2
        | cons p0 ps =>
          have hq := hp.tup
          have hq' : Psm (.tup ps) := Psms.iff.mpr fun d hd => hq d (List.mem_cons_of_mem _ hd)
          have hp0 := hq p0 (List.mem_cons_self ..)
          walk_at "mpM"
          refine ro_eqS hp0.plain ?_
          walk_at "mpM"
          refine ⟨fun hc3 => ?_, fun hc3 => ?_⟩
          · have unf : holdsT n f (.tup (p0 :: ps)) = treeT n f ps := if_pos hc3
            walk_at "mpM"
            refine ⟨fun hc4 => ?_, fun hc4 => ?_⟩
            · have hl : ps.length = 2 := by have := of_decide_eq_true hc4; simp at this; omega
              obtain ⟨p1, p2, rfl⟩ : ∃ p1 p2, ps = [p1, p2] := by
                match ps, hl with
                | [p1, p2], _ => exact ⟨p1, p2, rfl⟩
              walk_at "mpM"
              refine ⟨_, ⟨_, _, _, rfl, n, f, p1, p2, rfl, hf, rfl, hq p1 (by simp), rfl, hq p2 (by simp), rfl⟩, ?_⟩
              rw [show showsT n f p1 p2 = _ from unf.symm]
              exact hret.go fun _ _ h => h
            · refine (no ?_).go fun _ _ h => h
              have hl : ¬ ps.length = 2 := by have := of_decide_eq_false hc4; simp at this; omega
              rw [unf, treeT_no hl]
          · have unf : holdsT n f (.tup (p0 :: ps)) = (isS "points" p0 && arePts n 4 (.tup ps) && pointsT f ps) := if_neg (by rw [hc3]; decide)
            walk_at "mpM"
            refine ro_neS hp0.plain ?_
            walk_at "mpM"
            refine ⟨fun hc4 => ?_, fun hc4 => ?_⟩
            · have h5 : isS "points" p0 = true := by simpa using hc4
              walk_at "mpM"
              rw [cut_tail]
              refine ⟨_, ⟨_, _, _, rfl, (n : Int), .tup ps, 4, rfl, rfl, hq', rfl, rfl⟩, ?_⟩
              walk_at "mpM"
              refine ⟨fun hc5 => ?_, fun hc5 => ?_⟩
              · walk_at "mpM"
                refine (no ?_).go fun _ _ h => h
                rw [unf, show arePts n 4 (.tup ps) = false by simpa using hc5]
                simp
              · have h6 : arePts n 4 (.tup ps) = true := by simpa using hc5
                have h7 : ps.length = 4 ∧ ps.all (isPt n) = true := by
                  have h8 : (decide ((ps.length : Int) = 4) && ps.all (isPt n)) = true := h6
                  simp only [Bool.and_eq_true, decide_eq_true_eq] at h8
                  exact ⟨by omega, h8.2⟩
                obtain ⟨d0, d1, d2, d3, rfl⟩ : ∃ d0 d1 d2 d3, ps = [d0, d1, d2, d3] := by
                  match ps, h7.1 with
                  | [d0, d1, d2, d3], _ => exact ⟨d0, d1, d2, d3, rfl⟩
                have h8 : isPt n d0 = true ∧ isPt n d1 = true ∧ isPt n d2 = true ∧ isPt n d3 = true := by simpa using h7.2
                obtain ⟨x, rfl, hx0, hx1⟩ := isPt_eq h8.1
                obtain ⟨y, rfl, hy0, hy1⟩ := isPt_eq h8.2.1
                obtain ⟨u, rfl, hu0, hu1⟩ := isPt_eq h8.2.2.1
                obtain ⟨v, rfl, hv0, hv1⟩ := isPt_eq h8.2.2.2
                obtain ⟨x, rfl⟩ := Int.eq_ofNat_of_zero_le hx0
                obtain ⟨y, rfl⟩ := Int.eq_ofNat_of_zero_le hy0
                obtain ⟨u, rfl⟩ := Int.eq_ofNat_of_zero_le hu0
                obtain ⟨v, rfl⟩ := Int.eq_ofNat_of_zero_le hv0
                have lx : x < n := by omega
                have ly : y < n := by omega
                have lu : u < n := by omega
                have lv : v < n := by omega
                have unf2 : holdsT n f (.tup [p0, .int x, .int y, .int u, .int v]) = above3 (f x y + f u v) (f x u + f y v) (f x v + f y u) := by
                  rw [unf, h5, h6]
                  rfl
                rw [unf2] at hret no
                have big : ∀ {b : Nat}, b ≤ BM * 4 → b < 2 ^ 2000 := fun h => Nat.lt_of_le_of_lt h (Nat.lt_of_lt_of_le (by decide : BM * 4 < 2 ^ 64) (Nat.pow_le_pow_right (by omega) (by omega)))
                have w3 : 6 < 2 ^ 2000 := Nat.lt_of_lt_of_le (by decide : 6 < 2 ^ 3) (Nat.pow_le_pow_right (by omega) (by omega))
                have w1 : ∀ {i j}, i < n → j < n → Wee (f i j) := fun hi hj => hf.wee hi hj
                have w2 : ∀ {i j k l}, i < n → j < n → k < n → l < n → Wee (f i j + f k l) := fun hi hj hk hl => ((hf.bd _ _ hi hj).add (hf.bd _ _ hk hl)).wee (by omega) w3 (big (by omega))
                walk_at "mpM"
                rw [cut_tail]
                walk_at "mpM"
                refine ev_lst3 ?_
                walk_at "mpM"
                let ts : List (Rat × Rat × Rat) := [(f x y + f u v, f x u + f y v, f x v + f y u), (f x u + f y v, f x y + f u v, f x v + f y u), (f x v + f y u, f x y + f u v, f x u + f y v)]
                let c : Rat × Rat × Rat → Bool := fun t => decide (t.2.1 < t.1) && decide (t.2.2 < t.1)
                have hany : above3 (f x y + f u v) (f x u + f y v) (f x v + f y u) = ts.any c := by
                  simp only [ts, c, above3, List.any_cons, List.any_nil, Bool.or_false, Bool.or_assoc]
                have hts : ∀ (i : Nat) (d : D), ([D.tup [.rat (f x y + f u v), .rat (f x u + f y v), .rat (f x v + f y u)], .tup [.rat (f x u + f y v), .rat (f x y + f u v), .rat (f x v + f y u)], .tup [.rat (f x v + f y u), .rat (f x y + f u v), .rat (f x u + f y v)]] : List D)[i]? = some d → ∃ t : Rat × Rat × Rat, ts[i]? = some t ∧ d = D.tup [.rat t.1, .rat t.2.1, .rat t.2.2] := by
                  intro i d h
                  match i, h with
                  | 0, h => exact ⟨_, rfl, (Option.some.inj h).symm⟩
                  | 1, h => exact ⟨_, rfl, (Option.some.inj h).symm⟩
                  | 2, h => exact ⟨_, rfl, (Option.some.inj h).symm⟩
                have hw : ∀ t ∈ ts, Wee t.1 ∧ Wee t.2.1 ∧ Wee t.2.2 := by
                  intro t ht
                  simp only [ts, List.mem_cons, List.not_mem_nil, or_false] at ht
                  rcases ht with rfl | rfl | rfl <;> exact ⟨w2 (by assumption) (by assumption) (by assumption) (by assumption), w2 (by assumption) (by assumption) (by assumption) (by assumption), w2 (by assumption) (by assumption) (by assumption) (by assumption)⟩
                refine ⟨fun i a => (ts.take i).any c = false ∧ a.mem = b0.mem ∧ a.env.length = 12, ⟨rfl, rfl, rfl⟩, ?_, ?_⟩
                · rintro vv i d a hd ⟨hal, hm, hlen⟩
                  obtain ⟨t, ht, rfl⟩ := hts i d hd
                  obtain ⟨q1, q2, q3⟩ := hw t (List.mem_of_getElem? ht)
                  obtain ⟨env, mem⟩ := a
                  cases (show mem = b0.mem from hm)
                  have hlen : env.length = 12 := hlen
                  have g9 : ((((env.set 9 (some (B.dat (D.rat t.1)))).set 10 (some (.dat (.rat t.2.1)))).set 11 (some (.dat (.rat t.2.2)))))[9]? = some (some (.dat (.rat t.1))) := by simp [List.getElem?_set, hlen]
                  have g10 : ((((env.set 9 (some (B.dat (D.rat t.1)))).set 10 (some (.dat (.rat t.2.1)))).set 11 (some (.dat (.rat t.2.2)))))[10]? = some (some (.dat (.rat t.2.1))) := by simp [List.getElem?_set, hlen]
                  have g11 : ((((env.set 9 (some (B.dat (D.rat t.1)))).set 10 (some (.dat (.rat t.2.1)))).set 11 (some (.dat (.rat t.2.2)))))[11]? = some (some (.dat (.rat t.2.2))) := by simp [List.getElem?_set, hlen]
                  have e1 : (ts.take (i + 1)).any c = c t := by
                    rw [List.take_succ, List.any_append, hal, ht]
                    simp
                  walk_at "mpM"
                  refine ev_var g9 (ea_cons (ev_var g10 (ea_nil ⟨_, ⟨_, _, rfl, _, _, rfl, rfl, q1, q2, rfl⟩, _, rfl, fun hc1 => ?_, fun hc1 => ?_⟩)))
                  · walk_at "mpM"
                    refine ev_var g9 (ea_cons (ev_var g11 (ea_nil ⟨_, ⟨_, _, rfl, _, _, rfl, rfl, q1, q3, rfl⟩, _, rfl, fun hc2 => ?_, fun hc2 => ?_⟩)))
                    · have h9 : c t = true := by show (_ && _) = true; rw [hc1, hc2]; rfl
                      walk_at "mpM"
                      rw [show true = above3 (f x y + f u v) (f x u + f y v) (f x v + f y u) from by rw [hany]; exact (List.any_eq_true.mpr ⟨t, List.mem_of_getElem? ht, h9⟩).symm]
                      exact hret.goUp fun _ _ h => h
                    · walk_at "mpM"
                      exact nx_inv ⟨by rw [e1]; show (_ && _) = false; rw [hc2, Bool.and_false], rfl, by simp [hlen]⟩
                  · refine ⟨fun h => (by cases h), fun _ => ?_⟩
                    walk_at "mpM"
                    exact nx_inv ⟨by rw [e1]; show (_ && _) = false; rw [hc1]; rfl, rfl, by simp [hlen]⟩
                · rintro a ⟨hal, hm, hlen⟩
                  walk_at "mpM"
                  refine (no ?_).go fun q c h => by rw [hm]; exact h
                  rw [hany]
                  exact hal
            · have h5 : isS "points" p0 = false := by simpa using hc4
              refine ⟨fun _ => ?_, fun h => (by cases h)⟩
              walk_at "mpM"
              refine (no ?_).go fun _ _ h => h
              rw [unf, h5]
              rfl
    | _ => cases hc
  · refine ⟨fun _ => ?_, fun h => (by cases h)⟩
    walk_at "mpM"
    refine (no ?_).go fun _ _ h => h
    cases e with
    | tup ds => cases hc
    | _ => rfl
end MP
/-! MPU -/
set_option exponentiation.threshold 10000
/-! Metric -/
namespace MP
open PySem PySem.Spec PyProof.Rows L2

section
variable {K : PySem.W.Frag} {b0 : Ba} {a : AS} {te ta tb tc : TE} {k : B → AS → Prop} {E : XK} {mg : Str → Option Value}
theorem ev_isiT2' (M : FX K mg) {t1 t2 : String} (h1 : t1 ∈ (["int", "bool", "tuple", "list"] : List String)) (h2 : t2 ∈ (["int", "bool", "tuple", "list"] : List String))
    (h : EV K b0 te a fun x a1 => ∃ d, x = .dat d ∧ okD d ∧ k (.dat (.bl (isT t1 d || isT t2 d))) a1) : EV K b0 (tCB (rIsiT K) (tCons te (tCons (tTup (tCons (tC (.ty t1)) (tCons (tC (.ty t2)) tNil))) tNil))) a k := ev_isiT2 M h1 h2 h
theorem ev_meth0 {f : B → D → Prop} {m : Str} (hm : m ∉ ([("n" : Str), "d"] : List Str)) (h : EV K b0 ta a fun x a1 => ∃ p, x = .dat (.rat p) ∧ ∃ d, f (.dat (.rat p)) d ∧ k (.dat d) a1) : EV K b0 (tMeth (He.ga K "Ratio") m (spA K (pw (f1 f))) [] E ta tNil) a k :=
  ev_methP (EV.mono h fun x a1 ⟨p, e, d, h1, h2⟩ => ⟨.rat p, _, e, rfl, hm, ea_nil ⟨d, ⟨x, rfl, by rw [e]; exact h1⟩, h2⟩⟩)
theorem ev_isz (h : EV K b0 ta a fun x a1 => ∃ p, x = .dat (.rat p) ∧ k (.dat (.bl (decide (p = 0)))) a1) : EV K b0 (tMeth (He.ga K "Ratio") "is_zero" (spA K (pw (f1 sZero))) [] E ta tNil) a k :=
  ev_meth0 (by decide +kernel) (EV.mono h fun x a1 ⟨p, e, h1⟩ => ⟨p, e, _, ⟨p, rfl, rfl⟩, h1⟩)
theorem ev_sgn (h : EV K b0 ta a fun x a1 => ∃ p, x = .dat (.rat p) ∧ k (.dat (.int p.num.sign)) a1) : EV K b0 (tMeth (He.ga K "Ratio") "sign" (spA K (pw (f1 sSign))) [] E ta tNil) a k :=
  ev_meth0 (by decide +kernel) (EV.mono h fun x a1 ⟨p, e, h1⟩ => ⟨p, e, _, ⟨p, rfl, rfl⟩, h1⟩)
theorem ev_rabs (h : EV K b0 ta a fun x a1 => ∃ p, x = .dat (.rat p) ∧ Wee p ∧ k (.dat (.rat (rabs p))) a1) : EV K b0 (tMeth (He.ga K "Ratio") "absolute" (spA K (pw (f1 sAbs))) [] E ta tNil) a k :=
  ev_meth0 (by decide +kernel) (EV.mono h fun x a1 ⟨p, e, hw, h1⟩ => ⟨p, e, _, ⟨p, rfl, hw, rfl⟩, h1⟩)
theorem ev_rhalf (h : EV K b0 ta a fun x a1 => ∃ p, x = .dat (.rat p) ∧ Wee p ∧ k (.dat (.rat (p / 2))) a1) : EV K b0 (tMeth (He.ga K "Ratio") "half" (spA K (pw (f1 sHalf))) [] E ta tNil) a k :=
  ev_meth0 (by decide +kernel) (EV.mono h fun x a1 ⟨p, e, hw, h1⟩ => ⟨p, e, _, ⟨p, rfl, hw, rfl⟩, h1⟩)
end
theorem Bd.wee' {b : Nat} {q : Rat} (h : Bd 6 b q) (h2 : b ≤ BM * 16) : Wee q := h.wee (by omega) (Nat.lt_of_lt_of_le (by decide : 6 < 2 ^ 3) (Nat.pow_le_pow_right (by omega) (by omega))) (Nat.lt_of_le_of_lt h2 (Nat.lt_of_lt_of_le (by decide : BM * 16 < 2 ^ 64) (Nat.pow_le_pow_right (by omega) (by omega))))
/-- a metric -/
structure IsMet (n : Nat) (f : Nat → Nat → Rat) : Prop where
  zero : ∀ x, x < n → f x x = 0
  symm : ∀ x y, x < n → y < n → f x y = f y x
  tri : ∀ x y z, x < n → y < n → z < n → f x z ≤ f x y + f y z
  pos : ∀ x y, x < n → y < n → x ≠ y → 0 < f x y
theorem sign_nonneg {q : Rat} (h : 0 ≤ q) : ¬ q.num.sign < 0 := by
  have := Rat.num_nonneg.mpr h
  have h2 := Int.sign_nonneg_iff.mpr this
  omega
theorem sign_pos {q : Rat} (h : 0 < q) : ¬ q.num.sign ≤ 0 := by
  have := Rat.num_pos'.mpr h
  rw [Int.sign_eq_one_of_pos this]
  omega
def sKeeps : B → D → Prop := fun x d => ∃ n f, x = .dat (rowsD n f) ∧ MetOk n f ∧ IsMet n f ∧ d = .bl true
theorem rc_lenRows {K : PySem.W.Frag} {b0 : Ba} {a : AS} {k : B → AS → Prop} {n : Nat} {f : Nat → Nat → Rat} (hk : k (.dat (.int (n : Int))) a) : RCl K b0 (rLenAny K) [.dat (rowsD n f)] a k := rc_lenT (by
  rw [List.length_map, List.length_range]
  exact hk)
theorem sc_keeps_triangles : FnScope ["rows", "n", "x", "y", "z"] ["rows"] (defScope s_keeps_triangles) := ⟨rfl, rfl, rfl, by decide +kernel, rfl, by decide +kernel, by decide +kernel⟩
theorem c_keeps_triangles {P : Program} {w : World} {K : PySem.W.Frag} {mg : Str → Option Value} {base : Heap} (M : FX K mg) : C8.Cal P w K mg base 5 "keeps_triangles" (spA K (pw (f1 sKeeps))) [] := by
  obtain ⟨fd, F⟩ := M.said.def_ 22
  refine ⟨_, fd, ["rows"], [], (def_pure (j := 4) F sc_keeps_triangles f1_len fun cdv A outer s H E hr => ⟨_, (pss_cons (ps_set (i := 1) sc_keeps_triangles.nd rfl (by first | exact Or.inl rfl | exact Or.inr rfl) (pe_callB (call_len_anyK (K := K)) (by rfl) (M.free 61) PySem.boot_len (pa_cons (pv 0) pa_nil)))
      (pss_cons (ps_for PassesOwn.never rfl (pi_range1 rfl (M.free 62) (pa_cons (pv 1) pa_nil)) (pg_name (i := 2) sc_keeps_triangles.nd rfl (by first | exact Or.inl rfl | exact Or.inr rfl))
        (pss_cons (ps_if (pt_not (pt_val (C8.pe_mt0 (c_Ratio_is_zero M) hr (by decide) (pe_ix (ix_seqK (K := K)) (pe_ix (ix_seqK (K := K)) (pv 0) (pv 2) (fun _ _ => rfl)) (pv 2) (fun _ _ => rfl)))))
          (pss_one (ps_ret pe_bl))
          pss_nil)
          (pss_one (ps_for PassesOwn.never rfl (pi_range1 rfl (M.free 62) (pa_cons (pv 1) pa_nil)) (pg_name (i := 3) sc_keeps_triangles.nd rfl (by first | exact Or.inl rfl | exact Or.inr rfl))
            (pss_cons (ps_if (pt_cmpR (op_neAny M (ops M) hr) (pe_ix (ix_seqK (K := K)) (pe_ix (ix_seqK (K := K)) (pv 0) (pv 2) (fun _ _ => rfl)) (pv 3) (fun _ _ => rfl)) (pe_ix (ix_seqK (K := K)) (pe_ix (ix_seqK (K := K)) (pv 0) (pv 3) (fun _ _ => rfl)) (pv 2) (fun _ _ => rfl)) (nomark _))
              (pss_one (ps_ret pe_bl))
              pss_nil)
              (pss_one (ps_for PassesOwn.never rfl (pi_range1 rfl (M.free 62) (pa_cons (pv 1) pa_nil)) (pg_name (i := 4) sc_keeps_triangles.nd rfl (by first | exact Or.inl rfl | exact Or.inr rfl))
                (pss_one (ps_if (pt_cmpR (op_ltAny (K := K) hr) (C8.pe_mt0 (c_Ratio_sign M) hr (by decide) (pe_op (op_subAny M (ops M) hr) (pe_op (op_addAny M (ops M) hr) (pe_ix (ix_seqK (K := K)) (pe_ix (ix_seqK (K := K)) (pv 0) (pv 2) (fun _ _ => rfl)) (pv 3) (fun _ _ => rfl)) (pe_ix (ix_seqK (K := K)) (pe_ix (ix_seqK (K := K)) (pv 0) (pv 3) (fun _ _ => rfl)) (pv 4) (fun _ _ => rfl))) (pe_ix (ix_seqK (K := K)) (pe_ix (ix_seqK (K := K)) (pv 0) (pv 2) (fun _ _ => rfl)) (pv 4) (fun _ _ => rfl)))) pe_int (nomark _))
                  (pss_one (ps_ret pe_bl))
                  pss_nil)))))))))
        (pss_one (ps_ret pe_bl)))), ?_⟩), M.glo 14, F.kp, F.bindsN fun _ _ _ _ _ _ us hl => match us, hl with | [_], _ => rfl, .nil⟩
  try dsimp only [cx_K]
  intro b0 Z bs d h hret
  obtain ⟨_, rfl, n, f, rfl, hf, hm, rfl⟩ := h
  have h8 := hf.hi
  have w1 : ∀ {i j}, i < n → j < n → Wee (f i j) := fun hi hj => hf.wee hi hj
  have w2 : ∀ {i j k l}, i < n → j < n → k < n → l < n → Wee (f i j + f k l) := fun hi hj hk hl => ((hf.bd _ _ hi hj).add (hf.bd _ _ hk hl)).wee' (by decide)
  walk_at "mpR"
  refine rc_lenRows ?_
  walk_at "mpR"
  refine ⟨by omega, fun i a => ∃ w2 w3 w4, a = ⟨[some (.dat (rowsD n f)), some (.dat (.int (n : Int))), w2, w3, w4], b0.mem⟩, ⟨_, _, _, rfl⟩, ?_, ?_⟩
  · rintro x _ hx ⟨w2', w3, w4, rfl⟩
    walk_at "mpR"
    refine ⟨fun hc => ?_, fun hc => ?_⟩
    · rw [hm.zero x hx] at hc
      cases hc
    walk_at "mpR"
    refine ⟨by omega, fun i a => ∃ w3 w4, a = ⟨[some (.dat (rowsD n f)), some (.dat (.int (n : Int))), some (.dat (.int (x : Int))), w3, w4], b0.mem⟩, ⟨_, _, rfl⟩, ?_, ?_⟩
    · rintro y _ hy ⟨w3, w4, rfl⟩
      walk_at "mpR"
      refine ⟨fun hc => ?_, fun hc => ?_⟩
      · rw [hm.symm x y hx hy] at hc
        simp at hc
      walk_at "mpR"
      refine ⟨by omega, fun i a => ∃ w4, a = ⟨[some (.dat (rowsD n f)), some (.dat (.int (n : Int))), some (.dat (.int (x : Int))), some (.dat (.int (y : Int))), w4], b0.mem⟩, ⟨_, rfl⟩, ?_, ?_⟩
      · rintro z _ hz ⟨w4, rfl⟩
        walk_at "mpR"
        refine ⟨fun hc => ?_, fun hc => ?_⟩
        · refine absurd (of_decide_eq_true hc) (sign_nonneg ?_)
          have := hm.tri x y z hx hy hz
          grind
        · walk_at "mpR"
          exact nx_inv ⟨_, rfl⟩
      · rintro _ ⟨w4, rfl⟩
        exact nx_mk (nx_inv ⟨_, _, rfl⟩)
    · rintro _ ⟨w3, w4, rfl⟩
      exact nx_mk (nx_inv ⟨_, _, _, rfl⟩)
  · rintro _ ⟨w2', w3, w4, rfl⟩
    walk_at "mpR"
    exact hret.go fun _ _ h => h
theorem sc_is_apart : FnScope ["rows", "x", "y"] ["rows"] (defScope s_is_apart) := ⟨rfl, rfl, rfl, by decide +kernel, rfl, by decide +kernel, by decide +kernel⟩
theorem c_is_apart {P : Program} {w : World} {K : PySem.W.Frag} {mg : Str → Option Value} {base : Heap} (M : FX K mg) : C8.Cal P w K mg base 5 "is_apart" (spA K (pw (f1 sKeeps))) [] := by
  obtain ⟨fd, F⟩ := M.said.def_ 23
  refine ⟨_, fd, ["rows"], [], (def_pure (j := 4) F sc_is_apart f1_len fun cdv A outer s H E hr => ⟨_, (pss_cons (ps_for PassesOwn.never rfl (pi_range1 rfl (M.free 62) (pa_cons (pe_callB (call_len_anyK (K := K)) (by rfl) (M.free 61) PySem.boot_len (pa_cons (pv 0) pa_nil)) pa_nil)) (pg_name (i := 1) sc_is_apart.nd rfl (by first | exact Or.inl rfl | exact Or.inr rfl))
      (pss_one (ps_for PassesOwn.never rfl (pi_range1 rfl (M.free 62) (pa_cons (pv 1) pa_nil)) (pg_name (i := 2) sc_is_apart.nd rfl (by first | exact Or.inl rfl | exact Or.inr rfl))
        (pss_one (ps_if (pt_cmpR op_le (C8.pe_mt0 (c_Ratio_sign M) hr (by decide) (pe_ix (ix_seqK (K := K)) (pe_ix (ix_seqK (K := K)) (pv 0) (pv 1) (fun _ _ => rfl)) (pv 2) (fun _ _ => rfl))) pe_int (nomark _))
          (pss_one (ps_ret pe_bl))
          pss_nil)))))
      (pss_one (ps_ret pe_bl))), ?_⟩), M.glo 15, F.kp, F.bindsN fun _ _ _ _ _ _ us hl => match us, hl with | [_], _ => rfl, .nil⟩
  try dsimp only [cx_K]
  intro b0 Z bs d h hret
  obtain ⟨_, rfl, n, f, rfl, hf, hm, rfl⟩ := h
  have h8 := hf.hi
  walk_at "mpR"
  refine rc_lenRows ?_
  walk_at "mpR"
  refine ⟨by omega, fun i a => ∃ w1 w2, a = ⟨[some (.dat (rowsD n f)), w1, w2], b0.mem⟩, ⟨_, _, rfl⟩, ?_, ?_⟩
  · rintro x _ hx ⟨w1, w2, rfl⟩
    walk_at "mpR"
    refine ⟨by omega, fun i a => ∃ w2, a = ⟨[some (.dat (rowsD n f)), some (.dat (.int (x : Int))), w2], b0.mem⟩, ⟨_, rfl⟩, ?_, ?_⟩
    · rintro y _ hy ⟨w2, rfl⟩
      have hyn : y < n := by omega
      walk_at "mpR"
      refine ⟨fun hc => ?_, fun hc => ?_⟩
      · exact absurd (of_decide_eq_true hc) (sign_pos (hm.pos x y hx hyn (by omega)))
      · walk_at "mpR"
        exact nx_inv ⟨_, rfl⟩
    · rintro _ ⟨w2, rfl⟩
      exact nx_mk (nx_inv ⟨_, _, rfl⟩)
  · rintro _ ⟨w1, w2, rfl⟩
    walk_at "mpR"
    exact hret.go fun _ _ h => h
end MP
/-! MPV -/
set_option exponentiation.threshold 10000
/-! comprehensions that only read; lists or tuples by a word -/
namespace MP
open PySem PySem.Spec PyProof.Rows L2

def rel2 (scope sc : Scope) : Scope := { scope with names := scope.names.map fun (n, k) => if (k == .free && sc.kind == .function && sc.names.lookup n == some .cell) then (n, .cell) else (n, k) }
theorem blk_sc {scope : Scope} {cl : List (Str × Addr)} {C : Addr} {env : Env} : (compEnvC scope cl C env).scope = rel2 scope env.scope := rfl
theorem env_sc {q : Str} {sc : Scope} {n : Nat} {f : Addr} {cd : Value} : (envOfC q sc n f cd).scope = sc := rfl
/-- a list or a tuple -/
def sq (t : Bool) (ds : List D) : D := if t then .tup ds else .lst ds
section
variable {K : PySem.W.Frag} {b0 : Ba} {a : AS} {te ta tb tc : TE} {k : B → AS → Prop} {tt : TT} {Z : Ends} {t : TS}
/-- m holds at least what a1 holds -/
abbrev MemLe (m m' : Ms) : Prop := ∀ q x, m q = some x → m' q = some x
theorem filter_true {α : Type} (l : List α) : l.filter (fun _ => true) = l := by simp
theorem range_map_getD {α : Type} (ds : List D) (f : D → α) : (List.range ds.length).map (fun i => f (ds.getD i .non)) = ds.map f := by
  apply List.ext_getElem?
  intro i
  rw [List.getElem?_map, List.getElem?_map]
  by_cases h : i < ds.length
  · rw [List.getElem?_range h, List.getElem?_eq_getElem h]
    simp [h]
  · rw [List.getElem?_eq_none (by simpa using h), List.getElem?_eq_none (by simpa using h)]
    rfl
theorem range_filter_getD (ds : List D) (c : D → Bool) (f : D → D) : ((List.range ds.length).filter fun i => c (ds.getD i .non)).map (fun i => f (ds.getD i .non)) = (ds.filter c).map f := by
  have h := range_map_getD ds (fun d => d)
  rw [List.map_id'] at h
  have e : (ds.filter c).map f = (((List.range ds.length).map fun i => ds.getD i .non).filter c).map f := by rw [h]
  rw [e, List.filter_map, List.map_map]
  rfl
theorem ev_frz2 (h : EV K b0 te a fun b a' => ∃ p ds, b = .ptr p ∧ a'.mem p = some (.lst (ds.map B.dat)) ∧ b0.mem p = none ∧ k (.dat (.lst ds)) (a'.at (mdel a'.mem p))) : EV K b0 te a k := fun σ H Q R q =>
  h σ H Q R fun v H' b a' ⟨p, ds, e, hm, h0, hk⟩ R' e' r' => by
    subst e
    cases (show v = .ref p from r')
    obtain ⟨R2, e2⟩ := R'.freeze h0 (by rw [hm]; rfl)
    obtain ⟨o, ho, us, rfl, rb⟩ := R'.cont p _ hm
    exact q _ H' _ _ hk R2 (e'.trans e2) ⟨p, us, rfl, mask_mk (if_pos rfl) ho, (RepBs.dats rb).mono e2⟩
theorem turns_frz {vs : List Nat} {j n : Nat} {item : Nat → B} {a1 : AS} {kd : B → AS → Prop} (T : Turns K b0 tt te vs j n item a1 (fun b a' => ∃ p ds, b = .ptr p ∧ a'.mem p = some (.lst (ds.map B.dat)) ∧ b0.mem p = none ∧ a1.mem p = none ∧ kd (.dat (.lst ds)) (a'.at (mdel a'.mem p)))) :
    Turns K b0 tt te vs j n item a1 (fun b a' => ∃ p ds, b = .ptr p ∧ a'.mem p = some (.lst (ds.map B.dat)) ∧ b0.mem p = none ∧ kd (.dat (.lst ds)) (a'.at (mdel a'.mem p))) := by
  obtain ⟨J, h0, hs, hd⟩ := T.ex
  exact ⟨J, h0, hs, fun p acc m h1 h2 h3 h4 => by
    obtain ⟨p', ds, e1, e2, e3, e4, e5⟩ := hd p acc m h1 h2 h3 h4
    exact ⟨p', ds, e1, e2, e3, e5⟩⟩
theorem et_yes' {kt : Bool → AS → Prop} (h : kt true a) : ET K b0 tYes a kt := et_yes h
/-- the turns of a pure comprehension without a test -/
theorem turns_map {vs : List Nat} {j n : Nat} {item : Nat → B} {a1 : AS} (f : Nat → D) (hn : n ≤ 50000)
    (hs : ∀ i m, i < n → MemLe a1.mem m → EV K b0 te ⟨(wipeA a1.env vs).set j (some (item i)), m⟩ fun y a4 => y = .dat (f i) ∧ a4.mem = m) (hk : k (.dat (.lst ((List.range n).map f))) a1) :
    Turns K b0 tYes te vs j n item a1 (fun b a' => ∃ p ds, b = .ptr p ∧ a'.mem p = some (.lst (ds.map B.dat)) ∧ b0.mem p = none ∧ k (.dat (.lst ds)) (a'.at (mdel a'.mem p))) :=
  turns_frz (Turns.pure (fun _ => true) f hn (fun i m hi hm => et_yes ⟨rfl, rfl, fun _ => hs i m hi hm⟩) (by rw [filter_true]; exact hk))
/-- .. with a test -/
theorem turns_flt {vs : List Nat} {j n : Nat} {item : Nat → B} {a1 : AS} (c : Nat → Bool) (f : Nat → D) (hn : n ≤ 50000)
    (ht : ∀ i m, i < n → MemLe a1.mem m → ET K b0 tt ⟨(wipeA a1.env vs).set j (some (item i)), m⟩ fun b a3 => b = c i ∧ a3 = ⟨(wipeA a1.env vs).set j (some (item i)), m⟩)
    (hs : ∀ i m, i < n → c i = true → MemLe a1.mem m → EV K b0 te ⟨(wipeA a1.env vs).set j (some (item i)), m⟩ fun y a4 => y = .dat (f i) ∧ a4.mem = m) (hk : k (.dat (.lst (((List.range n).filter c).map f))) a1) :
    Turns K b0 tt te vs j n item a1 (fun b a' => ∃ p ds, b = .ptr p ∧ a'.mem p = some (.lst (ds.map B.dat)) ∧ b0.mem p = none ∧ k (.dat (.lst ds)) (a'.at (mdel a'.mem p))) :=
  turns_frz (Turns.pure c f hn (fun i m hi hm σ H Q R q => ht i m hi hm σ H Q R fun b H1 a3 ⟨e1, e2⟩ R1 x1 => q b H1 a3 ⟨e1, by rw [e2], fun hb => by
    subst e2
    exact hs i m hi (by rw [← e1]; exact hb) hm⟩ R1 x1) hk)
/-- range(n) -/
theorem ev_lcM1 {tas : TA} {j : Nat} {vs : List Nat} (f : Nat → D) (hj : j ∈ vs) (h : EA K b0 tas a fun bs a1 => ∃ n : Nat, bs = [.dat (.int (n : Int))] ∧ n ≤ 50000 ∧
    (∀ i m, i < n → MemLe a1.mem m → EV K b0 te ⟨(wipeA a1.env vs).set j (some (.dat (.int (i : Int)))), m⟩ fun y a4 => y = .dat (f i) ∧ a4.mem = m) ∧ k (.dat (.lst ((List.range n).map f))) a1) : EV K b0 (tLc (iRng1 tas) (gName j) tYes te vs) a k :=
  ev_frz2 (ev_lcN1 ⟨hj, fun σ H Q R q => h σ H Q R fun us H1 bs a1 ⟨n, e, hn, hs, hk⟩ R1 e1 r1 => q us H1 bs a1 ⟨n, e, by omega, turns_map f hn hs hk⟩ R1 e1 r1⟩)
theorem ev_lcF1 {tas : TA} {j : Nat} {vs : List Nat} (c : Nat → Bool) (f : Nat → D) (hj : j ∈ vs) (h : EA K b0 tas a fun bs a1 => ∃ n : Nat, bs = [.dat (.int (n : Int))] ∧ n ≤ 50000 ∧
    (∀ i m, i < n → MemLe a1.mem m → ET K b0 tt ⟨(wipeA a1.env vs).set j (some (.dat (.int (i : Int)))), m⟩ fun b a3 => b = c i ∧ a3 = ⟨(wipeA a1.env vs).set j (some (.dat (.int (i : Int)))), m⟩) ∧
    (∀ i m, i < n → c i = true → MemLe a1.mem m → EV K b0 te ⟨(wipeA a1.env vs).set j (some (.dat (.int (i : Int)))), m⟩ fun y a4 => y = .dat (f i) ∧ a4.mem = m) ∧ k (.dat (.lst (((List.range n).filter c).map f))) a1) : EV K b0 (tLc (iRng1 tas) (gName j) tt te vs) a k :=
  ev_frz2 (ev_lcN1 ⟨hj, fun σ H Q R q => h σ H Q R fun us H1 bs a1 ⟨n, e, hn, ht, hs, hk⟩ R1 e1 r1 => q us H1 bs a1 ⟨n, e, by omega, turns_flt c f hn ht hs hk⟩ R1 e1 r1⟩)
/-- range(lo, hi) -/
theorem ev_lcM2 {tas : TA} {j : Nat} {vs : List Nat} (f : Nat → D) (hj : j ∈ vs) (h : EA K b0 tas a fun bs a1 => ∃ lo hi : Nat, bs = [.dat (.int (lo : Int)), .dat (.int (hi : Int))] ∧ (lo ≤ hi ∧ hi ≤ 50000) ∧
    (∀ i m, i < hi - lo → MemLe a1.mem m → EV K b0 te ⟨(wipeA a1.env vs).set j (some (.dat (.int ((lo + i : Nat) : Int)))), m⟩ fun y a4 => y = .dat (f i) ∧ a4.mem = m) ∧ k (.dat (.lst ((List.range (hi - lo)).map f))) a1) : EV K b0 (tLc (iRng2 tas) (gName j) tYes te vs) a k :=
  ev_frz2 (ev_lcN2 ⟨hj, fun σ H Q R q => h σ H Q R fun us H1 bs a1 ⟨lo, hi, e, hn, hs, hk⟩ R1 e1 r1 => q us H1 bs a1 ⟨lo, hi, e, ⟨by omega, by omega⟩, turns_map f (by omega) hs hk⟩ R1 e1 r1⟩)
/-- a tuple, a list -/
theorem ev_lcMT {j : Nat} {vs : List Nat} (f : D → D) (hj : j ∈ vs) (h : EV K b0 ta a fun x a1 => ∃ ds, x = .dat (.tup ds) ∧ ds.length ≤ 50000 ∧
    (∀ d m, d ∈ ds → MemLe a1.mem m → EV K b0 te ⟨(wipeA a1.env vs).set j (some (.dat d)), m⟩ fun y a4 => y = .dat (f d) ∧ a4.mem = m) ∧ k (.dat (.lst (ds.map f))) a1) : EV K b0 (tLc (iTup K ta) (gName j) tYes te vs) a k :=
  ev_frz2 (ev_lcT hj (EV.mono h fun x a1 ⟨ds, e, hn, hs, hk⟩ => ⟨ds, e, turns_map (fun i => f (ds.getD i .non)) hn (fun i m hi hm => hs _ m (by
    rw [List.getD_eq_getElem?_getD, List.getElem?_eq_getElem hi]
    exact List.getElem_mem hi) hm) (by rw [range_map_getD]; exact hk)⟩))
theorem ev_lcML {j : Nat} {vs : List Nat} (f : D → D) (hj : j ∈ vs) (h : EV K b0 ta a fun x a1 => ∃ ds, x = .dat (.lst ds) ∧ ds.length ≤ 50000 ∧
    (∀ d m, d ∈ ds → MemLe a1.mem m → EV K b0 te ⟨(wipeA a1.env vs).set j (some (.dat d)), m⟩ fun y a4 => y = .dat (f d) ∧ a4.mem = m) ∧ k (.dat (.lst (ds.map f))) a1) : EV K b0 (tLc (iList K ta) (gName j) tYes te vs) a k :=
  ev_frz2 (ev_lcL hj (EV.mono h fun x a1 ⟨ds, e, hn, hs, hk⟩ => ⟨ds, e, turns_map (fun i => f (ds.getD i .non)) hn (fun i m hi hm => hs _ m (by
    rw [List.getD_eq_getElem?_getD, List.getElem?_eq_getElem hi]
    exact List.getElem_mem hi) hm) (by rw [range_map_getD]; exact hk)⟩))
theorem ev_lcFT {j : Nat} {vs : List Nat} (c : D → Bool) (f : D → D) (hj : j ∈ vs) (h : EV K b0 ta a fun x a1 => ∃ ds, x = .dat (.tup ds) ∧ ds.length ≤ 50000 ∧
    (∀ d m, d ∈ ds → MemLe a1.mem m → ET K b0 tt ⟨(wipeA a1.env vs).set j (some (.dat d)), m⟩ fun b a3 => b = c d ∧ a3 = ⟨(wipeA a1.env vs).set j (some (.dat d)), m⟩) ∧
    (∀ d m, d ∈ ds → c d = true → MemLe a1.mem m → EV K b0 te ⟨(wipeA a1.env vs).set j (some (.dat d)), m⟩ fun y a4 => y = .dat (f d) ∧ a4.mem = m) ∧ k (.dat (.lst ((ds.filter c).map f))) a1) : EV K b0 (tLc (iTup K ta) (gName j) tt te vs) a k :=
  ev_frz2 (ev_lcT hj (EV.mono h fun x a1 ⟨ds, e, hn, ht, hs, hk⟩ => ⟨ds, e, by
    have mem : ∀ i, i < ds.length → ds.getD i .non ∈ ds := fun i hi => by
      rw [List.getD_eq_getElem?_getD, List.getElem?_eq_getElem hi]
      exact List.getElem_mem hi
    exact turns_flt (fun i => c (ds.getD i .non)) (fun i => f (ds.getD i .non)) hn (fun i m hi hm => ht _ m (mem i hi) hm) (fun i m hi hc hm => hs _ m (mem i hi) hc hm) (by rw [range_filter_getD]; exact hk)⟩))
theorem ev_lcFL {j : Nat} {vs : List Nat} (c : D → Bool) (f : D → D) (hj : j ∈ vs) (h : EV K b0 ta a fun x a1 => ∃ ds, x = .dat (.lst ds) ∧ ds.length ≤ 50000 ∧
    (∀ d m, d ∈ ds → MemLe a1.mem m → ET K b0 tt ⟨(wipeA a1.env vs).set j (some (.dat d)), m⟩ fun b a3 => b = c d ∧ a3 = ⟨(wipeA a1.env vs).set j (some (.dat d)), m⟩) ∧
    (∀ d m, d ∈ ds → c d = true → MemLe a1.mem m → EV K b0 te ⟨(wipeA a1.env vs).set j (some (.dat d)), m⟩ fun y a4 => y = .dat (f d) ∧ a4.mem = m) ∧ k (.dat (.lst ((ds.filter c).map f))) a1) : EV K b0 (tLc (iList K ta) (gName j) tt te vs) a k :=
  ev_frz2 (ev_lcL hj (EV.mono h fun x a1 ⟨ds, e, hn, ht, hs, hk⟩ => ⟨ds, e, by
    have mem : ∀ i, i < ds.length → ds.getD i .non ∈ ds := fun i hi => by
      rw [List.getD_eq_getElem?_getD, List.getElem?_eq_getElem hi]
      exact List.getElem_mem hi
    exact turns_flt (fun i => c (ds.getD i .non)) (fun i => f (ds.getD i .non)) hn (fun i m hi hm => ht _ m (mem i hi) hm) (fun i m hi hc hm => hs _ m (mem i hi) hc hm) (by rw [range_filter_getD]; exact hk)⟩))
/-! lists or tuples -/
theorem ev_lcMS {i j : Nat} {vs : List Nat} {s : Bool} {ds : List D} (f : D → D) (hj : j ∈ vs) (hv : a.env[i]? = some (some (.dat (sq s ds)))) (hn : ds.length ≤ 50000)
    (hs : ∀ d m, d ∈ ds → MemLe a.mem m → EV K b0 te ⟨(wipeA a.env vs).set j (some (.dat d)), m⟩ fun y a4 => y = .dat (f d) ∧ a4.mem = m) (hk : k (.dat (.lst (ds.map f))) a) : EV K b0 (tLc (iAny K (tVar i)) (gName j) tYes te vs) a k := by
  cases s with
  | true => exact ev_lcAT (ev_lcMT f hj (ev_var hv ⟨ds, rfl, hn, hs, hk⟩))
  | false => exact ev_lcAL (ev_lcML f hj (ev_var hv ⟨ds, rfl, hn, hs, hk⟩))
theorem gs_forS {g : TG} {i : Nat} {s : Bool} {ds : List D} (hv : a.env[i]? = some (some (.dat (sq s ds)))) (I : Nat → AS → Prop) (h0 : I 0 a)
    (hs : ∀ v i d a2, ds[i]? = some d → I i a2 → GG K (b0.add (sq s ds) v) g (.dat d) a2 fun a3 => GS K (b0.add (sq s ds) v) t (loopEnds K (b0.add (sq s ds) v) Z (I (i + 1))) a3) (hd : ∀ a2, I ds.length a2 → NX K b0 Z.nx a2) : GS K b0 (tFor (iAny K (tVar i)) g t) Z a := by
  cases s with
  | true => exact gs_forAT (gs_forT (ev_var hv ⟨ds, rfl, I, h0, hs, hd⟩))
  | false => exact gs_forAL (gs_forL (ev_var hv ⟨ds, rfl, I, h0, hs, hd⟩))
theorem rc_lenS {s : Bool} {ds : List D} (hk : k (.dat (.int (ds.length : Int))) a) : RCl K b0 (rLenAny K) [.dat (sq s ds)] a k := by
  cases s with
  | true => exact rc_lenT hk
  | false => exact rc_lenL (.inr ⟨ds, rfl, rfl⟩) (by rw [List.length_map]; exact hk)
theorem rc_lenLst {ds : List D} (hk : k (.dat (.int (ds.length : Int))) a) : RCl K b0 (rLenAny K) [.dat (.lst ds)] a k := rc_lenS (s := false) hk
theorem rc_tupleD {ds : List D} (hk : k (.dat (.tup ds)) a) : RCl K b0 (rTupleOf K) [.dat (.lst ds)] a k := rc_tupleL (.inr ⟨ds, rfl, rfl⟩) hk
theorem isT_sq {s : Bool} {ds : List D} : (isT "list" (sq s ds) || isT "tuple" (sq s ds)) = true := by cases s <;> simp [sq, isT]
theorem ok_sq {s : Bool} {ds : List D} : okD (sq s ds) := by cases s <;> trivial
end
end MP
/-! MPW -/
set_option exponentiation.threshold 10000
/-! Metric's making -/
namespace MP
open PySem PySem.Spec PyProof.Rows L2

/-- rows as they come: cells g x y -/
def cells (s : Bool) (n : Nat) (g : Nat → Nat → D) : D := sq s ((List.range n).map fun x => sq s ((List.range n).map (g x)))
theorem ofNat_ne {n : Nat} (h : 1 ≤ n) : ¬ ((n : Int) = 0) := by omega
def rowF : D → D
  | .tup ds => .tup (ds.map fun d => .rat (toQ d))
  | .lst ds => .tup (ds.map fun d => .rat (toQ d))
  | _ => .non
theorem rowF_sq {s : Bool} {ds : List D} : rowF (sq s ds) = .tup (ds.map fun d => .rat (toQ d)) := by cases s <;> rfl
def sTaken : B → D → Prop := fun x d => ∃ (s : Bool) (n : Nat) (g : Nat → Nat → D), x = .dat (cells s n g) ∧ 1 ≤ n ∧ n ≤ 100 ∧ (∀ x y, x < n → y < n → isQ (g x y) = true) ∧ d = rowsD n (fun x y => toQ (g x y))
theorem isQ_ok {d : D} (h : isQ d = true) : okD d := by cases d <;> first | trivial | (cases h)
theorem sc_taken_rows : FnScope ["rows", "row", "item"] ["rows"] (defScope s_taken_rows) := ⟨rfl, rfl, rfl, by decide +kernel, rfl, by decide +kernel, by decide +kernel⟩
theorem c_taken_rows {P : Program} {w : World} {K : PySem.W.Frag} {mg : Str → Option Value} {base : Heap} (M : FX K mg) : C8.Cal P w K mg base 5 "taken_rows" (spA K (pw (f1 sTaken))) [] := by
  obtain ⟨fd, F⟩ := M.said.def_ 21
  refine ⟨_, fd, ["rows"], [], (def_pure (j := 4) F sc_taken_rows f1_len fun cdv A outer s H E hr => ⟨_, (pss_cons (ps_if (PW.pt (pw_or (pt_not (pt_val (pe_callB (call_isiTK (K := K)) (by rfl) (M.free 63) (by decide +kernel) (pa_cons (pv 0) (pa_cons (pe_tup (pa_cons (pe_bltn (v := .ty "list") rfl (M.free 67) (by decide +kernel) rfl) (pa_cons (pe_bltn (v := .ty "tuple") rfl (M.free 66) (by decide +kernel) rfl) pa_nil))) pa_nil))))) (pw_or1 (pt_cmpR (op_eqAny M (ops M) hr) (pe_callB (call_len_anyK (K := K)) (by rfl) (M.free 61) PySem.boot_len (pa_cons (pv 0) pa_nil)) pe_int (nomark _)))))
      (pss_one ps_never)
      pss_nil)
      (pss_cons (ps_for PassesOwn.never rfl (pi_anyK (K := K) (pv 0)) (pg_name (i := 1) sc_taken_rows.nd rfl (by first | exact Or.inl rfl | exact Or.inr rfl))
        (pss_cons (ps_if (PW.pt (pw_or (pt_not (pt_val (pe_callB (call_isiTK (K := K)) (by rfl) (M.free 63) (by decide +kernel) (pa_cons (pv 1) (pa_cons (pe_tup (pa_cons (pe_bltn (v := .ty "list") rfl (M.free 67) (by decide +kernel) rfl) (pa_cons (pe_bltn (v := .ty "tuple") rfl (M.free 66) (by decide +kernel) rfl) pa_nil))) pa_nil))))) (pw_or1 (pt_cmpR (op_neAny M (ops M) hr) (pe_callB (call_len_anyK (K := K)) (by rfl) (M.free 61) PySem.boot_len (pa_cons (pv 1) pa_nil)) (pe_callB (call_len_anyK (K := K)) (by rfl) (M.free 61) PySem.boot_len (pa_cons (pv 0) pa_nil)) (nomark _)))))
          (pss_one ps_never)
          pss_nil)
          (pss_one (ps_for PassesOwn.never rfl (pi_anyK (K := K) (pv 1)) (pg_name (i := 2) sc_taken_rows.nd rfl (by first | exact Or.inl rfl | exact Or.inr rfl))
            (pss_one (ps_if (pt_not (pt_val (C8.pe_c (c_is_rational M) hr (by decide) (by rfl) (pa_cons (pv 2) pa_nil))))
              (pss_one ps_never)
              pss_nil))))))
        (pss_one (ps_ret (pe_callTy (T := "tuple") (call_tuple_ofK (K := K)) (by rfl) (M.free 66) (by decide +kernel) (pa_cons (pe_lc (own := [("row", 1)]) (g := gName 1) (by rfl) sc_taken_rows.nd (pi_anyK (K := K) (pv 0)) (by dsimp only [Cx.blk, Cx.nox, Cx.wish, cxOf, blk_sc, env_sc]; exact blkOk_by (by decide +kernel)) (fun _ _ _ _ _ => pg_name (i := 1) sc_taken_rows.nd rfl (by first | exact Or.inl rfl | exact Or.inr rfl)) (fun _ _ _ _ _ => pts_nil) (fun _ _ _ _ _ => (pe_callTy (T := "tuple") (call_tuple_ofK (K := K)) (by rfl) (M.free 66) (by decide +kernel) (pa_cons (pe_lc (own := [("item", 2)]) (g := gName 2) (by rfl) sc_taken_rows.nd (pi_anyK (K := K) (pv 1)) (by dsimp only [Cx.blk, Cx.nox, Cx.wish, cxOf, blk_sc, env_sc]; exact blkOk_by (by decide +kernel)) (fun _ _ _ _ _ => pg_name (i := 2) sc_taken_rows.nd rfl (by first | exact Or.inl rfl | exact Or.inr rfl)) (fun _ _ _ _ _ => pts_nil) (fun _ _ _ _ _ => (C8.pe_c (c_as_ratio M) hr (by decide) (by rfl) (pa_cons (pv 2) pa_nil)))) pa_nil)))) pa_nil)))))), ?_⟩), M.glo 13, F.kp, F.bindsN fun _ _ _ _ _ _ us hl => match us, hl with | [_], _ => rfl, .nil⟩
  try dsimp only [cx_K]
  intro b0 Z bs d h hret
  obtain ⟨_, rfl, s, n, g, rfl, h1, h2, hq, rfl⟩ := h
  have hlen : ∀ {α : Type} (f : Nat → α), ((List.range n).map f).length = n := fun f => by rw [List.length_map, List.length_range]
  unfold cells
  walk_at "mpR"
  refine ⟨ok_sq, ?_⟩
  rw [isT_sq]
  walk_at "mpR"
  refine ⟨fun _ => ?_, fun h => (by cases h)⟩
  walk_at "mpR"
  refine ⟨fun hc => ?_, fun hc => ?_⟩
  · rw [hlen] at hc
    exact absurd (of_decide_eq_true hc) (ofNat_ne h1)
  walk_at "mp1"
  refine gs_forS rfl (fun i a => ∃ w1 w2, a = ⟨[some (.dat (cells s n g)), w1, w2], b0.mem⟩) ⟨_, _, rfl⟩ ?_ ?_
  · rintro v i d _ hd ⟨w1, w2, rfl⟩
    rw [List.getElem?_map] at hd
    obtain ⟨x, hx, rfl⟩ := Option.map_eq_some_iff.mp hd
    have hxn : x < n := by
      have := List.mem_of_getElem? hx
      simpa using this
    walk_at "mpR"
    refine ⟨ok_sq, ?_⟩
    rw [isT_sq]
    walk_at "mpR"
    refine ⟨fun _ => ?_, fun h => (by cases h)⟩
    walk_at "mpR"
    unfold cells
    walk_at "mpR"
    refine ⟨fun hc => ?_, fun hc => ?_⟩
    · rw [hlen, hlen] at hc
      simp at hc
    walk_at "mp1"
    refine gs_forS rfl (fun i a => ∃ w2, a = ⟨[some (.dat (cells s n g)), some (.dat (sq s ((List.range n).map (g x)))), w2], b0.mem⟩) ⟨_, rfl⟩ ?_ ?_
    · rintro v j d _ hd ⟨w2, rfl⟩
      rw [List.getElem?_map] at hd
      obtain ⟨y, hy, rfl⟩ := Option.map_eq_some_iff.mp hd
      have hyn : y < n := by
        have := List.mem_of_getElem? hy
        simpa using this
      have hxy := hq x y hxn hyn
      walk_at "mpR"
      refine ⟨_, ⟨_, rfl, _, rfl, isQ_ok hxy, rfl⟩, ?_⟩
      walk_at "mpR"
      refine ⟨fun hc => ?_, fun hc => ?_⟩
      · rw [hxy] at hc
        cases hc
      · walk_at "mpR"
        exact nx_inv ⟨_, rfl⟩
    · rintro _ ⟨w2, rfl⟩
      exact nx_mk (nx_inv ⟨_, _, rfl⟩)
  · rintro _ ⟨w1, w2, rfl⟩
    walk_at "mpR"
    have hmem : ∀ {d : D}, d ∈ (List.range n).map (fun x => sq s ((List.range n).map (g x))) → ∃ x, x < n ∧ d = sq s ((List.range n).map (g x)) := fun hd => by
      obtain ⟨x, hx, rfl⟩ := List.mem_map.mp hd
      exact ⟨x, List.mem_range.mp hx, rfl⟩
    refine ev_lcMS (s := s) (ds := (List.range n).map fun x => sq s ((List.range n).map (g x))) rowF (by decide) rfl (by rw [hlen]; omega) (fun d m hd _ => ?_) ?_
    · obtain ⟨x, hx, rfl⟩ := hmem hd
      refine ev_cb (ea_cons ?_)
      refine ev_lcMS (s := s) (ds := (List.range n).map (g x)) (fun d => .rat (toQ d)) (by decide) rfl (by rw [hlen]; omega) (fun d m hd _ => ?_) ?_
      · obtain ⟨y, hy, rfl⟩ := List.mem_map.mp hd
        have hy := List.mem_range.mp hy
        walk_at "mpR"
        exact ⟨_, ⟨_, rfl, _, rfl, hq x y hx hy, rfl⟩, rfl, rfl⟩
      · walk_at "mpR"
        rw [rowF_sq]
        exact ⟨rfl, rfl⟩
    · walk_at "mpR"
      rw [show (D.tup (((List.range n).map fun x => sq s ((List.range n).map (g x))).map rowF)) = rowsD n (fun x y => toQ (g x y)) from ?_]
      · exact hret.go fun _ _ h => h
      · unfold rowsD
        rw [List.map_map]
        refine congrArg D.tup (List.map_congr_left fun x _ => ?_)
        show rowF (sq s _) = _
        rw [rowF_sq, List.map_map]
        rfl
/-! ### Metric.__init__ -/
def sMet : SpR := fun bs m b m' => ∃ (x : Addr) (s : Bool) (n : Nat) (g : Nat → Nat → D), bs = [.ptr x, .dat (cells s n g)] ∧ m x = some (.ins "Metric" [] []) ∧ (∀ x y, x < n → y < n → isQ (g x y) = true) ∧ MetOk n (fun x y => toQ (g x y)) ∧ IsMet n (fun x y => toQ (g x y)) ∧
  b = .dat .non ∧ m' = mput m x (.ins "Metric" ["n", "rows"] [.dat (.int (n : Int)), .dat (rowsD n (fun x y => toQ (g x y)))])
theorem sc_Metric_init : FnScope ["self", "rows", "own"] ["self", "rows"] (defScope s_Metric_init) := ⟨rfl, rfl, rfl, by decide +kernel, rfl, by decide +kernel, by decide +kernel⟩
theorem metInit_ok {P : Program} {w : World} {K : PySem.W.Frag} {mg : Str → Option Value} {base : Heap} (M : FX K mg) {fd : FuncData} (F : FunD K d_Metric_init.name d_Metric_init.qual d_Metric_init.params d_Metric_init.body d_Metric_init.scope (d_Metric_init.dvs K) (d_Metric_init.kws K) (He.fAd K d_Metric_init.at_) fd) :
    FnOk P w K mg base CX0 6 (He.fAd K d_Metric_init.at_) fd ["self", "rows"] (spA K sMet) := by
  refine def_eff (j := 5) F sc_Metric_init (by rintro _ _ _ _ ⟨_, _, _, _, rfl, _⟩; rfl) fun cdv A outer s H E hr => ⟨_, (pss_cons (ps_set (i := 2) sc_Metric_init.nd rfl (by first | exact Or.inl rfl | exact Or.inr rfl) (C8.pe_c (c_taken_rows M) hr (by decide) (by rfl) (pa_cons (pv 1) pa_nil)))
      (pss_cons (ps_if (pt_cmpR op_gt (pe_callB (call_len_anyK (K := K)) (by rfl) (M.free 61) PySem.boot_len (pa_cons (pv 2) pa_nil)) (C8.pe_gc rfl (M.int 71)) (nomark _))
        (pss_one ps_never)
        pss_nil)
        (pss_cons (ps_if (PW.pt (pw_or (pt_not (pt_val (C8.pe_c (c_keeps_triangles M) hr (by decide) (by rfl) (pa_cons (pv 2) pa_nil)))) (pw_or1 (pt_not (pt_val (C8.pe_c (c_is_apart M) hr (by decide) (by rfl) (pa_cons (pv 2) pa_nil)))))))
          (pss_one ps_never)
          pss_nil)
          (pss_cons (ps_fld (pv 0) (pe_callB (call_len_anyK (K := K)) (by rfl) (M.free 61) PySem.boot_len (pa_cons (pv 2) pa_nil)) rfl)
            (pss_one (ps_fld (pv 0) (pv 2) rfl)))))), ?_⟩
  try dsimp only [cx_K]
  rintro b0 Z _ b m' ⟨x, s, n, g, rfl, hx, hq, hf, hm, rfl, rfl⟩ hret
  have h1 := hf.lo
  have h8 := hf.hi
  walk_at "mpR"
  refine ⟨_, ⟨_, rfl, s, n, g, rfl, h1, by omega, hq, rfl⟩, ?_⟩
  walk_at "mpR"
  refine rc_lenRows ?_
  walk_at "mpR"
  refine ⟨fun hc => ?_, fun hc => ?_⟩
  · have := of_decide_eq_true hc
    omega
  walk_at "mpR"
  refine ⟨_, ⟨_, rfl, _, _, rfl, hf, hm, rfl⟩, ?_⟩
  walk_at "mpR"
  refine ⟨fun _ => ?_, fun h => (by cases h)⟩
  walk_at "mpR"
  refine ⟨_, ⟨_, rfl, _, _, rfl, hf, hm, rfl⟩, ?_⟩
  walk_at "mpR"
  refine ⟨fun h => (by cases h), fun _ => ?_⟩
  walk_at "mpR"
  refine gs_fld ?_
  walk_at "mpR"
  refine rc_lenRows ?_
  walk_at "mpR"
  refine ⟨_, _, _, _, rfl, hx, M.cls 77, M.noat 78, by simp, by simp, ?_⟩
  refine nx_go (gs_fld ?_)
  walk_at "mpR"
  refine ⟨_, _, _, _, rfl, mput_same, M.cls 77, M.noat 79, by decide +kernel, by simp, ?_⟩
  refine (hret _ fun p _ => ?_).2 rfl
  show _ = mput (mput b0.mem x _) x _ p
  rw [mput_mput]
  rfl
theorem mk_Metric {P : Program} {w : World} {K : PySem.W.Frag} {mg : Str → Option Value} {base : Heap} (M : FX K mg) : C8.Mak P w K mg base 6 "Metric" (He.ga K "Metric") (spA K sMet) [] := by
  obtain ⟨fd, F⟩ := M.said.def_ 24
  exact ⟨_, fd, ["self", "rows"], [], M.mkr 80, metInit_ok M F, M.glo 16, F.bindsN fun _ _ _ _ _ _ us hl => match us, hl with | [_, _], _ => rfl, .nil⟩
section
variable {K : PySem.W.Frag} {b0 : Ba} {a : AS} {k : B → AS → Prop}
theorem ev_mkMet {E : XK} {tas : TA} (h : EA K b0 tas a fun bs a1 => ∃ (s : Bool) (n : Nat) (g : Nat → Nat → D), bs = [.dat (cells s n g)] ∧ (∀ x y, x < n → y < n → isQ (g x y) = true) ∧ MetOk n (fun x y => toQ (g x y)) ∧ IsMet n (fun x y => toQ (g x y)) ∧ k (.dat (mtr n (fun x y => toQ (g x y)))) a1) :
    EV K b0 (tMake (He.ga K "Metric") (spA K sMet) [] E tas) a k :=
  make_core (dbs := []) (fun _ => .nil) fun σ H Q R q => h σ H Q R fun vs H1 bs a1 ⟨s, n, g, e, h1, h2, h3, h4⟩ R1 e1 r1 => q vs H1 bs a1 (fun x hx => ⟨_, [.int (n : Int), rowsD n (fun x y => toQ (g x y))], ⟨x, s, n, g, by rw [e]; rfl, mput_same, h1, h2, h3, rfl, by rw [mput_mput]; rfl⟩, h4⟩) R1 e1 r1
end
end MP
/-! MPY -/
set_option exponentiation.threshold 10000
/-! greatest, the sums, quadruples, median, gap -/
namespace MP
open PySem PySem.Spec PyProof.Rows L2

section
variable {K : PySem.W.Frag} {b0 : Ba} {a : AS} {k : B → AS → Prop}
theorem ro_ixS {s : Bool} {ds : List D} {i : Int} {d : D} (h : atI ds i = some d) (hk : k (.dat d) a) : RO K b0 (rIx K) (.dat (sq s ds)) (.dat (.int i)) a k := by
  cases s with
  | true => exact ro_ixT h hk
  | false => exact ro_ixL h hk
end
def sGreat : B → D → Prop := fun x d => ∃ (s : Bool) (q : Rat) (qs : List Rat), x = .dat (sq s ((q :: qs).map D.rat)) ∧ (∀ p ∈ q :: qs, Wee p) ∧ d = .rat (gmax q (q :: qs))
theorem sc_greatest : FnScope ["numbers", "found", "number"] ["numbers"] (defScope s_greatest) := ⟨rfl, rfl, rfl, by decide +kernel, rfl, by decide +kernel, by decide +kernel⟩
theorem c_greatest {P : Program} {w : World} {K : PySem.W.Frag} {mg : Str → Option Value} {base : Heap} (M : FX K mg) : C8.Cal P w K mg base 4 "greatest" (spA K (pw (f1 sGreat))) [] := by
  obtain ⟨fd, F⟩ := M.said.def_ 13
  refine ⟨_, fd, ["numbers"], [], (def_pure (j := 3) F sc_greatest f1_len fun cdv A outer s H E hr => ⟨_, (pss_cons (ps_set (i := 1) sc_greatest.nd rfl (by first | exact Or.inl rfl | exact Or.inr rfl) (pe_ix (ix_seqK (K := K)) (pv 0) pe_int (fun _ _ => rfl)))
      (pss_cons (ps_for PassesOwn.never rfl (pi_anyK (K := K) (pv 0)) (pg_name (i := 2) sc_greatest.nd rfl (by first | exact Or.inl rfl | exact Or.inr rfl))
        (pss_one (ps_if (pt_val (C8.pe_c (c_less M) hr (by decide) (by rfl) (pa_cons (pv 1) (pa_cons (pv 2) pa_nil))))
          (pss_one (ps_set (i := 1) sc_greatest.nd rfl (by first | exact Or.inl rfl | exact Or.inr rfl) (pv 2)))
          pss_nil)))
        (pss_one (ps_ret (pv 1))))), ?_⟩), M.glo 5, F.kp, F.bindsN fun _ _ _ _ _ _ us hl => match us, hl with | [_], _ => rfl, .nil⟩
  try dsimp only [cx_K]
  intro b0 Z bs d h hret
  obtain ⟨_, rfl, s, q, qs, rfl, hw, rfl⟩ := h
  refine gs_seq (gs_set (ev_op (ev_var rfl (ev_int (ro_ixS (d := .rat q) (atI_nat (n := 0) rfl) ?_)))))
  refine nx_go (gs_seq ?_)
  refine gs_forS rfl (fun i a => ∃ w, a = ⟨[some (.dat (sq s ((q :: qs).map D.rat))), some (.dat (.rat (gmax q ((q :: qs).take i)))), w], b0.mem⟩) ⟨_, rfl⟩ ?_ ?_
  · rintro v i d _ hd ⟨w, rfl⟩
    rw [List.getElem?_map] at hd
    obtain ⟨p, hp, rfl⟩ := Option.map_eq_some_iff.mp hd
    have hw1 : Wee p := hw p (List.mem_of_getElem? hp)
    have hw2 : Wee (gmax q ((q :: qs).take i)) := by
      rcases gmax_mem (q := q) (qs := (q :: qs).take i) with e | e
      · rw [e]; exact hw q (List.mem_cons_self ..)
      · exact hw _ (List.mem_of_mem_take e)
    have e1 : gmax q ((q :: qs).take (i + 1)) = if gmax q ((q :: qs).take i) < p then p else gmax q ((q :: qs).take i) := by
      rw [List.take_succ, hp]
      unfold gmax
      rw [List.foldl_append]
      rfl
    walk_at "mpR"
    refine ⟨_, ⟨_, _, rfl, _, p, rfl, rfl, hw2, hw1, rfl⟩, _, rfl, ⟨fun hc => ?_, fun hc => ?_⟩⟩
    · walk_at "mpR"
      exact nx_inv ⟨some (.dat (.rat p)), by rw [e1, if_pos (of_decide_eq_true hc)]; rfl⟩
    · walk_at "mpR"
      exact nx_inv ⟨some (.dat (.rat p)), by rw [e1, if_neg (of_decide_eq_false hc)]; rfl⟩
  · rintro _ ⟨w, rfl⟩
    walk_at "mpR"
    rw [List.length_map, List.take_length]
    exact hret _ fun _ _ h => h
/-! ### sums -/
def sSums : B → B → B → B → B → D → Prop := fun mm x y u v d => ∃ (n : Nat) (f : Nat → Nat → Rat) (i j k l : Nat), mm = .dat (mtr n f) ∧ MetOk n f ∧ x = .dat (.int (i : Int)) ∧ y = .dat (.int (j : Int)) ∧ u = .dat (.int (k : Int)) ∧ v = .dat (.int (l : Int)) ∧ i < n ∧ j < n ∧ k < n ∧ l < n ∧
  d = .tup [.rat (f i j + f k l), .rat (f i k + f j l), .rat (f i l + f j k)]
theorem sc_sums : FnScope ["m", "x", "y", "u", "v", "d"] ["m", "x", "y", "u", "v"] (defScope s_sums) := ⟨rfl, rfl, rfl, by decide +kernel, rfl, by decide +kernel, by decide +kernel⟩
theorem c_sums {P : Program} {w : World} {K : PySem.W.Frag} {mg : Str → Option Value} {base : Heap} (M : FX K mg) : C8.Cal P w K mg base 5 "sums" (spA K (pw (f5 sSums))) [] := by
  obtain ⟨fd, F⟩ := M.said.def_ 31
  refine ⟨_, fd, ["m", "x", "y", "u", "v"], [], (def_pure (j := 4) F sc_sums f5_len fun cdv A outer s H E hr => ⟨_, (pss_cons (ps_set (i := 5) sc_sums.nd rfl (by first | exact Or.inl rfl | exact Or.inr rfl) (pe_fldK (K := K) (pv 0) rfl))
      (pss_one (ps_ret (pe_tup (pa_cons (pe_op (op_addAny M (ops M) hr) (pe_ix (ix_seqK (K := K)) (pe_ix (ix_seqK (K := K)) (pv 5) (pv 1) (fun _ _ => rfl)) (pv 2) (fun _ _ => rfl)) (pe_ix (ix_seqK (K := K)) (pe_ix (ix_seqK (K := K)) (pv 5) (pv 3) (fun _ _ => rfl)) (pv 4) (fun _ _ => rfl))) (pa_cons (pe_op (op_addAny M (ops M) hr) (pe_ix (ix_seqK (K := K)) (pe_ix (ix_seqK (K := K)) (pv 5) (pv 1) (fun _ _ => rfl)) (pv 3) (fun _ _ => rfl)) (pe_ix (ix_seqK (K := K)) (pe_ix (ix_seqK (K := K)) (pv 5) (pv 2) (fun _ _ => rfl)) (pv 4) (fun _ _ => rfl))) (pa_cons (pe_op (op_addAny M (ops M) hr) (pe_ix (ix_seqK (K := K)) (pe_ix (ix_seqK (K := K)) (pv 5) (pv 1) (fun _ _ => rfl)) (pv 4) (fun _ _ => rfl)) (pe_ix (ix_seqK (K := K)) (pe_ix (ix_seqK (K := K)) (pv 5) (pv 2) (fun _ _ => rfl)) (pv 3) (fun _ _ => rfl))) pa_nil))))))), ?_⟩), M.glo 22, F.kp, F.bindsN fun _ _ _ _ _ _ us hl => match us, hl with | [_, _, _, _, _], _ => rfl, .nil⟩
  try dsimp only [cx_K]
  intro b0 Z bs d h hret
  obtain ⟨_, _, _, _, _, rfl, n, f, i, j, kk, l, rfl, hf, rfl, rfl, rfl, rfl, hi, hj, hk, hl, rfl⟩ := h
  have w1 : ∀ {i j}, i < n → j < n → Wee (f i j) := fun hi hj => hf.wee hi hj
  walk_at "mpM"
  exact hret.go fun _ _ h => h
/-! ### two_greatest_equal -/
def sTwo : B → D → Prop := fun x d => ∃ p q r : Rat, x = .dat (.tup [.rat p, .rat q, .rat r]) ∧ Wee p ∧ Wee q ∧ Wee r ∧ d = .bl (!above3 p q r)
theorem two_eq (p q r : Rat) : decide ((1 : Int) < ((([D.rat p, .rat q, .rat r].filter fun d => decide (toQ d = gmax p [p, q, r])).map fun d => d).length : Int)) = !above3 p q r := by
  have e : gmax p [p, q, r] = (if (if p < q then q else p) < r then r else (if p < q then q else p)) := by
    unfold gmax
    simp only [List.foldl_cons, List.foldl_nil]
    rw [if_neg (by grind : ¬ p < p)]
  rw [e]
  unfold above3
  simp only [List.map_id', List.filter_cons, List.filter_nil, toQ]
  rcases (by grind : p < q ∨ p = q ∨ q < p) with h1 | h1 | h1 <;> rcases (by grind : p < r ∨ p = r ∨ r < p) with h2 | h2 | h2 <;> rcases (by grind : q < r ∨ q = r ∨ r < q) with h3 | h3 | h3 <;>
    first
    | (exfalso; grind)
    | (have a1 : ¬ q < p := by grind
       have a2 : ¬ r < p := by grind
       have a3 : ¬ r < q := by grind
       simp [*]; done)
    | grind

theorem sc_two_greatest_equal : FnScope ["three", "one"] ["three"] (defScope s_two_greatest_equal) := ⟨rfl, rfl, rfl, by decide +kernel, rfl, by decide +kernel, by decide +kernel⟩
theorem c_two_greatest_equal {P : Program} {w : World} {K : PySem.W.Frag} {mg : Str → Option Value} {base : Heap} (M : FX K mg) : C8.Cal P w K mg base 5 "two_greatest_equal" (spA K (pw (f1 sTwo))) [] := by
  obtain ⟨fd, F⟩ := M.said.def_ 32
  refine ⟨_, fd, ["three"], [], (def_pure (j := 4) F sc_two_greatest_equal f1_len fun cdv A outer s H E hr => ⟨_, (pss_one (ps_ret (pe_cmpR op_gt (pe_callB (call_len_anyK (K := K)) (by rfl) (M.free 61) PySem.boot_len (pa_cons (pe_lc (own := [("one", 1)]) (g := gName 1) (by rfl) sc_two_greatest_equal.nd (pi_tupK (K := K) (pv 0)) (by dsimp only [Cx.blk, Cx.nox, Cx.wish, cxOf, blk_sc, env_sc]; exact blkOk_by (by decide +kernel)) (fun _ _ _ _ _ => pg_name (i := 1) sc_two_greatest_equal.nd rfl (by first | exact Or.inl rfl | exact Or.inr rfl)) (fun _ _ _ _ _ => pts_one (pt_cmpR (op_eqAny M (ops M) hr) (pv 1) (C8.pe_c (c_greatest M) hr (by decide) (by rfl) (pa_cons (pv 0) pa_nil)) (nomark _))) (fun _ _ _ _ _ => (pv 1))) pa_nil)) pe_int (nomark _)))), ?_⟩), M.glo 23, F.kp, F.bindsN fun _ _ _ _ _ _ us hl => match us, hl with | [_], _ => rfl, .nil⟩
  try dsimp only [cx_K]
  intro b0 Z bs d h hret
  obtain ⟨_, rfl, p, q, r, rfl, hp, hq, hr', rfl⟩ := h
  have hw : ∀ x ∈ p :: [p, q, r], Wee x := by
    intro x hx
    simp only [List.mem_cons, List.not_mem_nil, or_false] at hx
    rcases hx with rfl | rfl | rfl | rfl <;> assumption
  refine gs_ret (ev_op (ev_cb (ea_cons (ev_lcFT (fun d => decide (toQ d = gmax p [p, q, r])) (fun d => d) (by decide) (ev_var rfl ⟨_, rfl, by simp, ?_, ?_, ?_⟩)))))
  · intro d m hd _
    have hd' : ∃ x : Rat, d = .rat x := by
      simp only [List.mem_cons, List.not_mem_nil, or_false] at hd
      rcases hd with rfl | rfl | rfl <;> exact ⟨_, rfl⟩
    obtain ⟨x, rfl⟩ := hd'
    walk_at "mpR"
    refine ⟨_, ⟨_, rfl, true, p, [q, r], rfl, fun y hy => hw y (by simp at hy ⊢; grind), rfl⟩, ?_⟩
    walk_at "mpR"
    exact ⟨rfl, rfl⟩
  · intro d m hd _ _
    walk_at "mpR"
    exact ⟨rfl, rfl⟩
  · walk_at "mpR"
    rw [two_eq]
    exact hret.go fun _ _ h => h
/-! ### quadruples -/
def rng (lo hi : Nat) : List Nat := (List.range (hi - lo)).map (lo + ·)
theorem rng_nil (lo : Nat) : rng lo lo = [] := by simp [rng]
theorem rng_succ {lo hi : Nat} (h : lo ≤ hi) : rng lo (hi + 1) = rng lo hi ++ [hi] := by
  unfold rng
  rw [show hi + 1 - lo = (hi - lo) + 1 by omega, List.range_succ, List.map_append]
  simp
  omega
theorem mem_rng {lo hi x : Nat} : x ∈ rng lo hi ↔ lo ≤ x ∧ x < hi := by
  unfold rng
  simp only [List.mem_map, List.mem_range]
  constructor
  · rintro ⟨a, h, rfl⟩
    omega
  · intro h
    exact ⟨x - lo, by omega, by omega⟩
abbrev Quad := Nat × Nat × Nat × Nat
abbrev quadD (q : Quad) : D := .tup [.int (q.1 : Int), .int (q.2.1 : Int), .int (q.2.2.1 : Int), .int (q.2.2.2 : Int)]
def qV (n x y u : Nat) : List Quad := (rng (u + 1) n).map fun v => (x, y, u, v)
def qU (n x y : Nat) : List Quad := (rng (y + 1) n).flatMap (qV n x y)
def qY (n x : Nat) : List Quad := (rng (x + 1) n).flatMap (qU n x)
def quads (n : Nat) : List Quad := (List.range n).flatMap (qY n)
theorem mem_quads {n : Nat} {q : Quad} : q ∈ quads n ↔ q.1 < q.2.1 ∧ q.2.1 < q.2.2.1 ∧ q.2.2.1 < q.2.2.2 ∧ q.2.2.2 < n := by
  obtain ⟨x, y, u, v⟩ := q
  simp only [quads, qY, qU, qV, List.mem_flatMap, List.mem_map, mem_rng, List.mem_range, Prod.mk.injEq]
  constructor
  · rintro ⟨x', h1, y', h2, u', h3, v', h4, rfl, rfl, rfl, rfl⟩
    omega
  · intro h
    exact ⟨x, by omega, y, by omega, u, by omega, v, by omega, rfl, rfl, rfl, rfl⟩
theorem flat_succ {α : Type} (l : List Nat) (x : Nat) (f : Nat → List α) : (l ++ [x]).flatMap f = l.flatMap f ++ f x := by
  rw [List.flatMap_append]
  simp
def sQuads : B → D → Prop := fun x d => ∃ n : Nat, x = .dat (.int (n : Int)) ∧ n ≤ 8 ∧ d = .lst ((quads n).map quadD)
theorem flat_len {l : List Nat} {α : Type} {f : Nat → List α} {b : Nat} (h : ∀ x ∈ l, (f x).length ≤ b) : (l.flatMap f).length ≤ l.length * b := by
  induction l with
  | nil => simp
  | cons x l ih =>
    rw [List.flatMap_cons, List.length_append, List.length_cons, Nat.add_mul, Nat.one_mul]
    have h1 := h x (List.mem_cons_self ..)
    have h2 := ih fun y hy => h y (List.mem_cons_of_mem _ hy)
    omega
theorem rng_len {lo hi : Nat} : (rng lo hi).length = hi - lo := by simp [rng]
theorem qV_len {n x y u : Nat} (h : n ≤ 8) : (qV n x y u).length ≤ 8 := by rw [qV, List.length_map, rng_len]; omega
theorem qU_len {n x y u : Nat} (h : n ≤ 8) (hu : u ≤ n) : ((rng (y + 1) u).flatMap (qV n x y)).length ≤ 64 := Nat.le_trans (flat_len fun _ _ => qV_len h) (by rw [rng_len]; omega)
theorem qY_len {n x y : Nat} (h : n ≤ 8) (hu : y ≤ n) : ((rng (x + 1) y).flatMap (qU n x)).length ≤ 512 := Nat.le_trans (flat_len fun _ _ => qU_len h (Nat.le_refl _)) (by rw [rng_len]; omega)
theorem qX_len {n x : Nat} (h : n ≤ 8) (hu : x ≤ n) : ((List.range x).flatMap (qY n)).length ≤ 4096 := Nat.le_trans (flat_len fun _ _ => qY_len h (Nat.le_refl _)) (by rw [List.length_range]; omega)
theorem sc_quadruples : FnScope ["n", "found", "x", "y", "u", "v"] ["n"] (defScope s_quadruples) := ⟨rfl, rfl, rfl, by decide +kernel, rfl, by decide +kernel, by decide +kernel⟩
theorem c_quadruples {P : Program} {w : World} {K : PySem.W.Frag} {mg : Str → Option Value} {base : Heap} (M : FX K mg) : C8.Cal P w K mg base 5 "quadruples" (spA K (pw (f1 sQuads))) [] := by
  obtain ⟨fd, F⟩ := M.said.def_ 33
  refine ⟨_, fd, ["n"], [], (def_pure (j := 4) F sc_quadruples f1_len fun cdv A outer s H E hr => ⟨_, (pss_cons (ps_set (i := 1) sc_quadruples.nd rfl (by first | exact Or.inl rfl | exact Or.inr rfl) (pe_lst pa_nil))
      (pss_cons (ps_for PassesOwn.never rfl (pi_range1 rfl (M.free 62) (pa_cons (pv 0) pa_nil)) (pg_name (i := 2) sc_quadruples.nd rfl (by first | exact Or.inl rfl | exact Or.inr rfl))
        (pss_one (ps_for PassesOwn.never rfl (pi_range2 rfl (M.free 62) (pa_cons (pe_op (op_addAny M (ops M) hr) (pv 2) pe_int) (pa_cons (pv 0) pa_nil))) (pg_name (i := 3) sc_quadruples.nd rfl (by first | exact Or.inl rfl | exact Or.inr rfl))
          (pss_one (ps_for PassesOwn.never rfl (pi_range2 rfl (M.free 62) (pa_cons (pe_op (op_addAny M (ops M) hr) (pv 3) pe_int) (pa_cons (pv 0) pa_nil))) (pg_name (i := 4) sc_quadruples.nd rfl (by first | exact Or.inl rfl | exact Or.inr rfl))
            (pss_one (ps_expr (pe_bm PySem.F.plainAttrs_list PySem.F.slot_list_extend PySem.F.type_list_extend mt_extend (pv 1) (pa_cons (pe_lc (own := [("v", 5)]) (g := gName 5) (by rfl) sc_quadruples.nd (pi_range2 rfl (M.free 62) (pa_cons (pe_op (op_addAny M (ops M) hr) (pv 4) pe_int) (pa_cons (pv 0) pa_nil))) (by dsimp only [Cx.blk, Cx.nox, Cx.wish, cxOf, blk_sc, env_sc]; exact blkOk_by (by decide +kernel)) (fun _ _ _ _ _ => pg_name (i := 5) sc_quadruples.nd rfl (by first | exact Or.inl rfl | exact Or.inr rfl)) (fun _ _ _ _ _ => pts_nil) (fun _ _ _ _ _ => (pe_tup (pa_cons (pv 2) (pa_cons (pv 3) (pa_cons (pv 4) (pa_cons (pv 5) pa_nil))))))) pa_nil)))))))))
        (pss_one (ps_ret (pv 1))))), ?_⟩), M.glo 24, F.kp, F.bindsN fun _ _ _ _ _ _ us hl => match us, hl with | [_], _ => rfl, .nil⟩
  try dsimp only [cx_K]
  intro b0 Z bs d h hret
  obtain ⟨_, rfl, n, rfl, h8, rfl⟩ := h
  refine gs_seq (gs_set (ev_lstM (ea_nil ⟨by simp, fun p hp0 hp => ?_⟩)))
  let C : List Quad → C := fun l => .lst ((l.map quadD).map B.dat)
  walk_at "mpR"
  refine ⟨by omega, fun x a => ∃ w1 w2 w3 w4, a = ⟨[some (.dat (.int (n : Int))), some (.ptr p), w1, w2, w3, w4], mput b0.mem p (C ((List.range x).flatMap (qY n)))⟩, ⟨_, _, _, _, rfl⟩, ?_, ?_⟩
  · rintro x _ hx ⟨w1, w2, w3, w4, rfl⟩
    walk_at "mpR"
    refine ⟨x + 1, n, rfl, ⟨by omega, by omega⟩, fun y a => ∃ w2 w3 w4, a = ⟨[some (.dat (.int (n : Int))), some (.ptr p), some (.dat (.int (x : Int))), w2, w3, w4], mput b0.mem p (C ((List.range x).flatMap (qY n) ++ (rng (x + 1) y).flatMap (qU n x)))⟩, ⟨_, _, _, by rw [rng_nil, List.flatMap_nil, List.append_nil]; rfl⟩, ?_, ?_⟩
    · rintro y _ hy1 hy ⟨w2, w3, w4, rfl⟩
      walk_at "mpR"
      refine ⟨y + 1, n, rfl, ⟨by omega, by omega⟩, fun u a => ∃ w3 w4, a = ⟨[some (.dat (.int (n : Int))), some (.ptr p), some (.dat (.int (x : Int))), some (.dat (.int (y : Int))), w3, w4], mput b0.mem p (C (((List.range x).flatMap (qY n) ++ (rng (x + 1) y).flatMap (qU n x)) ++ (rng (y + 1) u).flatMap (qV n x y)))⟩, ⟨_, _, by rw [rng_nil, List.flatMap_nil, List.append_nil]; rfl⟩, ?_, ?_⟩
      · rintro u _ hu1 hu ⟨w3, w4, rfl⟩
        walk_at "mpR"
        refine ev_lcM2 (fun i => quadD (x, y, u, u + 1 + i)) (by decide) ?_
        walk_at "mpR"
        refine ⟨u + 1, n, rfl, ⟨by omega, by omega⟩, fun i m hi hm => ?_, ?_⟩
        · walk_at "mpR"
          exact ⟨rfl, rfl⟩
        · walk_at "mpR"
          have l1 := qX_len (n := n) (x := x) h8 (by omega)
          have l2 := qY_len (n := n) (x := x) (y := y) h8 (by omega)
          have l3 := qU_len (n := n) (x := x) (y := y) (u := u) h8 (by omega)
          refine ⟨_, _, mput_same, .inr ⟨_, rfl, rfl⟩, by simp only [List.length_map, List.length_append, List.length_range]; omega, ?_⟩
          refine nx_inv ⟨some (.dat (.int (u : Int))), w4, ?_⟩
          rw [rng_succ (by omega), flat_succ]
          simp only [C, List.map_append, List.append_assoc, qV, rng, List.map_map, AS.at, mput_mput]
          rfl
      · rintro _ ⟨w3, w4, rfl⟩
        refine nx_mk (nx_inv ⟨some (.dat (.int (y : Int))), w3, w4, ?_⟩)
        rw [rng_succ (by omega), flat_succ, List.append_assoc]
        rfl
    · rintro _ ⟨w2, w3, w4, rfl⟩
      refine nx_mk (nx_inv ⟨some (.dat (.int (x : Int))), w2, w3, w4, ?_⟩)
      rw [List.range_succ, flat_succ]
      rfl
  · rintro _ ⟨w1, w2, w3, w4, rfl⟩
    walk_at "mpR"
    refine rt_frz (d := .lst ((quads n).map quadD)) hp mput_same ⟨_, rfl, rfl⟩ (hret.go fun q c hq => ?_)
    show mdel (mput b0.mem p _) p q = _
    rw [mdel_mput hp]
    exact hq
end MP
/-! MPZ -/
set_option exponentiation.threshold 10000
/-! failing_quadruple, median, gap -/
namespace MP
open PySem PySem.Spec PyProof.Rows L2

abbrev NF := Nat × (Nat → Nat → Rat)
def abv (f : Nat → Nat → Rat) (q : Quad) : Bool := above3 (f q.1 q.2.1 + f q.2.2.1 q.2.2.2) (f q.1 q.2.2.1 + f q.2.1 q.2.2.2) (f q.1 q.2.2.2 + f q.2.1 q.2.2.1)
def aMet : NF → B → Prop := fun i x => x = .dat (mtr i.1 i.2) ∧ MetOk i.1 i.2
def zFail : NF → D → Prop := fun i d => (d = .non ∧ ∀ q ∈ quads i.1, abv i.2 q = false) ∨ ∃ q ∈ quads i.1, abv i.2 q = true ∧ d = quadD q
theorem wee_sum {n : Nat} {f : Nat → Nat → Rat} (hf : MetOk n f) {i j k l : Nat} (hi : i < n) (hj : j < n) (hk : k < n) (hl : l < n) : Wee (f i j + f k l) := ((hf.bd _ _ hi hj).add (hf.bd _ _ hk hl)).wee' (by decide)
theorem sc_failing_quadruple : FnScope ["m", "x", "y", "u", "v"] ["m"] (defScope s_failing_quadruple) := ⟨rfl, rfl, rfl, by decide +kernel, rfl, by decide +kernel, by decide +kernel⟩
theorem c_failing_quadruple {P : Program} {w : World} {K : PySem.W.Frag} {mg : Str → Option Value} {base : Heap} (M : FX K mg) : C8.Cal P w K mg base 6 "failing_quadruple" (spP K (p1 aMet) (zFail)) [] := by
  obtain ⟨fd, F⟩ := M.said.def_ 34
  refine ⟨_, fd, ["m"], [], (def_pn (j := 5) F sc_failing_quadruple p1_len fun cdv A outer s H E hr => ⟨_, (pss_cons (ps_for PassesOwn.never rfl (pi_listK (K := K) (C8.pe_c (c_quadruples M) hr (by decide) (by rfl) (pa_cons (pe_fldK (K := K) (pv 0) rfl) pa_nil))) (pg_tup (n := 4) rfl (pgs_cons (pg_name (i := 1) sc_failing_quadruple.nd rfl (by first | exact Or.inl rfl | exact Or.inr rfl)) (pgs_cons (pg_name (i := 2) sc_failing_quadruple.nd rfl (by first | exact Or.inl rfl | exact Or.inr rfl)) (pgs_cons (pg_name (i := 3) sc_failing_quadruple.nd rfl (by first | exact Or.inl rfl | exact Or.inr rfl)) (pgs_cons (pg_name (i := 4) sc_failing_quadruple.nd rfl (by first | exact Or.inl rfl | exact Or.inr rfl)) pgs_nil)))))
      (pss_one (ps_if (pt_not (pt_val (C8.pe_c (c_two_greatest_equal M) hr (by decide) (by rfl) (pa_cons (C8.pe_c (c_sums M) hr (by decide) (by rfl) (pa_cons (pv 0) (pa_cons (pv 1) (pa_cons (pv 2) (pa_cons (pv 3) (pa_cons (pv 4) pa_nil)))))) pa_nil))))
        (pss_one (ps_ret (pe_tup (pa_cons (pv 1) (pa_cons (pv 2) (pa_cons (pv 3) (pa_cons (pv 4) pa_nil)))))))
        pss_nil)))
      (pss_one (ps_ret pe_non))), ?_⟩), M.glo 25, F.kp, F.bindsN fun _ _ _ _ _ _ us hl => match us, hl with | [_], _ => rfl, .nil⟩
  try dsimp only [cx_K]
  intro b0 Z ix bs h hret
  obtain ⟨n, f⟩ := ix
  obtain ⟨_, rfl, rfl, hf⟩ := h
  have h8 := hf.hi
  walk_at "mpM"
  refine ⟨_, ⟨_, rfl, n, rfl, h8, rfl⟩, ?_⟩
  walk_at "mpM"
  refine ⟨fun i a => (∀ q ∈ (quads n).take i, abv f q = false) ∧ ∃ w1 w2 w3 w4, a = ⟨[some (.dat (mtr n f)), w1, w2, w3, w4], b0.mem⟩, ⟨by simp, _, _, _, _, rfl⟩, ?_, ?_⟩
  · rintro vv i d _ hd ⟨hal, w1, w2, w3, w4, rfl⟩
    rw [List.getElem?_map] at hd
    obtain ⟨⟨x, y, u, v⟩, hq, rfl⟩ := Option.map_eq_some_iff.mp hd
    have hm := mem_quads.mp (List.mem_of_getElem? hq)
    simp only at hm
    have lx : x < n := by omega
    have ly : y < n := by omega
    have lu : u < n := by omega
    have lv : v < n := by omega
    walk_at "mpM"
    refine ⟨_, ⟨_, _, _, _, _, rfl, n, f, x, y, u, v, rfl, hf, rfl, rfl, rfl, rfl, lx, ly, lu, lv, rfl⟩, ?_⟩
    walk_at "mpM"
    refine ⟨_, ⟨_, rfl, _, _, _, rfl, wee_sum hf lx ly lu lv, wee_sum hf lx lu ly lv, wee_sum hf lx lv ly lu, rfl⟩, ?_⟩
    walk_at "mpM"
    refine ⟨fun hc => ?_, fun hc => ?_⟩
    · walk_at "mpM"
      refine (hret _ (.inr ⟨(x, y, u, v), List.mem_of_getElem? hq, ?_, rfl⟩)).goUp fun _ _ h => h
      have : abv f (x, y, u, v) = above3 (f x y + f u v) (f x u + f y v) (f x v + f y u) := rfl
      rw [this]
      simpa using hc
    · walk_at "mpM"
      refine nx_inv ⟨fun q hq' => ?_, some (.dat (.int (x : Int))), some (.dat (.int (y : Int))), some (.dat (.int (u : Int))), some (.dat (.int (v : Int))), rfl⟩
      rw [List.take_succ, hq] at hq'
      rcases List.mem_append.mp hq' with h | h
      · exact hal q h
      · have : q = (x, y, u, v) := by simpa using h
        subst this
        have : abv f (x, y, u, v) = above3 (f x y + f u v) (f x u + f y v) (f x v + f y u) := rfl
        rw [this]
        simpa using hc
  · rintro _ ⟨hal, w1, w2, w3, w4, rfl⟩
    rw [List.length_map, List.take_length] at hal
    walk_at "mpM"
    exact (hret _ (.inl ⟨rfl, hal⟩)).go fun _ _ h => h
/-- no four points are apart -/
def Four (n : Nat) (f : Nat → Nat → Rat) : Prop := ∀ q ∈ quads n, abv f q = false
def sIsTree : B → D → Prop := fun x d => ∃ n f, x = .dat (mtr n f) ∧ MetOk n f ∧ Four n f ∧ d = .bl true
theorem sc_is_tree_metric : FnScope ["m"] ["m"] (defScope s_is_tree_metric) := ⟨rfl, rfl, rfl, by decide +kernel, rfl, by decide +kernel, by decide +kernel⟩
theorem c_is_tree_metric {P : Program} {w : World} {K : PySem.W.Frag} {mg : Str → Option Value} {base : Heap} (M : FX K mg) : C8.Cal P w K mg base 7 "is_tree_metric" (spA K (pw (f1 sIsTree))) [] := by
  obtain ⟨fd, F⟩ := M.said.def_ 35
  refine ⟨_, fd, ["m"], [], (def_pure (j := 6) F sc_is_tree_metric f1_len fun cdv A outer s H E hr => ⟨_, (pss_one (ps_ret (pe_cmpR op_isN (C8.pe_c (c_failing_quadruple M) hr (by decide) (by rfl) (pa_cons (pv 0) pa_nil)) pe_non (nomark _)))), ?_⟩), M.glo 26, F.kp, F.bindsN fun _ _ _ _ _ _ us hl => match us, hl with | [_], _ => rfl, .nil⟩
  try dsimp only [cx_K]
  intro b0 Z bs d h hret
  obtain ⟨_, rfl, n, f, rfl, hf, h4, rfl⟩ := h
  walk_at "mpM"
  refine ⟨(n, f), ⟨_, rfl, rfl, hf⟩, fun d hd => ?_⟩
  rcases hd with ⟨rfl, _⟩ | ⟨q, hq, ha, _⟩
  · walk_at "mpM"
    refine ro_isN fun F u hu => ?_
    cases (show u = .non from hu)
    exact hret.go fun _ _ h => h
  · rw [h4 q hq] at ha
    cases ha
/-! ### median -/
def max3 (a b c : Rat) : Rat := gmax a [a, b, c]
def medF (f : Nat → Nat → Rat) (x y z w : Nat) : Rat := max3 (f w x - (f x y + f x z - f y z) / 2) (f w y - (f x y + f y z - f x z) / 2) (f w z - (f x z + f y z - f x y) / 2)
def sMed : B → B → B → B → D → Prop := fun mm x y z d => ∃ (n : Nat) (f : Nat → Nat → Rat) (i j k : Nat), mm = .dat (mtr n f) ∧ MetOk n f ∧ x = .dat (.int (i : Int)) ∧ y = .dat (.int (j : Int)) ∧ z = .dat (.int (k : Int)) ∧ i < n ∧ j < n ∧ k < n ∧
  d = .tup ((List.range n).map fun w => .rat (medF f i j k w))
theorem bd_med {n : Nat} {f : Nat → Nat → Rat} (hf : MetOk n f) {x y z : Nat} (hx : x < n) (hy : y < n) (hz : z < n) : Bd 12 (BM * 3) ((f x y + f x z - f y z) / 2) := (((hf.bd _ _ hx hy).add (hf.bd _ _ hx hz)).sub (hf.bd _ _ hy hz)).half
theorem Bd.wee6 {b : Nat} {q : Rat} (h : Bd 12 b q) (h2 : b ≤ BM * 100000) : Wee q := h.wee (by omega) (Nat.lt_of_lt_of_le (by decide : 12 < 2 ^ 4) (Nat.pow_le_pow_right (by omega) (by omega))) (Nat.lt_of_le_of_lt h2 (Nat.lt_of_lt_of_le (by decide : BM * 100000 < 2 ^ 64) (Nat.pow_le_pow_right (by omega) (by omega))))
theorem bd_medT {n : Nat} {f : Nat → Nat → Rat} (hf : MetOk n f) {w x : Nat} {p : Rat} (hw : w < n) (hx : x < n) (hp : Bd 12 (BM * 3) p) : Bd 12 (BM * 5) (f w x - p) := by
  have := ((hf.bd _ _ hw hx).up 2 (by omega)).sub hp
  exact this.mono (by omega)
theorem sc_median : FnScope ["m", "x", "y", "z", "d", "p", "q", "s", "w"] ["m", "x", "y", "z"] (defScope s_median) := ⟨rfl, rfl, rfl, by decide +kernel, rfl, by decide +kernel, by decide +kernel⟩
theorem c_median {P : Program} {w : World} {K : PySem.W.Frag} {mg : Str → Option Value} {base : Heap} (M : FX K mg) : C8.Cal P w K mg base 5 "median" (spA K (pw (f4 sMed))) [] := by
  obtain ⟨fd, F⟩ := M.said.def_ 36
  refine ⟨_, fd, ["m", "x", "y", "z"], [], (def_pure (j := 4) F sc_median f4_len fun cdv A outer s H E hr => ⟨_, (pss_cons (ps_set (i := 4) sc_median.nd rfl (by first | exact Or.inl rfl | exact Or.inr rfl) (pe_fldK (K := K) (pv 0) rfl))
      (pss_cons (ps_set (i := 5) sc_median.nd rfl (by first | exact Or.inl rfl | exact Or.inr rfl) (C8.pe_mt0 (c_Ratio_half M) hr (by decide) (pe_op (op_subAny M (ops M) hr) (pe_op (op_addAny M (ops M) hr) (pe_ix (ix_seqK (K := K)) (pe_ix (ix_seqK (K := K)) (pv 4) (pv 1) (fun _ _ => rfl)) (pv 2) (fun _ _ => rfl)) (pe_ix (ix_seqK (K := K)) (pe_ix (ix_seqK (K := K)) (pv 4) (pv 1) (fun _ _ => rfl)) (pv 3) (fun _ _ => rfl))) (pe_ix (ix_seqK (K := K)) (pe_ix (ix_seqK (K := K)) (pv 4) (pv 2) (fun _ _ => rfl)) (pv 3) (fun _ _ => rfl)))))
        (pss_cons (ps_set (i := 6) sc_median.nd rfl (by first | exact Or.inl rfl | exact Or.inr rfl) (C8.pe_mt0 (c_Ratio_half M) hr (by decide) (pe_op (op_subAny M (ops M) hr) (pe_op (op_addAny M (ops M) hr) (pe_ix (ix_seqK (K := K)) (pe_ix (ix_seqK (K := K)) (pv 4) (pv 1) (fun _ _ => rfl)) (pv 2) (fun _ _ => rfl)) (pe_ix (ix_seqK (K := K)) (pe_ix (ix_seqK (K := K)) (pv 4) (pv 2) (fun _ _ => rfl)) (pv 3) (fun _ _ => rfl))) (pe_ix (ix_seqK (K := K)) (pe_ix (ix_seqK (K := K)) (pv 4) (pv 1) (fun _ _ => rfl)) (pv 3) (fun _ _ => rfl)))))
          (pss_cons (ps_set (i := 7) sc_median.nd rfl (by first | exact Or.inl rfl | exact Or.inr rfl) (C8.pe_mt0 (c_Ratio_half M) hr (by decide) (pe_op (op_subAny M (ops M) hr) (pe_op (op_addAny M (ops M) hr) (pe_ix (ix_seqK (K := K)) (pe_ix (ix_seqK (K := K)) (pv 4) (pv 1) (fun _ _ => rfl)) (pv 3) (fun _ _ => rfl)) (pe_ix (ix_seqK (K := K)) (pe_ix (ix_seqK (K := K)) (pv 4) (pv 2) (fun _ _ => rfl)) (pv 3) (fun _ _ => rfl))) (pe_ix (ix_seqK (K := K)) (pe_ix (ix_seqK (K := K)) (pv 4) (pv 1) (fun _ _ => rfl)) (pv 2) (fun _ _ => rfl)))))
            (pss_one (ps_ret (pe_callTy (T := "tuple") (call_tuple_ofK (K := K)) (by rfl) (M.free 66) (by decide +kernel) (pa_cons (pe_lc (own := [("w", 8)]) (g := gName 8) (by rfl) sc_median.nd (pi_range1 rfl (M.free 62) (pa_cons (pe_fldK (K := K) (pv 0) rfl) pa_nil)) (by dsimp only [Cx.blk, Cx.nox, Cx.wish, cxOf, blk_sc, env_sc]; exact blkOk_by (by decide +kernel)) (fun _ _ _ _ _ => pg_name (i := 8) sc_median.nd rfl (by first | exact Or.inl rfl | exact Or.inr rfl)) (fun _ _ _ _ _ => pts_nil) (fun _ _ _ _ _ => (C8.pe_c (c_greatest M) hr (by decide) (by rfl) (pa_cons (pe_lst (pa_cons (pe_op (op_subAny M (ops M) hr) (pe_ix (ix_seqK (K := K)) (pe_ix (ix_seqK (K := K)) (pv 4) (pv 8) (fun _ _ => rfl)) (pv 1) (fun _ _ => rfl)) (pv 5)) (pa_cons (pe_op (op_subAny M (ops M) hr) (pe_ix (ix_seqK (K := K)) (pe_ix (ix_seqK (K := K)) (pv 4) (pv 8) (fun _ _ => rfl)) (pv 2) (fun _ _ => rfl)) (pv 6)) (pa_cons (pe_op (op_subAny M (ops M) hr) (pe_ix (ix_seqK (K := K)) (pe_ix (ix_seqK (K := K)) (pv 4) (pv 8) (fun _ _ => rfl)) (pv 3) (fun _ _ => rfl)) (pv 7)) pa_nil)))) pa_nil)))) pa_nil)))))))), ?_⟩), M.glo 27, F.kp, F.bindsN fun _ _ _ _ _ _ us hl => match us, hl with | [_, _, _, _], _ => rfl, .nil⟩
  try dsimp only [cx_K]
  intro b0 Z bs d h hret
  obtain ⟨_, _, _, _, rfl, n, f, x, y, z, rfl, hf, rfl, rfl, rfl, hx, hy, hz, rfl⟩ := h
  have h8 := hf.hi
  have w1 : ∀ {i j}, i < n → j < n → Wee (f i j) := fun hi hj => hf.wee hi hj
  have w2 : ∀ {i j k l}, i < n → j < n → k < n → l < n → Wee (f i j + f k l) := fun hi hj hk hl => ((hf.bd _ _ hi hj).add (hf.bd _ _ hk hl)).wee' (by decide)
  have w3 : ∀ {i j k l p q}, i < n → j < n → k < n → l < n → p < n → q < n → Wee (f i j + f k l - f p q) := fun hi hj hk hl hp hq => (((hf.bd _ _ hi hj).add (hf.bd _ _ hk hl)).sub (hf.bd _ _ hp hq)).wee' (by decide)
  have B3 : ∀ {i j k l p q}, i < n → j < n → k < n → l < n → p < n → q < n → Bd 12 (BM * 3) ((f i j + f k l - f p q) / 2) := fun hi hj hk hl hp hq => (((hf.bd _ _ hi hj).add (hf.bd _ _ hk hl)).sub (hf.bd _ _ hp hq)).half
  walk_at "mpM"
  have hwT : ∀ {w x p}, w < n → x < n → Bd 12 (BM * 3) p → Wee (f w x) ∧ Wee p ∧ Bd 12 (BM * 5) (f w x - p) := fun hw hx hp => ⟨hf.wee hw hx, hp.wee6 (by decide), bd_medT hf hw hx hp⟩
  have b1 := B3 hx hy hx hz hy hz
  have b2 := B3 hx hy hy hz hx hz
  have b3 := B3 hx hz hy hz hx hy
  refine ev_lcM1 (fun w => .rat (medF f x y z w)) (by decide) ?_
  walk_at "mpM"
  refine ⟨by omega, fun w m hw _ => ?_, ?_⟩
  · obtain ⟨q1, q2, q3⟩ := hwT hw hx b1
    obtain ⟨r1, r2, r3⟩ := hwT hw hy b2
    obtain ⟨s1, s2, s3⟩ := hwT hw hz b3
    walk_at "mpM"
    refine ev_lst3 ?_
    walk_at "mpM"
    refine ⟨_, ⟨_, rfl, false, _, [_, _], rfl, ?_, rfl⟩, ?_⟩
    · intro p hp
      simp only [List.mem_cons, List.not_mem_nil, or_false] at hp
      rcases hp with rfl | rfl | rfl
      · exact q3.wee6 (by decide)
      · exact r3.wee6 (by decide)
      · exact s3.wee6 (by decide)
    · exact ⟨rfl, rfl⟩
  · walk_at "mpM"
    exact hret.go fun _ _ h => h
/-! ### gap -/
def rowT (l : List Rat) : D := .tup (l.map D.rat)
def gapL (l1 l2 : List Rat) : List Rat := (List.range l1.length).map fun k => rabs (l1.getD k 0 - l2.getD k 0)
def gapF (l1 l2 : List Rat) : Rat := gmax ((gapL l1 l2).headD 0) (gapL l1 l2)
def sGap : B → B → D → Prop := fun x y d => ∃ l1 l2 : List Rat, x = .dat (rowT l1) ∧ y = .dat (rowT l2) ∧ 1 ≤ l1.length ∧ l1.length ≤ 100 ∧ l2.length = l1.length ∧ (∀ q ∈ l1, Bd 12 (BM * 5) q) ∧ (∀ q ∈ l2, Bd 12 (BM * 5) q) ∧ d = .rat (gapF l1 l2)
theorem getD_mem {l : List Rat} {k : Nat} (h : k < l.length) : l.getD k 0 ∈ l ∧ (l.map D.rat)[k]? = some (.rat (l.getD k 0)) := by
  rw [List.getD_eq_getElem?_getD, List.getElem?_eq_getElem h, List.getElem?_map, List.getElem?_eq_getElem h]
  exact ⟨List.getElem_mem h, rfl⟩
theorem sc_gap : FnScope ["one", "two", "k"] ["one", "two"] (defScope s_gap) := ⟨rfl, rfl, rfl, by decide +kernel, rfl, by decide +kernel, by decide +kernel⟩
theorem c_gap {P : Program} {w : World} {K : PySem.W.Frag} {mg : Str → Option Value} {base : Heap} (M : FX K mg) : C8.Cal P w K mg base 5 "gap" (spA K (pw (f2 sGap))) [] := by
  obtain ⟨fd, F⟩ := M.said.def_ 38
  refine ⟨_, fd, ["one", "two"], [], (def_pure (j := 4) F sc_gap f2_len fun cdv A outer s H E hr => ⟨_, (pss_one (ps_ret (C8.pe_c (c_greatest M) hr (by decide) (by rfl) (pa_cons (pe_lc (own := [("k", 2)]) (g := gName 2) (by rfl) sc_gap.nd (pi_range1 rfl (M.free 62) (pa_cons (pe_callB (call_len_anyK (K := K)) (by rfl) (M.free 61) PySem.boot_len (pa_cons (pv 0) pa_nil)) pa_nil)) (by dsimp only [Cx.blk, Cx.nox, Cx.wish, cxOf, blk_sc, env_sc]; exact blkOk_by (by decide +kernel)) (fun _ _ _ _ _ => pg_name (i := 2) sc_gap.nd rfl (by first | exact Or.inl rfl | exact Or.inr rfl)) (fun _ _ _ _ _ => pts_nil) (fun _ _ _ _ _ => (C8.pe_mt0 (c_Ratio_absolute M) hr (by decide) (pe_op (op_subAny M (ops M) hr) (pe_ix (ix_seqK (K := K)) (pv 0) (pv 2) (fun _ _ => rfl)) (pe_ix (ix_seqK (K := K)) (pv 1) (pv 2) (fun _ _ => rfl)))))) pa_nil)))), ?_⟩), M.glo 29, F.kp, F.bindsN fun _ _ _ _ _ _ us hl => match us, hl with | [_, _], _ => rfl, .nil⟩
  try dsimp only [cx_K]
  intro b0 Z bs d h hret
  obtain ⟨_, _, rfl, l1, l2, rfl, rfl, h1, h2, h3, hb1, hb2, rfl⟩ := h
  have hlen : (gapL l1 l2).length = l1.length := by rw [gapL, List.length_map, List.length_range]
  have hB : ∀ {k}, k < l1.length → Bd 12 (BM * 10) (l1.getD k 0 - l2.getD k 0) := fun {k} hk => by
    have := (hb1 _ (getD_mem (k := k) hk).1).sub (hb2 _ (getD_mem (l := l2) (k := k) (by omega)).1)
    exact this.mono (by omega)
  walk_at "mpR"
  refine ev_lcM1 (fun k => .rat (rabs (l1.getD k 0 - l2.getD k 0))) (by decide) ?_
  unfold rowT
  walk_at "mpR"
  refine ⟨by rw [List.length_map]; omega, fun k m hk _ => ?_, ?_⟩
  · rw [List.length_map] at hk
    have wa : Wee (l1.getD k 0) := (hb1 _ (getD_mem hk).1).wee6 (by decide)
    have wb : Wee (l2.getD k 0) := (hb2 _ (getD_mem (l := l2) (k := k) (by omega)).1).wee6 (by decide)
    have wc : Wee (l1.getD k 0 - l2.getD k 0) := (hB hk).wee6 (by decide)
    walk_at "mpR"
    refine ro_ixT (atI_nat (getD_mem hk).2) ?_
    walk_at "mpR"
    refine ro_ixT (atI_nat (getD_mem (l := l2) (k := k) (by omega)).2) ?_
    walk_at "mpR"
    exact ⟨rfl, rfl⟩
  · have e : (List.range (l1.map D.rat).length).map (fun k => D.rat (rabs (l1.getD k 0 - l2.getD k 0))) = ((gapL l1 l2).headD 0 :: (gapL l1 l2).tail).map D.rat := by
      have e2 : (gapL l1 l2).headD 0 :: (gapL l1 l2).tail = gapL l1 l2 := by
        cases q : gapL l1 l2 with
        | nil => rw [q] at hlen; simp at hlen; omega
        | cons a b => rfl
      rw [e2, List.length_map, gapL, List.map_map]
      rfl
    have e2 : (gapL l1 l2).headD 0 :: (gapL l1 l2).tail = gapL l1 l2 := by
      cases q : gapL l1 l2 with
      | nil => rw [q] at hlen; simp at hlen; omega
      | cons a b => rfl
    rw [e]
    walk_at "mpR"
    refine ⟨_, ⟨_, rfl, false, (gapL l1 l2).headD 0, (gapL l1 l2).tail, rfl, ?_, rfl⟩, ?_⟩
    · rw [e2]
      intro p hp
      obtain ⟨k, hk, rfl⟩ := List.mem_map.mp hp
      exact (hB (List.mem_range.mp hk)).abs.wee6 (by decide)
    · rw [e2]
      exact hret.go fun _ _ h => h
end MP
/-! MQA -/
set_option exponentiation.threshold 10000
/-! own_edge, own_edges, degree -/
namespace MP
open PySem PySem.Spec PyProof.Rows L2

def sOwn : B → D → Prop := fun x d => ∃ e : Edge, x = .dat (edgeD e) ∧ 0 ≤ e.1 ∧ e.1 < e.2.1 ∧ 0 < e.2.2 ∧ d = edgeD e
theorem sign_one {q : Rat} (h : 0 < q) : q.num.sign = 1 := Int.sign_eq_one_of_pos (Rat.num_pos'.mpr h)
theorem sc_own_edge : FnScope ["edge", "x", "y", "length"] ["edge"] (defScope s_own_edge) := ⟨rfl, rfl, rfl, by decide +kernel, rfl, by decide +kernel, by decide +kernel⟩
theorem c_own_edge {P : Program} {w : World} {K : PySem.W.Frag} {mg : Str → Option Value} {base : Heap} (M : FX K mg) : C8.Cal P w K mg base 5 "own_edge" (spA K (pw (f1 sOwn))) [] := by
  obtain ⟨fd, F⟩ := M.said.def_ 26
  refine ⟨_, fd, ["edge"], [], (def_pure (j := 4) F sc_own_edge f1_len fun cdv A outer s H E hr => ⟨_, (pss_cons (ps_if (PW.pt (pw_or (pt_not (pt_val (pe_callB (call_isiK' (K := K)) (by rfl) (M.free 63) (by decide +kernel) (pa_cons (pv 0) (pa_cons (pe_bltn (v := .ty "tuple") rfl (M.free 66) (by decide +kernel) rfl) pa_nil))))) (pw_or1 (pt_cmpR (op_neAny M (ops M) hr) (pe_callB (call_len_anyK (K := K)) (by rfl) (M.free 61) PySem.boot_len (pa_cons (pv 0) pa_nil)) pe_int (nomark _)))))
      (pss_one ps_never)
      pss_nil)
      (pss_cons (ps_asg (pv 0) (pg_tup (n := 3) rfl (pgs_cons (pg_name (i := 1) sc_own_edge.nd rfl (by first | exact Or.inl rfl | exact Or.inr rfl)) (pgs_cons (pg_name (i := 2) sc_own_edge.nd rfl (by first | exact Or.inl rfl | exact Or.inr rfl)) (pgs_cons (pg_name (i := 3) sc_own_edge.nd rfl (by first | exact Or.inl rfl | exact Or.inr rfl)) pgs_nil)))))
        (pss_cons (ps_if (PW.pt (pw_or (pt_not (pt_val (C8.pe_c (c_is_integer M) hr (by decide) (by rfl) (pa_cons (pv 1) pa_nil)))) (pw_or (pt_not (pt_val (C8.pe_c (c_is_integer M) hr (by decide) (by rfl) (pa_cons (pv 2) pa_nil)))) (pw_or (pt_cmpR (op_ltAny (K := K) hr) (pv 1) pe_int (nomark _)) (pw_or (pt_cmpR (op_ltAny (K := K) hr) (pv 2) pe_int (nomark _)) (pw_or1 (pt_cmpR (op_eqAny M (ops M) hr) (pv 1) (pv 2) (nomark _))))))))
          (pss_one ps_never)
          pss_nil)
          (pss_cons (ps_if (PW.pt (pw_or (pt_not (pt_val (C8.pe_c (c_is_rational M) hr (by decide) (by rfl) (pa_cons (pv 3) pa_nil)))) (pw_or1 (pt_cmpR (op_ltAny (K := K) hr) (C8.pe_mt0 (c_Ratio_sign M) hr (by decide) (C8.pe_c (c_as_ratio M) hr (by decide) (by rfl) (pa_cons (pv 3) pa_nil))) pe_int (nomark _)))))
            (pss_one ps_never)
            pss_nil)
            (pss_cons (ps_if (pt_cmpR op_gt (pv 1) (pv 2) (nomark _))
              (pss_one (ps_par (i := 1) (j := 2) (by rfl) sc_own_edge.nd rfl rfl (by decide) rfl rfl (pa_cons (pv 2) (pa_cons (pv 1) pa_nil)) (by rfl)))
              pss_nil)
              (pss_one (ps_ret (pe_tup (pa_cons (pv 1) (pa_cons (pv 2) (pa_cons (C8.pe_c (c_as_ratio M) hr (by decide) (by rfl) (pa_cons (pv 3) pa_nil)) pa_nil))))))))))), ?_⟩), M.glo 17, F.kp, F.bindsN fun _ _ _ _ _ _ us hl => match us, hl with | [_], _ => rfl, .nil⟩
  try dsimp only [cx_K]
  intro b0 Z bs d h hret
  obtain ⟨_, rfl, ⟨x, y, l⟩, rfl, h0, h1, h2, rfl⟩ := h
  simp only at h0 h1 h2
  walk_at "mpR"
  refine ⟨fun _ => ?_, fun h => (by cases h)⟩
  walk_at "mpR"
  refine ⟨fun h => (by cases h), fun _ => ?_⟩
  walk_at "mpR"
  refine ⟨_, ⟨_, rfl, _, rfl, trivial, rfl⟩, ?_⟩
  walk_at "mpR"
  refine ⟨fun _ => ?_, fun h => (by cases h)⟩
  walk_at "mpR"
  refine ⟨_, ⟨_, rfl, _, rfl, trivial, rfl⟩, ?_⟩
  walk_at "mpR"
  refine ⟨fun _ => ?_, fun h => (by cases h)⟩
  walk_at "mpR"
  refine ⟨fun _ => ?_, fun h => (by have h := of_decide_eq_true h; dsimp only at h; omega)⟩
  walk_at "mpR"
  refine ⟨fun _ => ?_, fun h => (by have h := of_decide_eq_true h; dsimp only at h; omega)⟩
  walk_at "mpR"
  refine ⟨fun h => (by have h := of_decide_eq_true h; dsimp only at h; omega), fun _ => ?_⟩
  walk_at "mpR"
  refine ⟨_, ⟨_, rfl, _, rfl, trivial, rfl⟩, ?_⟩
  walk_at "mpR"
  refine ⟨fun _ => ?_, fun h => (by cases h)⟩
  walk_at "mpR"
  refine ⟨_, ⟨_, rfl, .rat l, rfl, rfl, rfl⟩, ?_⟩
  walk_at "mpR"
  refine ⟨fun h => (by rw [show toQ (.rat l) = l from rfl, sign_one h2] at h; simp at h), fun _ => ?_⟩
  walk_at "mpR"
  refine ⟨fun h => (by have h := of_decide_eq_true h; dsimp only at h; omega), fun _ => ?_⟩
  walk_at "mpR"
  refine ⟨_, ⟨_, rfl, .rat l, rfl, rfl, rfl⟩, ?_⟩
  walk_at "mpR"
  exact hret.go fun _ _ h => h
theorem cut_two {α : Type} (x y z : α) : cutG [x, y, z] none (some 2) = [x, y] := cut_to [x, y, z] 2
/-! ### own_edges -/
def eLt (e e' : Edge) : Prop := e.1 < e'.1 ∨ e.1 = e'.1 ∧ e.2.1 < e'.2.1
theorem lexLt2 (a b c d : Int) : HT.lexLt [a, b] [c, d] = decide (a < c ∨ a = c ∧ b < d) := by
  rw [HT.lexLt_cons, HT.lexLt_cons, HT.lexLt_nil_nil]
  by_cases h1 : a = c
  · rw [if_pos h1]
    by_cases h2 : b = d
    · rw [if_pos h2]; exact (decide_eq_false (by omega)).symm
    · rw [if_neg h2]; exact decide_eq_decide.mpr (by omega)
  · rw [if_neg h1]; exact decide_eq_decide.mpr (by omega)
def sOwns : B → D → Prop := fun x d => ∃ es : List Edge, x = .dat (.lst (es.map edgeD)) ∧ es.length ≤ 1000 ∧ es.Pairwise eLt ∧ (∀ e ∈ es, 0 ≤ e.1 ∧ e.1 < e.2.1 ∧ 0 < e.2.2) ∧ d = .lst (es.map edgeD)
theorem sc_own_edges : FnScope ["edges", "found", "edge", "x", "y", "length", "at", "old"] ["edges"] (defScope s_own_edges) := ⟨rfl, rfl, rfl, by decide +kernel, rfl, by decide +kernel, by decide +kernel⟩
theorem c_own_edges {P : Program} {w : World} {K : PySem.W.Frag} {mg : Str → Option Value} {base : Heap} (M : FX K mg) : C8.Cal P w K mg base 6 "own_edges" (spA K (pw (f1 sOwns))) [] := by
  obtain ⟨fd, F⟩ := M.said.def_ 27
  refine ⟨_, fd, ["edges"], [], (def_pure (j := 5) F sc_own_edges f1_len fun cdv A outer s H E hr => ⟨_, (pss_cons (ps_if (pt_not (pt_val (pe_callB (call_isiTK (K := K)) (by rfl) (M.free 63) (by decide +kernel) (pa_cons (pv 0) (pa_cons (pe_tup (pa_cons (pe_bltn (v := .ty "list") rfl (M.free 67) (by decide +kernel) rfl) (pa_cons (pe_bltn (v := .ty "tuple") rfl (M.free 66) (by decide +kernel) rfl) pa_nil))) pa_nil)))))
      (pss_one ps_never)
      pss_nil)
      (pss_cons (ps_set (i := 1) sc_own_edges.nd rfl (by first | exact Or.inl rfl | exact Or.inr rfl) (pe_lst pa_nil))
        (pss_cons (ps_for PassesOwn.never rfl (pi_listK (K := K) (pv 0)) (pg_name (i := 2) sc_own_edges.nd rfl (by first | exact Or.inl rfl | exact Or.inr rfl))
          (pss_cons (ps_asg (C8.pe_c (c_own_edge M) hr (by decide) (by rfl) (pa_cons (pv 2) pa_nil)) (pg_tup (n := 3) rfl (pgs_cons (pg_name (i := 3) sc_own_edges.nd rfl (by first | exact Or.inl rfl | exact Or.inr rfl)) (pgs_cons (pg_name (i := 4) sc_own_edges.nd rfl (by first | exact Or.inl rfl | exact Or.inr rfl)) (pgs_cons (pg_name (i := 5) sc_own_edges.nd rfl (by first | exact Or.inl rfl | exact Or.inr rfl)) pgs_nil)))))
            (pss_cons (ps_set (i := 6) sc_own_edges.nd rfl (by first | exact Or.inl rfl | exact Or.inr rfl) (pe_callB (call_len_anyK (K := K)) (by rfl) (M.free 61) PySem.boot_len (pa_cons (pe_lc (own := [("old", 7)]) (g := gName 7) (by rfl) sc_own_edges.nd (pi_listK (K := K) (pv 1)) (by dsimp only [Cx.blk, Cx.nox, Cx.wish, cxOf, blk_sc, env_sc]; exact blkOk_by (by decide +kernel)) (fun _ _ _ _ _ => pg_name (i := 7) sc_own_edges.nd rfl (by first | exact Or.inl rfl | exact Or.inr rfl)) (fun _ _ _ _ _ => pts_one (pt_cmpR (op_ltAny (K := K) hr) (pe_slice (sl_anyK (K := K)) (pv 7) po_none (po_some pe_int)) (pe_tup (pa_cons (pv 3) (pa_cons (pv 4) pa_nil))) (nomark _))) (fun _ _ _ _ _ => (pv 7))) pa_nil)))
              (pss_cons (ps_if (PW.pt (pw_and (pt_cmpR (op_ltAny (K := K) hr) (pv 6) (pe_callB (call_len_anyK (K := K)) (by rfl) (M.free 61) PySem.boot_len (pa_cons (pv 1) pa_nil)) (nomark _)) (pw_and1 (pt_cmpR (op_eqAny M (ops M) hr) (pe_slice (sl_anyK (K := K)) (pe_ix (ix_seqK (K := K)) (pv 1) (pv 6) (fun _ _ => rfl)) po_none (po_some pe_int)) (pe_tup (pa_cons (pv 3) (pa_cons (pv 4) pa_nil))) (nomark _)))))
                (pss_one ps_never)
                pss_nil)
                (pss_one (ps_set (i := 1) sc_own_edges.nd rfl (by first | exact Or.inl rfl | exact Or.inr rfl) (pe_op (op_addAny M (ops M) hr) (pe_op (op_addAny M (ops M) hr) (pe_slice (sl_anyK (K := K)) (pv 1) po_none (po_some (pv 6))) (pe_lst (pa_cons (pe_tup (pa_cons (pv 3) (pa_cons (pv 4) (pa_cons (pv 5) pa_nil)))) pa_nil))) (pe_slice (sl_anyK (K := K)) (pv 1) (po_some (pv 6)) po_none))))))))
          (pss_one (ps_ret (pv 1)))))), ?_⟩), M.glo 18, F.kp, F.bindsN fun _ _ _ _ _ _ us hl => match us, hl with | [_], _ => rfl, .nil⟩
  try dsimp only [cx_K]
  intro b0 Z bs d h hret
  obtain ⟨_, rfl, es, rfl, hlen, hsort, hok, rfl⟩ := h
  walk_at "mpR"
  refine ⟨trivial, _, rfl, fun h => (by cases h), fun _ => ?_⟩
  refine gs_next (nx_go (gs_seq (gs_set (ev_lst0 ?_))))
  walk_at "mpR"
  refine ⟨fun i a => ∃ w2 w3 w4 w5 w6 w7, a = ⟨[some (.dat (.lst (es.map edgeD))), some (.dat (.lst ((es.take i).map edgeD))), w2, w3, w4, w5, w6, w7], b0.mem⟩, ⟨_, _, _, _, _, _, rfl⟩, ?_, ?_⟩
  · rintro v i d _ hd ⟨w2, w3, w4, w5, w6, w7, rfl⟩
    rw [List.getElem?_map] at hd
    obtain ⟨e, he, rfl⟩ := Option.map_eq_some_iff.mp hd
    obtain ⟨h0, h1, h2⟩ := hok e (List.mem_of_getElem? he)
    have hi : i < es.length := (List.getElem?_eq_some_iff.mp he).1
    have hlt : ∀ e' ∈ es.take i, eLt e' e := fun e' he' => by
      obtain ⟨j, hj, rfl⟩ := List.mem_iff_getElem.mp he'
      have hj' : j < i := by rw [List.length_take] at hj; omega
      have := List.pairwise_iff_getElem.mp hsort j i (by omega) hi hj'
      rw [List.getElem_take]
      have e2 : es[i] = e := (List.getElem?_eq_some_iff.mp he).2
      rw [← e2]
      exact this
    have hlen2 : ((es.take i).map edgeD).length = i := by rw [List.length_map, List.length_take]; omega
    walk_at "mpR"
    refine ⟨_, ⟨_, rfl, e, rfl, h0, h1, h2, rfl⟩, ?_⟩
    walk_at "mpR"
    refine ev_lcFL (fun _ => true) (fun d => d) (by decide) (ev_var rfl ⟨_, rfl, by omega, ?_, ?_, ?_⟩)
    · intro d m hd _
      obtain ⟨e', he', rfl⟩ := List.mem_map.mp hd
      walk_at "mpR"
      rw [cut_two]
      walk_at "mpR"
      refine ro_ltT (is := [e'.1, e'.2.1]) (js := [e.1, e.2.1]) ?_
      walk_at "mpR"
      rw [lexLt2]
      exact ⟨decide_eq_true (hlt e' he'), rfl⟩
    · intro d m hd _ _
      walk_at "mpR"
      exact ⟨rfl, rfl⟩
    · rw [filter_true, List.map_id']
      walk_at "mpR"
      rw [hlen2]
      refine ⟨fun h => absurd (of_decide_eq_true h) (by omega), fun _ => ?_⟩
      refine ⟨fun h => (by cases h), fun _ => ?_⟩
      walk_at "mpR"
      rw [cut_to, List.take_of_length_le (l := (es.take i).map edgeD) (by omega)]
      refine ev_lst1 ?_
      walk_at "mpR"
      refine ro_addL (.inr ⟨_, rfl, rfl⟩) (.inr ⟨_, rfl, rfl⟩) (by rw [hlen2]; simp; omega) ?_
      walk_at "mpR"
      rw [cut_from, List.drop_of_length_le (l := (es.take i).map edgeD) (by omega)]
      refine ro_addL (.inr ⟨_, rfl, rfl⟩) (.inr ⟨_, rfl, rfl⟩) (by rw [List.length_append, hlen2]; simp; omega) ?_
      refine nx_inv ⟨some (.dat (edgeD e)), some (.dat (.int e.1)), some (.dat (.int e.2.1)), some (.dat (.rat e.2.2)), some (.dat (.int (i : Int))), w7, ?_⟩
      rw [List.take_succ, he, List.map_append, List.append_nil]
      rfl
  · rintro _ ⟨w2, w3, w4, w5, w6, w7, rfl⟩
    rw [List.length_map, List.take_length]
    walk_at "mpR"
    exact hret.go fun _ _ h => h
/-! ### degree -/
def degF (es : List Edge) (x : Int) : Nat := (es.filter fun e => decide (x ∈ [e.1, e.2.1])).length
def sDeg : B → B → D → Prop := fun x y d => ∃ (es : List Edge) (v : Int), x = .dat (.lst (es.map edgeD)) ∧ y = .dat (.int v) ∧ es.length ≤ 1000 ∧ d = .int (degF es v : Int)
theorem sc_degree : FnScope ["edges", "x", "edge"] ["edges", "x"] (defScope s_degree) := ⟨rfl, rfl, rfl, by decide +kernel, rfl, by decide +kernel, by decide +kernel⟩
theorem c_degree {P : Program} {w : World} {K : PySem.W.Frag} {mg : Str → Option Value} {base : Heap} (M : FX K mg) : C8.Cal P w K mg base 5 "degree" (spA K (pw (f2 sDeg))) [] := by
  obtain ⟨fd, F⟩ := M.said.def_ 29
  refine ⟨_, fd, ["edges", "x"], [], (def_pure (j := 4) F sc_degree f2_len fun cdv A outer s H E hr => ⟨_, (pss_one (ps_ret (pe_callB (call_len_anyK (K := K)) (by rfl) (M.free 61) PySem.boot_len (pa_cons (pe_lc (own := [("edge", 2)]) (g := gName 2) (by rfl) sc_degree.nd (pi_listK (K := K) (pv 0)) (by dsimp only [Cx.blk, Cx.nox, Cx.wish, cxOf, blk_sc, env_sc]; exact blkOk_by (by decide +kernel)) (fun _ _ _ _ _ => pg_name (i := 2) sc_degree.nd rfl (by first | exact Or.inl rfl | exact Or.inr rfl)) (fun _ _ _ _ _ => pts_one (pt_cmpR (op_inAny M (ops M) hr) (pv 1) (pe_slice (sl_anyK (K := K)) (pv 2) po_none (po_some pe_int)) rfl)) (fun _ _ _ _ _ => (pv 2))) pa_nil)))), ?_⟩), M.glo 20, F.kp, F.bindsN fun _ _ _ _ _ _ us hl => match us, hl with | [_, _], _ => rfl, .nil⟩
  try dsimp only [cx_K]
  intro b0 Z bs d h hret
  obtain ⟨_, _, rfl, es, v, rfl, rfl, hlen, rfl⟩ := h
  refine gs_ret (ev_cb (ea_cons (ev_lcFL (fun d => decide (v ∈ [(edgeOf d).1, (edgeOf d).2.1])) (fun d => d) (by decide) (ev_var rfl ⟨_, rfl, by rw [List.length_map]; omega, ?_, ?_, ?_⟩))))
  · intro d m hd _
    obtain ⟨e, _, rfl⟩ := List.mem_map.mp hd
    walk_at "mpR"
    rw [cut_two]
    refine ro_inI (is := [e.1, e.2.1]) ?_
    walk_at "mpR"
    exact ⟨rfl, rfl⟩
  · intro d m hd _ _
    walk_at "mpR"
    exact ⟨rfl, rfl⟩
  · walk_at "mpR"
    rw [List.map_id', List.filter_map, List.length_map]
    exact hret.go fun _ _ h => h
end MP
/-! MQB -/
set_option exponentiation.threshold 10000
/-! a matrix: a list of lists that change -/
namespace MP
open PySem PySem.Spec PyProof.Rows L2

def tab (n : Nat) (g : Nat → Nat → D) : List (List D) := (List.range n).map fun x => (List.range n).map (g x)
def upd2 (g : Nat → Nat → D) (x y : Nat) (d : D) : Nat → Nat → D := fun i j => if i = x ∧ j = y then d else g i j
structure MatF (b0 : Ba) (m0 m : Ms) (p : Addr) (qs : List Addr) (n : Nat) (g : Nat → Nat → D) : Prop where
  len : qs.length = n
  nd : (p :: qs).Nodup
  hp : m p = some (.lst (qs.map B.ptr))
  row : ∀ i q, qs[i]? = some q → m q = some (.lst (((List.range n).map (g i)).map B.dat))
  out : ∀ x, x ∉ p :: qs → m x = m0 x
  fresh : ∀ x ∈ p :: qs, m0 x = none ∧ b0.mem x = none
section
variable {K : PySem.W.Frag} {b0 : Ba} {a : AS} {te ta tb tc : TE} {k : B → AS → Prop} {Z : Ends} {t : TS} {m0 m : Ms} {p : Addr} {qs : List Addr} {n : Nat} {g : Nat → Nat → D}
theorem nodup_inj {α : Type} {l : List α} (h : l.Nodup) {i j : Nat} {hi : i < l.length} {hj : j < l.length} (e : l[i] = l[j]) : i = j := by
  rcases Nat.lt_trichotomy i j with h1 | h1 | h1
  · exact absurd e (List.pairwise_iff_getElem.mp h i j hi hj h1)
  · exact h1
  · exact absurd e.symm (List.pairwise_iff_getElem.mp h j i hj hi h1)
theorem MatF.at (h : MatF b0 m0 m p qs n g) {i : Nat} (hi : i < n) : ∃ q, qs[i]? = some q ∧ q ∈ qs ∧ q ≠ p ∧ m q = some (.lst (((List.range n).map (g i)).map B.dat)) := by
  have hi' : i < qs.length := by rw [h.len]; exact hi
  refine ⟨qs[i], List.getElem?_eq_getElem hi', List.getElem_mem hi', fun e => ?_, h.row i _ (List.getElem?_eq_getElem hi')⟩
  exact (List.nodup_cons.mp h.nd).1 (e ▸ List.getElem_mem hi')
theorem MatF.mat {m : Ms} (h : MatF b0 m0 m p qs n g) : Mat b0 m qs (tab n g) := by
  have key : ∀ (l : List Addr) (s : Nat), (∀ i q, l[i]? = some q → b0.mem q = none ∧ m q = some (.lst (((List.range n).map (g (s + i))).map B.dat))) → Mat b0 m l ((List.range' s l.length).map fun x => (List.range n).map (g x)) := by
    intro l
    induction l with
    | nil => intro s _; exact .nil
    | cons q l ih =>
      intro s hl
      rw [List.length_cons, List.range'_succ, List.map_cons]
      refine .cons (by simpa using hl 0 q rfl) (ih (s + 1) fun i q' hq => ?_)
      have := hl (i + 1) q' (by simpa using hq)
      rw [show s + 1 + i = s + (i + 1) by omega]
      exact this
  have := key qs 0 fun i q hq => ⟨(h.fresh q (List.mem_cons_of_mem _ (List.mem_of_getElem? hq))).2, by rw [Nat.zero_add]; exact h.row i q hq⟩
  rw [h.len, ← List.range_eq_range'] at this
  exact this
theorem range_set {α : Type} (n : Nat) (f : Nat → α) (y : Nat) (d : α) : ((List.range n).map f).set y d = (List.range n).map fun j => if j = y then d else f j := by
  apply List.ext_getElem?
  intro i
  rw [List.getElem?_map]
  by_cases hi : i < n
  · rw [List.getElem?_range hi]
    by_cases hy : y = i
    · subst hy
      rw [List.getElem?_set_self (by simpa using hi)]
      simp
    · rw [List.getElem?_set_ne hy, List.getElem?_map, List.getElem?_range hi]
      simp [show ¬ i = y from fun e => hy e.symm]
  · rw [List.getElem?_eq_none (by simpa using hi), List.getElem?_eq_none (by simpa using hi)]
    rfl
/-- a cell is stored -/
theorem MatF.put (h : MatF b0 m0 m p qs n g) {x y : Nat} {q : Addr} (hq : qs[x]? = some q) (d : D) : MatF b0 m0 (mput m q (.lst ((((List.range n).map (g x)).map B.dat).set y (.dat d)))) p qs n (upd2 g x y d) := by
  have hm := List.mem_of_getElem? hq
  have hn := List.nodup_cons.mp h.nd
  have hqp : p ≠ q := fun e => hn.1 (e ▸ hm)
  refine ⟨h.len, h.nd, by rw [mput_ne hqp]; exact h.hp, fun i q' hq' => ?_, fun z hz => ?_, h.fresh⟩
  · by_cases e : i = x
    · subst e
      rw [hq] at hq'
      cases hq'
      rw [mput_same, List.map_map, range_set, List.map_map]
      refine congrArg (fun l => some (C.lst l)) (List.map_congr_left fun j _ => ?_)
      show (if j = y then B.dat d else B.dat (g i j)) = B.dat (upd2 g i y d i j)
      unfold upd2
      by_cases e : j = y
      · rw [if_pos e, if_pos ⟨rfl, e⟩]
      · rw [if_neg e, if_neg (fun h => e h.2)]
    · have hne : q' ≠ q := fun e2 => by
        subst e2
        obtain ⟨h1, e1⟩ := List.getElem?_eq_some_iff.mp hq
        obtain ⟨h2, e2⟩ := List.getElem?_eq_some_iff.mp hq'
        exact e (nodup_inj hn.2 (e2.trans e1.symm))
      rw [mput_ne hne, h.row i q' hq']
      refine congrArg (fun l => some (C.lst (l.map B.dat))) (List.map_congr_left fun j _ => ?_)
      show g i j = upd2 g x y d i j
      unfold upd2
      rw [if_neg (fun h => e h.1)]
  · have e3 : z ≠ q := fun e => hz (by rw [e]; exact List.mem_cons_of_mem _ hm)
    rw [mput_ne e3]
    exact h.out z hz
/-- something else is stored -/
theorem MatF.other (h : MatF b0 m0 m p qs n g) {w : Addr} {c : C} (hw : w ∉ p :: qs) : MatF b0 (mput m0 w c) (mput m w c) p qs n g := by
  have ne : ∀ x ∈ p :: qs, x ≠ w := fun x hx e => hw (e ▸ hx)
  refine ⟨h.len, h.nd, by rw [mput_ne (ne p (List.mem_cons_self ..))]; exact h.hp, fun i q hq => ?_, fun x hx => ?_, fun x hx => ?_⟩
  · rw [mput_ne (ne q (List.mem_cons_of_mem _ (List.mem_of_getElem? hq)))]
    exact h.row i q hq
  · by_cases e : x = w
    · subst e; rw [mput_same, mput_same]
    · rw [mput_ne e, mput_ne e]; exact h.out x hx
  · rw [mput_ne (ne x hx)]
    exact h.fresh x hx
theorem MatF.notin (h : MatF b0 m0 m p qs n g) {w : Addr} (hw : m w = none ∨ (∃ c, m0 w = some c)) : w ∉ p :: qs := fun e => by
  rcases hw with hw | ⟨c, hw⟩
  · rcases List.mem_cons.mp e with e | e
    · rw [e, h.hp] at hw; cases hw
    · obtain ⟨i, hi⟩ := List.getElem?_of_mem e
      rw [h.row i _ hi] at hw
      cases hw
  · rw [(h.fresh w e).1] at hw
    cases hw
/-- rows[x] -/
theorem ro_mrow {b1 : Ba} (h : MatF b1 m0 m p qs n g) {x : Nat} (hx : x < n) (hk : ∀ q, qs[x]? = some q → m q = some (.lst (((List.range n).map (g x)).map B.dat)) → k (.ptr q) a) (e : a.mem = m := by rfl) : RO K b0 (rIx K) (.ptr p) (.dat (.int (x : Int))) a k := by
  subst e
  obtain ⟨q, hq, _, _, hm⟩ := h.at hx
  exact ro_ixP h.hp (atI_nat (by rw [List.getElem?_map, hq]; rfl)) (hk q hq hm)
/-- row[y] -/
theorem ro_mcell {q : Addr} {f : Nat → D} (hm : m q = some (.lst (((List.range n).map f).map B.dat))) {y : Nat} (hy : y < n) (hk : k (.dat (f y)) a) (e : a.mem = m := by rfl) : RO K b0 (rIx K) (.ptr q) (.dat (.int (y : Int))) a k := by
  subst e
  exact ro_ixP hm (atI_nat (by rw [List.getElem?_map, List.getElem?_map, List.getElem?_range hy]; rfl)) hk
/-- rows[x][y] = v -/
theorem gg_mset {b1 : Ba} {b : D} {kg : AS → Prop} {i j c : Nat} {x y : Nat} (hc : a.env[c]? = some (some (.ptr p))) (hi : a.env[i]? = some (some (.dat (.int (x : Int))))) (hj : a.env[j]? = some (some (.dat (.int (y : Int))))) (h : MatF b1 m0 m p qs n g) (hx : x < n) (hy : y < n)
    (hk : ∀ m', MatF b1 m0 m' p qs n (upd2 g x y b) → kg (a.at m')) (e : a.mem = m := by rfl) : GG K b0 (gSub (tOp (rIx K) (tVar c) (tVar i)) (tVar j) rSetL) (.dat b) a kg := by
  subst e
  refine gg_sub (ev_op (ev_var hc (ev_var hi (ro_mrow h hx fun q hq hm => ev_var hj ⟨q, _, _, y, rfl, rfl, hm, ?_, hk _ (h.put hq b)⟩))))
  rw [List.length_map, List.length_map, List.length_range]
  exact ixN_nat hy
/-! ### making one -/
/-- a new list by a comprehension that only reads -/
theorem ev_lcP1 {tas : TA} {j : Nat} {vs : List Nat} (f : Nat → D) (hj : j ∈ vs) (h : EA K b0 tas a fun bs a1 => ∃ n : Nat, bs = [.dat (.int (n : Int))] ∧ n ≤ 50000 ∧
    (∀ i m, i < n → MemLe a1.mem m → EV K b0 te ⟨(wipeA a1.env vs).set j (some (.dat (.int (i : Int)))), m⟩ fun y a4 => y = .dat (f i) ∧ a4.mem = m) ∧ ∀ p, a1.mem p = none → b0.mem p = none → k (.ptr p) (a1.at (mput a1.mem p (.lst (((List.range n).map f).map B.dat))))) : EV K b0 (tLc (iRng1 tas) (gName j) tYes te vs) a k := by
  refine ev_lcN1 ⟨hj, fun σ H Q R q => h σ H Q R fun us H1 bs a1 ⟨n, e, hn, hs, hk⟩ R1 e1 r1 => q us H1 bs a1 ⟨n, e, by omega, ?_⟩ R1 e1 r1⟩
  refine ⟨fun p i acc m => a1.mem p = none ∧ m = mput a1.mem p (.lst acc) ∧ acc = ((List.range i).map f).map B.dat, fun p h1 _ => ⟨h1, rfl, rfl⟩, ?_, ?_⟩
  · rintro p i acc m hi hb ⟨hp, rfl, rfl⟩ hm
    refine et_yes ⟨fun _ => ?_, fun h => (by cases h)⟩
    refine EV.mono (hs i _ hi fun q x hq => by rw [mput_ne (fun e => by rw [e, hp] at hq; cases hq)]; exact hq) ?_
    rintro y a4 ⟨rfl, e4⟩
    refine ⟨by rw [List.length_map, List.length_map, List.length_range]; omega, by rw [e4, mput_same], hp, by rw [e4, mput_mput], ?_⟩
    rw [List.range_succ, List.map_append, List.map_append]
    rfl
  · rintro p acc m h1 h2 ⟨_, rfl, rfl⟩ hm
    exact hk p h1 h2
/-- a list of new lists -/
theorem turns_mat {vs : List Nat} {j : Nat} {item : Nat → B} {a1 : AS} (hn : n ≤ 50000)
    (hs : ∀ i m, i < n → MemLe a1.mem m → EV K b0 te ⟨(wipeA a1.env vs).set j (some (item i)), m⟩ fun y a4 => ∃ q, y = .ptr q ∧ m q = none ∧ b0.mem q = none ∧ a4.mem = mput m q (.lst (((List.range n).map (g i)).map B.dat)))
    (hk : ∀ p qs m, MatF b0 a1.mem m p qs n g → k (.ptr p) (a1.at m)) : Turns K b0 tYes te vs j n item a1 k := by
  refine ⟨fun p i acc m => ∃ qs : List Addr, acc = qs.map B.ptr ∧ qs.length = i ∧ (p :: qs).Nodup ∧ m p = some (.lst (qs.map B.ptr)) ∧ (∀ i q, qs[i]? = some q → m q = some (.lst (((List.range n).map (g i)).map B.dat))) ∧ (∀ x, x ∉ p :: qs → m x = a1.mem x) ∧ ∀ x ∈ p :: qs, a1.mem x = none ∧ b0.mem x = none, ?_, ?_, ?_⟩
  · intro p h1 h2
    refine ⟨[], rfl, rfl, by simp, mput_same, fun i q h => by simp at h, fun x hx => mput_ne (by simpa using hx), fun x hx => ?_⟩
    have : x = p := by simpa using hx
    subst this
    exact ⟨h1, h2⟩
  · rintro p i acc m hi hb ⟨qs, rfl, hl, hnd, hp, hrow, hout, hfr⟩ hm
    refine et_yes ⟨fun _ => ?_, fun h => (by cases h)⟩
    have hle : MemLe a1.mem m := fun x c hx => by
      rw [hout x (fun e => by rw [(hfr x e).1] at hx; cases hx)]
      exact hx
    refine EV.mono (hs i m hi hle) ?_
    rintro y a4 ⟨q, rfl, hq, hq0, e4⟩
    have hqn : q ∉ p :: qs := fun e => by
      rcases List.mem_cons.mp e with e | e
      · rw [e, hp] at hq; cases hq
      · obtain ⟨i', hi'⟩ := List.getElem?_of_mem e
        rw [hrow i' _ hi'] at hq; cases hq
    have hqp : p ≠ q := fun e => hqn (e ▸ List.mem_cons_self ..)
    have hq1 : a1.mem q = none := by rw [← hout q hqn]; exact hq
    refine ⟨by rw [List.length_map, hl]; omega, by rw [e4, mput_ne hqp]; exact hp, qs ++ [q], by simp, by simp [hl], ?_, by rw [mput_same]; simp, fun i' q' h' => ?_, fun x hx => ?_, fun x hx => ?_⟩
    · rw [← List.cons_append, List.nodup_append]
      exact ⟨hnd, by simp, fun a ha b hb e => hqn (by
        have : b = q := by simpa using hb
        rw [← this, ← e]; exact ha)⟩
    · have hq'n : q' ≠ p := fun e => by
        have hm' := List.mem_of_getElem? h'
        rw [e] at hm'
        rcases List.mem_append.mp hm' with hm' | hm'
        · exact (List.nodup_cons.mp hnd).1 hm'
        · exact hqp (by simpa using hm')
      rw [mput_ne hq'n, e4]
      by_cases hi' : i' < qs.length
      · rw [List.getElem?_append_left hi'] at h'
        have e3 : q' ≠ q := fun e => hqn (List.mem_cons_of_mem _ (by rw [← e]; exact List.mem_of_getElem? h'))
        rw [mput_ne e3]
        exact hrow i' q' h'
      · rw [List.getElem?_append_right (by omega)] at h'
        have hz : i' - qs.length = 0 := by
          have := (List.getElem?_eq_some_iff.mp h').1
          simp at this
          omega
        rw [hz] at h'
        have : q = q' := by simpa using h'
        subst this
        rw [mput_same, show i' = i by omega]
    · have h1 : x ≠ p := fun e => hx (by rw [e]; exact List.mem_cons_self ..)
      have h2 : x ≠ q := fun e => hx (by rw [e]; simp)
      rw [mput_ne h1, e4, mput_ne h2]
      exact hout x fun e => hx (by
        rcases List.mem_cons.mp e with e | e
        · rw [e]; exact List.mem_cons_self ..
        · exact List.mem_cons_of_mem _ (List.mem_append_left _ e))
    · rcases List.mem_cons.mp hx with e | e
      · rw [e]; exact hfr p (List.mem_cons_self ..)
      · rcases List.mem_append.mp e with e | e
        · exact hfr x (List.mem_cons_of_mem _ e)
        · have : x = q := by simpa using e
          subst this
          exact ⟨hq1, hq0⟩
  · rintro p acc m h1 h2 ⟨qs, rfl, hl, hnd, hp, hrow, hout, hfr⟩ hm
    exact hk p qs m ⟨hl, hnd, hp, hrow, hout, hfr⟩
end
end MP
/-! MQC -/
set_option exponentiation.threshold 10000
/-! distances -/
namespace MP
open PySem PySem.Spec PyProof.Rows L2

abbrev BE : Nat := BM * 10
def oD : Option Rat → D
  | none => .non
  | some q => .rat q
theorem ro_isO {K : PySem.W.Frag} {b0 : Ba} {a : AS} {k : B → AS → Prop} {o : Option Rat} (hk : k (.dat (.bl o.isNone)) a) : RO K b0 (fun x y H Q => y = .non ∧ Q (.bl (decide (x = .non))) H) (.dat (oD o)) (.dat .non) a k := by
  refine ro_isN fun F u hu => ?_
  cases o with
  | none =>
    cases (show u = .non from hu)
    exact hk
  | some q =>
    obtain ⟨p, dx, rfl, _⟩ := hu
    exact hk
/-! ### the search, plain -/
def wsB (ws : List Nat) : List B := ws.map fun (y : Nat) => B.dat (.int (y : Int))
def prs (es : List Edge) : List (Nat × Nat) := es.flatMap fun e => [(e.1.toNat, e.2.1.toNat), (e.2.1.toNat, e.1.toNat)]

def Adj (es : List Edge) (u v : Nat) : Prop := ∃ e ∈ es, (e.1 = (u : Int) ∧ e.2.1 = (v : Int)) ∨ (e.1 = (v : Int) ∧ e.2.1 = (u : Int))
def unv (R : Nat → Option Rat) (N : Nat) : Nat := ((List.range N).filter fun y => (R y).isNone).length
def setR (R : Nat → Option Rat) (y : Nat) (q : Rat) : Nat → Option Rat := fun z => if z = y then some q else R z
theorem adj_prs {es : List Edge} {u v : Nat} (h : Adj es u v) : (u, v) ∈ prs es := by
  obtain ⟨e, he, h | h⟩ := h
  · exact List.mem_flatMap.mpr ⟨e, he, by rw [h.1, h.2]; simp⟩
  · exact List.mem_flatMap.mpr ⟨e, he, by rw [h.1, h.2]; simp⟩
theorem prs_adj {es : List Edge} {N : Nat} (hin : EsIn N es) {u v : Nat} (h : (u, v) ∈ prs es) : Adj es u v := by
  obtain ⟨e, he, h⟩ := List.mem_flatMap.mp h
  have := hin e he
  refine ⟨e, he, ?_⟩
  simp only [List.mem_cons, Prod.mk.injEq, List.not_mem_nil, or_false] at h
  rcases h with h | h
  · left; omega
  · right; omega
theorem prs_take {es : List Edge} {j : Nat} {e : Edge} (h : es[j]? = some e) : prs (es.take (j + 1)) = prs (es.take j) ++ [(e.1.toNat, e.2.1.toNat), (e.2.1.toNat, e.1.toNat)] := by
  unfold prs
  rw [List.take_succ, h, List.flatMap_append]
  simp
theorem unv_le (R : Nat → Option Rat) (N : Nat) : unv R N ≤ N := by
  have := List.length_filter_le (fun y => (R y).isNone) (List.range N)
  rw [List.length_range] at this
  exact this
theorem unv_set {R : Nat → Option Rat} {N y : Nat} {q : Rat} (hy : y < N) (h : R y = none) : unv (setR R y q) N + 1 = unv R N := by
  unfold unv
  induction N with
  | zero => omega
  | succ N ih =>
    rw [List.range_succ, List.filter_append, List.filter_append, List.length_append, List.length_append]
    by_cases e : y = N
    · subst e
      have h1 : ((List.range y).filter fun z => (setR R y q z).isNone) = (List.range y).filter fun z => (R z).isNone := by
        refine List.filter_congr fun z hz => ?_
        have : z ≠ y := by have := List.mem_range.mp hz; omega
        simp [setR, this]
      rw [h1]
      simp [setR, h]
    · have := ih (by omega)
      have h1 : (setR R y q N).isNone = (R N).isNone := by simp [setR, show ¬ N = y from fun h => e h.symm]
      simp only [List.filter_cons, List.filter_nil, h1]
      omega
structure Dv (N : Nat) (es : List Edge) (x : Nat) (R : Nat → Option Rat) (ws : List Nat) : Prop where
  vis0 : (R x).isSome
  st : ∀ y ∈ ws, y < N ∧ (R y).isSome
  bd : ∀ y q, y < N → R y = some q → Bd 12 (BE * (N - unv R N)) q
theorem Dv.set {N : Nat} {es : List Edge} {x : Nat} {R : Nat → Option Rat} {ws : List Nat} (h : Dv N es x R ws) {at' y : Nat} {q l : Rat} (ha : at' < N) (hq : R at' = some q) (hl : Bd 12 BE l) (hy : y < N) (hn : R y = none) : Dv N es x (setR R y (q + l)) (ws ++ [y]) := by
  have hu := unv_set (q := q + l) hy hn
  have hle := unv_le R N
  have mono : ∀ z, (R z).isSome → (setR R y (q + l) z).isSome := fun z hz => by
    unfold setR
    split
    · rfl
    · exact hz
  refine ⟨mono _ h.vis0, fun z hz => ?_, fun z r hz hr => ?_⟩
  · rcases List.mem_append.mp hz with hz | hz
    · exact ⟨(h.st z hz).1, mono _ (h.st z hz).2⟩
    · have : z = y := by simpa using hz
      subst this
      exact ⟨hy, by simp [setR]⟩
  · have e : N - unv (setR R y (q + l)) N = (N - unv R N) + 1 := by omega
    rw [e, Nat.mul_add, Nat.mul_one]
    unfold setR at hr
    split at hr
    · cases hr
      exact (h.bd at' q ha hq).add hl
    · exact (h.bd z r hz hr).mono (by omega)
theorem setR_some {R : Nat → Option Rat} {y z : Nat} {q : Rat} (h : (R z).isSome) : (setR R y q z).isSome := by
  unfold setR
  split
  · rfl
  · exact h
theorem setR_self {R : Nat → Option Rat} {y : Nat} {q : Rat} : (setR R y q y).isSome := by simp [setR]
/-- all vertices hang together -/
def esB6 (es : List Edge) : Prop := ∀ e ∈ es, Bd 12 BE e.2.2
def Conn (N : Nat) (es : List Edge) : Prop := ∀ (S : Nat → Prop) (x : Nat), x < N → S x → (∀ u v, Adj es u v → S u → S v) → ∀ y, y < N → S y
def pDist : (Nat × List Edge) → B → B → Prop := fun i x y => x = .dat (.int (i.1 : Int)) ∧ y = .dat (.lst (i.2.map edgeD)) ∧ i.1 ≤ 100 ∧ i.2.length ≤ 100 ∧ EsIn i.1 i.2 ∧ esB6 i.2 ∧ Conn i.1 i.2
def zDist : (Nat × List Edge) → D → Prop := fun i d => ∃ g : Nat → Nat → Rat, d = .lst ((List.range i.1).map fun x => .lst ((List.range i.1).map fun y => .rat (g x y)))
theorem sc_distances : FnScope ["size", "edges", "rows", "x", "waiting", "at", "u", "v", "length", "one", "two", "_"] ["size", "edges"] (defScope s_distances) := ⟨rfl, rfl, rfl, by decide +kernel, rfl, by decide +kernel, by decide +kernel⟩
theorem c_distances {P : Program} {w : World} {K : PySem.W.Frag} {mg : Str → Option Value} {base : Heap} (M : FX K mg) : C8.Cal P w K mg base 5 "distances" (spP K (p2 pDist) (zDist)) [] := by
  obtain ⟨fd, F⟩ := M.said.def_ 28
  refine ⟨_, fd, ["size", "edges"], [], (def_pn (j := 4) F sc_distances p2_len fun cdv A outer s H E hr => ⟨_, (pss_cons (ps_setLc (i := 2) (own := [("_", 11)]) (g := gName 11) (by rfl) sc_distances.nd rfl rfl (sw_true rfl rfl rfl (by decide +kernel)) (pi_range1 rfl (M.free 62) (pa_cons (pv 0) pa_nil)) (by dsimp only [Cx.blk, Cx.nox, Cx.wish, cxOf, blk_sc, env_sc]; exact blkOk_by (by decide +kernel)) (fun _ _ _ _ _ => pg_name (i := 11) sc_distances.nd rfl (by first | exact Or.inl rfl | exact Or.inr rfl)) (fun _ _ _ _ _ => pts_nil) (fun _ _ _ _ _ => (pe_lc (own := [("_", 11)]) (g := gName 11) (by rfl) sc_distances.nd (pi_range1 rfl (M.free 62) (pa_cons (pv 0) pa_nil)) (by dsimp only [Cx.blk, Cx.nox, Cx.wish, cxOf, blk_sc, env_sc]; exact blkOk_by (by decide +kernel)) (fun _ _ _ _ _ => pg_name (i := 11) sc_distances.nd rfl (by first | exact Or.inl rfl | exact Or.inr rfl)) (fun _ _ _ _ _ => pts_nil) (fun _ _ _ _ _ => pe_non))))
      (pss_cons (ps_for PassesOwn.never rfl (pi_range1 rfl (M.free 62) (pa_cons (pv 0) pa_nil)) (pg_name (i := 3) sc_distances.nd rfl (by first | exact Or.inl rfl | exact Or.inr rfl))
        (pss_cons (ps_asg (C8.pe_mk (mk_Ratio1 M) hr (by decide) (by rfl) (pa_cons pe_int pa_nil)) (pg_sub (pe_ix (ix_seqK (K := K)) (pv 2) (pv 3) (fun _ _ => rfl)) (pv 3) set_list))
          (pss_cons (ps_set (i := 4) sc_distances.nd rfl (by first | exact Or.inl rfl | exact Or.inr rfl) (pe_lst (pa_cons (pv 3) pa_nil)))
            (pss_one (ps_while PassesOwn.never (pt_cmpR op_gt (pe_callB (call_len_anyK (K := K)) (by rfl) (M.free 61) PySem.boot_len (pa_cons (pv 4) pa_nil)) pe_int (nomark _))
              (pss_cons (ps_set (i := 5) sc_distances.nd rfl (by first | exact Or.inl rfl | exact Or.inr rfl) (pe_bm0 PySem.F.plainAttrs_list PySem.F.slot_list_pop PySem.F.type_list_pop mt_pop (pv 4)))
                (pss_one (ps_for PassesOwn.never rfl (pi_listK (K := K) (pv 1)) (pg_tup (n := 3) rfl (pgs_cons (pg_name (i := 6) sc_distances.nd rfl (by first | exact Or.inl rfl | exact Or.inr rfl)) (pgs_cons (pg_name (i := 7) sc_distances.nd rfl (by first | exact Or.inl rfl | exact Or.inr rfl)) (pgs_cons (pg_name (i := 8) sc_distances.nd rfl (by first | exact Or.inl rfl | exact Or.inr rfl)) pgs_nil))))
                  (pss_one (ps_for PassesOwn.never rfl (pi_tupK (K := K) (pe_tup (pa_cons (pe_tup (pa_cons (pv 6) (pa_cons (pv 7) pa_nil))) (pa_cons (pe_tup (pa_cons (pv 7) (pa_cons (pv 6) pa_nil))) pa_nil)))) (pg_tup (n := 2) rfl (pgs_cons (pg_name (i := 9) sc_distances.nd rfl (by first | exact Or.inl rfl | exact Or.inr rfl)) (pgs_cons (pg_name (i := 10) sc_distances.nd rfl (by first | exact Or.inl rfl | exact Or.inr rfl)) pgs_nil)))
                    (pss_one (ps_if (PW.pt (pw_and (pt_cmpR (op_eqAny M (ops M) hr) (pv 9) (pv 5) (nomark _)) (pw_and1 (pt_cmpR op_isN (pe_ix (ix_seqK (K := K)) (pe_ix (ix_seqK (K := K)) (pv 2) (pv 3) (fun _ _ => rfl)) (pv 10) (fun _ _ => rfl)) pe_non (nomark _)))))
                      (pss_cons (ps_asg (pe_op (op_addAny M (ops M) hr) (pe_ix (ix_seqK (K := K)) (pe_ix (ix_seqK (K := K)) (pv 2) (pv 3) (fun _ _ => rfl)) (pv 5) (fun _ _ => rfl)) (pv 8)) (pg_sub (pe_ix (ix_seqK (K := K)) (pv 2) (pv 3) (fun _ _ => rfl)) (pv 10) set_list))
                        (pss_one (ps_expr (pe_bm PySem.F.plainAttrs_list PySem.F.slot_list_append PySem.F.type_list_append mt_append (pv 4) (pa_cons (pv 10) pa_nil)))))
                      pss_nil))))))))))))
        (pss_one (ps_ret (pv 2))))), ?_⟩), M.glo 19, F.kp, F.bindsN fun _ _ _ _ _ _ us hl => match us, hl with | [_, _], _ => rfl, .nil⟩
  try dsimp only [cx_K]
  intro b0 Z ix bs h hret
  obtain ⟨N, es⟩ := ix
  obtain ⟨_, _, rfl, rfl, rfl, hN, hes, hin, hb, hconn⟩ := h
  simp only at hN hes hin hb hconn
  refine gs_seq (gs_set ?_)
  refine ev_lcN1 ⟨by decide, ?_⟩
  walk_at "mpR"
  refine ⟨(by show N ≤ _; omega), turns_mat (g := fun _ _ => D.non) (by show N ≤ _; omega) (fun i m hi _ => ?_) (fun p qs m hM0 => ?_)⟩
  · refine ev_lcP1 (fun _ => .non) (by decide) ?_
    walk_at "mpR"
    refine ⟨by omega, fun i m hi _ => ?_, fun q h1 h2 => ⟨q, rfl, h1, h2, rfl⟩⟩
    walk_at "mpR"
    exact ⟨rfl, rfl⟩
  have hpq := hM0.fresh p (List.mem_cons_self ..)
  let gx : (Nat → Nat → Option Rat) → Nat → (Nat → Option Rat) → Nat → Nat → D := fun G x R i j => oD (if i = x then R j else G i j)
  have gput : ∀ G x R y q, upd2 (gx G x R) x y (.rat q) = gx G x (setR R y q) := by
    intro G x R y q
    funext i j
    show (if i = x ∧ j = y then D.rat q else oD (if i = x then R j else G i j)) = oD (if i = x then setR R y q j else G i j)
    by_cases h1 : i = x
    · by_cases h2 : j = y
      · simp [h1, h2, setR, oD]
      · simp [h1, h2, setR]
    · simp [h1]
  refine nx_go ?_
  walk_at "mpR"
  refine ⟨by omega, fun x a => ∃ (G : Nat → Nat → Option Rat) (m0 : Ms) (w3 w4 w5 w6 w7 w8 w9 w10 : Option B), (∀ i j, i < x → j < N → (G i j).isSome) ∧ (∀ i j, x ≤ i → G i j = none) ∧
    a.env = [some (.dat (.int (N : Int))), some (.dat (.lst (es.map edgeD))), some (.ptr p), w3, w4, w5, w6, w7, w8, w9, w10, none] ∧ MatF b0 m0 a.mem p qs N (fun i j => oD (G i j)) ∧ MemLe b0.mem m0,
    ⟨fun _ _ => none, b0.mem, none, none, none, none, none, none, none, none, fun i j h => by omega, fun _ _ _ => rfl, rfl, hM0, fun _ _ h => h⟩, ?_, ?_⟩
  · rintro x ⟨env, mem⟩ hx ⟨G, m0, w3, w4, w5, w6, w7, w8, w9, w10, hG1, hG2, henv, hM, hle⟩
    cases (show env = _ from henv)
    have hM : MatF b0 m0 mem p qs N (fun i j => oD (G i j)) := hM
    walk_at "mp1"
    refine ev_mkR1 ?_
    walk_at "mpR"
    refine gg_mset rfl rfl rfl hM hx hx fun m1 hM1 => ?_
    have e1 : upd2 (fun i j => oD (G i j)) x x (.rat (0 : Int)) = gx G x (setR (fun _ => none) x 0) := by
      funext i j
      show (if i = x ∧ j = x then D.rat (0 : Int) else oD (G i j)) = oD (if i = x then setR (fun _ => none) x 0 j else G i j)
      by_cases h1 : i = x
      · subst h1
        by_cases h2 : j = i
        · simp [h2, setR, oD]
        · simp [h2, setR, oD, hG2 i j (Nat.le_refl _)]
      · simp [h1]
    rw [e1] at hM1
    refine nx_go (gs_seq (gs_set (ev_lstM ?_)))
    walk_at "mpR"
    refine ⟨by simp, fun w hw1 hw2 => ?_⟩
    have hwn : w ∉ p :: qs := hM1.notin (.inl hw1)
    have hM2 := hM1.other (w := w) (c := .lst [.dat (.int (x : Int))]) hwn
    let WI : Nat → AS → Prop := fun μ a => ∃ (R : Nat → Option Rat) (ws : List Nat) (m0 : Ms) (w5 w6 w7 w8 w9 w10 : Option B), (μ = 2 * unv R N + ws.length ∧ μ ≤ 300) ∧ Dv N es x R ws ∧ (∀ u v, Adj es u v → (R u).isSome → u ∉ ws → (R v).isSome) ∧
      a.env = [some (.dat (.int (N : Int))), some (.dat (.lst (es.map edgeD))), some (.ptr p), some (.dat (.int (x : Int))), some (.ptr w), w5, w6, w7, w8, w9, w10, none] ∧
      MatF b0 m0 a.mem p qs N (gx G x R) ∧ MemLe b0.mem m0 ∧ m0 w = some (.lst (wsB ws))
    refine nx_go (gs_while WI (2 * unv (setR (fun _ => none) x 0) N + 1) ?_ ?_)
    · refine ⟨setR (fun _ => none) x 0, [x], mput m0 w (.lst [.dat (.int (x : Int))]), w5, w6, w7, w8, w9, w10, ⟨rfl, by have := unv_le (setR (fun _ => none) x 0) N; omega⟩, ⟨setR_self, fun y hy => ?_, fun y q hy hq => ?_⟩, fun u v _ hu hun => ?_, rfl, hM2, fun z c hz => ?_, mput_same⟩
      · have : y = x := by simpa using hy
        subst this
        exact ⟨hx, setR_self⟩
      · unfold setR at hq
        split at hq
        · cases hq
          exact ⟨0, by rw [Rat.zero_divInt], by simp⟩
        · cases hq
      · unfold setR at hu
        split at hu
        · rename_i e
          exact absurd (by simp [e]) hun
        · cases hu
      · rw [mput_ne (fun e => by rw [e, hw2] at hz; cases hz)]
        exact hle z c hz
    · rintro μ ⟨env, mem⟩ ⟨R, ws, m0, w5, w6, w7, w8, w9, w10, ⟨hμ, hμ3⟩, hD, hcl, henv, hM, hle, hw⟩
      cases (show env = _ from henv)
      have hM : MatF b0 m0 mem p qs N (gx G x R) := hM
      have hmw : mem w = some (.lst (wsB ws)) := by rw [hM.out w hwn]; exact hw
      walk_at "mpR"
      refine rc_lenL (.inl ⟨w, rfl, hmw⟩) ?_
      walk_at "mpR"
      rw [wsB, List.length_map]
      refine ⟨fun hc => ?_, fun hc => ?_⟩
      · have hpos : 0 < ws.length := by have := of_decide_eq_true hc; omega
        obtain ⟨ws', at', rfl⟩ : ∃ ws' at', ws = ws' ++ [at'] := ⟨ws.dropLast, ws.getLast (by intro h; rw [h] at hpos; simp at hpos), (List.dropLast_concat_getLast _).symm⟩
        have hat := hD.st at' (by simp)
        refine gs_seq (gs_set (ev_pop ?_))
        walk_at "mpR"
        refine ⟨w, wsB ws', .dat (.int (at' : Int)), rfl, by show mem w = _; rw [hmw, wsB, List.map_append]; rfl, ?_⟩
        have hM1 := hM.other (w := w) (c := .lst (wsB ws')) hwn
        -- the state within the two loops over edges
        let EI : Option B → List (Nat × Nat) → AS → Prop := fun w8 ps a => ∃ (R : Nat → Option Rat) (ws : List Nat) (m0 : Ms) (w6 w7 w9 w10 : Option B), 2 * unv R N + ws.length < μ ∧ Dv N es x R ws ∧ (R at').isSome ∧ (∀ u v, Adj es u v → (R u).isSome → u ∉ ws → u ≠ at' → (R v).isSome) ∧ (∀ pr ∈ ps, pr.1 = at' → (R pr.2).isSome) ∧
          a.env = [some (.dat (.int (N : Int))), some (.dat (.lst (es.map edgeD))), some (.ptr p), some (.dat (.int (x : Int))), some (.ptr w), some (.dat (.int (at' : Int))), w6, w7, w8, w9, w10, none] ∧
          MatF b0 m0 a.mem p qs N (gx G x R) ∧ MemLe b0.mem m0 ∧ m0 w = some (.lst (wsB ws))
        walk_at "mpR"
        refine ⟨fun j a => ∃ w8, EI w8 (prs (es.take j)) a, ⟨w8, R, ws', mput m0 w (.lst (wsB ws')), w6, w7, w9, w10, ?_, ⟨hD.vis0, fun y hy => hD.st y (List.mem_append_left _ hy), hD.bd⟩, hat.2, fun u v hu1 hu2 hu3 hu4 => hcl u v hu1 hu2 (fun hm => ?_), fun pr hpr => by simp [prs] at hpr, rfl, hM1, fun z c hz => ?_, mput_same⟩, ?_, ?_⟩
        · rw [hμ, List.length_append]
          simp
        · rcases List.mem_append.mp hm with hm | hm
          · exact hu3 hm
          · exact hu4 (by simpa using hm)
        · have : z ≠ w := fun e => by rw [e, hw2] at hz; cases hz
          rw [mput_ne this]
          exact hle z c hz
        · rintro v0 j d ⟨env, mem⟩ hd ⟨w8, R, ws, m0, w6, w7, w9, w10, hμ2, hD, hRat, hcl, hdone, henv, hM, hle, hw⟩
          cases (show env = _ from henv)
          have hM : MatF b0 m0 mem p qs N (gx G x R) := hM
          rw [List.getElem?_map] at hd
          obtain ⟨⟨u, v, l⟩, he, rfl⟩ := Option.map_eq_some_iff.mp hd
          have hin1 := hin _ (List.mem_of_getElem? he)
          have hbl : Bd 12 BE l := hb _ (List.mem_of_getElem? he)
          simp only at hin1
          obtain ⟨u, rfl⟩ := Int.eq_ofNat_of_zero_le hin1.1.1
          obtain ⟨v, rfl⟩ := Int.eq_ofNat_of_zero_le hin1.2.1
          have hu : u < N := by omega
          have hv : v < N := by omega
          walk_at "mpR"
          refine ⟨fun i a => EI (some (.dat (.rat l))) (prs (es.take j) ++ [(u, v), (v, u)].take i) a, ⟨R, ws, m0, some (.dat (.int (u : Int))), some (.dat (.int (v : Int))), w9, w10, hμ2, hD, hRat, hcl, by simpa using hdone, rfl, hM, hle, hw⟩, ?_, ?_⟩
          · rintro v1 i d ⟨env, mem⟩ hd ⟨R, ws, m0, w6, w7, w9, w10, hμ2, hD, hRat, hcl, hdone, henv, hM, hle, hw⟩
            cases (show env = _ from henv)
            have hM : MatF b0 m0 mem p qs N (gx G x R) := hM
            obtain ⟨one, two, h1, h2, rfl, hpr⟩ : ∃ one two : Nat, one < N ∧ two < N ∧ d = .tup [.int (one : Int), .int (two : Int)] ∧ [(u, v), (v, u)].take (i + 1) = [(u, v), (v, u)].take i ++ [(one, two)] := by
              match i, hd with
              | 0, hd => exact ⟨u, v, hu, hv, (Option.some.inj hd).symm, rfl⟩
              | 1, hd => exact ⟨v, u, hv, hu, (Option.some.inj hd).symm, rfl⟩
            have hps : prs (es.take j) ++ [(u, v), (v, u)].take (i + 1) = (prs (es.take j) ++ [(u, v), (v, u)].take i) ++ [(one, two)] := by rw [hpr, List.append_assoc]
            have skip : (one = at' → (R two).isSome) → ∀ pr ∈ (prs (es.take j) ++ [(u, v), (v, u)].take i) ++ [(one, two)], pr.1 = at' → (R pr.2).isSome := fun hs pr hpr h => by
              rcases List.mem_append.mp hpr with hpr | hpr
              · exact hdone pr hpr h
              · have : pr = (one, two) := by simpa using hpr
                subst this
                exact hs h
            walk_at "mpR"
            refine ⟨fun hc => ?_, fun hc => ?_⟩
            · have hone : one = at' := by have := of_decide_eq_true hc; omega
              walk_at "mpR"
              refine ro_mrow hM hx fun q hq hmq => ?_
              walk_at "mpR"
              refine ro_mcell hmq h2 ?_
              have ec : gx G x R x two = oD (R two) := by simp [gx]
              rw [ec]
              walk_at "mpR"
              refine ro_isO ?_
              walk_at "mpR"
              refine ⟨fun hc2 => ?_, fun hc2 => ?_⟩
              · have hn : R two = none := by simpa using hc2
                obtain ⟨q0, hq0⟩ := Option.isSome_iff_exists.mp hRat
                have ec2 : gx G x R x at' = .rat q0 := by simp [gx, hq0, oD]
                have wq : Wee q0 := (hD.bd at' q0 hat.1 hq0).wee6 (by
                  have h3 : N - unv R N ≤ 100 := by omega
                  exact Nat.le_trans (Nat.mul_le_mul_left BE h3) (by decide))
                have wl : Wee l := hbl.wee6 (by decide)
                walk_at "mpR"
                refine ro_mrow hM hx fun q hq hmq => ?_
                walk_at "mpR"
                refine ro_mcell hmq hat.1 ?_
                rw [ec2]
                walk_at "mpR"
                refine gg_mset rfl rfl rfl hM hx h2 fun m1 hM1 => ?_
                rw [gput] at hM1
                have hmw1 : m1 w = some (.lst (wsB ws)) := by rw [hM1.out w hwn]; exact hw
                refine nx_go (gs_app ?_)
                walk_at "mpR"
                refine ⟨w, wsB ws, rfl, hmw1, ?_⟩
                walk_at "mpR"
                have hwl : ws.length < 1000 := by omega
                refine ⟨wsB ws, hmw1, by rw [wsB, List.length_map]; omega, ?_⟩
                have hM2 := hM1.other (w := w) (c := .lst (wsB ws ++ [.dat (.int (two : Int))])) hwn
                have hu1 := unv_set (q := q0 + l) h2 hn
                have ewb : wsB ws ++ [.dat (.int (two : Int))] = wsB (ws ++ [two]) := by simp [wsB]
                rw [ewb] at hM2 ⊢
                refine nx_inv (show EI _ (prs (es.take j) ++ [(u, v), (v, u)].take (i + 1)) _ from ?_)
                rw [hps]
                refine ⟨setR R two (q0 + l), ws ++ [two], _, w6, w7, some (.dat (.int (one : Int))), some (.dat (.int (two : Int))), by rw [List.length_append]; simp; omega, hD.set hat.1 hq0 hbl h2 hn, setR_some hRat, fun u' v' a1 a2 a3 a4 => ?_, fun pr hpr h => ?_, rfl, hM2, fun z c hz => ?_, mput_same⟩
                · have a5 : u' ≠ two := fun e => a3 (by rw [e]; simp)
                  have a6 : (R u').isSome := by
                    unfold setR at a2
                    rw [if_neg a5] at a2
                    exact a2
                  exact setR_some (hcl u' v' a1 a6 (fun e => a3 (List.mem_append_left _ e)) a4)
                · rcases List.mem_append.mp hpr with hpr | hpr
                  · exact setR_some (hdone pr hpr h)
                  · have : pr = (one, two) := by simpa using hpr
                    subst this
                    exact setR_self
                · have : z ≠ w := fun e => by rw [e, hw2] at hz; cases hz
                  rw [mput_ne this]
                  exact hle z c hz
              · walk_at "mpR"
                refine nx_inv (show EI _ (prs (es.take j) ++ [(u, v), (v, u)].take (i + 1)) _ from ?_)
                rw [hps]
                exact ⟨R, ws, m0, w6, w7, some (.dat (.int (one : Int))), some (.dat (.int (two : Int))), hμ2, hD, hRat, hcl, skip (fun _ => by cases q : R two with | none => rw [q] at hc2; cases hc2 | some _ => rfl), rfl, hM, hle, hw⟩
            · have hone : ¬ one = at' := by have := of_decide_eq_false hc; omega
              refine ⟨fun h => (by cases h), fun _ => ?_⟩
              walk_at "mpR"
              refine nx_inv (show EI _ (prs (es.take j) ++ [(u, v), (v, u)].take (i + 1)) _ from ?_)
              rw [hps]
              exact ⟨R, ws, m0, w6, w7, some (.dat (.int (one : Int))), some (.dat (.int (two : Int))), hμ2, hD, hRat, hcl, skip (fun h => absurd h hone), rfl, hM, hle, hw⟩
          · rintro a h
            refine nx_mk (nx_inv ⟨some (.dat (.rat l)), ?_⟩)
            rw [prs_take he]
            exact h
        · rintro ⟨env, mem⟩ ⟨w8, R, ws, m0, w6, w7, w9, w10, hμ2, hD, hRat, hcl, hdone, henv, hM, hle, hw⟩
          cases (show env = _ from henv)
          rw [List.length_map, List.take_length] at hdone
          refine nx_mk (nx_inv ⟨2 * unv R N + ws.length, hμ2, R, ws, m0, _, w6, w7, w8, w9, w10, ⟨rfl, by omega⟩, hD, fun u v hu1 hu2 hu3 => ?_, rfl, hM, hle, hw⟩)
          by_cases e : u = at'
          · exact hdone (u, v) (adj_prs hu1) e
          · exact hcl u v hu1 hu2 hu3 e
      · have hws : ws = [] := by
          have := of_decide_eq_false hc
          exact List.eq_nil_of_length_eq_zero (by omega)
        subst hws
        have hall : ∀ y, y < N → (R y).isSome := hconn (fun y => (R y).isSome) x hx hD.vis0 fun u v huv hu => hcl u v huv hu (by simp)
        refine nx_mk (nx_inv ⟨fun i j => if i = x then R j else G i j, m0, _, _, w5, w6, w7, w8, w9, w10, fun i j hi hj => ?_, fun i j hi => ?_, rfl, hM, hle⟩)
        · show (if i = x then R j else G i j).isSome
          split
          · exact hall j hj
          · exact hG1 i j (by omega) hj
        · show (if i = x then R j else G i j) = none
          rw [if_neg (by omega)]
          exact hG2 i j (by omega)
  · rintro ⟨env, mem⟩ ⟨G, m0, w3, w4, w5, w6, w7, w8, w9, w10, hG1, hG2, henv, hM, hle⟩
    cases (show env = _ from henv)
    have hM : MatF b0 m0 mem p qs N (fun i j => oD (G i j)) := hM
    walk_at "mpR"
    refine rt_frzM hpq.2 hM.hp hM.mat ((hret _ ⟨fun i j => (G i j).getD 0, ?_⟩).go fun z c hz => ?_)
    · unfold tab
      rw [List.map_map]
      refine congrArg D.lst (List.map_congr_left fun i hi => ?_)
      refine congrArg D.lst (List.map_congr_left fun j hj => ?_)
      have := hG1 i j (List.mem_range.mp hi) (List.mem_range.mp hj)
      cases q : G i j with
      | none => rw [q] at this; cases this
      | some r => simp [oD, q]
    · have hz0 := hle z c hz
      have hzn : z ∉ p :: qs := fun e => by rw [(hM.fresh z e).1] at hz0; cases hz0
      show mdelL mem (p :: qs) z = some c
      rw [mdelL_not hzn, hM.out z hzn]
      exact hz0
end MP
/-! MQD -/
set_option exponentiation.threshold 10000
/-! Tree.__init__ -/
namespace MP
open PySem PySem.Spec PyProof.Rows L2

structure TreeOk (n : Nat) (es : List Edge) : Prop where
  lo1 : 1 ≤ n
  hi8 : n ≤ 8
  lo : n ≤ es.length + 1
  hi : es.length + 1 ≤ 2 * n
  rng : ∀ e ∈ es, 0 ≤ e.1 ∧ e.1 < e.2.1 ∧ e.2.1 < (es.length : Int) + 1
  pos : ∀ e ∈ es, 0 < e.2.2
  sort : es.Pairwise eLt
  conn : Conn (es.length + 1) es
  deg : ∀ x, n ≤ x → x < es.length + 1 → 3 ≤ degF es (x : Int)
  bd : esB6 es
def treeO (n : Nat) (es : List Edge) (r : D) : D := .obj "Tree" ["n", "size", "edges", "_rows"] [.int (n : Int), .int ((es.length + 1 : Nat) : Int), .tup (es.map edgeD), r]
abbrev TI3 := Addr × Nat × List Edge
def pTree : TI3 → B → B → B → Ms → Prop := fun i x y z m => x = .ptr i.1 ∧ y = .dat (.int (i.2.1 : Int)) ∧ z = .dat (.lst (i.2.2.map edgeD)) ∧ m i.1 = some (.ins "Tree" [] []) ∧ TreeOk i.2.1 i.2.2
def zTree : TI3 → List B → Ms → B → Ms → Prop := fun i _ m b m' => b = .dat .non ∧ ∃ r : D, m' = mput m i.1 (.ins "Tree" ["n", "size", "edges", "_rows"] ([D.int (i.2.1 : Int), .int ((i.2.2.length + 1 : Nat) : Int), .tup (i.2.2.map edgeD), r].map B.dat))
section
variable {K : PySem.W.Frag} {b0 : Ba} {a : AS} {te ta : TE} {k : B → AS → Prop}
theorem any_no {α : Type} (l : List α) : (l.map fun _ => D.bl false) = (l.map fun _ => false).map D.bl := by rw [List.map_map]; rfl
theorem rc_anyNo {α : Type} {l : List α} (hk : k (.dat (.bl false)) a) : RCl K b0 (rAny K) [.dat (.lst (l.map fun _ => D.bl false))] a k := by
  rw [any_no]
  refine rc_any (is := l.map fun _ => false) (.inr ⟨_, rfl, rfl⟩) ?_
  have : (l.map fun _ => false).any id = false := by simp
  rw [this]
  exact hk
end
def tupF : D → D
  | .lst l => .tup l
  | _ => .non
theorem sc_Tree_init : FnScope ["self", "n", "edges", "own", "size", "rows", "edge", "row", "x"] ["self", "n", "edges"] (defScope s_Tree_init) := ⟨rfl, rfl, rfl, by decide +kernel, rfl, by decide +kernel, by decide +kernel⟩
theorem treeInit_ok {P : Program} {w : World} {K : PySem.W.Frag} {mg : Str → Option Value} {base : Heap} (M : FX K mg) {fd : FuncData} (F : FunD K d_Tree_init.name d_Tree_init.qual d_Tree_init.params d_Tree_init.body d_Tree_init.scope (d_Tree_init.dvs K) (d_Tree_init.kws K) (He.fAd K d_Tree_init.at_) fd) :
    FnOk P w K mg base CX0 7 (He.fAd K d_Tree_init.at_) fd ["self", "n", "edges"] (spN K (n3 pTree) zTree) := by
  refine def_non (j := 6) F sc_Tree_init n3_len fun cdv A outer s H E hr => ⟨_, (pss_cons (ps_if (PW.pt (pw_or (pt_not (pt_val (C8.pe_c (c_is_integer M) hr (by decide) (by rfl) (pa_cons (pv 1) pa_nil)))) (pw_or (pt_cmpR (op_ltAny (K := K) hr) (pv 1) pe_int (nomark _)) (pw_or1 (pt_cmpR op_gt (pv 1) (C8.pe_gc rfl (M.int 72)) (nomark _))))))
      (pss_one ps_never)
      pss_nil)
      (pss_cons (ps_set (i := 3) sc_Tree_init.nd rfl (by first | exact Or.inl rfl | exact Or.inr rfl) (C8.pe_c (c_own_edges M) hr (by decide) (by rfl) (pa_cons (pv 2) pa_nil)))
        (pss_cons (ps_set (i := 4) sc_Tree_init.nd rfl (by first | exact Or.inl rfl | exact Or.inr rfl) (pe_op (op_addAny M (ops M) hr) (pe_callB (call_len_anyK (K := K)) (by rfl) (M.free 61) PySem.boot_len (pa_cons (pv 3) pa_nil)) pe_int))
          (pss_cons (ps_if (PW.pt (pw_or (pt_cmpR (op_ltAny (K := K) hr) (pv 4) (pv 1) (nomark _)) (pw_or (pt_cmpR op_gt (pv 4) (pe_op op_mulI pe_int (pv 1)) (nomark _)) (pw_or1 (pt_val (pe_callB (cr_anyK (K := K) rfl) (by rfl) (M.free 70) (by decide +kernel) (pa_cons (pe_lc (own := [("edge", 6)]) (g := gName 6) (by rfl) sc_Tree_init.nd (pi_listK (K := K) (pv 3)) (by dsimp only [Cx.blk, Cx.nox, Cx.wish, cxOf, blk_sc, env_sc]; exact blkOk_by (by decide +kernel)) (fun _ _ _ _ _ => pg_name (i := 6) sc_Tree_init.nd rfl (by first | exact Or.inl rfl | exact Or.inr rfl)) (fun _ _ _ _ _ => pts_nil) (fun _ _ _ _ _ => (pe_cmpR op_ge (pe_ix (ix_seqK (K := K)) (pv 6) pe_int (fun _ _ => rfl)) (pv 4) (nomark _)))) pa_nil)))))))
            (pss_one ps_never)
            pss_nil)
            (pss_cons (ps_set (i := 5) sc_Tree_init.nd rfl (by first | exact Or.inl rfl | exact Or.inr rfl) (C8.pe_c (c_distances M) hr (by decide) (by rfl) (pa_cons (pv 4) (pa_cons (pv 3) pa_nil))))
              (pss_cons (ps_if (pt_val (pe_callB (cr_anyK (K := K) rfl) (by rfl) (M.free 70) (by decide +kernel) (pa_cons (pe_lc (own := [("row", 7)]) (g := gName 7) (by rfl) sc_Tree_init.nd (pi_listK (K := K) (pv 5)) (by dsimp only [Cx.blk, Cx.nox, Cx.wish, cxOf, blk_sc, env_sc]; exact blkOk_by (by decide +kernel)) (fun _ _ _ _ _ => pg_name (i := 7) sc_Tree_init.nd rfl (by first | exact Or.inl rfl | exact Or.inr rfl)) (fun _ _ _ _ _ => pts_nil) (fun _ _ _ _ _ => (pe_cmpR (op_inAny M (ops M) hr) pe_non (pv 7) rfl))) pa_nil)))
                (pss_one ps_never)
                pss_nil)
                (pss_cons (ps_if (pt_val (pe_callB (cr_anyK (K := K) rfl) (by rfl) (M.free 70) (by decide +kernel) (pa_cons (pe_lc (own := [("x", 8)]) (g := gName 8) (by rfl) sc_Tree_init.nd (pi_range2 rfl (M.free 62) (pa_cons (pv 1) (pa_cons (pv 4) pa_nil))) (by dsimp only [Cx.blk, Cx.nox, Cx.wish, cxOf, blk_sc, env_sc]; exact blkOk_by (by decide +kernel)) (fun _ _ _ _ _ => pg_name (i := 8) sc_Tree_init.nd rfl (by first | exact Or.inl rfl | exact Or.inr rfl)) (fun _ _ _ _ _ => pts_nil) (fun _ _ _ _ _ => (pe_cmpR (op_ltAny (K := K) hr) (C8.pe_c (c_degree M) hr (by decide) (by rfl) (pa_cons (pv 3) (pa_cons (pv 8) pa_nil))) pe_int (nomark _)))) pa_nil)))
                  (pss_one ps_never)
                  pss_nil)
                  (pss_cons (ps_fld (pv 0) (pv 1) rfl)
                    (pss_cons (ps_fld (pv 0) (pv 4) rfl)
                      (pss_cons (ps_fld (pv 0) (pe_callTy (T := "tuple") (call_tuple_ofK (K := K)) (by rfl) (M.free 66) (by decide +kernel) (pa_cons (pv 3) pa_nil)) rfl)
                        (pss_one (ps_fld (pv 0) (pe_callTy (T := "tuple") (call_tuple_ofK (K := K)) (by rfl) (M.free 66) (by decide +kernel) (pa_cons (pe_lc (own := [("row", 7)]) (g := gName 7) (by rfl) sc_Tree_init.nd (pi_listK (K := K) (pv 5)) (by dsimp only [Cx.blk, Cx.nox, Cx.wish, cxOf, blk_sc, env_sc]; exact blkOk_by (by decide +kernel)) (fun _ _ _ _ _ => pg_name (i := 7) sc_Tree_init.nd rfl (by first | exact Or.inl rfl | exact Or.inr rfl)) (fun _ _ _ _ _ => pts_nil) (fun _ _ _ _ _ => (pe_callTy (T := "tuple") (call_tuple_ofK (K := K)) (by rfl) (M.free 66) (by decide +kernel) (pa_cons (pv 7) pa_nil)))) pa_nil)) rfl)))))))))))), ?_⟩
  try dsimp only [cx_K]
  rintro b0 Z ⟨x, n, es⟩ bs ⟨_, _, _, rfl, rfl, rfl, rfl, hx, hT⟩ hret
  have hx : b0.mem x = some (.ins "Tree" [] []) := hx
  have hT : TreeOk n es := hT
  have h1 := hT.lo1
  have h2 := hT.hi8
  have h3 := hT.lo
  have h4 := hT.hi
  have m1 : IntMulOk 2 (n : Int) := mul_ok (a := 2) (b := 10) (by decide) (by omega) (by omega)
  walk_at "mpR"
  refine ⟨_, ⟨_, rfl, .int (n : Int), rfl, trivial, rfl⟩, ?_⟩
  walk_at "mpR"
  refine ⟨fun _ => ?_, fun h => (by cases h)⟩
  walk_at "mpR"
  refine ⟨fun _ => ?_, fun h => (by have h := of_decide_eq_true h; dsimp only at h; omega)⟩
  walk_at "mpR"
  refine ⟨fun h => (by have h := of_decide_eq_true h; dsimp only at h; omega), fun _ => ?_⟩
  walk_at "mpR"
  refine ⟨_, ⟨_, rfl, es, rfl, by omega, hT.sort, fun e he => ⟨(hT.rng e he).1, (hT.rng e he).2.1, hT.pos e he⟩, rfl⟩, ?_⟩
  walk_at "mpR"
  rw [List.length_map]
  refine ⟨fun _ => ?_, fun h => (by have h := of_decide_eq_true h; dsimp only at h; omega)⟩
  walk_at "mpR"
  refine ⟨fun _ => ?_, fun h => (by have h := of_decide_eq_true h; dsimp only at h; omega)⟩
  walk_at "mpR"
  refine ev_lcML (fun _ => .bl false) (by decide) ?_
  walk_at "mpR"
  refine ⟨by rw [List.length_map]; omega, fun d m hd _ => ?_, ?_⟩
  · obtain ⟨e, he, rfl⟩ := List.mem_map.mp hd
    have := (hT.rng e he).2.2
    walk_at "mpR"
    rw [decide_eq_false (by omega)]
    exact ⟨rfl, rfl⟩
  walk_at "mpR"
  refine rc_anyNo ?_
  walk_at "mpR"
  refine ⟨fun h => (by cases h), fun _ => ?_⟩
  walk_at "mpR"
  have hin : EsIn (es.length + 1) es := fun e he => by
    have := hT.rng e he
    omega
  refine ⟨(es.length + 1, es), ⟨_, _, rfl, rfl, rfl, by show es.length + 1 ≤ _; omega, by show es.length ≤ _; omega, hin, hT.bd, hT.conn⟩, fun d ⟨g, hg⟩ => ?_⟩
  cases (show d = _ from hg)
  have hlen : ∀ {α : Type} (f : Nat → α), ((List.range (es.length + 1)).map f).length = es.length + 1 := fun f => by rw [List.length_map, List.length_range]
  walk_at "mpR"
  refine ev_lcML (fun _ => .bl false) (by decide) ?_
  walk_at "mpR"
  refine ⟨by rw [hlen]; omega, fun d m hd _ => ?_, ?_⟩
  · obtain ⟨i, hi, rfl⟩ := List.mem_map.mp hd
    walk_at "mpR"
    refine ro_inD (ds := (List.range (es.length + 1)).map fun y => .rat (g i y)) (.inr ⟨_, rfl, rfl⟩) (fun d hd => ?_) ?_
    · obtain ⟨j, _, rfl⟩ := List.mem_map.mp hd
      trivial
    · have : (((List.range (es.length + 1)).map fun y => D.rat (g i y)).any fun d => eqf d .non) = false := by
        rw [List.any_eq_false]
        intro d hd
        obtain ⟨j, _, rfl⟩ := List.mem_map.mp hd
        simp [eqf]
      rw [this]
      exact ⟨rfl, rfl⟩
  walk_at "mpR"
  refine rc_anyNo ?_
  walk_at "mpR"
  refine ⟨fun h => (by cases h), fun _ => ?_⟩
  walk_at "mpR"
  refine ev_lcM2 (fun _ => .bl false) (by decide) ?_
  walk_at "mpR"
  refine ⟨n, es.length + 1, rfl, ⟨by omega, by omega⟩, fun i m hi _ => ?_, ?_⟩
  · walk_at "mpR"
    refine ⟨_, ⟨_, _, rfl, es, ((n + i : Nat) : Int), rfl, rfl, by omega, rfl⟩, ?_⟩
    walk_at "mpR"
    have := hT.deg (n + i) (by omega) (by omega)
    rw [decide_eq_false (by omega)]
    exact ⟨rfl, rfl⟩
  walk_at "mpR"
  refine rc_anyNo ?_
  walk_at "mpR"
  refine ⟨fun h => (by cases h), fun _ => ?_⟩
  walk_at "mpR"
  refine gs_fld ?_
  walk_at "mpR"
  refine ⟨_, _, _, _, rfl, hx, M.cls 81, M.noat 82, by simp, by simp, ?_⟩
  refine nx_go (gs_seq (gs_fld ?_))
  walk_at "mpR"
  refine ⟨_, _, _, _, rfl, mput_same, M.cls 81, M.noat 83, by decide +kernel, by simp, ?_⟩
  refine nx_go (gs_seq (gs_fld ?_))
  walk_at "mpR"
  refine ⟨_, _, _, _, rfl, mput_same, M.cls 81, M.noat 84, by decide +kernel, by simp, ?_⟩
  refine nx_go (gs_fld ?_)
  walk_at "mpR"
  refine ev_lcML tupF (by decide) ?_
  walk_at "mpR"
  refine ⟨by rw [hlen]; omega, fun d m hd _ => ?_, ?_⟩
  · obtain ⟨i, hi, rfl⟩ := List.mem_map.mp hd
    walk_at "mpR"
    exact ⟨rfl, rfl⟩
  walk_at "mpR"
  refine ⟨_, _, _, _, rfl, mput_same, M.cls 81, M.noat 85, by decide +kernel, by simp, ?_⟩
  refine (hret (.dat .non) _ ⟨rfl, .tup (((List.range (es.length + 1)).map fun x => D.lst ((List.range (es.length + 1)).map fun y => .rat (g x y))).map tupF), rfl⟩ _ fun p _ => ?_).2 rfl
  simp only [AS.at, mput_mput]
  rfl
theorem mk_Tree {P : Program} {w : World} {K : PySem.W.Frag} {mg : Str → Option Value} {base : Heap} (M : FX K mg) : C8.Mak P w K mg base 7 "Tree" (He.ga K "Tree") (spN K (n3 pTree) zTree) [] := by
  obtain ⟨fd, F⟩ := M.said.def_ 30
  exact ⟨_, fd, ["self", "n", "edges"], [], M.mkr 86, treeInit_ok M F, M.glo 21, F.bindsN fun _ _ _ _ _ _ us hl => match us, hl with | [_, _, _], _ => rfl, .nil⟩
section
variable {K : PySem.W.Frag} {b0 : Ba} {a : AS} {k : B → AS → Prop}
theorem make_coreN {ι : Type} {Pre : ι → List B → Ms → Prop} {Post : ι → List B → Ms → B → Ms → Prop} {c : Str} {E : XK} {tas : TA}
    (h : EA K b0 tas a fun bs a1 => ∀ x, a1.mem x = none → ∃ i ns, Pre i (.ptr x :: bs) (mput a1.mem x (.ins c [] [])) ∧ ∀ b m', Post i (.ptr x :: bs) (mput a1.mem x (.ins c [] [])) b m' → ∃ ds : List D, b = .dat .non ∧ m' = mput a1.mem x (.ins c ns (ds.map B.dat)) ∧ k (.dat (.obj c ns ds)) a1) : EV K b0 (tMake (He.ga K c) (spN K Pre Post) [] E tas) a k := fun σ H Q R0 q =>
  h σ H _ R0 fun vs H1 bs a1 h1 R1 e1 r1 x dx hx hdx hne => by
    have R2 := R1.alloc (o := .own x) hdx
    have hx2 : upd H1 dx (.own x) x = none := by rw [upd_ne hne.symm]; exact hx
    have g2 := R1.maskGrow (ex_upd (o := .own x) hdx)
    obtain ⟨R3, e3⟩ := R2.allocM (c := .ins c [] []) (o := .ins (He.ga K c) dx []) hx2 ⟨dx, [], rfl, rfl, .nil⟩
    obtain ⟨i, ns, hpre, hpost⟩ := h1 x (R1.free hx)
    have e13 : Ex (mask H1 a1.mem) (mask (upd (upd H1 dx (.own x)) x (.ins (He.ga K c) dx [])) (mput a1.mem x (.ins c [] []))) := g2.trans e3
    refine run_spN (a := ⟨a1.env, mput a1.mem x (.ins c [] [])⟩) (b0 := b0) (bs := .ptr x :: bs) (σ := σ) (k := fun b a' => ∃ ds : List D, b = .dat .non ∧ a' = ⟨a1.env, mput a1.mem x (.ins c ns (ds.map B.dat))⟩ ∧ k (.dat (.obj c ns ds)) a1) ⟨i, hpre, fun b m' hp => ?_⟩ R3 (.cons rfl (by rw [List.append_nil]; exact Pd.mono (fun _ _ z => z.mono e13) r1)) fun v H' b a' hk R' e' r' => ?_
    · obtain ⟨ds, rfl, rfl, hk⟩ := hpost b m' hp
      refine ⟨fun p => ?_, ds, rfl, rfl, hk⟩
      by_cases e : p = x
      · subst e
        rw [mput_same]
        show _ = (mput a1.mem p (.ins c [] []) p).isSome
        rw [mput_same]
        rfl
      · rw [mput_ne e]
        show _ = (mput a1.mem x (.ins c [] []) p).isSome
        rw [mput_ne e]
    · obtain ⟨ds, rfl, rfl, h3⟩ := hk
      refine ⟨r', ?_⟩
      obtain ⟨f1, f2⟩ := R1.free0 hx
      obtain ⟨R4, e4⟩ := R'.freeze (p := x) f1 (by show (mput a1.mem x _ x).isSome = true; rw [mput_same]; rfl)
      obtain ⟨o, ho, dx', us, rfl, hl, rb⟩ := R'.cont x (.ins c ns (ds.map B.dat)) mput_same
      have em : mdel (mput a1.mem x (.ins c ns (ds.map B.dat))) x = a1.mem := mdel_mput (R1.free hx)
      have R5 : Rel K b0 a1 σ H' := by
        have z : Rel K b0 ⟨a1.env, mdel (mput a1.mem x (.ins c ns (ds.map B.dat))) x⟩ σ H' := R4
        rw [em] at z
        exact z
      have e5 : Ex (mask H' (mput a1.mem x (.ins c ns (ds.map B.dat)))) (mask H' a1.mem) := by
        have z : Ex (mask H' (mput a1.mem x (.ins c ns (ds.map B.dat)))) (mask H' (mdel (mput a1.mem x (.ins c ns (ds.map B.dat))) x)) := e4
        rw [em] at z
        exact z
      refine q (.ref x) H' _ a1 h3 R5 (e1.trans (e13.trans (Ex.trans e' e5))) ⟨x, dx', us, rfl, mask_mk (R1.free hx) ho, hl, (RepBs.dats rb).mono e5⟩
theorem ev_mkTree {E : XK} {tas : TA} (h : EA K b0 tas a fun bs a1 => ∃ (n : Nat) (es : List Edge), bs = [.dat (.int (n : Int)), .dat (.lst (es.map edgeD))] ∧ TreeOk n es ∧ ∀ r, k (.dat (treeO n es r)) a1) : EV K b0 (tMake (He.ga K "Tree") (spN K (n3 pTree) zTree) [] E tas) a k :=
  make_coreN fun σ H Q R q => h σ H Q R fun vs H1 bs a1 ⟨n, es, e, h1, h2⟩ R1 e1 r1 => q vs H1 bs a1 (fun x hx => ⟨(x, n, es), ["n", "size", "edges", "_rows"], ⟨_, _, _, by rw [e], rfl, rfl, rfl, mput_same, h1⟩, fun b m' ⟨eb, r, em⟩ => ⟨_, eb, by rw [em, mput_mput], h2 r⟩⟩) R1 e1 r1
end
end MP
/-! MQE -/
set_option exponentiation.threshold 10000
/-! places; the tree's plain definitions -/
namespace MP
open PySem PySem.Spec PyProof.Rows L2

def rows0 (n : Nat) (f : Nat → Nat → Rat) : List (List Rat) := (List.range n).map fun x => (List.range n).map (f x)
def medR (n : Nat) (f : Nat → Nat → Rat) (x y z : Nat) : List Rat := (List.range n).map (medF f x y z)
def plZ (n : Nat) (f : Nat → Nat → Rat) (x y : Nat) (acc : List (List Rat)) (z : Nat) : List (List Rat) := if medR n f x y z ∈ acc then acc else acc ++ [medR n f x y z]
def plY (n : Nat) (f : Nat → Nat → Rat) (x : Nat) (acc : List (List Rat)) (y : Nat) : List (List Rat) := (rng (y + 1) n).foldl (plZ n f x y) acc
def plX (n : Nat) (f : Nat → Nat → Rat) (acc : List (List Rat)) (x : Nat) : List (List Rat) := (rng (x + 1) n).foldl (plY n f x) acc
def placesF (n : Nat) (f : Nat → Nat → Rat) : List (List Rat) := (List.range n).foldl (plX n f) (rows0 n f)
def Dm (V : List (List Rat)) (i j : Nat) : Rat := gapF (V.getD i []) (V.getD j [])
/-- is there a vertex between -/
def btw (N : Nat) (D : Nat → Nat → Rat) (x y : Nat) : Bool := ((List.range N).filter fun (z : Nat) => !decide ((z : Int) ∈ [(x : Int), (y : Int)])).any fun z => decide (D x z + D z y = D x y)
def edgesF (N : Nat) (D : Nat → Nat → Rat) : List Edge := (List.range N).flatMap fun x => ((rng (x + 1) N).filter fun (y : Nat) => !btw N D x y).map fun (y : Nat) => ((x : Int), (y : Int), D x y)
def edgesT (n : Nat) (f : Nat → Nat → Rat) : List Edge := edgesF (placesF n f).length (Dm (placesF n f))
theorem foldl_snoc {α β : Type} (l : List β) (x : β) (g : α → β → α) (a : α) : (l ++ [x]).foldl g a = g (l.foldl g a) x := by rw [List.foldl_append]; rfl
theorem rowT_inj {l l' : List Rat} (h : l.length = l'.length) : eqf (rowT l) (rowT l') = decide (l = l') := by
  show ((List.range (l.map D.rat).length).all fun i => match (l.map D.rat)[i]?, (l'.map D.rat)[i]? with
    | some (.rat p), some (.rat q) => decide (p = q)
    | _, _ => false) = decide (l = l')
  rw [Bool.eq_iff_iff, List.all_eq_true, decide_eq_true_iff]
  constructor
  · intro hall
    apply List.ext_getElem?
    intro i
    by_cases hi : i < l.length
    · have := hall i (by simpa using hi)
      rw [List.getElem?_map, List.getElem?_map, List.getElem?_eq_getElem hi, List.getElem?_eq_getElem (h ▸ hi)] at this
      rw [List.getElem?_eq_getElem hi, List.getElem?_eq_getElem (h ▸ hi)]
      exact congrArg some (of_decide_eq_true this)
    · rw [List.getElem?_eq_none (by omega), List.getElem?_eq_none (by omega)]
  · rintro rfl i hi
    have hi : i < l.length := by simpa using hi
    rw [List.getElem?_map, List.getElem?_eq_getElem hi]
    simp
/-- rows of n cells, not large -/
def RowsOk (n : Nat) (V : List (List Rat)) : Prop := ∀ l ∈ V, l.length = n ∧ ∀ q ∈ l, Bd 12 (BM * 5) q
theorem bd_med1 {n : Nat} {f : Nat → Nat → Rat} (hf : MetOk n f) {x y z w : Nat} (hx : x < n) (hy : y < n) (hz : z < n) (hw : w < n) : Bd 12 (BM * 5) (medF f x y z w) := by
  have B3 : ∀ {i j k l p q}, i < n → j < n → k < n → l < n → p < n → q < n → Bd 12 (BM * 3) ((f i j + f k l - f p q) / 2) := fun hi hj hk hl hp hq => (((hf.bd _ _ hi hj).add (hf.bd _ _ hk hl)).sub (hf.bd _ _ hp hq)).half
  have b1 := bd_medT hf hw hx (B3 hx hy hx hz hy hz)
  have b2 := bd_medT hf hw hy (B3 hx hy hy hz hx hz)
  have b3 := bd_medT hf hw hz (B3 hx hz hy hz hx hy)
  unfold medF max3
  rcases gmax_mem (q := f w x - (f x y + f x z - f y z) / 2) (qs := [f w x - (f x y + f x z - f y z) / 2, f w y - (f x y + f y z - f x z) / 2, f w z - (f x z + f y z - f x y) / 2]) with e | e
  · rw [e]; exact b1
  · simp only [List.mem_cons, List.not_mem_nil, or_false] at e
    rcases e with e | e | e <;> rw [e] <;> assumption
theorem rows0_ok {n : Nat} {f : Nat → Nat → Rat} (hf : MetOk n f) : RowsOk n (rows0 n f) := by
  intro l hl
  obtain ⟨x, hx, rfl⟩ := List.mem_map.mp hl
  refine ⟨by rw [List.length_map, List.length_range], fun q hq => ?_⟩
  obtain ⟨y, hy, rfl⟩ := List.mem_map.mp hq
  exact ((hf.bd x y (List.mem_range.mp hx) (List.mem_range.mp hy)).up 2 (by omega)).mono (by omega)
theorem plZ_ok {n : Nat} {f : Nat → Nat → Rat} (hf : MetOk n f) {x y z : Nat} (hx : x < n) (hy : y < n) (hz : z < n) {V : List (List Rat)} (h : RowsOk n V) : RowsOk n (plZ n f x y V z) ∧ (plZ n f x y V z).length ≤ V.length + 1 := by
  unfold plZ
  split
  · exact ⟨h, by omega⟩
  · refine ⟨fun l hl => ?_, by simp⟩
    rcases List.mem_append.mp hl with hl | hl
    · exact h l hl
    · have : l = medR n f x y z := by simpa using hl
      subst this
      refine ⟨by rw [medR, List.length_map, List.length_range], fun q hq => ?_⟩
      obtain ⟨w, hw, rfl⟩ := List.mem_map.mp hq
      exact bd_med1 hf hx hy hz (List.mem_range.mp hw)
def sPlaces : B → D → Prop := fun x d => ∃ n f, x = .dat (mtr n f) ∧ MetOk n f ∧ d = .lst ((placesF n f).map rowT)
theorem sc_places : FnScope ["m", "found", "x", "y", "z", "place"] ["m"] (defScope s_places) := ⟨rfl, rfl, rfl, by decide +kernel, rfl, by decide +kernel, by decide +kernel⟩
theorem c_places {P : Program} {w : World} {K : PySem.W.Frag} {mg : Str → Option Value} {base : Heap} (M : FX K mg) : C8.Cal P w K mg base 6 "places" (spA K (pw (f1 sPlaces))) [] := by
  obtain ⟨fd, F⟩ := M.said.def_ 37
  refine ⟨_, fd, ["m"], [], (def_pure (j := 5) F sc_places f1_len fun cdv A outer s H E hr => ⟨_, (pss_cons (ps_set (i := 1) sc_places.nd rfl (by first | exact Or.inl rfl | exact Or.inr rfl) (pe_callTy (T := "list") (call_list_ofK (K := K)) (by rfl) (M.free 67) (by decide +kernel) (pa_cons (pe_fldK (K := K) (pv 0) rfl) pa_nil)))
      (pss_cons (ps_for PassesOwn.never rfl (pi_range1 rfl (M.free 62) (pa_cons (pe_fldK (K := K) (pv 0) rfl) pa_nil)) (pg_name (i := 2) sc_places.nd rfl (by first | exact Or.inl rfl | exact Or.inr rfl))
        (pss_one (ps_for PassesOwn.never rfl (pi_range2 rfl (M.free 62) (pa_cons (pe_op (op_addAny M (ops M) hr) (pv 2) pe_int) (pa_cons (pe_fldK (K := K) (pv 0) rfl) pa_nil))) (pg_name (i := 3) sc_places.nd rfl (by first | exact Or.inl rfl | exact Or.inr rfl))
          (pss_one (ps_for PassesOwn.never rfl (pi_range2 rfl (M.free 62) (pa_cons (pe_op (op_addAny M (ops M) hr) (pv 3) pe_int) (pa_cons (pe_fldK (K := K) (pv 0) rfl) pa_nil))) (pg_name (i := 4) sc_places.nd rfl (by first | exact Or.inl rfl | exact Or.inr rfl))
            (pss_cons (ps_set (i := 5) sc_places.nd rfl (by first | exact Or.inl rfl | exact Or.inr rfl) (C8.pe_c (c_median M) hr (by decide) (by rfl) (pa_cons (pv 0) (pa_cons (pv 2) (pa_cons (pv 3) (pa_cons (pv 4) pa_nil))))))
              (pss_one (ps_if (pt_cmpR (op_notInAny M (ops M) hr) (pv 5) (pv 1) rfl)
                (pss_one (ps_expr (pe_bm PySem.F.plainAttrs_list PySem.F.slot_list_append PySem.F.type_list_append mt_append (pv 1) (pa_cons (pv 5) pa_nil))))
                pss_nil))))))))
        (pss_one (ps_ret (pv 1))))), ?_⟩), M.glo 28, F.kp, F.bindsN fun _ _ _ _ _ _ us hl => match us, hl with | [_], _ => rfl, .nil⟩
  try dsimp only [cx_K]
  intro b0 Z bs d h hret
  obtain ⟨_, rfl, n, f, rfl, hf, rfl⟩ := h
  have h8 := hf.hi
  have hr0 : ((List.range n).map fun x => D.tup ((List.range n).map fun y => .rat (f x y))) = (rows0 n f).map rowT := by
    rw [rows0, List.map_map]
    refine List.map_congr_left fun x _ => ?_
    show _ = rowT _
    rw [rowT, List.map_map]
    rfl
  refine gs_seq (gs_set (ev_cb (ea_cons (ev_mrows M (ev_var rfl ⟨_, _, rfl, ea_nil ?_⟩)))))
  refine rc_listM (ds := (rows0 n f).map rowT) (.inr (by rw [← hr0]; rfl)) fun p hp1 hp => ?_
  let C : List (List Rat) → C := fun V => .lst ((V.map rowT).map B.dat)
  walk_at "mpM"
  refine ⟨by omega, fun x a => ∃ (V : List (List Rat)) (w2 w3 w4 w5 : Option B), V = (List.range x).foldl (plX n f) (rows0 n f) ∧ RowsOk n V ∧ V.length ≤ 8 + x * 64 ∧ a = ⟨[some (.dat (mtr n f)), some (.ptr p), w2, w3, w4, w5], mput b0.mem p (C V)⟩, ⟨rows0 n f, _, _, _, _, rfl, rows0_ok hf, by rw [rows0, List.length_map, List.length_range]; omega, rfl⟩, ?_, ?_⟩
  · rintro x _ hx ⟨V0, w2, w3, w4, w5, hV0, hok0, hl0, rfl⟩
    walk_at "mpM"
    refine ⟨(show x + 1 ≤ n ∧ n ≤ 100000 from ⟨by omega, by omega⟩), fun y a => ∃ (V : List (List Rat)) (w3 w4 w5 : Option B), V = (rng (x + 1) y).foldl (plY n f x) V0 ∧ RowsOk n V ∧ V.length ≤ 8 + x * 64 + y * 8 ∧ a = ⟨[some (.dat (mtr n f)), some (.ptr p), some (.dat (.int (x : Int))), w3, w4, w5], mput b0.mem p (C V)⟩, ⟨V0, _, _, _, by rw [rng_nil]; rfl, hok0, by omega, rfl⟩, ?_, ?_⟩
    · rintro y _ hy1 hy ⟨V1, w3, w4, w5, hV1, hok1, hl1, rfl⟩
      walk_at "mpM"
      refine ⟨(show y + 1 ≤ n ∧ n ≤ 100000 from ⟨by omega, by omega⟩), fun z a => ∃ (V : List (List Rat)) (w4 w5 : Option B), V = (rng (y + 1) z).foldl (plZ n f x y) V1 ∧ RowsOk n V ∧ V.length ≤ 8 + x * 64 + y * 8 + z ∧ a = ⟨[some (.dat (mtr n f)), some (.ptr p), some (.dat (.int (x : Int))), some (.dat (.int (y : Int))), w4, w5], mput b0.mem p (C V)⟩, ⟨V1, _, _, by rw [rng_nil]; rfl, hok1, by omega, rfl⟩, ?_, ?_⟩
      · rintro z _ hz1 hz ⟨V, w4, w5, hV, hok, hl, rfl⟩
        have hyn : y < n := by omega
        have hxn : x < n := by omega
        obtain ⟨hok2, hl2⟩ := plZ_ok hf hxn hyn hz hok
        have eV : (rng (y + 1) (z + 1)).foldl (plZ n f x y) V1 = plZ n f x y V z := by rw [rng_succ (by omega), foldl_snoc, ← hV]
        walk_at "mpM"
        refine ⟨_, ⟨_, _, _, _, rfl, n, f, x, y, z, rfl, hf, rfl, rfl, rfl, hxn, hyn, hz, rfl⟩, ?_⟩
        have em : D.tup ((List.range n).map fun w => .rat (medF f x y z w)) = rowT (medR n f x y z) := by
          rw [rowT, medR, List.map_map]
          rfl
        rw [em]
        have hlen : (medR n f x y z).length = n := by rw [medR, List.length_map, List.length_range]
        walk_at "mpM"
        refine ro_inD (ds := V.map rowT) (.inl ⟨p, rfl, mput_same⟩) (fun d hd => ?_) ?_
        · obtain ⟨l, hl', rfl⟩ := List.mem_map.mp hd
          refine ⟨by rw [List.length_map, List.length_map, (hok l hl').1, hlen], fun d hd => ?_, fun d hd => ?_⟩
          · obtain ⟨q, _, rfl⟩ := List.mem_map.mp hd
            exact ⟨q, rfl⟩
          · obtain ⟨q, _, rfl⟩ := List.mem_map.mp hd
            exact ⟨q, rfl⟩
        have ea : ((V.map rowT).any fun d => eqf d (rowT (medR n f x y z))) = decide (medR n f x y z ∈ V) := by
          rw [Bool.eq_iff_iff, List.any_eq_true, decide_eq_true_iff]
          constructor
          · rintro ⟨d, hd, he⟩
            obtain ⟨l, hl', rfl⟩ := List.mem_map.mp hd
            rw [rowT_inj (by rw [(hok l hl').1, hlen])] at he
            rw [← of_decide_eq_true he]
            exact hl'
          · intro hm
            exact ⟨_, List.mem_map.mpr ⟨_, hm, rfl⟩, by rw [rowT_inj rfl]; exact decide_eq_true rfl⟩
        rw [ea]
        walk_at "mpM"
        refine ⟨fun hc => ?_, fun hc => ?_⟩
        · have hn : medR n f x y z ∉ V := by simpa using hc
          walk_at "mpM"
          refine ⟨by rw [List.length_map, List.length_map]; omega, ?_⟩
          refine nx_inv ⟨plZ n f x y V z, some (.dat (.int (z : Int))), some (.dat (rowT (medR n f x y z))), eV.symm, hok2, by omega, ?_⟩
          unfold plZ
          rw [if_neg hn]
          simp only [C, List.map_append, AS.at, mput_mput]
          rfl
        · have hn : medR n f x y z ∈ V := by simpa using hc
          walk_at "mpM"
          refine nx_inv ⟨plZ n f x y V z, some (.dat (.int (z : Int))), some (.dat (rowT (medR n f x y z))), eV.symm, hok2, by omega, ?_⟩
          unfold plZ
          rw [if_pos hn]
          rfl
      · rintro _ ⟨V, w4, w5, hV, hok, hl, rfl⟩
        refine nx_mk (nx_inv ⟨V, some (.dat (.int (y : Int))), w4, w5, ?_, hok, by omega, rfl⟩)
        rw [rng_succ (by omega), foldl_snoc, ← hV1]
        exact hV
    · rintro _ ⟨V, w3, w4, w5, hV, hok, hl, rfl⟩
      refine nx_mk (nx_inv ⟨V, some (.dat (.int (x : Int))), w3, w4, w5, ?_, hok, by omega, rfl⟩)
      rw [List.range_succ, foldl_snoc, ← hV0]
      exact hV
  · rintro _ ⟨V, w2, w3, w4, w5, hV, hok, hl, rfl⟩
    walk_at "mpM"
    refine rt_frz (d := .lst (V.map rowT)) hp mput_same ⟨_, rfl, rfl⟩ ?_
    rw [show V = placesF n f from hV]
    refine hret.go fun q c hq => ?_
    show mdel (mput b0.mem p _) p q = _
    rw [mdel_mput hp]
    exact hq
end MP
/-! MRA -/
namespace MP
/-! metrics of trees, plain: the search for ways gives the distances -/
structure MetC (N : Nat) (D : Nat → Nat → Rat) : Prop where
  symm : ∀ x y, x < N → y < N → D x y = D y x
  zero : ∀ x, x < N → D x x = 0
  pos : ∀ x y, x < N → y < N → x ≠ y → 0 < D x y
  tri : ∀ x y z, x < N → y < N → z < N → D x z ≤ D x y + D y z
  cmp : ∀ s v u x, s < N → v < N → u < N → x < N → D s u + D u v = D s v → D s x + D x v = D s v → D s u ≤ D s x → D u x = D s x - D s u
structure EsG (N : Nat) (D : Nat → Nat → Rat) (es : List Edge) : Prop where
  edge : ∀ e ∈ es, ∃ u v : Nat, e = ((u : Int), (v : Int), D u v) ∧ u < N ∧ v < N ∧ u ≠ v
  E : ∀ u v, Adj es u v → ∀ w, w < N → D w u + D u v = D w v ∨ D w v + D v u = D w u
theorem Adj.symm {es : List Edge} {u v : Nat} (h : Adj es u v) : Adj es v u := by
  obtain ⟨e, he, h | h⟩ := h
  · exact ⟨e, he, .inr h⟩
  · exact ⟨e, he, .inl h⟩
theorem EsG.lt {N : Nat} {D : Nat → Nat → Rat} {es : List Edge} (G : EsG N D es) {u v : Nat} (h : Adj es u v) : u < N ∧ v < N ∧ u ≠ v := by
  obtain ⟨e, he, h⟩ := h
  obtain ⟨a, b, rfl, h1, h2, h3⟩ := G.edge e he
  simp only at h
  omega
theorem par_uniq {N : Nat} {D : Nat → Nat → Rat} {es : List Edge} (M : MetC N D) (G : EsG N D es) {s u u' v : Nat} (hs : s < N) (h : Adj es u v) (h' : Adj es u' v)
    (b : D s u + D u v = D s v) (b' : D s u' + D u' v = D s v) : u = u' := by
  have key : ∀ {u u' : Nat}, Adj es u v → Adj es u' v → D s u + D u v = D s v → D s u' + D u' v = D s v → D s u ≤ D s u' → u = u' := by
    intro u u' h h' b b' hle
    obtain ⟨hu, hv, huv⟩ := G.lt h
    obtain ⟨hu', _, huv'⟩ := G.lt h'
    have c := M.cmp s v u u' hs hv hu hu' b b' hle
    rcases Nat.decEq u u' with ne | e
    · exfalso
      have p1 := M.pos u u' hu hu' ne
      have p2 := M.pos u' v hu' hv huv'
      have s1 := M.symm u u' hu hu'
      have s2 := M.symm u v hu hv
      rcases G.E u v h u' hu' with e | e <;> grind
    · exact e
  rcases Rat.le_total (a := D s u) (b := D s u') with hle | hle
  · exact key h h' b b' hle
  · exact (key h' h b' b hle).symm
/-! the found -/
def Kk (fd : Fnd) (i : Int) : Prop := ∃ q, (i, q) ∈ fd
theorem fgetNone {fd : Fnd} {i : Int} : fget fd i = none ↔ ¬ Kk fd i := by
  unfold fget Kk
  rw [Option.map_eq_none_iff, List.find?_eq_none]
  constructor
  · rintro h ⟨q, hq⟩
    have := h _ hq
    simp at this
  · intro h p hp e
    have e : p.1 = i := of_decide_eq_true e
    exact h ⟨p.2, by rw [← e]; exact hp⟩
structure FdT (N : Nat) (D : Nat → Nat → Rat) (es : List Edge) (s : Nat) (fd : Fnd) : Prop where
  val : ∀ p ∈ fd, ∃ v : Nat, v < N ∧ p = ((v : Int), D s v)
  nd : (fd.map (·.1)).Nodup
  cl : ∀ u v : Nat, Adj es u v → D s u + D u v = D s v → Kk fd v → Kk fd u
theorem FdT.half {N : Nat} {D : Nat → Nat → Rat} {es : List Edge} {s : Nat} {fd : Fnd} (M : MetC N D) (G : EsG N D es) (hs : s < N) (F : FdT N D es s fd) {a b : Nat} (h : Adj es a b) : FdT N D es s (wHalf fd a b (D a b)) := by
  rcases wHalf_cases fd a b (D a b) with e | ⟨q, h1, h2, e⟩
  · rw [e]; exact F
  · rw [e]
    have hb := fgetNone.mp h2
    have ha := fget_mem h1
    obtain ⟨a', ha', ea⟩ := F.val _ ha
    have ea1 : a = a' := by have := congrArg Prod.fst ea; simp only at this; omega
    have ea2 : q = D s a' := congrArg Prod.snd ea
    subst ea1
    subst ea2
    obtain ⟨la, lb, nab⟩ := G.lt h
    have hbs : D s a + D a b = D s b := by
      rcases G.E a b h s hs with e | e
      · exact e
      · exact absurd (F.cl b a h.symm e ⟨_, ha⟩) hb
    refine ⟨fun p hp => ?_, ?_, fun u v huv euv hv => ?_⟩
    · rcases List.mem_append.mp hp with hp | hp
      · exact F.val p hp
      · rw [List.mem_singleton] at hp
        subst hp
        exact ⟨b, lb, by rw [hbs]⟩
    · rw [List.map_append, List.nodup_append]
      refine ⟨F.nd, by simp, fun x hx y hy e => ?_⟩
      obtain ⟨p, hp, rfl⟩ := List.mem_map.mp hx
      have hy : y = (b : Int) := by simpa using hy
      exact hb ⟨p.2, by rw [← hy, ← e]; exact hp⟩
    · have up : Kk fd u → Kk (fd ++ [((b : Int), D s a + D a b)]) u := fun ⟨q, hq⟩ => ⟨q, List.mem_append_left _ hq⟩
      obtain ⟨q, hq⟩ := hv
      rcases List.mem_append.mp hq with hq | hq
      · exact up (F.cl u v huv euv ⟨q, hq⟩)
      · rw [List.mem_singleton] at hq
        have ev : v = b := by have := congrArg Prod.fst hq; simp only at this; omega
        subst ev
        have := par_uniq M G hs h huv hbs euv
        subst this
        exact up ⟨_, ha⟩
theorem FdT.step {N : Nat} {D : Nat → Nat → Rat} {es : List Edge} {s : Nat} {fd : Fnd} (M : MetC N D) (G : EsG N D es) (hs : s < N) (F : FdT N D es s fd) {e : Edge} (h : e ∈ es) : FdT N D es s (wStep fd e) := by
  obtain ⟨u, v, rfl, hu, hv, huv⟩ := G.edge e h
  have a1 : Adj es u v := ⟨_, h, .inl ⟨rfl, rfl⟩⟩
  have F1 := F.half M G hs a1
  have F2 := F1.half M G hs a1.symm
  rw [M.symm v u hv hu] at F2
  exact F2
theorem FdT.round {N : Nat} {D : Nat → Nat → Rat} {es : List Edge} {s : Nat} (M : MetC N D) (G : EsG N D es) (hs : s < N) : ∀ (l : List Edge) {fd : Fnd}, (∀ e ∈ l, e ∈ es) → FdT N D es s fd → FdT N D es s (wRound l fd)
  | [], _, _, F => F
  | e :: l, fd, hl, F => FdT.round M G hs l (fd := wStep fd e) (fun x hx => hl x (List.mem_cons_of_mem _ hx)) (F.step M G hs (hl e (List.mem_cons_self ..)))
theorem waysT {N : Nat} {D : Nat → Nat → Rat} {es : List Edge} {s : Nat} (M : MetC N D) (G : EsG N D es) (hs : s < N) : ∀ k, FdT N D es s (waysN es s k)
  | 0 => by
    refine ⟨fun p hp => ?_, by simp [waysN], fun u v huv e hv => ?_⟩
    · have : p = ((s : Int), (0 : Rat)) := by simpa [waysN] using hp
      exact ⟨s, hs, by rw [this, M.zero s hs]⟩
    · obtain ⟨q, hq⟩ := hv
      have : ((v : Int), q) = ((s : Int), (0 : Rat)) := by simpa [waysN] using hq
      have ev : v = s := by have := congrArg Prod.fst this; simp only at this; omega
      subst ev
      obtain ⟨h1, h2, h3⟩ := G.lt huv
      have p1 := M.pos v u h2 h1 (Ne.symm h3)
      have p2 := M.pos u v h1 h2 h3
      have := M.zero v h2
      exfalso
      grind
  | k + 1 => FdT.round M G hs es (fun _ h => h) (waysT M G hs k)
theorem FdT.get {N : Nat} {D : Nat → Nat → Rat} {es : List Edge} {s : Nat} {fd : Fnd} (F : FdT N D es s fd) {v : Nat} {q : Rat} (h : fget fd v = some q) : v < N ∧ q = D s v := by
  obtain ⟨v', h1, h2⟩ := F.val _ (fget_mem h)
  have e1 : v = v' := by have := congrArg Prod.fst h2; simp only at this; omega
  subst e1
  exact ⟨h1, congrArg Prod.snd h2⟩
/-! all is found -/
theorem Kk.half {fd : Fnd} {i a b : Int} {l : Rat} (h : Kk fd i) : Kk (wHalf fd a b l) i := by
  rcases wHalf_cases fd a b l with e | ⟨q, _, _, e⟩ <;> rw [e]
  · exact h
  · obtain ⟨q, hq⟩ := h
    exact ⟨q, List.mem_append_left _ hq⟩
theorem Kk.halfNew {fd : Fnd} {a b : Int} {l : Rat} (h : Kk fd a) : Kk (wHalf fd a b l) b := by
  unfold wHalf
  split
  · exact ⟨_, List.mem_append_right _ (List.mem_singleton.mpr rfl)⟩
  · rename_i h2
    cases ha : fget fd a with
    | none => exact absurd h (fgetNone.mp ha)
    | some q =>
      cases hb : fget fd b with
      | none => exact absurd hb (h2 q ha)
      | some q => exact ⟨q, fget_mem hb⟩
theorem Kk.step {fd : Fnd} {i : Int} {e : Edge} (h : Kk fd i) : Kk (wStep fd e) i := (h.half).half
theorem Kk.round {i : Int} : ∀ (l : List Edge) {fd : Fnd}, Kk fd i → Kk (wRound l fd) i
  | [], _, h => h
  | e :: l, fd, h => Kk.round l (fd := wStep fd e) h.step
theorem Kk.adj {es : List Edge} {u v : Nat} (h : Adj es u v) {fd : Fnd} (hu : Kk fd u) : Kk (wRound es fd) v := by
  obtain ⟨e, he, h⟩ := h
  obtain ⟨l1, l2, rfl⟩ := List.append_of_mem he
  unfold wRound
  rw [List.foldl_append, List.foldl_cons]
  have h1 : Kk (wRound l1 fd) u := Kk.round l1 hu
  refine Kk.round l2 ?_
  rcases h with ⟨e1, e2⟩ | ⟨e1, e2⟩
  · unfold wStep
    rw [e1, e2]
    exact (Kk.halfNew h1).half
  · unfold wStep
    rw [e1, e2]
    exact Kk.halfNew h1.half
/-- each vertex but the start has one ahead of it -/
def Par (N : Nat) (D : Nat → Nat → Rat) (es : List Edge) : Prop := ∀ s v, s < N → v < N → v ≠ s → ∃ u, Adj es u v ∧ D s u + D u v = D s v
def rk (N : Nat) (D : Nat → Nat → Rat) (s v : Nat) : Nat := ((List.range N).filter fun u => decide (D s u < D s v)).length
theorem filter_lt {α : Type} {p q : α → Bool} : ∀ {l : List α} {a : α}, a ∈ l → p a = false → q a = true → (∀ x, p x = true → q x = true) → (l.filter p).length < (l.filter q).length
  | x :: l, a, h, hp, hq, hpq => by
    have mono : ∀ l : List α, (l.filter p).length ≤ (l.filter q).length := fun l => by
      induction l with
      | nil => simp
      | cons y l ih =>
        rw [List.filter_cons, List.filter_cons]
        have := hpq y
        split <;> split <;> simp_all <;> omega
    rw [List.filter_cons, List.filter_cons]
    rcases List.mem_cons.mp h with rfl | h
    · rw [hp, hq]
      have := mono l
      simp
      omega
    · have ih := filter_lt h hp hq hpq
      have := hpq x
      split <;> split <;> simp_all <;> omega
theorem rk_lt {N : Nat} {D : Nat → Nat → Rat} {s u v : Nat} (hu : u < N) (h : D s u < D s v) : rk N D s u < rk N D s v :=
  filter_lt (a := u) (List.mem_range.mpr hu) (decide_eq_false (by grind)) (decide_eq_true h) fun x hx => decide_eq_true (by have := of_decide_eq_true hx; grind)
theorem rk_n {N : Nat} {D : Nat → Nat → Rat} {s v : Nat} : rk N D s v ≤ N := by
  have := List.length_filter_le (fun u => decide (D s u < D s v)) (List.range N)
  rw [List.length_range] at this
  exact this
theorem found_all {N : Nat} {D : Nat → Nat → Rat} {es : List Edge} {s : Nat} (M : MetC N D) (G : EsG N D es) (P : Par N D es) (hs : s < N) : ∀ k v, v < N → rk N D s v ≤ k → Kk (waysN es s k) v
  | 0, v, hv, h => by
    by_cases e : v = s
    · subst e
      exact ⟨0, by simp [waysN]⟩
    · obtain ⟨u, h1, h2⟩ := P s v hs hv e
      obtain ⟨hu, _, ne⟩ := G.lt h1
      have := M.pos u v hu hv ne
      have := rk_lt (N := N) (D := D) (s := s) (u := u) (v := v) hu (by grind)
      omega
  | k + 1, v, hv, h => by
    by_cases e : v = s
    · subst e
      refine Kk.round es (found_all M G P hs k v hv ?_)
      by_cases z : rk N D v v = 0
      · omega
      · have : rk N D v v = 0 := by
          unfold rk
          rw [List.length_eq_zero_iff, List.filter_eq_nil_iff]
          intro a ha
          have ha := List.mem_range.mp ha
          have h0 := M.zero v hv
          by_cases e : v = a
          · subst e; simp
          · have := M.pos v a hv ha e
            simp
            grind
        omega
    · obtain ⟨u, h1, h2⟩ := P s v hs hv e
      obtain ⟨hu, _, ne⟩ := G.lt h1
      have := M.pos u v hu hv ne
      have := rk_lt (N := N) (D := D) (s := s) (u := u) (v := v) hu (by grind)
      exact Kk.adj h1 (found_all M G P hs k u hu (by omega))
theorem keys_len {N : Nat} {fd : Fnd} (h1 : (fd.map (·.1)).Nodup) (h2 : ∀ p ∈ fd, ∃ v : Nat, v < N ∧ p.1 = (v : Int)) (h3 : ∀ v, v < N → Kk fd v) : fd.length = N := by
  have a1 : (fd.map (·.1)).length ≤ ((List.range N).map fun (x : Nat) => (x : Int)).length := h1.length_le_of_subset fun x hx => by
    obtain ⟨p, hp, rfl⟩ := List.mem_map.mp hx
    obtain ⟨v, hv, e⟩ := h2 p hp
    exact List.mem_map.mpr ⟨v, List.mem_range.mpr hv, e.symm⟩
  have nd : ((List.range N).map fun (x : Nat) => (x : Int)).Nodup := by
    rw [List.nodup_iff_pairwise_ne, List.pairwise_map]
    exact (List.nodup_iff_pairwise_ne.mp List.nodup_range).imp (by intro a b h e; omega)
  have a2 := nd.length_le_of_subset (l₂ := fd.map (·.1)) fun x hx => by
    obtain ⟨v, hv, rfl⟩ := List.mem_map.mp hx
    obtain ⟨q, hq⟩ := h3 v (List.mem_range.mp hv)
    exact List.mem_map.mpr ⟨_, hq, rfl⟩
  simp only [List.length_map, List.length_range] at a1 a2
  omega
theorem fget_of {N : Nat} {D : Nat → Nat → Rat} {es : List Edge} {s : Nat} {fd : Fnd} (F : FdT N D es s fd) {v : Nat} (h : Kk fd v) : fget fd v = some (D s v) := by
  cases q : fget fd v with
  | none => exact absurd h (fgetNone.mp q)
  | some q' => rw [(F.get q).2]
theorem ways_all {N : Nat} {D : Nat → Nat → Rat} {es : List Edge} {s : Nat} (M : MetC N D) (G : EsG N D es) (P : Par N D es) (hs : s < N) : (waysN es s N).length = N ∧ ∀ v, v < N → fget (waysN es s N) v = some (D s v) := by
  have F := waysT M G hs N
  have A : ∀ v, v < N → Kk (waysN es s N) v := fun v hv => found_all M G P hs N v hv rk_n
  exact ⟨keys_len F.nd (fun p hp => by obtain ⟨v, hv, e⟩ := F.val p hp; exact ⟨v, hv, by rw [e]⟩) A, fun v hv => fget_of F (A v hv)⟩
end MP
/-! MRB -/
namespace MP
/-! the edges of a tree metric whose medians are there -/
structure TrD (N : Nat) (D : Nat → Nat → Rat) : Prop where
  met : MetC N D
  med : ∀ x y z, x < N → y < N → z < N → ∃ m, m < N ∧ D x m + D m y = D x y ∧ D y m + D m z = D y z ∧ D x m + D m z = D x z
section
variable {N : Nat} {D : Nat → Nat → Rat}
theorem btw_false {x y : Nat} : btw N D x y = false ↔ ∀ z, z < N → z ≠ x → z ≠ y → D x z + D z y ≠ D x y := by
  unfold btw
  rw [List.any_eq_false]
  constructor
  · intro h z hz h1 h2 e
    refine h z (List.mem_filter.mpr ⟨List.mem_range.mpr hz, ?_⟩) (decide_eq_true e)
    simp
    omega
  · intro h z hz e
    obtain ⟨hz1, hz2⟩ := List.mem_filter.mp hz
    simp at hz2
    exact h z (List.mem_range.mp hz1) (by omega) (by omega) (of_decide_eq_true e)
theorem mem_edgesF {e : Edge} : e ∈ edgesF N D ↔ ∃ x y : Nat, x < y ∧ y < N ∧ btw N D x y = false ∧ e = ((x : Int), (y : Int), D x y) := by
  unfold edgesF
  simp only [List.mem_flatMap, List.mem_map, List.mem_filter, List.mem_range, mem_rng]
  constructor
  · rintro ⟨x, hx, y, ⟨⟨h1, h2⟩, h3⟩, rfl⟩
    exact ⟨x, y, by omega, h2, by simpa using h3, rfl⟩
  · rintro ⟨x, y, h1, h2, h3, rfl⟩
    exact ⟨x, by omega, y, ⟨⟨by omega, h2⟩, by simpa using h3⟩, rfl⟩
theorem btw_symm (M : MetC N D) {x y : Nat} (hx : x < N) (hy : y < N) (h : btw N D x y = false) : btw N D y x = false := by
  rw [btw_false] at h ⊢
  intro z hz h1 h2 e
  refine h z hz h2 h1 ?_
  rw [M.symm x z hx hz, M.symm z y hz hy, M.symm x y hx hy]
  grind
theorem adj_edgesF (M : MetC N D) {u v : Nat} : Adj (edgesF N D) u v ↔ u < N ∧ v < N ∧ u ≠ v ∧ btw N D u v = false := by
  constructor
  · rintro ⟨e, he, h⟩
    obtain ⟨x, y, h1, h2, h3, rfl⟩ := mem_edgesF.mp he
    simp only at h
    rcases h with ⟨e1, e2⟩ | ⟨e1, e2⟩
    · have e1 : x = u := by omega
      have e2 : y = v := by omega
      subst e1 e2
      exact ⟨by omega, h2, by omega, h3⟩
    · have e1 : x = v := by omega
      have e2 : y = u := by omega
      subst e1 e2
      exact ⟨h2, by omega, by omega, btw_symm M (by omega) h2 h3⟩
  · rintro ⟨hu, hv, ne, hb⟩
    rcases Nat.lt_or_gt_of_ne ne with h | h
    · exact ⟨_, mem_edgesF.mpr ⟨u, v, h, hv, hb, rfl⟩, .inl ⟨rfl, rfl⟩⟩
    · exact ⟨_, mem_edgesF.mpr ⟨v, u, h, hu, btw_symm M hu hv hb, rfl⟩, .inr ⟨rfl, rfl⟩⟩
theorem TrD.esG (T : TrD N D) : EsG N D (edgesF N D) := by
  have M := T.met
  refine ⟨fun e he => ?_, fun u v h w hw => ?_⟩
  · obtain ⟨x, y, h1, h2, h3, rfl⟩ := mem_edgesF.mp he
    exact ⟨x, y, rfl, by omega, h2, by omega⟩
  · obtain ⟨hu, hv, ne, hb⟩ := (adj_edgesF M).mp h
    obtain ⟨m, hm, e1, e2, e3⟩ := T.med w u v hw hu hv
    have hb := btw_false.mp hb m hm
    by_cases q1 : m = u
    · subst q1
      exact .inl e3
    · by_cases q2 : m = v
      · subst q2
        refine .inr ?_
        exact e1
      · exact absurd e2 (hb q1 q2)
theorem min_ex (P : Nat → Prop) (g : Nat → Rat) : ∀ n, (∃ u, u < n ∧ P u) → ∃ u, u < n ∧ P u ∧ ∀ z, z < n → P z → g u ≤ g z
  | 0, h => by obtain ⟨u, h, _⟩ := h; omega
  | n + 1, h => by
    by_cases q : ∃ u, u < n ∧ P u
    · obtain ⟨u, h1, h2, h3⟩ := min_ex P g n q
      by_cases hn : P n ∧ g n < g u
      · refine ⟨n, by omega, hn.1, fun z hz pz => ?_⟩
        by_cases e : z = n
        · subst e; exact Rat.le_refl
        · have := h3 z (by omega) pz
          grind
      · refine ⟨u, by omega, h2, fun z hz pz => ?_⟩
        by_cases e : z = n
        · subst e
          have : ¬ g z < g u := fun h => hn ⟨pz, h⟩
          grind
        · exact h3 z (by omega) pz
    · obtain ⟨u, h1, h2⟩ := h
      have e : u = n := by
        by_cases e : u = n
        · exact e
        · exact absurd ⟨u, by omega, h2⟩ q
      subst e
      refine ⟨u, h1, h2, fun z hz pz => ?_⟩
      by_cases e : z = u
      · subst e; exact Rat.le_refl
      · exact absurd ⟨z, by omega, pz⟩ q
theorem MetC.par (M : MetC N D) : Par N D (edgesF N D) := by
  intro s v hs hv ne
  obtain ⟨u, hu, ⟨h1, h2⟩, h3⟩ := min_ex (fun u => u ≠ v ∧ D s u + D u v = D s v) (fun u => D u v) N ⟨s, hs, Ne.symm ne, by rw [M.zero s hs]; grind⟩
  refine ⟨u, (adj_edgesF M).mpr ⟨hu, hv, h1, btw_false.mpr fun z hz q1 q2 e => ?_⟩, h2⟩
  have t1 := M.tri s u z hs hu hz
  have t2 := M.tri s z v hs hz hv
  have p := M.pos u z hu hz (Ne.symm q1)
  have := h3 z hz ⟨q2, by grind⟩
  grind
theorem TrD.conn (T : TrD N D) : Conn N (edgesF N D) := by
  intro S x hx hS hcl
  have M := T.met
  have key : ∀ k y, y < N → rk N D x y < k → S y := by
    intro k
    induction k with
    | zero => intro y hy h; omega
    | succ k ih =>
      intro y hy h
      by_cases e : y = x
      · rw [e]; exact hS
      · obtain ⟨u, h1, h2⟩ := M.par x y hx hy e
        obtain ⟨hu, _, ne, _⟩ := (adj_edgesF M).mp h1
        have := M.pos u y hu hy ne
        have := rk_lt (N := N) (D := D) (s := x) (u := u) (v := y) hu (by grind)
        exact hcl u y h1 (ih u hu (by omega))
  exact fun y hy => key (rk N D x y + 1) y hy (by omega)
/-! ### how many edges -/
theorem range_sorted (n : Nat) : (List.range n).Pairwise (· < ·) := List.pairwise_lt_range
theorem rng_sorted (lo hi : Nat) : (rng lo hi).Pairwise (· < ·) := by
  unfold rng
  rw [List.pairwise_map]
  exact (range_sorted _).imp (by intro a b h; omega)
theorem edges_sorted : (edgesF N D).Pairwise eLt := by
  unfold edgesF
  rw [List.pairwise_flatMap]
  refine ⟨fun x _ => ?_, (range_sorted N).imp ?_⟩
  · rw [List.pairwise_map]
    exact ((rng_sorted _ _).filter _).imp (by intro a b h; right; exact ⟨rfl, by show (a : Int) < (b : Int); omega⟩)
  · intro a b h e he e' he'
    obtain ⟨y, _, rfl⟩ := List.mem_map.mp he
    obtain ⟨y', _, rfl⟩ := List.mem_map.mp he'
    left
    show (a : Int) < (b : Int)
    omega
def far0 (D : Nat → Nat → Rat) (e : Edge) : Nat := if D 0 e.1.toNat < D 0 e.2.1.toNat then e.2.1.toNat else e.1.toNat
theorem far0_spec (T : TrD N D) (h0 : 0 < N) {e : Edge} (he : e ∈ edgesF N D) : ∃ u v : Nat, far0 D e = v ∧ Adj (edgesF N D) u v ∧ D 0 u + D u v = D 0 v ∧ (e = ((u : Int), (v : Int), D u v) ∨ e = ((v : Int), (u : Int), D v u)) := by
  have M := T.met
  obtain ⟨x, y, h1, h2, h3, rfl⟩ := mem_edgesF.mp he
  have ha : Adj (edgesF N D) x y := ⟨_, he, .inl ⟨rfl, rfl⟩⟩
  have hx : x < N := by omega
  have p1 := M.pos x y hx h2 (by omega)
  have p2 := M.pos y x h2 hx (by omega)
  unfold far0
  simp only [Int.toNat_natCast]
  rcases T.esG.E x y ha 0 h0 with e | e
  · rw [if_pos (by grind)]
    exact ⟨x, y, rfl, ha, e, .inl rfl⟩
  · rw [if_neg (by grind)]
    exact ⟨y, x, rfl, ha.symm, e, .inr rfl⟩
theorem TrD.len (T : TrD N D) (h0 : 0 < N) : (edgesF N D).length + 1 = N := by
  have M := T.met
  have nd : ((edgesF N D).map (far0 D)).Nodup := by
    rw [List.nodup_iff_pairwise_ne, List.pairwise_map]
    refine (edges_sorted (N := N) (D := D)).imp_of_mem fun {e e'} he he' hlt hf => ?_
    obtain ⟨u, v, f1, a1, b1, c1⟩ := far0_spec T h0 he
    obtain ⟨u', v', f2, a2, b2, c2⟩ := far0_spec T h0 he'
    have : v = v' := by rw [← f1, ← f2]; exact hf
    subst this
    have : u = u' := par_uniq M T.esG h0 a1 a2 b1 b2
    subst this
    obtain ⟨x, y, h1, h2, h3, rfl⟩ := mem_edgesF.mp he
    obtain ⟨x', y', h1', h2', h3', rfl⟩ := mem_edgesF.mp he'
    unfold eLt at hlt
    simp only [Prod.mk.injEq] at c1 c2 hlt
    omega
  have s1 := nd.length_le_of_subset (l₂ := rng 1 N) fun v hv => by
    obtain ⟨e, he, rfl⟩ := List.mem_map.mp hv
    obtain ⟨u, v, f1, a1, b1, c1⟩ := far0_spec T h0 he
    obtain ⟨hu, hv, ne, _⟩ := (adj_edgesF M).mp a1
    rw [f1, mem_rng]
    refine ⟨?_, hv⟩
    by_cases z : v = 0
    · subst z
      have := M.pos 0 u h0 hu (Ne.symm ne)
      have := M.pos u 0 hu h0 ne
      have := M.zero 0 h0
      exfalso; grind
    · omega
  have nr : (rng 1 N).Nodup := (rng_sorted 1 N).imp (by intro a b h; omega)
  have s2 := nr.length_le_of_subset (l₂ := (edgesF N D).map (far0 D)) fun v hv => by
    obtain ⟨h1, hv⟩ := mem_rng.mp hv
    obtain ⟨u, ha, hb⟩ := M.par 0 v h0 hv (by omega)
    obtain ⟨e, he, hh⟩ := id ha
    obtain ⟨u', v', f1, a1, b1, c1⟩ := far0_spec T h0 he
    obtain ⟨hu, _, ne, _⟩ := (adj_edgesF M).mp ha
    obtain ⟨hu', hv', ne', _⟩ := (adj_edgesF M).mp a1
    refine List.mem_map.mpr ⟨e, he, ?_⟩
    rw [f1]
    by_cases z : v' = v
    · exact z
    · have e1 : u' = v ∧ v' = u := by
        rcases c1 with rfl | rfl <;> simp only at hh <;> omega
      obtain ⟨rfl, rfl⟩ := e1
      have := M.pos u' v' hv hu (by omega)
      have := M.pos v' u' hu hv ne
      exfalso; grind
  have : (rng 1 N).length = N - 1 := by simp [rng]
  rw [List.length_map] at s1 s2
  omega
/-! ### degrees -/
def eOf (D : Nat → Nat → Rat) (u v : Nat) : Edge := if u < v then ((u : Int), (v : Int), D u v) else ((v : Int), (u : Int), D v u)
theorem adj_eOf (M : MetC N D) {u v : Nat} (h : Adj (edgesF N D) u v) : eOf D u v ∈ edgesF N D := by
  obtain ⟨hu, hv, ne, hb⟩ := (adj_edgesF M).mp h
  unfold eOf
  split
  · exact mem_edgesF.mpr ⟨u, v, by omega, hv, hb, rfl⟩
  · exact mem_edgesF.mpr ⟨v, u, by omega, hu, btw_symm M hu hv hb, rfl⟩
theorem eOf_ne {u u' v : Nat} (h : u ≠ u') : eOf D u v ≠ eOf D u' v := by
  intro e
  unfold eOf at e
  split at e <;> split at e <;> simp only [Prod.mk.injEq] at e <;> omega
theorem eOf_in {u v : Nat} : decide ((v : Int) ∈ [(eOf D u v).1, (eOf D u v).2.1]) = true := by
  unfold eOf
  split <;> simp
theorem deg_pos (M : MetC N D) {s v : Nat} (hs : s < N) (hv : v < N) (ne : v ≠ s) : 1 ≤ degF (edgesF N D) v := by
  obtain ⟨u, h1, _⟩ := M.par s v hs hv ne
  exact List.length_pos_iff_exists_mem.mpr ⟨_, List.mem_filter.mpr ⟨adj_eOf M h1, eOf_in⟩⟩
theorem deg_three (M : MetC N D) {v a b c : Nat} (hv : v < N) (ha : a < N) (hb : b < N) (hc : c < N) (na : v ≠ a) (nb : v ≠ b) (nc : v ≠ c)
    (eab : D a v + D v b = D a b) (ebc : D b v + D v c = D b c) (eac : D a v + D v c = D a c) : 3 ≤ degF (edgesF N D) v := by
  have key : ∀ {a b u : Nat}, a < N → b < N → D a v + D v b = D a b → Adj (edgesF N D) u v → D a u + D u v = D a v → D b u + D u v = D b v → False := by
    intro a b u ha hb e h e1 e2
    obtain ⟨hu, _, ne, _⟩ := (adj_edgesF M).mp h
    have t := M.tri a u b ha hu hb
    have s1 := M.symm b u hb hu
    have s2 := M.symm b v hb hv
    have p := M.pos u v hu hv ne
    grind
  obtain ⟨x, hx, ex⟩ := M.par a v ha hv na
  obtain ⟨y, hy, ey⟩ := M.par b v hb hv nb
  obtain ⟨z, hz, ez⟩ := M.par c v hc hv nc
  have nxy : x ≠ y := fun e => by subst e; exact key ha hb eab hx ex ey
  have nyz : y ≠ z := fun e => by subst e; exact key hb hc ebc hy ey ez
  have nxz : x ≠ z := fun e => by subst e; exact key ha hc eac hx ex ez
  have nd : [eOf D x v, eOf D y v, eOf D z v].Nodup := by
    simp [eOf_ne nxy, eOf_ne nyz, eOf_ne nxz]
  exact nd.length_le_of_subset fun e he => by
    simp only [List.mem_cons, List.not_mem_nil, or_false] at he
    rcases he with rfl | rfl | rfl
    · exact List.mem_filter.mpr ⟨adj_eOf M hx, eOf_in⟩
    · exact List.mem_filter.mpr ⟨adj_eOf M hy, eOf_in⟩
    · exact List.mem_filter.mpr ⟨adj_eOf M hz, eOf_in⟩
def sumN (g : Nat → Nat) : Nat → Nat
  | 0 => 0
  | n + 1 => sumN g n + g n
theorem sumN_congr {g h : Nat → Nat} : ∀ n, (∀ x, x < n → g x = h x) → sumN g n = sumN h n
  | 0, _ => rfl
  | n + 1, e => by
    show sumN g n + g n = sumN h n + h n
    rw [sumN_congr n fun x hx => e x (by omega), e n (by omega)]
theorem sumN_add {g h : Nat → Nat} : ∀ n, sumN (fun x => g x + h x) n = sumN g n + sumN h n
  | 0 => rfl
  | n + 1 => by
    show sumN (fun x => g x + h x) n + (g n + h n) = (sumN g n + g n) + (sumN h n + h n)
    rw [sumN_add n]
    omega
theorem sumN_zero : ∀ n, sumN (fun _ => 0) n = 0
  | 0 => rfl
  | n + 1 => by show sumN (fun _ => 0) n + 0 = 0; rw [sumN_zero n]
theorem sumN_one (a : Nat) : ∀ n, sumN (fun x => if x = a then 1 else 0) n = if a < n then 1 else 0
  | 0 => by rw [if_neg (by omega)]; rfl
  | n + 1 => by
    show sumN (fun x => if x = a then 1 else 0) n + (if n = a then 1 else 0) = _
    rw [sumN_one a n]
    split <;> split <;> split <;> omega
theorem handshake {N : Nat} : ∀ (es : List Edge), (∀ e ∈ es, ∃ u v : Nat, e.1 = (u : Int) ∧ e.2.1 = (v : Int) ∧ u < N ∧ v < N ∧ u ≠ v) → sumN (fun x => degF es (x : Int)) N = 2 * es.length
  | [], _ => by
    show sumN (fun x => 0) N = 0
    exact sumN_zero N
  | e :: es, h => by
    have ih := handshake es fun e' he' => h e' (List.mem_cons_of_mem _ he')
    obtain ⟨u, v, h1, h2, hu, hv, ne⟩ := h e (List.mem_cons_self ..)
    have e1 : sumN (fun x => degF (e :: es) (x : Int)) N = sumN (fun x => ((if x = u then 1 else 0) + (if x = v then 1 else 0)) + degF es (x : Int)) N := by
      refine sumN_congr N fun x hx => ?_
      unfold degF
      rw [List.filter_cons, h1, h2]
      by_cases q1 : x = u
      · subst q1
        rw [if_pos (by simp), if_pos rfl, if_neg (by omega), List.length_cons]
        omega
      · by_cases q2 : x = v
        · subst q2
          rw [if_pos (by simp), if_neg q1, if_pos rfl, List.length_cons]
          omega
        · rw [if_neg (by simp; omega), if_neg q1, if_neg q2]
          omega
    rw [e1, sumN_add, sumN_add, sumN_one, sumN_one, if_pos hu, if_pos hv, ih, List.length_cons]
    omega
theorem sumN_ge {g : Nat → Nat} (n : Nat) (h1 : ∀ x, 1 ≤ g x ∨ True) : True := trivial
theorem sumN_lo {g : Nat → Nat} {n : Nat} : ∀ N, (∀ x, x < N → 1 ≤ g x) → (∀ x, n ≤ x → x < N → 3 ≤ g x) → N + 2 * (N - n) ≤ sumN g N
  | 0, _, _ => by omega
  | N + 1, h1, h3 => by
    have ih := sumN_lo N (fun x hx => h1 x (by omega)) (fun x hn hx => h3 x hn (by omega))
    show _ ≤ sumN g N + g N
    have a := h1 N (by omega)
    by_cases q : n ≤ N
    · have := h3 N q (by omega)
      omega
    · omega
theorem TrD.few (T : TrD N D) {n : Nat} (h0 : 1 ≤ n) (hn : n ≤ N) (h3 : ∀ x, n ≤ x → x < N → 3 ≤ degF (edgesF N D) (x : Int)) : N ≤ 2 * n := by
  have M := T.met
  by_cases q : N ≤ 1
  · omega
  · have hs := handshake (N := N) (edgesF N D) fun e he => by
      obtain ⟨x, y, h1, h2, _, rfl⟩ := mem_edgesF.mp he
      exact ⟨x, y, rfl, rfl, by omega, h2, by omega⟩
    have hl := T.len (by omega)
    have lo := sumN_lo (g := fun x => degF (edgesF N D) (x : Int)) (n := n) N (fun x hx => by
      by_cases z : x = 0
      · exact deg_pos M (s := 1) (by omega) hx (by omega)
      · exact deg_pos M (s := 0) (by omega) hx z) h3
    omega
end
end MP
/-! MRC -/
namespace MP
/-! heights and meets -/
structure Mu (N : Nat) (H : Nat → Rat) (μ : Nat → Nat → Rat) : Prop where
  symm : ∀ u v, u < N → v < N → μ u v = μ v u
  self : ∀ u, u < N → μ u u = H u
  le : ∀ u v, u < N → v < N → μ u v ≤ H u
  ult : ∀ u v w, u < N → v < N → w < N → μ u v ≤ μ u w ∨ μ v w ≤ μ u w
  sep : ∀ u v, u < N → v < N → u ≠ v → 0 < H u + H v - 2 * μ u v
  meet : ∀ u v, u < N → v < N → ∃ m, m < N ∧ H m = μ u v ∧ μ m u = H m ∧ μ m v = H m
section
variable {N : Nat} {H : Nat → Rat} {μ : Nat → Nat → Rat}
abbrev dMu (H : Nat → Rat) (μ : Nat → Nat → Rat) (u v : Nat) : Rat := H u + H v - 2 * μ u v
theorem Mu.betw (M : Mu N H μ) {s v u : Nat} (hs : s < N) (hv : v < N) (hu : u < N) (h : dMu H μ s u + dMu H μ u v = dMu H μ s v) : (μ s u = H u ∧ μ s v = μ u v) ∨ (μ u v = H u ∧ μ s v = μ s u) := by
  have a := M.le u s hu hs
  have b := M.le u v hu hv
  have c := M.symm u s hu hs
  have d := M.ult s u v hs hu hv
  unfold dMu at h
  grind
theorem Mu.metC (M : Mu N H μ) : MetC N (dMu H μ) := by
  refine ⟨fun x y hx hy => ?_, fun x hx => ?_, fun x y hx hy e => M.sep x y hx hy e, fun x y z hx hy hz => ?_, fun s v u x hs hv hu hx h1 h2 h3 => ?_⟩
  · have := M.symm x y hx hy
    unfold dMu; grind
  · have := M.self x hx
    unfold dMu; grind
  · have a := M.ult x y z hx hy hz
    have b := M.le y x hy hx
    have c := M.le y z hy hz
    have d := M.symm x y hx hy
    unfold dMu; grind
  · have b1 := M.betw hs hv hu h1
    have b2 := M.betw hs hv hx h2
    unfold dMu at h1 h2 h3 ⊢
    have l1 := M.le u x hu hx
    have l2 := M.le x u hx hu
    have l3 := M.le u s hu hs
    have l4 := M.le u v hu hv
    have l5 := M.le x s hx hs
    have l6 := M.le x v hx hv
    have y1 := M.symm u x hu hx
    have y2 := M.symm u s hu hs
    have y3 := M.symm u v hu hv
    have y4 := M.symm x s hx hs
    have y5 := M.symm x v hx hv
    have t1 := M.ult u s x hu hs hx
    have t2 := M.ult u v x hu hv hx
    have t3 := M.ult s u x hs hu hx
    have t4 := M.ult s x u hs hx hu
    have t5 := M.ult v u x hv hu hx
    have t6 := M.ult v x u hv hx hu
    rcases b1 with ⟨b1, c1⟩ | ⟨b1, c1⟩ <;> rcases b2 with ⟨b2, c2⟩ | ⟨b2, c2⟩ <;> grind
theorem Mu.trD (M : Mu N H μ) : TrD N (dMu H μ) := by
  refine ⟨M.metC, fun x y z hx hy hz => ?_⟩
  have key : ∀ {x y z : Nat}, x < N → y < N → z < N → μ x z ≤ μ x y → μ y z ≤ μ x y → ∃ m, m < N ∧ dMu H μ x m + dMu H μ m y = dMu H μ x y ∧ dMu H μ y m + dMu H μ m z = dMu H μ y z ∧ dMu H μ x m + dMu H μ m z = dMu H μ x z := by
    intro x y z hx hy hz q1 q2
    obtain ⟨m, hm, e1, e2, e3⟩ := M.meet x y hx hy
    refine ⟨m, hm, ?_⟩
    unfold dMu
    have y1 := M.symm x m hx hm
    have y2 := M.symm y m hy hm
    have y3 := M.symm x y hx hy
    have t1 := M.ult m x z hm hx hz
    have t2 := M.ult x m z hx hm hz
    have t3 := M.ult m y z hm hy hz
    have t4 := M.ult y m z hy hm hz
    have t5 := M.ult x y z hx hy hz
    have t6 := M.ult y x z hy hx hz
    have l1 := M.le m z hm hz
    grind
  have sy := M.metC.symm
  have q1 := M.symm x y hx hy
  have q2 := M.symm x z hx hz
  have q3 := M.symm y z hy hz
  by_cases c1 : μ x z ≤ μ x y ∧ μ y z ≤ μ x y
  · exact key hx hy hz c1.1 c1.2
  · by_cases c2 : μ x y ≤ μ x z ∧ μ z y ≤ μ x z
    · obtain ⟨m, hm, a, b, c⟩ := key hx hz hy c2.1 c2.2
      refine ⟨m, hm, c, ?_, a⟩
      rw [sy y m hy hm, sy m z hm hz, sy y z hy hz]
      grind
    · obtain ⟨m, hm, a, b, c⟩ := key (x := y) (y := z) (z := x) hy hz hx (by grind) (by grind)
      refine ⟨m, hm, ?_, a, ?_⟩
      · rw [sy x m hx hm, sy m y hm hy, sy x y hx hy]; grind
      · rw [sy x m hx hm, sy m z hm hz, sy x z hx hz]; grind
end
end MP
/-! MRD -/
namespace MP
/-! the places of a metric with the four point condition are a tree -/
def mn (a b : Rat) : Rat := if a ≤ b then a else b
theorem foldInv {α β : Type} {P : α → Prop} {g : α → β → α} : ∀ (l : List β) (a : α), P a → (∀ a x, x ∈ l → P a → P (g a x)) → P (l.foldl g a)
  | [], _, h, _ => h
  | x :: l, a, h, hs => foldInv l (g a x) (hs a x (List.mem_cons_self ..) h) fun a y hy => hs a y (List.mem_cons_of_mem _ hy)
theorem gmax_ge {q : Rat} {qs : List Rat} : q ≤ gmax q qs ∧ ∀ x ∈ qs, x ≤ gmax q qs := by
  induction qs generalizing q with
  | nil => exact ⟨Rat.le_refl, fun x h => nomatch h⟩
  | cons y qs ih =>
    have e : gmax q (y :: qs) = gmax (if q < y then y else q) qs := rfl
    obtain ⟨h1, h2⟩ := ih (q := if q < y then y else q)
    rw [e]
    refine ⟨by split at h1 <;> grind, fun x hx => ?_⟩
    rcases List.mem_cons.mp hx with rfl | hx
    · split at h1 <;> grind
    · exact h2 x hx
theorem gmax_in {q : Rat} {qs : List Rat} : gmax q qs = q ∨ gmax q qs ∈ qs := by
  induction qs generalizing q with
  | nil => exact .inl rfl
  | cons x qs ih =>
    show gmax (if q < x then x else q) qs = q ∨ gmax (if q < x then x else q) qs ∈ x :: qs
    rcases ih (q := if q < x then x else q) with h | h
    · rw [h]
      split
      · exact .inr (List.mem_cons_self ..)
      · exact .inl rfl
    · exact .inr (List.mem_cons_of_mem _ h)
theorem gapF_spec {l1 l2 : List Rat} {d : Rat} (h1 : ∀ k, k < l1.length → rabs (l1.getD k 0 - l2.getD k 0) ≤ d) (h2 : ∃ k, k < l1.length ∧ rabs (l1.getD k 0 - l2.getD k 0) = d) : gapF l1 l2 = d := by
  obtain ⟨k, hk, e⟩ := h2
  have hm : d ∈ gapL l1 l2 := List.mem_map.mpr ⟨k, List.mem_range.mpr hk, e⟩
  have hle : ∀ x ∈ gapL l1 l2, x ≤ d := fun x hx => by
    obtain ⟨k, hk, rfl⟩ := List.mem_map.mp hx
    exact h1 k (List.mem_range.mp hk)
  have hne : (gapL l1 l2).headD 0 ∈ gapL l1 l2 := by
    cases q : gapL l1 l2 with
    | nil => rw [q] at hm; cases hm
    | cons a b => exact List.mem_cons_self ..
  have a1 := (gmax_ge (q := (gapL l1 l2).headD 0) (qs := gapL l1 l2)).2 d hm
  have a2 : gapF l1 l2 ∈ gapL l1 l2 := by
    unfold gapF
    rcases gmax_in (q := (gapL l1 l2).headD 0) (qs := gapL l1 l2) with e | e
    · rw [e]; exact hne
    · exact e
  have a3 := hle _ a2
  unfold gapF at a3 ⊢
  grind
theorem max3_eq (a b c d : Rat) (ha : a ≤ d) (hb : b ≤ d) (hc : c ≤ d) (h : d = a ∨ d = b ∨ d = c) : max3 a b c = d := by
  unfold max3
  have h1 := (gmax_ge (q := a) (qs := [a, b, c])).2
  have h2 := gmax_in (q := a) (qs := [a, b, c])
  have e1 := h1 a (by simp)
  have e2 := h1 b (by simp)
  have e3 := h1 c (by simp)
  simp only [List.mem_cons, List.not_mem_nil, or_false] at h2
  grind
/-! ### products at the point 0 -/
def gr (f : Nat → Nat → Rat) (a b : Nat) : Rat := (f 0 a + f 0 b - f a b) / 2
section
variable {n : Nat} {f : Nat → Nat → Rat}
theorem four_three (hm : IsMet n f) (h4 : Four n f) {a b c : Nat} (h0 : 0 < a) (h1 : a < b) (h2 : b < c) (h3 : c < n) :
    (f 0 a + f b c ≤ f 0 b + f a c ∨ f 0 a + f b c ≤ f 0 c + f a b) ∧ (f 0 b + f a c ≤ f 0 a + f b c ∨ f 0 b + f a c ≤ f 0 c + f a b) ∧ (f 0 c + f a b ≤ f 0 a + f b c ∨ f 0 c + f a b ≤ f 0 b + f a c) := by
  have h := h4 (0, a, b, c) (mem_quads.mpr ⟨h0, h1, h2, h3⟩)
  unfold abv above3 at h
  simp only [Bool.or_eq_false_iff, Bool.and_eq_false_iff, decide_eq_false_iff_not] at h
  grind
theorem gr_ult (hm : IsMet n f) (h4 : Four n f) {a b c : Nat} (ha : a < n) (hb : b < n) (hc : c < n) : gr f a b ≤ gr f a c ∨ gr f b c ≤ gr f a c := by
  have h0 : 0 < n := by omega
  have key : f 0 b + f a c ≤ f 0 c + f a b ∨ f 0 b + f a c ≤ f 0 a + f b c := by
    have s1 := hm.symm a b ha hb
    have s2 := hm.symm a c ha hc
    have s3 := hm.symm b c hb hc
    have s4 := hm.symm 0 a h0 ha
    have s5 := hm.symm 0 b h0 hb
    have s6 := hm.symm 0 c h0 hc
    by_cases e1 : a = b
    · subst e1; right; grind
    by_cases e2 : b = c
    · subst e2; left; grind
    by_cases e3 : a = c
    · subst e3
      left
      have := hm.tri 0 a b h0 ha hb
      have := hm.zero a ha
      grind
    by_cases e4 : a = 0
    · subst e4; left; grind
    by_cases e5 : b = 0
    · subst e5
      left
      have := hm.tri a 0 c ha h0 hc
      have := hm.zero 0 h0
      grind
    by_cases e6 : c = 0
    · subst e6; right; grind
    have P := @four_three n f hm h4
    rcases Nat.lt_or_gt_of_ne e1 with q1 | q1 <;> rcases Nat.lt_or_gt_of_ne e2 with q2 | q2 <;> rcases Nat.lt_or_gt_of_ne e3 with q3 | q3 <;> first
      | omega
      | (have := P (a := a) (b := b) (c := c) (by omega) (by omega) (by omega) (by omega); grind)
      | (have := P (a := a) (b := c) (c := b) (by omega) (by omega) (by omega) (by omega); grind)
      | (have := P (a := b) (b := a) (c := c) (by omega) (by omega) (by omega) (by omega); grind)
      | (have := P (a := b) (b := c) (c := a) (by omega) (by omega) (by omega) (by omega); grind)
      | (have := P (a := c) (b := a) (c := b) (by omega) (by omega) (by omega) (by omega); grind)
      | (have := P (a := c) (b := b) (c := a) (by omega) (by omega) (by omega) (by omega); grind)
  unfold gr
  grind
theorem gr_symm (hm : IsMet n f) {a b : Nat} (ha : a < n) (hb : b < n) : gr f a b = gr f b a := by
  have := hm.symm a b ha hb
  unfold gr; grind
theorem gr_self (hm : IsMet n f) {a : Nat} (ha : a < n) : gr f a a = f 0 a := by
  have := hm.zero a ha
  unfold gr; grind
theorem gr_le (hm : IsMet n f) {a b : Nat} (ha : a < n) (hb : b < n) : gr f a b ≤ f 0 a := by
  have := hm.tri 0 a b (by omega) ha hb
  unfold gr; grind
theorem gr_zero (hm : IsMet n f) {a : Nat} (ha : a < n) : gr f a 0 = 0 := by
  have := hm.zero 0 (by omega)
  have := hm.symm 0 a (by omega) ha
  unfold gr; grind
theorem gr_nonneg (hm : IsMet n f) {a b : Nat} (ha : a < n) (hb : b < n) : 0 ≤ gr f a b := by
  have := hm.tri a 0 b ha (by omega) hb
  have := hm.symm 0 a (by omega) ha
  unfold gr; grind
theorem f_gr (a b : Nat) : f a b = f 0 a + f 0 b - 2 * gr f a b := by unfold gr; grind
/-- the place at the height of b's product on the way to a -/
def rowG (f : Nat → Nat → Rat) (a b w : Nat) : Rat := gr f a b + f 0 w - 2 * mn (gr f a b) (gr f a w)
def rowM (n : Nat) (f : Nat → Nat → Rat) (a b : Nat) : List Rat := (List.range n).map (rowG f a b)
theorem map_eq {g h : Nat → Rat} (e : ∀ w, w < n → g w = h w) : (List.range n).map g = (List.range n).map h := List.map_congr_left fun w hw => e w (List.mem_range.mp hw)
theorem row_pt (hm : IsMet n f) {x : Nat} (hx : x < n) : (List.range n).map (f x) = rowM n f x x := map_eq fun w hw => by
  have h1 := gr_self hm hx
  have h2 := gr_le hm hx hw
  have h3 := f_gr (f := f) x w
  unfold rowG mn
  split <;> grind
theorem row_med (hm : IsMet n f) (h4 : Four n f) {x y z : Nat} (hx : x < n) (hy : y < n) (hz : z < n) : ∃ a b, a < n ∧ b < n ∧ medR n f x y z = rowM n f a b := by
  have sy : ∀ {a b}, a < n → b < n → gr f a b = gr f b a := fun ha hb => gr_symm hm ha hb
  have U : ∀ {a b c}, a < n → b < n → c < n → gr f a b ≤ gr f a c ∨ gr f b c ≤ gr f a c := fun ha hb hc => gr_ult hm h4 ha hb hc
  have core : ∀ {x y z w : Nat}, x < n → y < n → z < n → w < n → gr f x z ≤ gr f x y → gr f y z ≤ gr f x y →
      (f w x - (f x y + f x z - f y z) / 2 ≤ rowG f x y w ∧ f w y - (f x y + f y z - f x z) / 2 ≤ rowG f x y w ∧ f w z - (f x z + f y z - f x y) / 2 ≤ rowG f x y w) ∧
      (rowG f x y w = f w x - (f x y + f x z - f y z) / 2 ∨ rowG f x y w = f w y - (f x y + f y z - f x z) / 2) := by
    intro x y z w hx hy hz hw q1 q2
    have a1 := f_gr (f := f) w x
    have a2 := f_gr (f := f) w y
    have a3 := f_gr (f := f) w z
    have a4 := f_gr (f := f) x y
    have a5 := f_gr (f := f) x z
    have a6 := f_gr (f := f) y z
    have b1 := sy hw hx
    have b2 := sy hw hy
    have b3 := sy hw hz
    have b4 := sy hx hy
    have b5 := sy hx hz
    have b6 := sy hy hz
    have c1 := U hx hy hz
    have c2 := U hy hx hz
    have c3 := U hx hy hw
    have c4 := U hy hx hw
    have c5 := U hx hw hy
    have c6 := U hx hz hw
    have c7 := U hw hx hz
    have c8 := U hx hw hz
    have c9 := U hy hz hw
    have c10 := U hy hw hz
    have e : gr f x z = gr f y z := by grind
    unfold rowG mn
    rw [a1, a2, a3, a4, a5, a6]
    generalize f 0 w = F0, f 0 x = F1, f 0 y = F2, f 0 z = F3 at *
    split <;> refine ⟨⟨?_, ?_, ?_⟩, ?_⟩ <;> grind
  have sf := hm.symm
  by_cases q1 : gr f x z ≤ gr f x y ∧ gr f y z ≤ gr f x y
  · refine ⟨x, y, hx, hy, map_eq fun w hw => ?_⟩
    obtain ⟨⟨a, b, c⟩, d⟩ := core hx hy hz hw q1.1 q1.2
    exact max3_eq _ _ _ _ a b c (by rcases d with d | d <;> simp [d])
  · by_cases q2 : gr f x y ≤ gr f x z ∧ gr f z y ≤ gr f x z
    · refine ⟨x, z, hx, hz, map_eq fun w hw => ?_⟩
      obtain ⟨⟨a, b, c⟩, d⟩ := core hx hz hy hw q2.1 q2.2
      rw [sf z y hz hy] at a b c d
      exact max3_eq _ _ _ _ (by grind) (by grind) (by grind) (by rcases d with d | d <;> grind)
    · refine ⟨y, z, hy, hz, map_eq fun w hw => ?_⟩
      have s1 := sy hx hy
      have s2 := sy hx hz
      have s3 := sy hy hz
      obtain ⟨⟨a, b, c⟩, d⟩ := core hy hz hx hw (by grind) (by grind)
      rw [sf y x hy hx, sf z x hz hx] at a b c d
      exact max3_eq _ _ _ _ (by grind) (by grind) (by grind) (by rcases d with d | d <;> grind)
/-! ### what stands among the places -/
theorem plZ_mono {x y z : Nat} {acc : List (List Rat)} {l : List Rat} (h : l ∈ acc) : l ∈ plZ n f x y acc z := by
  unfold plZ
  split
  · exact h
  · exact List.mem_append_left _ h
theorem plZ_new {x y z : Nat} {acc : List (List Rat)} : medR n f x y z ∈ plZ n f x y acc z := by
  unfold plZ
  split
  · assumption
  · exact List.mem_append_right _ (List.mem_singleton.mpr rfl)
theorem plY_mono {x y : Nat} {acc : List (List Rat)} {l : List Rat} (h : l ∈ acc) : l ∈ plY n f x acc y := foldInv (P := fun a => l ∈ a) _ _ h fun _ _ _ h => plZ_mono h
theorem plX_mono {x : Nat} {acc : List (List Rat)} {l : List Rat} (h : l ∈ acc) : l ∈ plX n f acc x := foldInv (P := fun a => l ∈ a) _ _ h fun _ _ _ h => plY_mono h
theorem foldGet {α β : Type} {g : α → β → α} {Q : α → Prop} {x : β} {l : List β} (hx : x ∈ l) (a : α) (new : ∀ a, Q (g a x)) (mono : ∀ a y, Q a → Q (g a y)) : Q (l.foldl g a) := by
  obtain ⟨l1, l2, rfl⟩ := List.append_of_mem hx
  rw [List.foldl_append, List.foldl_cons]
  exact foldInv l2 _ (new _) fun a y _ h => mono a y h
theorem med_places {x y z : Nat} (h1 : x < y) (h2 : y < z) (h3 : z < n) : medR n f x y z ∈ placesF n f :=
  foldGet (Q := fun a => medR n f x y z ∈ a) (x := x) (List.mem_range.mpr (by omega)) _ (fun a => foldGet (Q := fun a => medR n f x y z ∈ a) (x := y) (mem_rng.mpr ⟨by omega, by omega⟩) _ (fun a => foldGet (Q := fun a => medR n f x y z ∈ a) (x := z) (mem_rng.mpr ⟨by omega, by omega⟩) _ (fun a => plZ_new) fun a y h => plZ_mono h) fun a y h => plY_mono h) fun a y h => plX_mono h
theorem pt_places {x : Nat} (h : x < n) : (List.range n).map (f x) ∈ placesF n f :=
  foldInv (P := fun a => (List.range n).map (f x) ∈ a) _ _ (List.mem_map.mpr ⟨x, List.mem_range.mpr h, rfl⟩) fun _ _ _ h => plX_mono h
theorem places_of {P : List (List Rat) → Prop} (h0 : P (rows0 n f)) (hs : ∀ a x y z, x < n → y < n → z < n → P a → P (plZ n f x y a z)) : P (placesF n f) :=
  foldInv _ _ h0 fun a x hx ha => foldInv _ _ ha fun a y hy ha => foldInv _ _ ha fun a z hz ha => hs a x y z (List.mem_range.mp hx) (mem_rng.mp hy).2 (mem_rng.mp hz).2 ha
theorem places_pre : ∃ E, placesF n f = rows0 n f ++ E := by
  refine places_of (P := fun a => ∃ E, a = rows0 n f ++ E) ⟨[], by simp⟩ fun a x y z _ _ _ ⟨E, h⟩ => ?_
  unfold plZ
  split
  · exact ⟨E, h⟩
  · exact ⟨E ++ [medR n f x y z], by rw [h, List.append_assoc]⟩
theorem places_row (hm : IsMet n f) (h4 : Four n f) : ∀ l ∈ placesF n f, ∃ a b, a < n ∧ b < n ∧ l = rowM n f a b := by
  refine places_of (P := fun V => ∀ l ∈ V, ∃ a b, a < n ∧ b < n ∧ l = rowM n f a b) (fun l hl => ?_) fun V x y z hx hy hz h l hl => ?_
  · obtain ⟨x, hx, rfl⟩ := List.mem_map.mp hl
    have hx := List.mem_range.mp hx
    exact ⟨x, x, hx, hx, row_pt hm hx⟩
  · unfold plZ at hl
    split at hl
    · exact h l hl
    · rcases List.mem_append.mp hl with hl | hl
      · exact h l hl
      · rw [List.mem_singleton.mp hl]
        exact row_med hm h4 hx hy hz
theorem getM {g : Nat → Rat} {k : Nat} (h : k < n) : ((List.range n).map g).getD k 0 = g k := by
  rw [List.getD_eq_getElem?_getD, List.getElem?_map, List.getElem?_range h]
  rfl
theorem places_nodup (hm : IsMet n f) : (placesF n f).Nodup := by
  refine places_of (P := fun V => V.Nodup) ?_ fun V x y z _ _ _ h => ?_
  · unfold rows0
    rw [List.nodup_iff_pairwise_ne, List.pairwise_map]
    refine (range_sorted n).imp_of_mem fun {a b} ha hb hlt e => ?_
    have ha := List.mem_range.mp ha
    have hb := List.mem_range.mp hb
    have e1 : ((List.range n).map (f a)).getD a 0 = ((List.range n).map (f b)).getD a 0 := by rw [e]
    rw [getM ha, getM ha, hm.zero a ha] at e1
    have := hm.pos b a hb ha (by omega)
    grind
  · unfold plZ
    split
    · exact h
    · rename_i hn
      rw [List.nodup_append]
      refine ⟨h, by simp, fun a ha b hb e => ?_⟩
      rw [List.mem_singleton] at hb
      subst e hb
      exact hn ha
theorem rowG_comm (hm : IsMet n f) (h4 : Four n f) {a b w : Nat} (ha : a < n) (hb : b < n) (hw : w < n) : rowG f a b w = rowG f b a w := by
  have e := gr_symm hm ha hb
  have u1 := gr_ult hm h4 ha hb hw
  have u2 := gr_ult hm h4 hb ha hw
  unfold rowG mn
  rw [← e] at u2 ⊢
  split <;> split <;> grind
theorem row_places (hm : IsMet n f) (h4 : Four n f) {a b : Nat} (ha : a < n) (hb : b < n) : rowM n f a b ∈ placesF n f := by
  have h0 : 0 < n := by omega
  have lo : ∀ {a b : Nat}, 0 < a → a < b → b < n → rowM n f a b ∈ placesF n f := fun {a b} q1 q2 q3 => by
    have hl : a < n := by omega
    have hz1 := gr_zero hm hl
    have hz2 := gr_zero hm q3
    have s1 := gr_symm hm h0 hl
    have s2 := gr_symm hm h0 q3
    have e : medR n f 0 a b = rowM n f a b := by
      refine map_eq fun w hw => ?_
      have hzw := gr_zero hm hw
      have sw := gr_symm hm h0 hw
      have a1 := f_gr (f := f) w a
      have a2 := f_gr (f := f) w b
      have a3 := f_gr (f := f) w 0
      have a4 := f_gr (f := f) a b
      have z0 := hm.zero 0 h0
      have b1 := gr_symm hm hw hl
      have b2 := gr_symm hm hw q3
      have n1 := gr_nonneg hm hl q3
      have n2 := gr_nonneg hm hl hw
      have n3 := gr_nonneg hm q3 hw
      have c1 := gr_ult hm h4 hl q3 hw
      have c2 := gr_ult hm h4 q3 hl hw
      have c3 := gr_ult hm h4 hl hw q3
      have c4 := gr_symm hm hl q3
      unfold medF
      refine max3_eq _ _ _ _ ?_ ?_ ?_ ?_ <;> unfold rowG mn <;> split <;> grind
    rw [← e]
    exact med_places q1 q2 q3
  have z : ∀ {a b : Nat}, a < n → b < n → gr f a b = 0 → rowM n f a b ∈ placesF n f := fun {a b} ha hb e => by
    have : rowM n f a b = (List.range n).map (f 0) := map_eq fun w hw => by
      have := gr_nonneg hm ha hw
      unfold rowG mn
      rw [e]
      split <;> grind
    rw [this]
    exact pt_places h0
  by_cases e1 : a = 0
  · subst e1
    exact z ha hb (by rw [gr_symm hm ha hb, gr_zero hm hb])
  · by_cases e2 : b = 0
    · subst e2
      exact z ha hb (gr_zero hm ha)
    · rcases Nat.lt_trichotomy a b with q | q | q
      · exact lo (by omega) q hb
      · subst q
        rw [← row_pt hm ha]
        exact pt_places ha
      · have : rowM n f a b = rowM n f b a := map_eq fun w hw => rowG_comm hm h4 ha hb hw
        rw [this]
        exact lo (by omega) q ha
end
end MP
/-! MRE -/
namespace MP
/-! the tree of a metric: all that is asked of its edges -/
section
variable {n : Nat} {f : Nat → Nat → Rat}
theorem MetC.congr {N : Nat} {D D' : Nat → Nat → Rat} (h : ∀ x y, x < N → y < N → D x y = D' x y) (M : MetC N D) : MetC N D' := by
  refine ⟨fun x y hx hy => ?_, fun x hx => ?_, fun x y hx hy e => ?_, fun x y z hx hy hz => ?_, fun s v u x hs hv hu hx => ?_⟩
  · rw [← h x y hx hy, ← h y x hy hx]; exact M.symm x y hx hy
  · rw [← h x x hx hx]; exact M.zero x hx
  · rw [← h x y hx hy]; exact M.pos x y hx hy e
  · rw [← h x y hx hy, ← h y z hy hz, ← h x z hx hz]; exact M.tri x y z hx hy hz
  · rw [← h s u hs hu, ← h u v hu hv, ← h s v hs hv, ← h s x hs hx, ← h x v hx hv, ← h u x hu hx]; exact M.cmp s v u x hs hv hu hx
theorem TrD.congr {N : Nat} {D D' : Nat → Nat → Rat} (h : ∀ x y, x < N → y < N → D x y = D' x y) (T : TrD N D) : TrD N D' := by
  refine ⟨T.met.congr h, fun x y z hx hy hz => ?_⟩
  obtain ⟨m, hm, a, b, c⟩ := T.med x y z hx hy hz
  exact ⟨m, hm, by rw [← h x m hx hm, ← h m y hm hy, ← h x y hx hy]; exact a, by rw [← h y m hy hm, ← h m z hm hz, ← h y z hy hz]; exact b, by rw [← h x m hx hm, ← h m z hm hz, ← h x z hx hz]; exact c⟩
theorem rabs_le {p d : Rat} (h1 : p ≤ d) (h2 : -p ≤ d) : rabs p ≤ d := by unfold rabs; split <;> assumption
theorem rabs_of {p d : Rat} (h : 0 ≤ d) (e : p = d ∨ p = -d) : rabs p = d := by unfold rabs; split <;> grind
theorem rowM_get {a b w : Nat} (hw : w < n) : (rowM n f a b).getD w 0 = rowG f a b w := getM hw
theorem rowM_len {a b : Nat} : (rowM n f a b).length = n := by simp [rowM]
theorem rowG_at {a b w : Nat} (h : gr f a b ≤ gr f a w) : rowG f a b w = f 0 w - gr f a b := by
  unfold rowG mn; rw [if_pos h]; grind
/-- the gap of two places -/
theorem gap_rows (hm : IsMet n f) (h4 : Four n f) {a b c d : Nat} (ha : a < n) (hb : b < n) (hc : c < n) (hd : d < n) :
    gapF (rowM n f a b) (rowM n f c d) = gr f a b + gr f c d - 2 * mn (mn (gr f a b) (gr f c d)) (gr f a c) := by
  have h0 : 0 < n := by omega
  have sy : ∀ {a b}, a < n → b < n → gr f a b = gr f b a := fun ha hb => gr_symm hm ha hb
  have U : ∀ {a b c}, a < n → b < n → c < n → gr f a b ≤ gr f a c ∨ gr f b c ≤ gr f a c := fun ha hb hc => gr_ult hm h4 ha hb hc
  have sac := sy ha hc
  have l1 := gr_le hm ha hb
  have l2 := gr_le hm hc hd
  refine gapF_spec (fun k hk => ?_) ?_
  · rw [rowM_len] at hk
    rw [rowM_get hk, rowM_get hk]
    have u1 := U ha hc hk
    have u2 := U hc ha hk
    have u3 := U ha hk hc
    have s1 := sy hk hc
    refine rabs_le ?_ ?_ <;> unfold rowG mn <;> generalize f 0 k = F <;> split <;> split <;> split <;> grind
  · have n1 := gr_nonneg hm ha hb
    have n2 := gr_nonneg hm hc hd
    have n3 := gr_nonneg hm ha hc
    have e0 : ∀ {a b : Nat}, a < n → b < n → rowG f a b 0 = gr f a b := fun {a b} ha hb => by
      have := gr_zero hm ha
      have := gr_nonneg hm ha hb
      have := hm.zero 0 h0
      unfold rowG mn; split <;> grind
    by_cases q : gr f a b ≤ gr f c d ∧ gr f a b ≤ gr f a c ∨ gr f c d ≤ gr f a b ∧ gr f c d ≤ gr f a c
    · refine ⟨0, by rw [rowM_len]; exact h0, ?_⟩
      rw [rowM_get h0, rowM_get h0, e0 ha hb, e0 hc hd]
      unfold mn
      refine rabs_of ?_ ?_ <;> split <;> split <;> grind
    · refine ⟨a, by rw [rowM_len]; exact ha, ?_⟩
      rw [rowM_get ha, rowM_get ha, rowG_at (by rw [gr_self hm ha]; exact l1)]
      unfold rowG mn
      rw [sy hc ha]
      refine rabs_of ?_ ?_ <;> split <;> split <;> grind
/-- .. of a place and a point -/
theorem gap_pt (hm : IsMet n f) (h4 : Four n f) {a b x : Nat} (ha : a < n) (hb : b < n) (hx : x < n) : gapF (rowM n f a b) (rowM n f x x) = rowG f a b x := by
  rw [gap_rows hm h4 ha hb hx hx, gr_self hm hx]
  have := gr_le hm hx ha
  have := gr_symm hm ha hx
  have := gr_le hm ha hb
  unfold rowG mn
  split <;> (try split) <;> (try split) <;> grind
theorem places_tree (h0 : 1 ≤ n) (hm : IsMet n f) (h4 : Four n f) : TrD (placesF n f).length (Dm (placesF n f)) := by
  have hrow := places_row hm h4
  let V := placesF n f
  have hV : ∀ i, ∃ p : Nat × Nat, i < V.length → p.1 < n ∧ p.2 < n ∧ V.getD i [] = rowM n f p.1 p.2 := fun i => by
    by_cases hi : i < V.length
    · obtain ⟨a, b, ha, hb, e⟩ := hrow V[i] (List.getElem_mem hi)
      refine ⟨(a, b), fun _ => ⟨ha, hb, ?_⟩⟩
      rw [List.getD_eq_getElem?_getD, List.getElem?_eq_getElem hi]
      exact e
    · exact ⟨(0, 0), fun h => absurd h hi⟩
  obtain ⟨p, hp⟩ := Classical.axiomOfChoice hV
  let A : Nat → Nat := fun i => (p i).1
  let B : Nat → Nat := fun i => (p i).2
  have hA : ∀ i, i < V.length → A i < n := fun i hi => (hp i hi).1
  have hB : ∀ i, i < V.length → B i < n := fun i hi => (hp i hi).2.1
  have hR : ∀ i, i < V.length → V.getD i [] = rowM n f (A i) (B i) := fun i hi => (hp i hi).2.2
  let H : Nat → Rat := fun i => gr f (A i) (B i)
  let μ : Nat → Nat → Rat := fun i j => mn (mn (H i) (H j)) (gr f (A i) (A j))
  have sy : ∀ {a b}, a < n → b < n → gr f a b = gr f b a := fun ha hb => gr_symm hm ha hb
  have U : ∀ {a b c}, a < n → b < n → c < n → gr f a b ≤ gr f a c ∨ gr f b c ≤ gr f a c := fun ha hb hc => gr_ult hm h4 ha hb hc
  have hH : ∀ i, i < V.length → H i ≤ f 0 (A i) := fun i hi => gr_le hm (hA i hi) (hB i hi)
  have hM : Mu V.length H μ := by
    refine ⟨fun u v hu hv => ?_, fun u hu => ?_, fun u v hu hv => ?_, fun u v w hu hv hw => ?_, fun u v hu hv ne => ?_, fun u v hu hv => ?_⟩
    · have := sy (hA u hu) (hA v hv)
      simp only [μ, mn]
      split <;> split <;> split <;> split <;> grind
    · have h1 := hH u hu
      have h2 := gr_self hm (hA u hu)
      simp only [μ, mn]
      rw [h2]
      simp [h1]
    · simp only [μ, mn]
      split <;> split <;> grind
    · have := U (hA u hu) (hA v hv) (hA w hw)
      simp only [μ, mn]
      generalize H u = x, H v = y, H w = z, gr f (A u) (A v) = p, gr f (A v) (A w) = q, gr f (A u) (A w) = r at *
      grind
    · have hne : V.getD u [] ≠ V.getD v [] := fun e => by
        rw [List.getD_eq_getElem?_getD, List.getElem?_eq_getElem hu, List.getD_eq_getElem?_getD, List.getElem?_eq_getElem hv] at e
        exact ne ((List.getElem_inj (places_nodup hm)).mp e)
      rcases (by grind : 0 < H u + H v - 2 * μ u v ∨ H u + H v - 2 * μ u v ≤ 0) with q | q
      · exact q
      · exfalso
        refine hne ?_
        rw [hR u hu, hR v hv]
        have hh : H u = H v ∧ H u ≤ gr f (A u) (A v) := by
          simp only [μ, mn] at q
          split at q <;> split at q <;> grind
        refine map_eq fun w hw => ?_
        have u1 := U (hA u hu) (hA v hv) hw
        have u2 := U (hA v hv) (hA u hu) hw
        have s := sy (hA u hu) (hA v hv)
        have e1 : gr f (A u) (B u) = H u := rfl
        have e2 : gr f (A v) (B v) = H v := rfl
        unfold rowG mn
        rw [e1, e2, ← hh.1]
        generalize H u = x, gr f (A u) w = p, gr f (A v) w = q, gr f (A u) (A v) = r, gr f (A v) (A u) = r' at *
        split <;> split <;> grind
    · have key : μ u v = H u ∨ μ u v = H v ∨ μ u v = gr f (A u) (A v) := by
        simp only [μ, mn]; split <;> split <;> simp
      have lv : μ u v ≤ H u ∧ μ u v ≤ H v ∧ μ u v ≤ gr f (A u) (A v) := by
        simp only [μ, mn]; split <;> split <;> grind
      have self : ∀ w, w < V.length → μ w w = H w := fun w hw => by
        have h1 := hH w hw
        have h2 := gr_self hm (hA w hw)
        simp only [μ, mn]
        rw [h2]
        simp [h1]
      have comm : μ v u = μ u v := by
        have := sy (hA u hu) (hA v hv)
        simp only [μ, mn]
        split <;> split <;> split <;> split <;> grind
      rcases key with e | e | e
      · exact ⟨u, hu, e.symm, self u hu, e⟩
      · exact ⟨v, hv, e.symm, by rw [comm, e], self v hv⟩
      · obtain ⟨m, hml, hme⟩ := List.mem_iff_getElem.mp (row_places hm h4 (hA u hu) (hA v hv))
        have hml : m < V.length := hml
        have hrm : rowM n f (A m) (B m) = rowM n f (A u) (A v) := by
          rw [← hR m hml, ← hme, List.getD_eq_getElem?_getD, List.getElem?_eq_getElem hml]
          rfl
        have at_ : ∀ w, w < n → rowG f (A m) (B m) w = rowG f (A u) (A v) w := fun w hw => by
          rw [← rowM_get (n := n) hw, ← rowM_get (n := n) hw, hrm]
        have ePt : ∀ {a b : Nat}, a < n → b < n → rowG f a b 0 = gr f a b := fun {a b} ha hb => by
          have := gr_zero hm ha
          have := gr_nonneg hm ha hb
          have := hm.zero 0 (by omega)
          unfold rowG mn; split <;> grind
        have a0 := at_ 0 (by omega)
        rw [ePt (hA m hml) (hB m hml), ePt (hA u hu) (hA v hv)] at a0
        have hHm : H m = gr f (A u) (A v) := a0
        have up : ∀ w, w < n → gr f (A u) (A v) ≤ gr f (A u) w → H m ≤ gr f (A m) w := fun w hw h => by
          have a1 := at_ w hw
          unfold rowG mn at a1
          have e1 : gr f (A m) (B m) = H m := rfl
          rw [e1, hHm, if_pos h] at a1
          rw [hHm]
          split at a1 <;> grind
        have u1 := up (A u) (hA u hu) (by rw [gr_self hm (hA u hu)]; exact gr_le hm (hA u hu) (hA v hv))
        have u2 := up (A v) (hA v hv) Rat.le_refl
        refine ⟨m, hml, by rw [hHm, e], ?_, ?_⟩
        · have e1 : gr f (A m) (A u) = gr f (A m) (A u) := rfl
          show mn (mn (H m) (H u)) (gr f (A m) (A u)) = H m
          rw [e] at lv
          have e2 : mn (H m) (H u) = H m := if_pos (by rw [hHm]; exact lv.1)
          rw [e2]
          exact if_pos u1
        · show mn (mn (H m) (H v)) (gr f (A m) (A v)) = H m
          rw [e] at lv
          have e2 : mn (H m) (H v) = H m := if_pos (by rw [hHm]; exact lv.2.1)
          rw [e2]
          exact if_pos u2
  refine hM.trD.congr fun i j hi hj => ?_
  show _ = gapF (V.getD i []) (V.getD j [])
  rw [hR i hi, hR j hj, gap_rows hm h4 (hA i hi) (hB i hi) (hA j hj) (hB j hj)]
theorem places_at (hm : IsMet n f) {x : Nat} (hx : x < n) : x < (placesF n f).length ∧ (placesF n f).getD x [] = rowM n f x x := by
  obtain ⟨E, hE⟩ := places_pre (n := n) (f := f)
  have hl : (rows0 n f).length = n := by simp [rows0]
  have hx' : x < (rows0 n f ++ E).length := by rw [List.length_append, hl]; omega
  rw [hE]
  refine ⟨hx', ?_⟩
  rw [List.getD_eq_getElem?_getD, List.getElem?_append_left (by omega), rows0, List.getElem?_map, List.getElem?_range hx]
  exact row_pt hm hx
theorem places_len : n ≤ (placesF n f).length := by
  obtain ⟨E, hE⟩ := places_pre (n := n) (f := f)
  have hl : (rows0 n f).length = n := by simp [rows0]
  rw [hE, List.length_append, hl]
  omega
theorem Dm_pt (hm : IsMet n f) (h4 : Four n f) {i x : Nat} (hi : i < (placesF n f).length) (hx : x < n) : ∃ a b, a < n ∧ b < n ∧ (placesF n f).getD i [] = rowM n f a b ∧ ∀ x, x < n → Dm (placesF n f) i x = rowG f a b x := by
  have e : (placesF n f).getD i [] ∈ placesF n f := by
    rw [List.getD_eq_getElem?_getD, List.getElem?_eq_getElem hi]
    exact List.getElem_mem hi
  obtain ⟨a, b, ha, hb, he⟩ := places_row hm h4 _ e
  refine ⟨a, b, ha, hb, he, fun x hx => ?_⟩
  unfold Dm
  rw [he, (places_at hm hx).2]
  exact gap_pt hm h4 ha hb hx
theorem Dm_pp (hm : IsMet n f) (h4 : Four n f) {x y : Nat} (hx : x < n) (hy : y < n) : Dm (placesF n f) x y = f x y := by
  unfold Dm
  rw [(places_at hm hx).2, (places_at hm hy).2, gap_pt hm h4 hx hx hy, ← rowM_get (n := n) hy, ← row_pt hm hx, getM hy]
theorem places_deg (h0 : 1 ≤ n) (hm : IsMet n f) (h4 : Four n f) {i : Nat} (h1 : n ≤ i) (hi : i < (placesF n f).length) : 3 ≤ degF (edgesT n f) (i : Int) := by
  have T := places_tree h0 hm h4
  have M := T.met
  obtain ⟨a, b, ha, hb, he, hd⟩ := Dm_pt hm h4 hi (x := 0) (by omega)
  have l0 := (places_at (f := f) hm (x := 0) (by omega)).1
  have la := (places_at hm ha).1
  have lb := (places_at hm hb).1
  have d0 := hd 0 (by omega)
  have da := hd a ha
  have db := hd b hb
  have z := gr_zero hm ha
  have nn := gr_nonneg hm ha hb
  have z0 := hm.zero 0 (by omega)
  rw [rowG_at (by rw [gr_self hm ha]; exact gr_le hm ha hb)] at da
  rw [rowG_at Rat.le_refl] at db
  have e0 : rowG f a b 0 = gr f a b := by unfold rowG mn; split <;> grind
  rw [e0] at d0
  have s0 := M.symm i 0 hi l0
  have sa := M.symm i a hi la
  have sb := M.symm i b hi lb
  have p1 := Dm_pp hm h4 (x := 0) (y := a) (by omega) ha
  have p2 := Dm_pp hm h4 (x := 0) (y := b) (by omega) hb
  have p3 := Dm_pp hm h4 ha hb
  have g := f_gr (f := f) a b
  exact deg_three M hi l0 la lb (by omega) (by omega) (by omega) (by grind) (by grind) (by grind)
/-- all of it -/
theorem mathP (h0 : 1 ≤ n) (hm : IsMet n f) (h4 : Four n f) : (edgesT n f).length + 1 = (placesF n f).length ∧ n ≤ (placesF n f).length ∧ (placesF n f).length ≤ 2 * n ∧
    (∀ e ∈ edgesT n f, ∃ x y : Nat, x < y ∧ y < (placesF n f).length ∧ e = ((x : Int), (y : Int), Dm (placesF n f) x y) ∧ 0 < e.2.2) ∧ (edgesT n f).Pairwise eLt ∧ Conn ((edgesT n f).length + 1) (edgesT n f) ∧
    (∀ x, n ≤ x → x < (placesF n f).length → 3 ≤ degF (edgesT n f) (x : Int)) ∧ ∀ x, x < n → wayOk n f ((edgesT n f).length + 1) (edgesT n f) x = true := by
  have T := places_tree h0 hm h4
  have hn := places_len (n := n) (f := f)
  have hl : (edgesT n f).length + 1 = (placesF n f).length := T.len (by omega)
  have hd : ∀ x, n ≤ x → x < (placesF n f).length → 3 ≤ degF (edgesT n f) (x : Int) := fun x h1 h2 => places_deg h0 hm h4 h1 h2
  refine ⟨hl, hn, T.few h0 hn hd, fun e he => ?_, edges_sorted, ?_, hd, fun x hx => ?_⟩
  · obtain ⟨x, y, h1, h2, h3, rfl⟩ := mem_edgesF.mp he
    exact ⟨x, y, h1, h2, rfl, T.met.pos x y (by omega) h2 (by omega)⟩
  · rw [hl]; exact T.conn
  · have hxN : x < (placesF n f).length := by omega
    obtain ⟨a, b⟩ := ways_all T.met T.esG T.met.par hxN
    unfold wayOk
    rw [hl]
    show (decide ((waysN (edgesF (placesF n f).length (Dm (placesF n f))) x (placesF n f).length).length = (placesF n f).length) && (List.range n).all fun y => decide (fget (waysN (edgesF (placesF n f).length (Dm (placesF n f))) x (placesF n f).length) y = some (f x y))) = true
    rw [a, decide_eq_true rfl, Bool.true_and, List.all_eq_true]
    intro y hy
    have hy := List.mem_range.mp hy
    rw [b y (by omega), Dm_pp hm h4 hx hy]
    exact decide_eq_true rfl
end
end MP
/-! MRF -/
namespace MP
/-! an accepted tree shows the four point condition -/
def ext (D : Nat → Nat → Rat) (u v : Nat) (l : Rat) (a b : Nat) : Rat := if a = v then (if b = v then 0 else D u b + l) else if b = v then D a u + l else D a b
inductive LTr (es : List Edge) : List Nat → (Nat → Nat → Rat) → List Edge → Prop
  | one (s : Nat) : LTr es [s] (fun _ _ => 0) []
  | add {vs : List Nat} {D : Nat → Nat → Rat} {us : List Edge} {u v : Nat} {l : Rat} {e : Edge} : LTr es vs D us → u ∈ vs → v ∉ vs → 0 < l → e ∈ es → (e = ((u : Int), (v : Int), l) ∨ e = ((v : Int), (u : Int), l)) → LTr es (v :: vs) (ext D u v l) (e :: us)
structure LTok (es : List Edge) (vs : List Nat) (D : Nat → Nat → Rat) (us : List Edge) : Prop where
  symm : ∀ x y, x ∈ vs → y ∈ vs → D x y = D y x
  zero : ∀ x, x ∈ vs → D x x = 0
  pos : ∀ x y, x ∈ vs → y ∈ vs → x ≠ y → 0 < D x y
  tri : ∀ x y z, x ∈ vs → y ∈ vs → z ∈ vs → D x z ≤ D x y + D y z
  fp : ∀ x y u v, x ∈ vs → y ∈ vs → u ∈ vs → v ∈ vs → D x y + D u v ≤ D x u + D y v ∨ D x y + D u v ≤ D x v + D y u
  E : ∀ e ∈ us, ∃ u v : Nat, u ∈ vs ∧ v ∈ vs ∧ u ≠ v ∧ e = ((u : Int), (v : Int), D u v) ∧ ∀ w, w ∈ vs → D w u + D u v = D w v ∨ D w v + D v u = D w u
  nd : vs.Nodup
  und : us.Nodup
  sub : ∀ e ∈ us, e ∈ es
  len : us.length + 1 = vs.length
theorem ext_new {D : Nat → Nat → Rat} {u v b : Nat} {l : Rat} (h : b ≠ v) : ext D u v l v b = D u b + l := by unfold ext; rw [if_pos rfl, if_neg h]
theorem ext_new2 {D : Nat → Nat → Rat} {u v b : Nat} {l : Rat} (h : b ≠ v) : ext D u v l b v = D b u + l := by unfold ext; rw [if_neg h, if_pos rfl]
theorem ext_vv {D : Nat → Nat → Rat} {u v : Nat} {l : Rat} : ext D u v l v v = 0 := by unfold ext; rw [if_pos rfl, if_pos rfl]
theorem ext_old {D : Nat → Nat → Rat} {u v a b : Nat} {l : Rat} (h : a ≠ v) (h' : b ≠ v) : ext D u v l a b = D a b := by unfold ext; rw [if_neg h, if_neg h']
theorem LTr.ok {es : List Edge} {vs : List Nat} {D : Nat → Nat → Rat} {us : List Edge} (h : LTr es vs D us) : LTok es vs D us := by
  induction h with
  | one s =>
    refine ⟨?_, ?_, ?_, ?_, ?_, ?_, by simp, by simp, by simp, rfl⟩
    · intros; rfl
    · intros; rfl
    · intro x y hx hy e
      rw [List.mem_singleton] at hx hy
      omega
    · intros; grind
    · intros; grind
    · intro e he; cases he
  | @add vs D us u v l e h hu hv hl he hf ih =>
    have cs : ∀ {x}, x ∈ v :: vs → v = x ∨ x ≠ v ∧ x ∈ vs := fun {x} hx => by
      rcases List.mem_cons.mp hx with e | hx
      · exact .inl e.symm
      · exact .inr ⟨fun e => hv (e ▸ hx), hx⟩
    have nuv : u ≠ v := fun e => hv (e ▸ hu)
    refine ⟨?_, ?_, ?_, ?_, ?_, ?_, ?_, ?_, ?_, ?_⟩
    · intro x y hx hy
      rcases cs hx with rfl | ⟨nx, mx⟩ <;> rcases cs hy with rfl | ⟨ny, my⟩
      · rfl
      · rw [ext_new ny, ext_new2 ny, ih.symm _ _ hu my]
      · rw [ext_new nx, ext_new2 nx, ih.symm _ _ hu mx]
      · rw [ext_old nx ny, ext_old ny nx, ih.symm _ _ mx my]
    · intro x hx
      rcases cs hx with rfl | ⟨nx, mx⟩
      · exact ext_vv
      · rw [ext_old nx nx, ih.zero _ mx]
    · intro x y hx hy ne
      rcases cs hx with rfl | ⟨nx, mx⟩ <;> rcases cs hy with rfl | ⟨ny, my⟩
      · exact absurd rfl ne
      · rw [ext_new ny]
        by_cases q : u = y
        · subst q; rw [ih.zero _ my]; grind
        · have := ih.pos _ _ hu my q; grind
      · rw [ext_new2 nx]
        by_cases q : x = u
        · subst q; rw [ih.zero _ mx]; grind
        · have := ih.pos _ _ mx hu q; grind
      · rw [ext_old nx ny]; exact ih.pos _ _ mx my ne
    · intro x y z hx hy hz
      rcases cs hx with rfl | ⟨nx, mx⟩ <;> rcases cs hy with rfl | ⟨ny, my⟩ <;> rcases cs hz with rfl | ⟨nz, mz⟩
      · rw [ext_vv]; grind
      · rw [ext_vv]; grind
      · rw [ext_vv, ext_new ny, ext_new2 ny]
        have := ih.symm _ _ hu my
        have := ih.tri _ _ _ hu my hu
        have := ih.zero _ hu
        grind
      · rw [ext_new ny, ext_new nz, ext_old ny nz]
        have := ih.tri _ _ _ hu my mz
        grind
      · rw [ext_vv]; grind
      · rw [ext_new2 nx, ext_new nz, ext_old nx nz]
        have := ih.tri _ _ _ mx hu mz
        grind
      · rw [ext_new2 nx, ext_new2 ny, ext_old nx ny]
        have := ih.tri _ _ _ mx my hu
        grind
      · rw [ext_old nx ny, ext_old nx nz, ext_old ny nz]
        exact ih.tri _ _ _ mx my mz
    · intro x y p q hx hy hp hq
      rcases cs hx with rfl | ⟨nx, mx⟩ <;> rcases cs hy with rfl | ⟨ny, my⟩ <;> rcases cs hp with rfl | ⟨np, mp⟩ <;> rcases cs hq with rfl | ⟨nq, mq⟩
      · left; grind
      · left; rw [ext_vv]; grind
      · left; rw [ext_vv, ext_new2 np, ext_new np, ih.symm _ _ mp hu]; grind
      · left
        rw [ext_vv, ext_old np nq, ext_new np, ext_new nq]
        have := ih.tri _ _ _ mp hu mq
        have := ih.symm _ _ mp hu
        grind
      · left; rw [ext_vv, ext_new2 ny, ext_new ny, ih.symm _ _ my hu]; grind
      · right
        rw [ext_new2 ny, ext_new ny, ext_new nq]
        have := ih.symm _ _ hu my
        grind
      · left
        rw [ext_new2 ny, ext_new ny, ext_new np, ext_new2 np]
        have := ih.symm _ _ hu my
        have := ih.symm _ _ hu mp
        grind
      · rw [ext_new ny, ext_new np, ext_new nq, ext_old np nq, ext_old ny np, ext_old ny nq]
        have := ih.fp _ _ _ _ hu my mp mq
        grind
      · left; rw [ext_vv]; grind
      · left
        rw [ext_new2 nx, ext_new nq]
        grind
      · right
        rw [ext_new2 nx, ext_new2 np, ext_new np]
        have := ih.symm _ _ hu mp
        grind
      · rw [ext_new2 nx, ext_old np nq, ext_old nx np, ext_old nx nq, ext_new np, ext_new nq]
        have := ih.fp _ _ _ _ mx hu mp mq
        grind
      · left
        rw [ext_old nx ny, ext_vv, ext_new2 nx, ext_new2 ny]
        have := ih.tri _ _ _ mx hu my
        have := ih.symm _ _ my hu
        grind
      · rw [ext_old nx ny, ext_new nq, ext_new2 nx, ext_old ny nq, ext_old nx nq, ext_new2 ny]
        have := ih.fp _ _ _ _ mx my hu mq
        grind
      · rw [ext_old nx ny, ext_new2 np, ext_old nx np, ext_new2 ny, ext_new2 nx, ext_old ny np]
        have := ih.fp _ _ _ _ mx my mp hu
        grind
      · rw [ext_old nx ny, ext_old np nq, ext_old nx np, ext_old ny nq, ext_old nx nq, ext_old ny np]
        exact ih.fp _ _ _ _ mx my mp mq
    · intro e' he'
      rcases List.mem_cons.mp he' with rfl | he'
      · have z := ih.zero _ hu
        have ew : ∀ w, w ∈ v :: vs → ext D u v l w u + ext D u v l u v = ext D u v l w v ∨ ext D u v l w v + ext D u v l v u = ext D u v l w u := fun w hw => by
          rcases cs hw with rfl | ⟨nw, mw⟩
          · right; rw [ext_vv]; grind
          · left; rw [ext_old nw nuv, ext_new2 nuv, ext_new2 nw]; grind
        rcases hf with rfl | rfl
        · exact ⟨u, v, List.mem_cons_of_mem _ hu, List.mem_cons_self .., nuv, by rw [ext_new2 nuv, z, Rat.zero_add], ew⟩
        · exact ⟨v, u, List.mem_cons_self .., List.mem_cons_of_mem _ hu, nuv.symm, by rw [ext_new nuv, z, Rat.zero_add], fun w hw => (ew w hw).symm⟩
      · obtain ⟨a, b, ha, hb, nab, rfl, hw⟩ := ih.E e' he'
        have na : a ≠ v := fun e => hv (e ▸ ha)
        have nb : b ≠ v := fun e => hv (e ▸ hb)
        refine ⟨a, b, List.mem_cons_of_mem _ ha, List.mem_cons_of_mem _ hb, nab, by rw [ext_old na nb], fun w hwm => ?_⟩
        rw [ext_old na nb, ext_old nb na]
        rcases cs hwm with rfl | ⟨nw, mw⟩
        · rw [ext_new na, ext_new nb]
          have := hw u hu
          grind
        · rw [ext_old nw na, ext_old nw nb]
          exact hw w mw
    · exact List.nodup_cons.mpr ⟨hv, ih.nd⟩
    · refine List.nodup_cons.mpr ⟨fun hin => ?_, ih.und⟩
      obtain ⟨a, b, ha, hb, _, e1, _⟩ := ih.E e hin
      rcases hf with rfl | rfl <;> simp only [Prod.mk.injEq] at e1
      · exact hv ((show v = b by omega) ▸ hb)
      · exact hv ((show v = a by omega) ▸ ha)
    · intro e' he'
      rcases List.mem_cons.mp he' with rfl | he'
      · exact he
      · exact ih.sub e' he'
    · show (us.length + 1) + 1 = vs.length + 1
      rw [ih.len]
/-- what is found grows leaf by leaf -/
def Grown (es : List Edge) (fd : Fnd) : Prop := ∃ vs D us, LTr es vs D us ∧ fd.length = vs.length ∧ ∀ i : Int, Kk fd i ↔ ∃ v ∈ vs, i = ((v : Nat) : Int)
theorem Grown.half {es : List Edge} {fd : Fnd} {a b : Nat} {l : Rat} {e : Edge} (h : Grown es fd) (he : e ∈ es) (hl : 0 < l) (hf : e = ((a : Int), (b : Int), l) ∨ e = ((b : Int), (a : Int), l)) : Grown es (wHalf fd a b l) := by
  rcases wHalf_cases fd a b l with e | ⟨q, h1, h2, e⟩
  · rw [e]; exact h
  · rw [e]
    obtain ⟨vs, D, us, hL, hlen, hk⟩ := h
    have hb := fgetNone.mp h2
    have ha : Kk fd a := ⟨q, fget_mem h1⟩
    obtain ⟨a', ha', ea⟩ := (hk a).mp ha
    have ea : a = a' := by omega
    subst ea
    have hbv : b ∉ vs := fun hb' => hb ((hk b).mpr ⟨b, hb', rfl⟩)
    refine ⟨b :: vs, ext D a b l, _ :: us, .add hL ha' hbv hl he hf, by simp [hlen], fun i => ?_⟩
    constructor
    · rintro ⟨q', hq⟩
      rcases List.mem_append.mp hq with hq | hq
      · obtain ⟨v, hv, e⟩ := (hk i).mp ⟨q', hq⟩
        exact ⟨v, List.mem_cons_of_mem _ hv, e⟩
      · rw [List.mem_singleton] at hq
        exact ⟨b, List.mem_cons_self .., congrArg Prod.fst hq⟩
    · rintro ⟨v, hv, rfl⟩
      rcases List.mem_cons.mp hv with rfl | hv
      · exact ⟨_, List.mem_append_right _ (List.mem_singleton.mpr rfl)⟩
      · obtain ⟨q', hq⟩ := (hk v).mpr ⟨v, hv, rfl⟩
        exact ⟨q', List.mem_append_left _ hq⟩
/-- edges that a paper may hold -/
def EsP (m : Nat) (es : List Edge) : Prop := ∀ e ∈ es, ∃ u v : Nat, e.1 = (u : Int) ∧ e.2.1 = (v : Int) ∧ u < v ∧ v < m ∧ 0 < e.2.2
theorem Grown.round {m : Nat} {es : List Edge} (hE : EsP m es) : ∀ (l : List Edge) {fd : Fnd}, (∀ e ∈ l, e ∈ es) → Grown es fd → Grown es (wRound l fd)
  | [], _, _, F => F
  | e :: l, fd, hl, F => by
    have he := hl e (List.mem_cons_self ..)
    obtain ⟨u, v, h1, h2, _, _, h3⟩ := hE e he
    refine Grown.round hE l (fd := wStep fd e) (fun x hx => hl x (List.mem_cons_of_mem _ hx)) ?_
    unfold wStep
    have ee : e = ((u : Int), (v : Int), e.2.2) := by rw [← h1, ← h2]
    rw [h1, h2]
    exact (F.half he h3 (.inl ee)).half he h3 (.inr ee)
theorem grown_ways {m : Nat} {es : List Edge} (hE : EsP m es) (s : Nat) : ∀ k, Grown es (waysN es s k)
  | 0 => ⟨[s], _, [], .one s, rfl, fun i => by
    constructor
    · rintro ⟨q, hq⟩
      have : (i, q) = ((s : Int), (0 : Rat)) := by simpa [waysN] using hq
      exact ⟨s, by simp, congrArg Prod.fst this⟩
    · rintro ⟨v, hv, rfl⟩
      rw [List.mem_singleton] at hv
      subst hv
      exact ⟨0, by simp [waysN]⟩⟩
  | k + 1 => Grown.round hE es (fun _ h => h) (grown_ways hE s k)
theorem sub_of_len {es us : List Edge} (nd : us.Nodup) (h : ∀ e ∈ us, e ∈ es) (hl : es.length ≤ us.length) : ∀ e ∈ es, e ∈ us := by
  intro e he
  rcases Classical.em (e ∈ us) with h1 | h1
  · exact h1
  · exfalso
    have := (List.nodup_cons.mpr ⟨h1, nd⟩).length_le_of_subset (l₂ := es) fun x hx => by
      rcases List.mem_cons.mp hx with rfl | hx
      · exact he
      · exact h x hx
    rw [List.length_cons] at this
    omega
theorem accepted_four {n m : Nat} {f : Nat → Nat → Rat} {es : List Edge} (h0 : 1 ≤ n) (hnm : n ≤ m) (hE : EsP m es) (hl : es.length + 1 = m) (hw : ∀ x, x < n → wayOk n f m es x = true) : Four n f := by
  have W : ∀ x, x < n → (waysN es x m).length = m ∧ ∀ y, y < n → fget (waysN es x m) y = some (f x y) := fun x hx => by
    have := hw x hx
    unfold wayOk at this
    rw [Bool.and_eq_true, List.all_eq_true] at this
    exact ⟨of_decide_eq_true this.1, fun y hy => of_decide_eq_true (this.2 y (List.mem_range.mpr hy))⟩
  obtain ⟨vs, D, us, hL, hlen, hk⟩ := grown_ways hE 0 m
  have O := hL.ok
  have hvm : vs.length = m := by rw [← hlen]; exact (W 0 (by omega)).1
  have hus := sub_of_len O.und O.sub (by have := O.len; omega)
  have hsub : ∀ v ∈ vs, v < m := fun v hv => by
    by_cases q : us = []
    · have := O.len
      rw [q] at this
      have hm1 : m = 1 := by rw [← hvm, ← this]; rfl
      -- one vertex: the start
      cases hL with
      | one s =>
        have : (0 : Int) = ((s : Nat) : Int) := by
          obtain ⟨v', hv', e⟩ := (hk 0).mp (by
            have h1 := (W 0 (by omega)).2 0 (by omega)
            exact ⟨_, fget_mem h1⟩)
          rw [List.mem_singleton] at hv'
          rw [hv'] at e
          exact e
        rw [List.mem_singleton] at hv
        omega
      | add => cases q
    · -- every vertex but one is an end
      have : Kk (waysN es 0 m) v := (hk v).mpr ⟨v, hv, rfl⟩
      have key : ∀ k (i : Int), Kk (waysN es 0 k) i → i = 0 ∨ ∃ e ∈ es, i = e.1 ∨ i = e.2.1 := by
        have hh : ∀ {fd : Fnd} {a b : Int} {l : Rat} {e : Edge}, e ∈ es → (b = e.1 ∨ b = e.2.1) → (∀ i, Kk fd i → i = 0 ∨ ∃ e ∈ es, i = e.1 ∨ i = e.2.1) → ∀ i, Kk (wHalf fd a b l) i → i = 0 ∨ ∃ e ∈ es, i = e.1 ∨ i = e.2.1 := by
          intro fd a b l e he hb ih i hi
          rcases wHalf_cases fd a b l with e' | ⟨q, _, _, e'⟩ <;> rw [e'] at hi
          · exact ih i hi
          · obtain ⟨q', hq⟩ := hi
            rcases List.mem_append.mp hq with hq | hq
            · exact ih i ⟨q', hq⟩
            · rw [List.mem_singleton] at hq
              have ei : i = b := congrArg Prod.fst hq
              exact .inr ⟨e, he, by rw [ei]; exact hb⟩
        have hr : ∀ (l : List Edge) (fd : Fnd), (∀ e ∈ l, e ∈ es) → (∀ i, Kk fd i → i = 0 ∨ ∃ e ∈ es, i = e.1 ∨ i = e.2.1) → ∀ i, Kk (wRound l fd) i → i = 0 ∨ ∃ e ∈ es, i = e.1 ∨ i = e.2.1 := by
          intro l
          induction l with
          | nil => intro fd _ ih; exact ih
          | cons e l ihl =>
            intro fd hl ih
            have he := hl e (List.mem_cons_self ..)
            exact ihl (wStep fd e) (fun x hx => hl x (List.mem_cons_of_mem _ hx)) (hh he (.inl rfl) (hh he (.inr rfl) ih))
        intro k
        induction k with
        | zero =>
          rintro i ⟨q, hq⟩
          have : (i, q) = ((0 : Int), (0 : Rat)) := by simpa [waysN] using hq
          exact .inl (congrArg Prod.fst this)
        | succ k ih => exact hr es _ (fun _ h => h) ih
      rcases key m v this with e | ⟨e, he, h⟩
      · omega
      · obtain ⟨a, b, h1, h2, h3, h4, _⟩ := hE e he
        omega
  have hall : ∀ v, v < m → v ∈ vs := fun v hv => by
    rcases Classical.em (v ∈ vs) with h1 | h1
    · exact h1
    · exfalso
      have := (List.nodup_cons.mpr ⟨h1, O.nd⟩).length_le_of_subset (l₂ := List.range m) fun x hx => by
        rcases List.mem_cons.mp hx with rfl | hx
        · exact List.mem_range.mpr hv
        · exact List.mem_range.mpr (hsub x hx)
      rw [List.length_cons, List.length_range] at this
      omega
  have M : MetC m D := by
    refine ⟨fun x y hx hy => O.symm x y (hall x hx) (hall y hy), fun x hx => O.zero x (hall x hx), fun x y hx hy => O.pos x y (hall x hx) (hall y hy), fun x y z hx hy hz => O.tri x y z (hall x hx) (hall y hy) (hall z hz), fun s v u x hs hv hu hx h1 h2 h3 => ?_⟩
    have a := O.fp s v u x (hall s hs) (hall v hv) (hall u hu) (hall x hx)
    have b := O.tri s u x (hall s hs) (hall u hu) (hall x hx)
    have c := O.symm v x (hall v hv) (hall x hx)
    have d := O.symm v u (hall v hv) (hall u hu)
    grind
  have G : EsG m D es := by
    refine ⟨fun e he => ?_, fun u v h w hw => ?_⟩
    · obtain ⟨a, b, ha, hb, nab, e1, _⟩ := O.E e (hus e he)
      exact ⟨a, b, e1, hsub a ha, hsub b hb, nab⟩
    · obtain ⟨e, he, h⟩ := h
      obtain ⟨a, b, ha, hb, nab, rfl, hE'⟩ := O.E e (hus e he)
      simp only at h
      rcases h with h | h
      · have e1 : a = u := by omega
        have e2 : b = v := by omega
        subst e1 e2
        exact hE' w (hall w hw)
      · have e1 : a = v := by omega
        have e2 : b = u := by omega
        subst e1 e2
        exact (hE' w (hall w hw)).symm
  have hf : ∀ x y, x < n → y < n → f x y = D x y := fun x y hx hy => ((waysT M G (show x < m by omega) m).get ((W x hx).2 y hy)).2
  intro q hq
  obtain ⟨h1, h2, h3, h4⟩ := mem_quads.mp hq
  obtain ⟨x, y, u, v⟩ := q
  simp only at h1 h2 h3 h4
  have hx : x < n := by omega
  have hy : y < n := by omega
  have hu : u < n := by omega
  unfold abv above3
  simp only
  rw [hf x y hx hy, hf u v hu h4, hf x u hx hu, hf y v hy h4, hf x v hx h4, hf y u hy hu]
  have A : ∀ {x}, x < n → x ∈ vs := fun h => hall _ (by omega)
  have p1 := O.fp x y u v (A hx) (A hy) (A hu) (A h4)
  have p2 := O.fp x u y v (A hx) (A hu) (A hy) (A h4)
  have p3 := O.fp x v y u (A hx) (A h4) (A hy) (A hu)
  have s1 := O.symm u y (A hu) (A hy)
  have s2 := O.symm v u (A h4) (A hu)
  have s3 := O.symm v y (A h4) (A hy)
  simp only [Bool.or_eq_false_iff, Bool.and_eq_false_iff, decide_eq_false_iff_not]
  grind
end MP
/-! MRG -/
set_option exponentiation.threshold 10000
/-! the mathematics as tree_of needs it -/
namespace MP
open PySem PySem.Spec PyProof.Rows L2

theorem fold_ind {α β : Type} {P : α → Prop} {g : α → β → α} : ∀ (l : List β) (a : α), P a → (∀ a x, x ∈ l → P a → P (g a x)) → P (l.foldl g a)
  | [], _, h, _ => h
  | x :: l, a, h, hs => fold_ind l (g a x) (hs a x (List.mem_cons_self ..) h) fun a y hy => hs a y (List.mem_cons_of_mem _ hy)
theorem placesF_ok {n : Nat} {f : Nat → Nat → Rat} (hf : MetOk n f) : RowsOk n (placesF n f) := by
  unfold placesF
  refine fold_ind _ _ (rows0_ok hf) fun V x hx hV => ?_
  have hx := List.mem_range.mp hx
  refine fold_ind _ _ hV fun V y hy hV => ?_
  have hy := mem_rng.mp hy
  refine fold_ind _ _ hV fun V z hz hV => ?_
  have hz := mem_rng.mp hz
  exact (plZ_ok hf hx hy.2 hz.2 hV).1
theorem gapF_bd {n : Nat} {l1 l2 : List Rat} (h1 : l1.length = n) (h2 : l2.length = n) (hn : 1 ≤ n) (b1 : ∀ q ∈ l1, Bd 12 (BM * 5) q) (b2 : ∀ q ∈ l2, Bd 12 (BM * 5) q) : Bd 12 BE (gapF l1 l2) := by
  have key : ∀ q ∈ gapL l1 l2, Bd 12 BE q := fun q hq => by
    obtain ⟨k, hk, rfl⟩ := List.mem_map.mp hq
    have hk := List.mem_range.mp hk
    have := ((b1 _ (getD_mem (k := k) hk).1).sub (b2 _ (getD_mem (l := l2) (k := k) (by omega)).1)).abs
    exact this.mono (by decide)
  have hl : (gapL l1 l2).length = n := by rw [gapL, List.length_map, List.length_range, h1]
  unfold gapF
  rcases gmax_mem (q := (gapL l1 l2).headD 0) (qs := gapL l1 l2) with e | e
  · rw [e]
    cases q : gapL l1 l2 with
    | nil => rw [q] at hl; simp at hl; omega
    | cons a b =>
      refine key a ?_
      rw [q]
      exact List.mem_cons_self ..
  · exact key _ e
theorem Dm_bd {n : Nat} {V : List (List Rat)} (hn : 1 ≤ n) (hV : RowsOk n V) {i j : Nat} (hi : i < V.length) (hj : j < V.length) : Bd 12 BE (Dm V i j) := by
  have h : ∀ {i}, i < V.length → V.getD i [] ∈ V := fun hi => by
    rw [List.getD_eq_getElem?_getD, List.getElem?_eq_getElem hi]
    exact List.getElem_mem hi
  exact gapF_bd (hV _ (h hi)).1 (hV _ (h hj)).1 hn (hV _ (h hi)).2 (hV _ (h hj)).2
theorem mathT {n : Nat} {f : Nat → Nat → Rat} (hf : MetOk n f) (hm : IsMet n f) (h4 : Four n f) : TreeOk n (edgesT n f) ∧ (edgesT n f).length + 1 = (placesF n f).length ∧ ∀ x, x < n → wayOk n f ((edgesT n f).length + 1) (edgesT n f) x = true := by
  obtain ⟨hl, hn, h2, he, hs, hc, hd, hw⟩ := mathP hf.lo hm h4
  have hV := placesF_ok hf
  refine ⟨⟨hf.lo, hf.hi, by omega, by omega, fun e h => ?_, fun e h => ?_, hs, hc, fun x h1 h3 => hd x h1 (by omega), fun e h => ?_⟩, hl, hw⟩
  · obtain ⟨x, y, h1, h3, rfl, _⟩ := he e h
    show (0 : Int) ≤ (x : Int) ∧ (x : Int) < (y : Int) ∧ (y : Int) < _
    omega
  · obtain ⟨x, y, _, _, _, h4⟩ := he e h
    exact h4
  · obtain ⟨x, y, h1, h3, rfl, _⟩ := he e h
    exact Dm_bd hf.lo hV (by omega) h3
end MP
/-! MQF -/
set_option exponentiation.threshold 10000
/-! tree_of, tree_paper -/
namespace MP
open PySem PySem.Spec PyProof.Rows L2

def unrow : D → List Rat
  | .tup ds => ds.map toQ
  | _ => []
theorem unrow_rowT (l : List Rat) : unrow (rowT l) = l := by
  show (l.map D.rat).map toQ = l
  rw [List.map_map]
  conv => rhs; rw [← List.map_id l]
  rfl
def farD (V : List (List Rat)) : D := .lst ((V.map rowT).map fun d => .lst ((V.map rowT).map fun d' => .rat (gapF (unrow d) (unrow d'))))
section
variable {K : PySem.W.Frag} {b0 : Ba} {a : AS} {k : B → AS → Prop} {V : List (List Rat)}
theorem ro_far {x : Nat} (hx : x < V.length) (hk : k (.dat (.lst ((V.map rowT).map fun d' => .rat (gapF (V.getD x []) (unrow d'))))) a) : RO K b0 (rIx K) (.dat (farD V)) (.dat (.int (x : Int))) a k := by
  refine ro_ixL (atI_nat (n := x) ?_) hk
  rw [List.getElem?_map, List.getElem?_map, List.getElem?_eq_getElem hx, List.getD_eq_getElem?_getD, List.getElem?_eq_getElem hx]
  show some (D.lst ((V.map rowT).map fun d' => .rat (gapF (unrow (rowT V[x])) (unrow d')))) = _
  rw [unrow_rowT]
  rfl
theorem ro_farC {x y : Nat} (hy : y < V.length) (hk : k (.dat (.rat (Dm V x y))) a) : RO K b0 (rIx K) (.dat (.lst ((V.map rowT).map fun d' => .rat (gapF (V.getD x []) (unrow d'))))) (.dat (.int (y : Int))) a k := by
  refine ro_ixL (atI_nat (n := y) ?_) hk
  rw [List.getElem?_map, List.getElem?_map, List.getElem?_eq_getElem hy]
  show some (D.rat (gapF (V.getD x []) (unrow (rowT V[y])))) = some (.rat (gapF (V.getD x []) (V.getD y [])))
  rw [unrow_rowT, List.getD_eq_getElem?_getD (l := V) (i := y), List.getElem?_eq_getElem hy]
  rfl
end
def pTof : NF → B → Prop := fun i x => x = .dat (mtr i.1 i.2) ∧ MetOk i.1 i.2 ∧ IsMet i.1 i.2 ∧ Four i.1 i.2
def zTof : NF → D → Prop := fun i d => ∃ r, d = treeO i.1 (edgesT i.1 i.2) r
def zn : D → Nat
  | .int i => i.toNat
  | _ => 0
theorem sc_tree_of : FnScope ["m", "found", "size", "far", "edges", "x", "y", "others", "one", "two", "z"] ["m"] (defScope s_tree_of) := ⟨rfl, rfl, rfl, by decide +kernel, rfl, by decide +kernel, by decide +kernel⟩
theorem c_tree_of {P : Program} {w : World} {K : PySem.W.Frag} {mg : Str → Option Value} {base : Heap} (M : FX K mg) : C8.Cal P w K mg base 9 "tree_of" (spP K (p1 pTof) (zTof)) [] := by
  obtain ⟨fd, F⟩ := M.said.def_ 39
  refine ⟨_, fd, ["m"], [], (def_pn (j := 8) F sc_tree_of p1_len fun cdv A outer s H E hr => ⟨_, (pss_cons (ps_if (pt_not (pt_val (C8.pe_c (c_is_tree_metric M) hr (by decide) (by rfl) (pa_cons (pv 0) pa_nil))))
      (pss_one ps_never)
      pss_nil)
      (pss_cons (ps_set (i := 1) sc_tree_of.nd rfl (by first | exact Or.inl rfl | exact Or.inr rfl) (C8.pe_c (c_places M) hr (by decide) (by rfl) (pa_cons (pv 0) pa_nil)))
        (pss_cons (ps_set (i := 2) sc_tree_of.nd rfl (by first | exact Or.inl rfl | exact Or.inr rfl) (pe_callB (call_len_anyK (K := K)) (by rfl) (M.free 61) PySem.boot_len (pa_cons (pv 1) pa_nil)))
          (pss_cons (ps_set (i := 3) sc_tree_of.nd rfl (by first | exact Or.inl rfl | exact Or.inr rfl) (pe_lc (own := [("one", 8)]) (g := gName 8) (by rfl) sc_tree_of.nd (pi_listK (K := K) (pv 1)) (by dsimp only [Cx.blk, Cx.nox, Cx.wish, cxOf, blk_sc, env_sc]; exact blkOk_by (by decide +kernel)) (fun _ _ _ _ _ => pg_name (i := 8) sc_tree_of.nd rfl (by first | exact Or.inl rfl | exact Or.inr rfl)) (fun _ _ _ _ _ => pts_nil) (fun _ _ _ _ _ => (pe_lc (own := [("two", 9)]) (g := gName 9) (by rfl) sc_tree_of.nd (pi_listK (K := K) (pv 1)) (by dsimp only [Cx.blk, Cx.nox, Cx.wish, cxOf, blk_sc, env_sc]; exact blkOk_by (by decide +kernel)) (fun _ _ _ _ _ => pg_name (i := 9) sc_tree_of.nd rfl (by first | exact Or.inl rfl | exact Or.inr rfl)) (fun _ _ _ _ _ => pts_nil) (fun _ _ _ _ _ => (C8.pe_c (c_gap M) hr (by decide) (by rfl) (pa_cons (pv 8) (pa_cons (pv 9) pa_nil))))))))
            (pss_cons (ps_set (i := 4) sc_tree_of.nd rfl (by first | exact Or.inl rfl | exact Or.inr rfl) (pe_lst pa_nil))
              (pss_cons (ps_for PassesOwn.never rfl (pi_range1 rfl (M.free 62) (pa_cons (pv 2) pa_nil)) (pg_name (i := 5) sc_tree_of.nd rfl (by first | exact Or.inl rfl | exact Or.inr rfl))
                (pss_one (ps_for PassesOwn.never rfl (pi_range2 rfl (M.free 62) (pa_cons (pe_op (op_addAny M (ops M) hr) (pv 5) pe_int) (pa_cons (pv 2) pa_nil))) (pg_name (i := 6) sc_tree_of.nd rfl (by first | exact Or.inl rfl | exact Or.inr rfl))
                  (pss_cons (ps_setLc (i := 7) (own := [("z", 10)]) (g := gName 10) (by rfl) sc_tree_of.nd rfl rfl (sw_true rfl rfl rfl (by decide +kernel)) (pi_range1 rfl (M.free 62) (pa_cons (pv 2) pa_nil)) (by dsimp only [Cx.blk, Cx.nox, Cx.wish, cxOf, blk_sc, env_sc]; exact blkOk_by (by decide +kernel)) (fun _ _ _ _ _ => pg_name (i := 10) sc_tree_of.nd rfl (by first | exact Or.inl rfl | exact Or.inr rfl)) (fun _ _ _ _ _ => pts_one (pt_cmpR (op_notInAny M (ops M) hr) (pv 10) (pe_tup (pa_cons (pv 5) (pa_cons (pv 6) pa_nil))) rfl)) (fun _ _ _ _ _ => (pv 10)))
                    (pss_one (ps_if (pt_not (pt_val (pe_callB (cr_anyK (K := K) rfl) (by rfl) (M.free 70) (by decide +kernel) (pa_cons (pe_lc (own := [("z", 10)]) (g := gName 10) (by rfl) sc_tree_of.nd (pi_listK (K := K) (pv 7)) (by dsimp only [Cx.blk, Cx.nox, Cx.wish, cxOf, blk_sc, env_sc]; exact blkOk_by (by decide +kernel)) (fun _ _ _ _ _ => pg_name (i := 10) sc_tree_of.nd rfl (by first | exact Or.inl rfl | exact Or.inr rfl)) (fun _ _ _ _ _ => pts_nil) (fun _ _ _ _ _ => (pe_cmpR (op_eqAny M (ops M) hr) (pe_op (op_addAny M (ops M) hr) (pe_ix (ix_seqK (K := K)) (pe_ix (ix_seqK (K := K)) (pv 3) (pv 5) (fun _ _ => rfl)) (pv 10) (fun _ _ => rfl)) (pe_ix (ix_seqK (K := K)) (pe_ix (ix_seqK (K := K)) (pv 3) (pv 10) (fun _ _ => rfl)) (pv 6) (fun _ _ => rfl))) (pe_ix (ix_seqK (K := K)) (pe_ix (ix_seqK (K := K)) (pv 3) (pv 5) (fun _ _ => rfl)) (pv 6) (fun _ _ => rfl)) (nomark _)))) pa_nil))))
                      (pss_one (ps_expr (pe_bm PySem.F.plainAttrs_list PySem.F.slot_list_append PySem.F.type_list_append mt_append (pv 4) (pa_cons (pe_tup (pa_cons (pv 5) (pa_cons (pv 6) (pa_cons (pe_ix (ix_seqK (K := K)) (pe_ix (ix_seqK (K := K)) (pv 3) (pv 5) (fun _ _ => rfl)) (pv 6) (fun _ _ => rfl)) pa_nil)))) pa_nil))))
                      pss_nil))))))
                (pss_one (ps_ret (C8.pe_mk (mk_Tree M) hr (by decide) (by rfl) (pa_cons (pe_fldK (K := K) (pv 0) rfl) (pa_cons (pv 4) pa_nil))))))))))), ?_⟩), M.glo 30, F.kp, F.bindsN fun _ _ _ _ _ _ us hl => match us, hl with | [_], _ => rfl, .nil⟩
  try dsimp only [cx_K]
  intro b0 Z ix bs h hret
  obtain ⟨n, f⟩ := ix
  obtain ⟨_, rfl, rfl, hf, hm, h4⟩ := h
  have hf : MetOk n f := hf
  have hm : IsMet n f := hm
  have h4 : Four n f := h4
  obtain ⟨hT, hlen, _⟩ := mathT hf hm h4
  have hV := placesF_ok hf
  have hTh := hT.hi
  have hT8 := hT.hi8
  let V := placesF n f
  have hN16 : V.length ≤ 16 := by show (placesF n f).length ≤ 16; omega
  walk_at "mpM"
  refine ⟨_, ⟨_, rfl, n, f, rfl, hf, h4, rfl⟩, ?_⟩
  walk_at "mpM"
  refine ⟨fun h => (by cases h), fun _ => ?_⟩
  walk_at "mpM"
  refine ⟨_, ⟨_, rfl, n, f, rfl, hf, rfl⟩, ?_⟩
  walk_at "mpM"
  rw [List.length_map]
  have hrow : ∀ {d : D}, d ∈ (placesF n f).map rowT → ∃ l, l ∈ placesF n f ∧ d = rowT l ∧ unrow d = l := fun hd => by
    obtain ⟨l, hl, rfl⟩ := List.mem_map.mp hd
    exact ⟨l, hl, rfl, unrow_rowT l⟩
  refine ev_lcML (fun d => .lst (((placesF n f).map rowT).map fun d' => .rat (gapF (unrow d) (unrow d')))) (by decide) ?_
  walk_at "mpM"
  refine ⟨by rw [List.length_map]; show V.length ≤ _; omega, fun d m hd _ => ?_, ?_⟩
  · obtain ⟨l, hl, rfl, hu⟩ := hrow hd
    refine ev_lcML (fun d' => .rat (gapF (unrow (rowT l)) (unrow d'))) (by decide) ?_
    walk_at "mpM"
    refine ⟨by rw [List.length_map]; show V.length ≤ _; omega, fun d m hd _ => ?_, ?_⟩
    · obtain ⟨l', hl', rfl, hu'⟩ := hrow hd
      obtain ⟨a1, a2⟩ := hV l hl
      obtain ⟨a3, a4⟩ := hV l' hl'
      walk_at "mpM"
      refine ⟨_, ⟨_, _, rfl, l, l', rfl, rfl, by rw [a1]; exact hf.lo, by rw [a1]; omega, by rw [a1, a3], a2, a4, rfl⟩, ?_⟩
      rw [hu, hu']
      exact ⟨rfl, rfl⟩
    · exact ⟨rfl, rfl⟩
  show NX K b0 _ (AS.put _ 3 (B.dat (farD V)))
  refine nx_go (gs_seq (gs_set (ev_lstM (ea_nil ⟨by simp, fun p hp0 hp => ?_⟩))))
  let D := Dm V
  let N := V.length
  have hNdef : N = V.length := rfl
  let eX : Nat → List Edge := fun x => ((rng (x + 1) N).filter fun (y : Nat) => !btw N D x y).map fun (y : Nat) => ((x : Int), (y : Int), D x y)
  let C : List Edge → C := fun l => .lst ((l.map edgeD).map B.dat)
  have wD : ∀ {i j}, i < N → j < N → Wee (D i j) := fun hi hj => (Dm_bd hf.lo hV hi hj).wee6 (by decide)
  walk_at "mpM"
  refine ⟨(show N ≤ 100000 by omega), fun x a => ∃ w5 w6 w7, a = ⟨[some (.dat (mtr n f)), some (.dat (.lst ((placesF n f).map rowT))), some (.dat (.int (N : Int))), some (.dat (farD V)), some (.ptr p), w5, w6, w7, none, none, none], mput b0.mem p (C ((List.range x).flatMap eX))⟩ ∧ ((List.range x).flatMap eX).length ≤ x * 16, ⟨_, _, _, rfl, by simp⟩, ?_, ?_⟩
  · rintro x _ hx ⟨w5, w6, w7, rfl, hxl⟩
    have hx : x < N := hx
    walk_at "mpM"
    refine ⟨(show x + 1 ≤ N ∧ N ≤ 100000 from ⟨by omega, by omega⟩), fun y a => ∃ w6 w7, a = ⟨[some (.dat (mtr n f)), some (.dat (.lst ((placesF n f).map rowT))), some (.dat (.int (N : Int))), some (.dat (farD V)), some (.ptr p), some (.dat (.int (x : Int))), w6, w7, none, none, none], mput b0.mem p (C ((List.range x).flatMap eX ++ ((rng (x + 1) y).filter fun (y : Nat) => !btw N D x y).map fun (y : Nat) => ((x : Int), (y : Int), D x y)))⟩, ⟨_, _, by rw [rng_nil, List.filter_nil, List.map_nil, List.append_nil]; rfl⟩, ?_, ?_⟩
    · rintro y _ hy1 hy ⟨w6, w7, rfl⟩
      have hy : y < N := hy
      walk_at "mpM"
      refine ev_lcF1 (fun z => !decide ((z : Int) ∈ [(x : Int), (y : Int)])) (fun z => .int (z : Int)) (by decide) ?_
      walk_at "mpM"
      refine ⟨(show N ≤ 50000 by omega), fun z m hz _ => ?_, fun z m hz _ _ => ?_, ?_⟩
      · walk_at "mpM"
        refine ro_inI (is := [(x : Int), (y : Int)]) ?_
        walk_at "mpM"
        exact ⟨rfl, rfl⟩
      · walk_at "mpM"
        exact ⟨rfl, rfl⟩
      let others := (List.range N).filter fun (z : Nat) => !decide ((z : Int) ∈ [(x : Int), (y : Int)])
      have hoth : ∀ {d : MP.D}, d ∈ others.map (fun (z : Nat) => MP.D.int (z : Int)) → ∃ z, z < N ∧ d = .int ((z : Nat) : Int) ∧ zn d = z := fun hd => by
        obtain ⟨z, hz, rfl⟩ := List.mem_map.mp hd
        exact ⟨z, List.mem_range.mp (List.mem_filter.mp hz).1, rfl, by simp [zn]⟩
      show NX K b0 _ (AS.put _ 7 (B.dat (.lst (others.map fun (z : Nat) => MP.D.int (z : Int)))))
      walk_at "mpM"
      refine ev_lcML (fun d => .bl (decide (D x (zn d) + D (zn d) y = D x y))) (by decide) ?_
      walk_at "mpM"
      have hol : others.length ≤ 50000 := by
        have := List.length_filter_le (fun (z : Nat) => !decide ((z : Int) ∈ [(x : Int), (y : Int)])) (List.range N)
        rw [List.length_range] at this
        show ((List.range N).filter _).length ≤ _
        omega
      refine ⟨by rw [List.length_map]; exact hol, fun d m hd _ => ?_, ?_⟩
      · obtain ⟨z, hz, rfl, hzn⟩ := hoth hd
        rw [hzn]
        walk_at "mpM"
        refine ro_far hx ?_
        walk_at "mpM"
        refine ro_farC hz ?_
        walk_at "mpM"
        refine ro_far hz ?_
        walk_at "mpM"
        refine ro_farC hy ?_
        refine ro_addR (wD hx hz) (wD hz hy) ?_
        walk_at "mpM"
        refine ro_far hx ?_
        walk_at "mpM"
        refine ro_farC hy ?_
        walk_at "mpM"
        exact ⟨rfl, rfl⟩
      have ebl : ((others.map fun (z : Nat) => MP.D.int (z : Int)).map fun d => MP.D.bl (decide (D x (zn d) + D (zn d) y = D x y))) = (others.map fun z => decide (D x z + D z y = D x y)).map MP.D.bl := by
        rw [List.map_map, List.map_map]
        refine List.map_congr_left fun z _ => ?_
        simp only [Function.comp, zn, Int.toNat_natCast]
        exact congrArg MP.D.bl (decide_eq_decide.mpr Iff.rfl)
      have ebt : (others.map fun z => decide (D x z + D z y = D x y)).any id = btw N D x y := by
        rw [List.any_map]
        rfl
      rw [ebl]
      walk_at "mpM"
      refine rc_any (is := others.map fun z => decide (D x z + D z y = D x y)) (.inr ⟨_, rfl, rfl⟩) ?_
      rw [ebt]
      have enx : ((rng (x + 1) (y + 1)).filter fun (y : Nat) => !btw N D x y) = ((rng (x + 1) y).filter fun (y : Nat) => !btw N D x y) ++ (if !btw N D x y then [y] else []) := by
        rw [rng_succ (by omega), List.filter_append]
        congr 1
        simp [List.filter_cons]
      walk_at "mpM"
      refine ⟨fun hc => ?_, fun hc => ?_⟩
      · walk_at "mpM"
        refine ro_far hx ?_
        walk_at "mpM"
        refine ro_farC hy ?_
        walk_at "mpM"
        have hlen2 : (((rng (x + 1) y).filter fun (y : Nat) => !btw N D x y)).length ≤ 16 := by
          have := List.length_filter_le (fun (y : Nat) => !btw N D x y) (rng (x + 1) y)
          rw [rng_len] at this
          omega
        refine ⟨by simp only [List.length_map, List.length_append]; omega, ?_⟩
        refine nx_inv ⟨some (.dat (.int (y : Int))), some (.dat (.lst (others.map fun (z : Nat) => MP.D.int (z : Int)))), ?_⟩
        rw [enx, if_pos hc]
        simp only [C, List.map_append, List.append_assoc, AS.at, mput_mput]
        try rfl
      · walk_at "mpM"
        refine nx_inv ⟨some (.dat (.int (y : Int))), some (.dat (.lst (others.map fun (z : Nat) => MP.D.int (z : Int)))), ?_⟩
        rw [enx, if_neg (by rw [hc]; decide), List.append_nil]
        rfl
    · rintro _ ⟨w6, w7, rfl⟩
      refine nx_mk (nx_inv ⟨some (.dat (.int (x : Int))), w6, w7, ?_, ?_⟩)
      · rw [List.range_succ, flat_succ]
        try rfl
      · rw [List.range_succ, flat_succ, List.length_append, Nat.add_mul]
        have : (eX x).length ≤ 16 := by
          have := List.length_filter_le (fun (y : Nat) => !btw N D x y) (rng (x + 1) N)
          rw [rng_len] at this
          show (((rng (x + 1) N).filter _).map _).length ≤ _
          rw [List.length_map]
          omega
        omega
  · rintro _ ⟨w5, w6, w7, rfl, _⟩
    refine nx_go (gs_frz (ds := (edgesT n f).map edgeD) hp mput_same (e := [some (.dat (mtr n f)), some (.dat (.lst ((placesF n f).map rowT))), some (.dat (.int (N : Int))), some (.dat (farD V)), some (.dat (.lst ((edgesT n f).map edgeD))), w5, w6, w7, none, none, none]) (.keep (.keep (.keep (.keep (.hit (.keep (.keep (.keep (.keep (.keep (.keep .nil))))))))))) ?_)
    refine gs_ret (ev_mkTree ?_)
    walk_at "mpM"
    refine fun r => (hret _ ⟨r, rfl⟩).go fun q c hq => ?_
    show mdel (mput b0.mem p _) p q = _
    rw [mdel_mput hp]
    exact hq

theorem ro_notN {K : PySem.W.Frag} {b0 : Ba} {a : AS} {k : B → AS → Prop} {b : B} (hk : ∀ (F : Hp) (u : L2.V), RepB K F b u → k (.dat (.bl (!decide (u = .non)))) a) : RO K b0 (fun x y H Q => y = .non ∧ Q (.bl (!decide (x = .non))) H) b (.dat .non) a k := fun σ H u v Q R ru rv q =>
  ⟨rv, q _ H _ a (hk _ u ru) R (Ex.refl _) rfl⟩
/-! ### tree_paper -/
/-- a paper of a tree -/
def treeP (n : Nat) (f : Nat → Nat → Rat) : MP.D := .tup [.str "tree", .int (((edgesT n f).length + 1 : Nat) : Int), .tup ((edgesT n f).map edgeD)]
def pointsP (q : Quad) : MP.D := .tup [.str "points", .int (q.1 : Int), .int (q.2.1 : Int), .int (q.2.2.1 : Int), .int (q.2.2.2 : Int)]
def pPaper : NF → B → Prop := fun i x => x = .dat (mtr i.1 i.2) ∧ MetOk i.1 i.2 ∧ IsMet i.1 i.2
def zPaper : NF → MP.D → Prop := fun i d => (Four i.1 i.2 ∧ d = treeP i.1 i.2) ∨ ∃ q ∈ quads i.1, abv i.2 q = true ∧ d = pointsP q
section
variable {K : PySem.W.Frag} {b0 : Ba} {a : AS} {ta : TE} {k : B → AS → Prop} {mg : Str → Option Value}
theorem lk {f : Str} {g : Str} {x : MP.D} {l : List (Str × MP.D)} {r : Option MP.D} (h : (f == g) = false) (e : l.lookup f = r) : ((g, x) :: l).lookup f = r := by rw [List.lookup_cons, h]; exact e
theorem lk1 {f : Str} {g : Str} {x : MP.D} {l : List (Str × MP.D)} (h : (f == g) = true) : ((g, x) :: l).lookup f = some x := by rw [List.lookup_cons, h]
theorem ev_tsize (M : FX K mg) (h : EV K b0 ta a fun x a1 => ∃ n es r, x = .dat (treeO n es r) ∧ k (.dat (.int ((es.length + 1 : Nat) : Int))) a1) : EV K b0 (tFld K ta "size") a k :=
  ev_fldO (EV.mono h fun x a1 ⟨n, es, r, e, hk⟩ => ⟨_, _, _, _, e, M.cls 81, M.noat 83, lk (by decide +kernel) (lk1 (by decide +kernel)), hk⟩)
theorem ev_tedges (M : FX K mg) (h : EV K b0 ta a fun x a1 => ∃ n es r, x = .dat (treeO n es r) ∧ k (.dat (.tup (es.map edgeD))) a1) : EV K b0 (tFld K ta "edges") a k :=
  ev_fldO (EV.mono h fun x a1 ⟨n, es, r, e, hk⟩ => ⟨_, _, _, _, e, M.cls 81, M.noat 84, lk (by decide +kernel) (lk (by decide +kernel) (lk1 (by decide +kernel))), hk⟩)
end
theorem sc_tree_paper : FnScope ["metric", "found", "tree"] ["metric"] (defScope s_tree_paper) := ⟨rfl, rfl, rfl, by decide +kernel, rfl, by decide +kernel, by decide +kernel⟩
theorem c_tree_paper {P : Program} {w : World} {K : PySem.W.Frag} {mg : Str → Option Value} {base : Heap} (M : FX K mg) : C8.Cal P w K mg base 10 "tree_paper" (spP K (p1 pPaper) (zPaper)) [] := by
  obtain ⟨fd, F⟩ := M.said.def_ 40
  refine ⟨_, fd, ["metric"], [], (def_pn (j := 9) F sc_tree_paper p1_len fun cdv A outer s H E hr => ⟨_, (pss_cons (ps_set (i := 1) sc_tree_paper.nd rfl (by first | exact Or.inl rfl | exact Or.inr rfl) (C8.pe_c (c_failing_quadruple M) hr (by decide) (by rfl) (pa_cons (pv 0) pa_nil)))
      (pss_cons (ps_if (pt_cmpR op_notN (pv 1) pe_non (nomark _))
        (pss_one (ps_ret (pe_op (op_addAny M (ops M) hr) (pe_tup (pa_cons pe_str pa_nil)) (pv 1))))
        pss_nil)
        (pss_cons (ps_set (i := 2) sc_tree_paper.nd rfl (by first | exact Or.inl rfl | exact Or.inr rfl) (C8.pe_c (c_tree_of M) hr (by decide) (by rfl) (pa_cons (pv 0) pa_nil)))
          (pss_one (ps_ret (pe_tup (pa_cons pe_str (pa_cons (pe_fldK (K := K) (pv 2) rfl) (pa_cons (pe_fldK (K := K) (pv 2) rfl) pa_nil))))))))), ?_⟩), M.glo 31, F.kp, F.bindsN fun _ _ _ _ _ _ us hl => match us, hl with | [_], _ => rfl, .nil⟩
  try dsimp only [cx_K]
  intro b0 Z ix bs h hret
  obtain ⟨n, f⟩ := ix
  obtain ⟨_, rfl, rfl, hf, hm⟩ := h
  have hf : MetOk n f := hf
  have hm : IsMet n f := hm
  walk_at "mpM"
  refine ⟨(n, f), ⟨_, rfl, rfl, hf⟩, fun d hd => ?_⟩
  rcases hd with ⟨rfl, h4⟩ | ⟨q, hq, ha, rfl⟩
  · walk_at "mpM"
    refine ro_notN fun F u hu => ?_
    cases (show u = .non from hu)
    walk_at "mpM"
    refine ⟨fun h => (by cases h), fun _ => ?_⟩
    walk_at "mpM"
    refine ⟨(n, f), ⟨_, rfl, rfl, hf, hm, h4⟩, fun d ⟨r, hd⟩ => ?_⟩
    cases (show d = _ from hd)
    walk_at "mpM"
    refine ev_tsize M ?_
    walk_at "mpM"
    refine ⟨_, _, _, rfl, ?_⟩
    walk_at "mpM"
    refine ev_tedges M ?_
    walk_at "mpM"
    refine ⟨_, _, _, rfl, ?_⟩
    walk_at "mpM"
    exact (hret _ (.inl ⟨h4, rfl⟩)).go fun _ _ h => h
  · walk_at "mpM"
    refine ro_notN fun F u hu => ?_
    obtain ⟨p, vs, rfl, _⟩ := hu
    walk_at "mpM"
    refine ⟨fun _ => ?_, fun h => (by cases h)⟩
    walk_at "mpM"
    refine ro_addT (by simp) ?_
    exact (hret _ (.inr ⟨q, hq, ha, rfl⟩)).go fun _ _ h => h
end MP
/-! MSA -/
set_option exponentiation.threshold 10000
/-! the law's state -/
namespace MP
open PySem PySem.Spec PyProof.Rows L2

/-- the state's list -/
def StC (c : C) : Prop := ∃ s t : Int, c = .lst [.dat (.int s), .dat (.int t)] ∧ 0 ≤ s ∧ 0 ≤ t ∧ t < 2147483647
abbrev TkI := Addr × C × Nat
def pTake : TkI → B → B → Ms → Prop := fun i x y m => x = .ptr i.1 ∧ y = .dat (.int (i.2.2 : Int)) ∧ m i.1 = some i.2.1 ∧ StC i.2.1 ∧ 0 < i.2.2 ∧ i.2.2 ≤ 100000
def zTake : TkI → List B → Ms → B → Ms → Prop := fun i _ m b m' => ∃ (v : Nat) (c : C), v < i.2.2 ∧ StC c ∧ b = .dat (.int (v : Int)) ∧ m' = mput m i.1 c
theorem sc_Ltake : FnScope ["_law_state_here", "_law_m", "_law_value"] ["_law_state_here", "_law_m"] (defScope s_Ltake) := ⟨rfl, rfl, rfl, by decide +kernel, rfl, by decide +kernel, by decide +kernel⟩
theorem c_Ltake {P : Program} {w : World} {K : PySem.W.Frag} {mg : Str → Option Value} {base : Heap} (M : FX K mg) : C8.Cal P w K mg base 5 "_law_take" (spN K (n2 pTake) (zTake)) [] := by
  obtain ⟨fd, F⟩ := M.said.def_ 42
  refine ⟨_, fd, ["_law_state_here", "_law_m"], [], (def_non (j := 4) F sc_Ltake n2_len fun cdv A outer s H E hr => ⟨_, (pss_cons (ps_if (pt_cmpR op_gt (pe_ix (ix_seqK (K := K)) (pv 0) pe_int (fun _ _ => rfl)) pe_int (nomark _))
      (pss_cons (ps_set (i := 2) sc_Ltake.nd rfl (by first | exact Or.inl rfl | exact Or.inr rfl) (pe_op op_modI (pe_callTy (T := "int") call_int1 (by rfl) (M.free 64) (by decide +kernel) (pa_cons (pe_ix (ix_seqK (K := K)) (pv 0) pe_int (fun _ _ => rfl)) pa_nil)) (pv 1)))
        (pss_cons (ps_asg (pe_op op_fdivI (pe_ix (ix_seqK (K := K)) (pv 0) pe_int (fun _ _ => rfl)) (pv 1)) (pg_sub (pv 0) pe_int set_list))
          (pss_one (ps_ret (pv 2)))))
      pss_nil)
      (pss_cons (ps_asg (pe_op op_modI (pe_callTy (T := "int") call_int1 (by rfl) (M.free 64) (by decide +kernel) (pa_cons (pe_op op_add (pe_op op_mulI (pe_ix (ix_seqK (K := K)) (pv 0) pe_int (fun _ _ => rfl)) pe_int) pe_int) pa_nil)) pe_int) (pg_sub (pv 0) pe_int set_list))
        (pss_one (ps_ret (pe_op op_modI (pe_callTy (T := "int") call_int1 (by rfl) (M.free 64) (by decide +kernel) (pa_cons (pe_op op_fdivI (pe_ix (ix_seqK (K := K)) (pv 0) pe_int (fun _ _ => rfl)) pe_int) pa_nil)) (pv 1)))))), ?_⟩), M.glo 33, F.kp, F.bindsN fun _ _ _ _ _ _ us hl => match us, hl with | [_, _], _ => rfl, .nil⟩
  try dsimp only [cx_K]
  intro b0 Z ix bs h hret
  obtain ⟨p, c, mm⟩ := ix
  obtain ⟨_, _, rfl, rfl, rfl, hp, ⟨s', t, hc, hs, ht, ht2⟩, hm, hm2⟩ := h
  have hp : b0.mem p = some c := hp
  have hc : c = _ := hc
  subst hc
  have hm : 0 < mm := hm
  have hm2 : mm ≤ 100000 := hm2
  have hmI : (0 : Int) < (mm : Int) := by omega
  have hM : (0 : Int) < 2147483647 := by decide
  have m48 : IntMulOk t 48271 := mul_ok (a := 40) (b := 40) (by omega) (by decide) (by omega)
  have dvm : CDivW s' (mm : Int) := cdivw hmI (Nat.lt_of_lt_of_le (by omega : (mm : Int).natAbs < 2 ^ 20) (Nat.pow_le_pow_right (by omega) (by omega)))
  walk_at "mpR"
  refine ro_ixP hp (b := .dat (.int s')) rfl ?_
  walk_at "mpR"
  refine ⟨fun hc => ?_, fun hc => ?_⟩
  · walk_at "mpR"
    refine ro_ixP hp (b := .dat (.int s')) rfl ?_
    walk_at "mpR"
    refine ro_ixP hp (b := .dat (.int s')) rfl ?_
    walk_at "mpR"
    refine gg_sub (ev_var rfl (ev_int ⟨p, _, _, 0, rfl, rfl, hp, rfl, ?_⟩))
    walk_at "mpR"
    have h1 : 0 ≤ s' % (mm : Int) := Int.emod_nonneg _ (by omega)
    have h2 : s' % (mm : Int) < (mm : Int) := Int.emod_lt_of_pos _ hmI
    obtain ⟨v, hv⟩ := Int.eq_ofNat_of_zero_le h1
    rw [hv]
    refine (hret _ _ ⟨v, .lst [.dat (.int (s' / (mm : Int))), .dat (.int t)], by show v < mm; omega, ⟨_, t, rfl, Int.ediv_nonneg hs (by omega), ht, ht2⟩, rfl, rfl⟩ _ fun q _ => rfl).1
  · walk_at "mpR"
    refine ro_ixP hp (b := .dat (.int t)) rfl ?_
    walk_at "mpR"
    refine gg_sub (ev_var rfl (ev_int ⟨p, _, _, 1, rfl, rfl, hp, rfl, ?_⟩))
    walk_at "mpR"
    refine ro_ixP mput_same (b := .dat (.int ((t * 48271 + 11) % 2147483647))) rfl ?_
    walk_at "mpR"
    refine ro_I (cdivw (by decide) (by decide)) ?_
    walk_at "mpR"
    have h3 : 0 ≤ (t * 48271 + 11) % 2147483647 := Int.emod_nonneg _ (by decide)
    have h4 : (t * 48271 + 11) % 2147483647 < 2147483647 := Int.emod_lt_of_pos _ (by decide)
    have h1 : 0 ≤ (t * 48271 + 11) % 2147483647 / 7 % (mm : Int) := Int.emod_nonneg _ (by omega)
    have h2 : (t * 48271 + 11) % 2147483647 / 7 % (mm : Int) < (mm : Int) := Int.emod_lt_of_pos _ hmI
    obtain ⟨v, hv⟩ := Int.eq_ofNat_of_zero_le h1
    rw [hv]
    refine (hret _ _ ⟨v, .lst [.dat (.int s'), .dat (.int ((t * 48271 + 11) % 2147483647))], by show v < mm; omega, ⟨s', _, rfl, hs, h3, h4⟩, rfl, rfl⟩ _ fun q _ => rfl).1
end MP
/-! MSB -/
set_option exponentiation.threshold 10000
/-! defs that change the law's state and hand back data -/
namespace MP
open PySem PySem.Spec PyProof.Rows L2

def zS {ι : Type} (P : ι → Addr) (Q : ι → D → Prop) : ι → List B → Ms → B → Ms → Prop := fun i _ m b m' => ∃ d c, StC c ∧ Q i d ∧ b = .dat d ∧ m' = mput m (P i) c
section
variable {K : PySem.W.Frag} {b0 : Ba} {a : AS} {te ta tb : TE} {k : B → AS → Prop} {Z : Ends}
theorem RT.up {rt : VK} {b : B} {e : D} {v : L2.V} (h : RT K b0 rt b a) : RT K (b0.add e v) rt b a := fun σ H u R r => h σ H u R.ungh r
theorem zS.go {ι : Type} {P : ι → Addr} {Q : ι → D → Prop} {i : ι} {bs : List B} (hret : ∀ b m', zS P Q i bs b0.mem b m' → RetE K b0 Z b m') {d : D} {c : C} (hc : StC c) (hq : Q i d) (hp : a.mem (P i) = some c) (ho : ∀ q x, b0.mem q = some x → q ≠ P i → a.mem q = some x) : RT K b0 Z.rt (.dat d) a := by
  refine (hret _ _ ⟨d, c, hc, hq, rfl, rfl⟩ a fun q hq' => ?_).1
  by_cases e : q = P i
  · rw [e, mput_same, hp]
  · rw [mput_ne e]
    cases z : b0.mem q with
    | none => rw [z] at hq'; cases hq'
    | some x => exact (ho q x z e).symm
theorem dom_put {m : Ms} {p : Addr} {c0 c : C} (h : m p = some c0) : ∀ q, (mput m p c q).isSome = (m q).isSome := fun q => by
  by_cases e : q = p
  · rw [e, mput_same, h]; rfl
  · rw [mput_ne e]
theorem ev_callS {ι : Type} {pre : ι → List B → Ms → Prop} {P : ι → Addr} {Q : ι → D → Prop} {E : XK} {tas : TA} (h : EA K b0 tas a fun bs a1 => ∃ i c0, pre i bs a1.mem ∧ a1.mem (P i) = some c0 ∧ ∀ d c, StC c → Q i d → k (.dat d) (a1.at (mput a1.mem (P i) c))) : EV K b0 (tCall (spN K pre (zS P Q)) [] E tas) a k :=
  ev_callN fun σ H Qq R q => h σ H Qq R fun vs H1 bs a1 ⟨i, c0, h1, h2, h3⟩ R1 e1 r1 => q vs H1 bs a1 ⟨i, h1, fun b m' ⟨d, c, hc, hq, eb, em⟩ => by
    subst eb em
    exact ⟨dom_put h2, h3 d c hc hq⟩⟩ R1 e1 r1
/-- the call of _law_take -/
theorem ev_take {E : XK} (h : EV K b0 ta a fun x a1 => EV K b0 tb a1 fun y a2 => ∃ (p : Addr) (c : C) (m : Nat), x = .ptr p ∧ y = .dat (.int (m : Int)) ∧ a2.mem p = some c ∧ StC c ∧ 0 < m ∧ m ≤ 100000 ∧ ∀ (v : Nat) (c' : C), v < m → StC c' → k (.dat (.int (v : Int))) (a2.at (mput a2.mem p c'))) :
    EV K b0 (tCall (spN K (n2 pTake) zTake) [] E (tCons ta (tCons tb tNil))) a k :=
  ev_callN (ea_cons (EV.mono h fun x a1 h1 => ea_cons (EV.mono h1 fun y a2 ⟨p, c, m, e1, e2, hp, hc, h0, hm, h2⟩ => ea_nil ⟨(p, c, m), ⟨x, y, rfl, e1, e2, hp, hc, h0, hm⟩, fun b m' ⟨v, c', hv, hc', eb, em⟩ => by
    subst eb em
    exact ⟨dom_put hp, h2 v c' hv hc'⟩⟩)))
end
/-! ### _law_order_of -/
abbrev StI := Addr × C × Nat
def pOrd : StI → B → B → Ms → Prop := fun i x y m => x = .ptr i.1 ∧ y = .dat (.int (i.2.2 : Int)) ∧ m i.1 = some i.2.1 ∧ StC i.2.1 ∧ i.2.2 ≤ 1000
def zOrd : StI → D → Prop := fun i d => ∃ l : List Nat, d = .lst (l.map fun (x : Nat) => .int (x : Int)) ∧ l.length = i.2.2 ∧ l.Nodup ∧ ∀ x ∈ l, x < i.2.2
def iB (l : List Nat) : List B := l.map fun (x : Nat) => B.dat (.int (x : Int))
theorem iB_len {l : List Nat} : (iB l).length = l.length := List.length_map ..
theorem cons_eraseIdx : ∀ (l : List Nat) (i : Nat) (h : i < l.length), ([l[i]] ++ l.eraseIdx i).Perm l
  | x :: l, 0, _ => .refl _
  | x :: l, i + 1, h => by
    have := cons_eraseIdx l i (by simpa using h)
    show (l[i]'(by simpa using h) :: x :: l.eraseIdx i).Perm (x :: l)
    exact (List.Perm.swap _ _ _).trans (List.Perm.cons x this)
theorem erase_map {α β : Type} (f : α → β) : ∀ (l : List α) (i : Nat), (l.map f).eraseIdx i = (l.eraseIdx i).map f
  | [], _ => rfl
  | _ :: _, 0 => rfl
  | x :: l, i + 1 => congrArg (f x :: ·) (erase_map f l i)
theorem perm_nodup {l l' : List Nat} {i : Nat} {v : Nat} (h : l[i]? = some v) (hn : (l' ++ l).Nodup) : ((l' ++ [v]) ++ l.eraseIdx i).Nodup := by
  have e : ((l' ++ [v]) ++ l.eraseIdx i).Perm (l' ++ l) := by
    rw [List.append_assoc]
    refine List.Perm.append_left _ ?_
    obtain ⟨hi, hv⟩ := List.getElem?_eq_some_iff.mp h
    rw [← hv]
    exact cons_eraseIdx l i hi
  exact e.nodup_iff.mpr hn
theorem sc_Lorder_of : FnScope ["_law_state_here", "_law_n", "_law_left", "_law_found", "_law_k"] ["_law_state_here", "_law_n"] (defScope s_Lorder_of) := ⟨rfl, rfl, rfl, by decide +kernel, rfl, by decide +kernel, by decide +kernel⟩
theorem c_Lorder_of {P : Program} {w : World} {K : PySem.W.Frag} {mg : Str → Option Value} {base : Heap} (M : FX K mg) : C8.Cal P w K mg base 6 "_law_order_of" (spN K (n2 pOrd) (zS (fun i => i.1) zOrd)) [] := by
  obtain ⟨fd, F⟩ := M.said.def_ 43
  refine ⟨_, fd, ["_law_state_here", "_law_n"], [], (def_non (j := 5) F sc_Lorder_of n2_len fun cdv A outer s H E hr => ⟨_, (pss_cons (ps_set (i := 2) sc_Lorder_of.nd rfl (by first | exact Or.inl rfl | exact Or.inr rfl) (pe_listRg rfl (by rfl) (M.free 67) (prg_1 (by rfl) (M.free 62) (pv 1))))
      (pss_cons (ps_set (i := 3) sc_Lorder_of.nd rfl (by first | exact Or.inl rfl | exact Or.inr rfl) (pe_lst pa_nil))
        (pss_cons (ps_for PassesOwn.never rfl (pi_range1 rfl (M.free 62) (pa_cons (pv 1) pa_nil)) (pg_name (i := 4) sc_Lorder_of.nd rfl (by first | exact Or.inl rfl | exact Or.inr rfl))
          (pss_one (ps_expr (pe_bm PySem.F.plainAttrs_list PySem.F.slot_list_append PySem.F.type_list_append mt_append (pv 3) (pa_cons (pe_bm PySem.F.plainAttrs_list PySem.F.slot_list_pop PySem.F.type_list_pop mt_popAt (pv 2) (pa_cons (C8.pe_c (c_Ltake M) hr (by decide) (by rfl) (pa_cons (pv 0) (pa_cons (pe_callB (call_len_anyK (K := K)) (by rfl) (M.free 61) PySem.boot_len (pa_cons (pv 2) pa_nil)) pa_nil))) pa_nil)) pa_nil)))))
          (pss_one (ps_ret (pv 3)))))), ?_⟩), M.glo 34, F.kp, F.bindsN fun _ _ _ _ _ _ us hl => match us, hl with | [_, _], _ => rfl, .nil⟩
  try dsimp only [cx_K]
  intro b0 Z ix bs h hret
  obtain ⟨p, c, n⟩ := ix
  obtain ⟨_, _, rfl, rfl, rfl, hp, hc, hn⟩ := h
  have hp : b0.mem p = some c := hp
  have hc : StC c := hc
  have hn : n ≤ 1000 := hn
  refine gs_seq (gs_set (ev_listRg ?_))
  walk_at "mpR"
  refine ⟨(by show (n : Int) ≤ _; omega), (by show _ ≤ (n : Int); omega), fun q hq1 hq2 => ?_⟩
  refine nx_go (gs_seq (gs_set (ev_lstM (ea_nil ⟨by simp, fun r hr1 hr2 => ?_⟩))))
  have hqp : q ≠ p := fun e => by rw [e, hp] at hq2; cases hq2
  have hrp : r ≠ p := fun e => by rw [e, hp] at hr2; cases hr2
  have hrq : r ≠ q := fun e => by
    have h1 : mput b0.mem q (.lst _) r = none := hr1
    rw [e, mput_same] at h1
    cases h1
  walk_at "mpR"
  refine ⟨(show n ≤ 100000 by omega), fun i a => ∃ (L F : List Nat) (c : C) (w4 : Option B), L.length + F.length = n ∧ F.length = i ∧ (F ++ L).Nodup ∧ (∀ x ∈ F ++ L, x < n) ∧ StC c ∧
    a.env = [some (.ptr p), some (.dat (.int (n : Int))), some (.ptr q), some (.ptr r), w4] ∧ a.mem q = some (.lst (iB L)) ∧ a.mem r = some (.lst (iB F)) ∧ a.mem p = some c ∧ ∀ z x, b0.mem z = some x → z ≠ p → a.mem z = some x,
    ⟨List.range n, [], c, none, by simp, rfl, by simpa using List.nodup_range, fun x hx => by simpa using hx, hc, rfl, ?_, mput_same, ?_, fun z x hz hzp => ?_⟩, ?_, ?_⟩
  · show mput (mput b0.mem q _) r _ q = _
    rw [mput_ne (fun e => hrq e.symm), mput_same]
    simp [iB]
  · show mput (mput b0.mem q _) r _ p = _
    rw [mput_ne (fun e => hrp e.symm), mput_ne (fun e => hqp e.symm)]
    exact hp
  · show mput (mput b0.mem q _) r _ z = _
    rw [mput_ne (fun e => by rw [e, hr2] at hz; cases hz), mput_ne (fun e => by rw [e, hq2] at hz; cases hz)]
    exact hz
  · rintro i ⟨env, mem⟩ hi ⟨L, F, c, w4, hlen, hF, hnd, hlt, hc, henv, hmq, hmr, hmp, hrest⟩
    cases (show env = _ from henv)
    have hmq : mem q = _ := hmq
    have hmr : mem r = _ := hmr
    have hmp : mem p = _ := hmp
    have hi : i < n := hi
    walk_at "mpR"
    have hLpos : 0 < L.length := by omega
    refine ⟨r, iB F, rfl, hmr, ?_⟩
    refine ev_popAt ?_
    walk_at "mpR"
    refine ⟨q, iB L, rfl, hmq, ?_⟩
    refine ev_take ?_
    walk_at "mpR"
    refine rc_lenL (.inl ⟨q, rfl, hmq⟩) ?_
    walk_at "mpR"
    refine ⟨p, c, L.length, rfl, by rw [iB_len], hmp, hc, hLpos, by omega, fun v c' hv hc' => ?_⟩
    have hLv : L[v]? = some L[v] := List.getElem?_eq_getElem hv
    refine ⟨iB L, v, .dat (.int (L[v] : Int)), rfl, ?_, by rw [iB, List.getElem?_map, hLv]; rfl, by rw [iB_len]; omega, ?_⟩
    · show mput mem p c' q = _
      rw [mput_ne hqp]
      exact hmq
    refine ⟨iB F, ?_, by rw [iB_len]; omega, ?_⟩
    · show mput (mput mem p c') q _ r = _
      rw [mput_ne hrq, mput_ne hrp]
      exact hmr
    have hle : (L.eraseIdx v).length = L.length - 1 := List.length_eraseIdx_of_lt hv
    refine nx_inv ⟨L.eraseIdx v, F ++ [L[v]], c', some (.dat (.int (i : Int))), by rw [List.length_append, hle]; simp; omega, by simp [hF], perm_nodup hLv hnd, fun x hx => ?_, hc', rfl, ?_, ?_, ?_, fun z x hz hzp => ?_⟩
    · rw [List.append_assoc] at hx
      rcases List.mem_append.mp hx with hx | hx
      · exact hlt x (List.mem_append_left _ hx)
      · exact hlt x (List.mem_append_right _ ((cons_eraseIdx L v hv).mem_iff.mp hx))
    · show mput (mput (mput mem p c') q _) r _ q = _
      rw [mput_ne (fun e => hrq e.symm), mput_same, iB, iB, erase_map]
    · show mput (mput (mput mem p c') q _) r _ r = _
      rw [mput_same]
      simp [iB]
    · show mput (mput (mput mem p c') q _) r _ p = _
      rw [mput_ne (fun e => hrp e.symm), mput_ne (fun e => hqp e.symm), mput_same]
    · show mput (mput (mput mem p c') q _) r _ z = _
      rw [mput_ne (fun e => by rw [e, hr2] at hz; cases hz), mput_ne (fun e => by rw [e, hq2] at hz; cases hz), mput_ne hzp]
      exact hrest z x hz hzp
  · rintro ⟨env, mem⟩ ⟨L, F, c, w4, hlen, hF, hnd, hlt, hc, henv, hmq, hmr, hmp, hrest⟩
    cases (show env = _ from henv)
    have hmr : mem r = _ := hmr
    have hF : F.length = n := hF
    have hL0 : L = [] := List.eq_nil_of_length_eq_zero (by omega)
    subst hL0
    rw [List.append_nil] at hnd hlt
    walk_at "mpR"
    refine rt_frz (d := .lst (F.map fun (x : Nat) => .int (x : Int))) hr2 hmr ⟨_, ?_, rfl⟩ (zS.go hret hc ⟨F, rfl, hF, hnd, hlt⟩ ?_ fun z x hz hzp => ?_)
    · rw [iB, List.map_map]
      rfl
    · show mdel mem r p = _
      rw [mdel_ne (fun e => hrp e.symm)]
      exact hmp
    · show mdel mem r z = _
      rw [mdel_ne (fun e => by rw [e, hr2] at hz; cases hz)]
      exact hrest z x hz hzp
end MP
/-! MSC -/
set_option exponentiation.threshold 10000
/-! _law_shortest -/
namespace MP
open PySem PySem.Spec PyProof.Rows L2

/-- lengths, before the shortest ways are taken -/
structure Wt (n : Nat) (g : Nat → Nat → Int) : Prop where
  zero : ∀ x, x < n → g x x = 0
  symm : ∀ x y, x < n → y < n → g x y = g y x
  pos : ∀ x y, x < n → y < n → x ≠ y → 1 ≤ g x y
  hi : ∀ x y, x < n → y < n → g x y ≤ 10000
/-- a metric of whole numbers -/
structure IMet (n : Nat) (g : Nat → Nat → Int) : Prop where
  wt : Wt n g
  tri : ∀ x y z, x < n → y < n → z < n → g x z ≤ g x y + g y z
def fw (D : Nat → Nat → Int) (K i j : Nat) : Int := if D i K + D K j < D i j then D i K + D K j else D i j
def fwN (D : Nat → Nat → Int) : Nat → Nat → Nat → Int
  | 0 => D
  | K + 1 => fw (fwN D K) K
theorem Wt.nonneg {n : Nat} {g : Nat → Nat → Int} (h : Wt n g) {x y : Nat} (hx : x < n) (hy : y < n) : 0 ≤ g x y := by
  by_cases e : x = y
  · rw [e, h.zero y hy]; omega
  · have := h.pos x y hx hy e; omega
theorem Wt.fw {n K : Nat} {g : Nat → Nat → Int} (h : Wt n g) (hK : K < n) : Wt n (fw g K) := by
  refine ⟨fun x hx => ?_, fun x y hx hy => ?_, fun x y hx hy e => ?_, fun x y hx hy => ?_⟩
  · have h1 := h.nonneg hx hK
    have h2 := h.nonneg hK hx
    have h3 := h.zero x hx
    unfold MP.fw
    split <;> omega
  · unfold MP.fw
    rw [h.symm x y hx hy, h.symm x K hx hK, h.symm K y hK hy, Int.add_comm]
  · have h1 := h.nonneg hx hK
    have h2 := h.nonneg hK hy
    have h3 := h.pos x y hx hy e
    unfold MP.fw
    split
    · by_cases e2 : x = K
      · subst e2
        have := h.pos x y hx hy e
        omega
      · have := h.pos x K hx hK e2
        omega
    · exact h3
  · have := h.hi x y hx hy
    unfold MP.fw
    split <;> omega
theorem Wt.fwN {n : Nat} {g : Nat → Nat → Int} (h : Wt n g) : ∀ K, K ≤ n → Wt n (fwN g K)
  | 0, _ => h
  | K + 1, hK => (Wt.fwN h K (by omega)).fw (by omega)
/-- triangles by the first K points -/
theorem fw_tri {n : Nat} {g : Nat → Nat → Int} (h : Wt n g) : ∀ K, K ≤ n → ∀ x y k, x < n → y < n → k < K → fwN g K x y ≤ fwN g K x k + fwN g K k y
  | 0, _, _, _, _, _, _, hk => by omega
  | K + 1, hK, x, y, k, hx, hy, hk => by
    have w := Wt.fwN h K (by omega)
    have ih := fw_tri h K (by omega)
    have hKn : K < n := by omega
    have hkn : k < n := by omega
    have z := w.zero K hKn
    have n1 := w.nonneg hx hKn
    have n2 := w.nonneg hKn hy
    have n3 := w.nonneg hkn hKn
    have n4 := w.nonneg hKn hkn
    show fw (fwN g K) K x y ≤ fw (fwN g K) K x k + fw (fwN g K) K k y
    by_cases e : k = K
    · subst e
      unfold fw
      rw [z]
      split <;> split <;> split <;> omega
    · have hkK : k < K := by omega
      have i1 := ih x y k hx hy hkK
      have i2 := ih K y k hKn hy hkK
      have i3 := ih x K k hx hKn hkK
      unfold fw
      split <;> split <;> split <;> omega
theorem fw_met {n : Nat} {g : Nat → Nat → Int} (h : Wt n g) : IMet n (fwN g n) := ⟨Wt.fwN h n (Nat.le_refl _), fun x y z hx hy hz => fw_tri h n (Nat.le_refl _) x z y hx hz hy⟩
/-- rows of whole numbers -/
def rowsI (n : Nat) (g : Nat → Nat → Int) : D := .lst ((List.range n).map fun x => .tup ((List.range n).map fun y => .int (g x y)))
def rowsL (n : Nat) (g : Nat → Nat → Int) : D := .lst ((List.range n).map fun x => .lst ((List.range n).map fun y => .int (g x y)))
def sShort : B → D → Prop := fun x d => ∃ n g, x = .dat (rowsL n g) ∧ Wt n g ∧ n ≤ 100 ∧ d = rowsI n (fwN g n)
theorem sc_Lshortest : FnScope ["_law_rows_here", "_law_n", "_law_found", "_law_k", "_law_x", "_law_y", "_law_row"] ["_law_rows_here"] (defScope s_Lshortest) := ⟨rfl, rfl, rfl, by decide +kernel, rfl, by decide +kernel, by decide +kernel⟩
theorem c_Lshortest {P : Program} {w : World} {K : PySem.W.Frag} {mg : Str → Option Value} {base : Heap} (M : FX K mg) : C8.Cal P w K mg base 4 "_law_shortest" (spA K (pw (f1 sShort))) [] := by
  obtain ⟨fd, F⟩ := M.said.def_ 44
  refine ⟨_, fd, ["_law_rows_here"], [], (def_pure (j := 3) F sc_Lshortest f1_len fun cdv A outer s H E hr => ⟨_, (pss_cons (ps_set (i := 1) sc_Lshortest.nd rfl (by first | exact Or.inl rfl | exact Or.inr rfl) (pe_callB (call_len_anyK (K := K)) (by rfl) (M.free 61) PySem.boot_len (pa_cons (pv 0) pa_nil)))
      (pss_cons (ps_setLc (i := 2) (own := [("_law_row", 6)]) (g := gName 6) (by rfl) sc_Lshortest.nd rfl rfl (sw_true rfl rfl rfl (by decide +kernel)) (pi_listK (K := K) (pv 0)) (by dsimp only [Cx.blk, Cx.nox, Cx.wish, cxOf, blk_sc, env_sc]; exact blkOk_by (by decide +kernel)) (fun _ _ _ _ _ => pg_name (i := 6) sc_Lshortest.nd rfl (by first | exact Or.inl rfl | exact Or.inr rfl)) (fun _ _ _ _ _ => pts_nil) (fun _ _ _ _ _ => (pe_callTy (T := "list") (call_list_ofK (K := K)) (by rfl) (M.free 67) (by decide +kernel) (pa_cons (pv 6) pa_nil))))
        (pss_cons (ps_for PassesOwn.never rfl (pi_range1 rfl (M.free 62) (pa_cons (pv 1) pa_nil)) (pg_name (i := 3) sc_Lshortest.nd rfl (by first | exact Or.inl rfl | exact Or.inr rfl))
          (pss_one (ps_for PassesOwn.never rfl (pi_range1 rfl (M.free 62) (pa_cons (pv 1) pa_nil)) (pg_name (i := 4) sc_Lshortest.nd rfl (by first | exact Or.inl rfl | exact Or.inr rfl))
            (pss_one (ps_for PassesOwn.never rfl (pi_range1 rfl (M.free 62) (pa_cons (pv 1) pa_nil)) (pg_name (i := 5) sc_Lshortest.nd rfl (by first | exact Or.inl rfl | exact Or.inr rfl))
              (pss_one (ps_asg (pe_callB (call_min2 rfl) (by rfl) (M.free 69) (by decide +kernel) (pa_cons (pe_ix (ix_seqK (K := K)) (pe_ix (ix_seqK (K := K)) (pv 2) (pv 4) (fun _ _ => rfl)) (pv 5) (fun _ _ => rfl)) (pa_cons (pe_op (op_addAny M (ops M) hr) (pe_ix (ix_seqK (K := K)) (pe_ix (ix_seqK (K := K)) (pv 2) (pv 4) (fun _ _ => rfl)) (pv 3) (fun _ _ => rfl)) (pe_ix (ix_seqK (K := K)) (pe_ix (ix_seqK (K := K)) (pv 2) (pv 3) (fun _ _ => rfl)) (pv 5) (fun _ _ => rfl))) pa_nil))) (pg_sub (pe_ix (ix_seqK (K := K)) (pv 2) (pv 4) (fun _ _ => rfl)) (pv 5) set_list))))))))
          (pss_one (ps_ret (pe_lc (own := [("_law_row", 6)]) (g := gName 6) (by rfl) sc_Lshortest.nd (pi_listK (K := K) (pv 2)) (by dsimp only [Cx.blk, Cx.nox, Cx.wish, cxOf, blk_sc, env_sc]; exact blkOk_by (by decide +kernel)) (fun _ _ _ _ _ => pg_name (i := 6) sc_Lshortest.nd rfl (by first | exact Or.inl rfl | exact Or.inr rfl)) (fun _ _ _ _ _ => pts_nil) (fun _ _ _ _ _ => (pe_callTy (T := "tuple") (call_tuple_ofK (K := K)) (by rfl) (M.free 66) (by decide +kernel) (pa_cons (pv 6) pa_nil))))))))), ?_⟩), M.glo 35, F.kp, F.bindsN fun _ _ _ _ _ _ us hl => match us, hl with | [_], _ => rfl, .nil⟩
  try dsimp only [cx_K]
  intro b0 Z bs d h hret
  obtain ⟨_, rfl, n, g, rfl, hg, hn, rfl⟩ := h
  have hlen : ∀ {α : Type} (f : Nat → α), ((List.range n).map f).length = n := fun f => by rw [List.length_map, List.length_range]
  unfold rowsL
  walk_at "mpR"
  rw [hlen]
  refine ev_lcL (by decide) ?_
  walk_at "mpR"
  rw [hlen]
  refine turns_mat (g := fun x y => .int (g x y)) (by omega) (fun i m hi _ => ?_) fun p qs m hM => ?_
  · have e : ((List.range n).map fun x => D.lst ((List.range n).map fun y => .int (g x y))).getD i .non = .lst ((List.range n).map fun y => .int (g i y)) := by
      rw [List.getD_eq_getElem?_getD, List.getElem?_map, List.getElem?_range hi]
      rfl
    rw [e]
    walk_at "mpR"
    refine rc_listM (ds := (List.range n).map fun y => .int (g i y)) (.inl (.inr ⟨_, rfl, rfl⟩)) fun q h1 h2 => ?_
    walk_at "mpR"
    first | exact rfl | exact ⟨q, rfl, h1, h2, rfl⟩
  have hpq := hM.fresh p (List.mem_cons_self ..)
  let G : (Nat → Nat → Int) → Nat → Nat → Nat → Nat → Nat → Int := fun D k x y i j => if i < x ∨ (i = x ∧ j < y) then fw D k i j else D i j
  have G0 : ∀ D k i j, G D k 0 0 i j = D i j := fun D k i j => if_neg (by omega)
  have GS' : ∀ D k x y, (∀ i, i < n → fw D k k i = D k i) → (∀ i, i < n → fw D k i k = D i k) → x < n → y < n → k < n →
      ∀ i j, (if i = x ∧ j = y then (if G D k x y x k + G D k x y k y < G D k x y x y then G D k x y x k + G D k x y k y else G D k x y x y) else G D k x y i j) = G D k x (y + 1) i j := by
    intro D k x y h1 h2 hx hy hk i j
    have e1 : G D k x y x k = D x k := by
      show (if _ then _ else _) = _
      split
      · exact h2 x hx
      · rfl
    have e2 : G D k x y k y = D k y := by
      show (if _ then _ else _) = _
      split
      · exact h1 y hy
      · rfl
    have e3 : G D k x y x y = D x y := if_neg (by omega)
    rw [e1, e2, e3]
    by_cases e : i = x ∧ j = y
    · rw [if_pos e]
      obtain ⟨rfl, rfl⟩ := e
      exact (show G D k i (j + 1) i j = fw D k i j from if_pos (Or.inr ⟨rfl, Nat.lt_succ_self _⟩)).symm
    · rw [if_neg e]
      show (if i < x ∨ (i = x ∧ j < y) then _ else _) = (if i < x ∨ (i = x ∧ j < y + 1) then _ else _)
      by_cases e4 : i < x ∨ (i = x ∧ j < y)
      · rw [if_pos e4, if_pos (by omega)]
      · rw [if_neg e4, if_neg (by omega)]
  have Grow : ∀ D k x i j, j < n → G D k x n i j = G D k (x + 1) 0 i j := fun D k x i j hj => by
    show (if i < x ∨ (i = x ∧ j < n) then _ else _) = (if i < x + 1 ∨ (i = x + 1 ∧ j < 0) then _ else _)
    by_cases e4 : i < x + 1
    · rw [if_pos (by omega), if_pos (by omega)]
    · rw [if_neg (by omega), if_neg (by omega)]
  have Gend : ∀ D k i j, i < n → G D k n 0 i j = fw D k i j := fun D k i j hi => if_pos (by omega)
  have mcong : ∀ {g1 g2 : Nat → Nat → D} {m1 : Ms}, (∀ i j, i < n → j < n → g1 i j = g2 i j) → MatF b0 b0.mem m1 p qs n g1 → MatF b0 b0.mem m1 p qs n g2 := fun {g1 g2 m1} h hM => by
    refine ⟨hM.len, hM.nd, hM.hp, fun i q hq => ?_, hM.out, hM.fresh⟩
    rw [hM.row i q hq]
    have hi : i < n := by
      have := (List.getElem?_eq_some_iff.mp hq).1
      rw [hM.len] at this
      exact this
    refine congrArg (fun l => some (C.lst (l.map B.dat))) (List.map_congr_left fun j hj => h i j hi (List.mem_range.mp hj))
  let En : Option B → Option B → Option B → List (Option B) := fun w3 w4 w5 => [some (.dat (.lst ((List.range n).map fun x => .lst ((List.range n).map fun y => .int (g x y))))), some (.dat (.int (n : Int))), some (.ptr p), w3, w4, w5, none]
  have fw1 : ∀ k, k < n → (∀ i, i < n → fw (fwN g k) k k i = fwN g k k i) ∧ (∀ i, i < n → fw (fwN g k) k i k = fwN g k i k) := fun k hk => by
    have w := hg.fwN k (by omega)
    have z := w.zero k hk
    constructor
    · intro i hi
      unfold fw
      rw [z]
      split <;> omega
    · intro i hi
      unfold fw
      rw [z]
      split <;> omega
  refine nx_go ?_
  walk_at "mpR"
  refine ⟨by omega, fun k a => ∃ w3 w4 w5, a.env = En w3 w4 w5 ∧ MatF b0 b0.mem a.mem p qs n (fun i j => .int (fwN g k i j)), ⟨none, none, none, rfl, hM⟩, ?_, ?_⟩
  · rintro k ⟨env, mem⟩ hk ⟨w3, w4, w5, henv, hM⟩
    cases (show env = _ from henv)
    have hM : MatF b0 b0.mem mem p qs n (fun i j => .int (fwN g k i j)) := hM
    walk_at "mpR"
    refine ⟨by omega, fun x a => ∃ w4 w5, a.env = En (some (.dat (.int (k : Int)))) w4 w5 ∧ MatF b0 b0.mem a.mem p qs n (fun i j => .int (G (fwN g k) k x 0 i j)), ⟨w4, w5, rfl, mcong (fun i j _ _ => by rw [G0]) hM⟩, ?_, ?_⟩
    · rintro x ⟨env, mem⟩ hx ⟨w4, w5, henv, hM⟩
      cases (show env = _ from henv)
      have hM : MatF b0 b0.mem mem p qs n (fun i j => .int (G (fwN g k) k x 0 i j)) := hM
      walk_at "mpR"
      refine ⟨by omega, fun y a => ∃ w5, a.env = En (some (.dat (.int (k : Int)))) (some (.dat (.int (x : Int)))) w5 ∧ MatF b0 b0.mem a.mem p qs n (fun i j => .int (G (fwN g k) k x y i j)), ⟨w5, rfl, hM⟩, ?_, ?_⟩
      · rintro y ⟨env, mem⟩ hy ⟨w5, henv, hM⟩
        cases (show env = _ from henv)
        have hM : MatF b0 b0.mem mem p qs n (fun i j => .int (G (fwN g k) k x y i j)) := hM
        walk_at "mpR"
        refine ro_mrow hM hx fun q1 hq1 hm1 => ?_
        walk_at "mpR"
        refine ro_mcell hm1 hy ?_
        walk_at "mpR"
        refine ro_mrow hM hx fun q2 hq2 hm2 => ?_
        walk_at "mpR"
        refine ro_mcell hm2 hk ?_
        walk_at "mpR"
        refine ro_mrow hM hk fun q3 hq3 hm3 => ?_
        walk_at "mpR"
        refine ro_mcell hm3 hy ?_
        walk_at "mpR"
        refine gg_mset rfl rfl rfl hM hx hy fun m1 hM1 => ?_
        refine nx_inv ⟨some (.dat (.int (y : Int))), rfl, mcong (fun i j hi hj => ?_) hM1⟩
        rw [← GS' (fwN g k) k x y (fw1 k hk).1 (fw1 k hk).2 hx hy hk i j]
        show (if i = x ∧ j = y then D.int _ else D.int _) = D.int (if _ then _ else _)
        split <;> rfl
      · rintro ⟨env, mem⟩ ⟨w5, henv, hM⟩
        cases (show env = _ from henv)
        exact nx_mk (nx_inv ⟨some (.dat (.int (x : Int))), w5, rfl, mcong (fun i j hi hj => by rw [Grow (fwN g k) k x i j hj]) hM⟩)
    · rintro ⟨env, mem⟩ ⟨w4, w5, henv, hM⟩
      cases (show env = _ from henv)
      exact nx_mk (nx_inv ⟨some (.dat (.int (k : Int))), w4, w5, rfl, mcong (fun i j hi hj => by rw [Gend (fwN g k) k i j hi]; rfl) hM⟩)
  · rintro ⟨env, mem⟩ ⟨w3, w4, w5, henv, hM⟩
    cases (show env = _ from henv)
    have hM : MatF b0 b0.mem mem p qs n (fun i j => .int (fwN g n i j)) := hM
    have etab : (tab n (fun i j => D.int (fwN g n i j))).map D.lst = (List.range n).map fun x => D.lst ((List.range n).map fun y => .int (fwN g n x y)) := by
      rw [tab, List.map_map]
      rfl
    refine nx_go (gs_frzM hpq.2 hM.hp hM.mat (e := [some (.dat (.lst ((List.range n).map fun x => .lst ((List.range n).map fun y => .int (g x y))))), some (.dat (.int (n : Int))), some (.dat (.lst ((tab n (fun i j => D.int (fwN g n i j))).map D.lst))), w3, w4, w5, none]) (.keep (.keep (.hit (.keep (.keep (.keep (.keep .nil))))))) ?_)
    rw [etab]
    refine gs_ret (ev_lcML tupF (by decide) ?_)
    walk_at "mpR"
    refine ⟨by rw [hlen]; omega, fun d m hd _ => ?_, ?_⟩
    · obtain ⟨i, hi, rfl⟩ := List.mem_map.mp hd
      walk_at "mpR"
      exact ⟨rfl, rfl⟩
    · rw [List.map_map]
      refine hret.go fun z c hz => ?_
      have hzn : z ∉ p :: qs := fun e => by rw [(hM.fresh z e).1] at hz; cases hz
      show mdelL mem (p :: qs) z = some c
      rw [mdelL_not hzn, hM.out z hzn]
      exact hz
end MP
/-! MSD -/
set_option exponentiation.threshold 10000
/-! _law_web -/
namespace MP
open PySem PySem.Spec PyProof.Rows L2

def set2 (g : Nat → Nat → Int) (x z : Nat) (l : Int) : Nat → Nat → Int := fun i j => if (i = x ∧ j = z) ∨ (i = z ∧ j = x) then l else g i j
theorem Wt.set2 {n : Nat} {g : Nat → Nat → Int} (h : Wt n g) {x z : Nat} {l : Int} (hxz : x ≠ z) (hl : 1 ≤ l) (hl2 : l ≤ 10000) : Wt n (set2 g x z l) := by
  refine ⟨fun i hi => ?_, fun i j hi hj => ?_, fun i j hi hj e => ?_, fun i j hi hj => ?_⟩
  · show (if (i = x ∧ i = z) ∨ (i = z ∧ i = x) then l else g i i) = _
    rw [if_neg (by omega)]
    exact h.zero i hi
  · show (if (i = x ∧ j = z) ∨ (i = z ∧ j = x) then l else g i j) = (if (j = x ∧ i = z) ∨ (j = z ∧ i = x) then l else g j i)
    by_cases e : (i = x ∧ j = z) ∨ (i = z ∧ j = x)
    · rw [if_pos e, if_pos (by omega)]
    · rw [if_neg e, if_neg (by omega)]
      exact h.symm i j hi hj
  · show 1 ≤ (if (i = x ∧ j = z) ∨ (i = z ∧ j = x) then l else g i j)
    split
    · exact hl
    · exact h.pos i j hi hj e
  · show (if (i = x ∧ j = z) ∨ (i = z ∧ j = x) then l else g i j) ≤ _
    split
    · exact hl2
    · exact h.hi i j hi hj
theorem upd2_set2 {g : Nat → Nat → Int} {x z : Nat} {l : Int} : upd2 (upd2 (fun i j => D.int (g i j)) x z (.int l)) z x (.int l) = fun i j => D.int (set2 g x z l i j) := by
  funext i j
  show (if i = z ∧ j = x then D.int l else if i = x ∧ j = z then D.int l else D.int (g i j)) = D.int (if (i = x ∧ j = z) ∨ (i = z ∧ j = x) then l else g i j)
  by_cases h1 : i = z ∧ j = x
  · rw [if_pos h1, if_pos (.inr h1)]
  · rw [if_neg h1]
    by_cases h2 : i = x ∧ j = z
    · rw [if_pos h2, if_pos (.inl h2)]
    · rw [if_neg h2, if_neg (by omega)]
def wt0 : Nat → Nat → Int := fun i j => if i = j then 0 else 10000
theorem wt0_ok (n : Nat) : Wt n wt0 := ⟨fun x _ => if_pos rfl, fun x y _ _ => by unfold wt0; split <;> split <;> omega, fun x y _ _ e => by unfold wt0; rw [if_neg e]; omega, fun x y _ _ => by unfold wt0; split <;> omega⟩
/-- the matrix and the law's state -/
structure MS (b0 : Ba) (sp : Addr) (m : Ms) (p : Addr) (qs : List Addr) (n : Nat) (g : Nat → Nat → Int) : Prop where
  ex : ∃ (m0 : Ms) (c : C), MatF b0 m0 m p qs n (fun i j => .int (g i j)) ∧ m0 sp = some c ∧ StC c ∧ ∀ z x, b0.mem z = some x → z ≠ sp → m0 z = some x
theorem MS.sp {b0 : Ba} {sp : Addr} {m : Ms} {p : Addr} {qs : List Addr} {n : Nat} {g : Nat → Nat → Int} (h : MS b0 sp m p qs n g) : ∃ c, m sp = some c ∧ StC c ∧ ∀ c', StC c' → MS b0 sp (mput m sp c') p qs n g := by
  obtain ⟨m0, c, hM, hc, hS, ho⟩ := h.ex
  have hn : sp ∉ p :: qs := hM.notin (.inr ⟨c, hc⟩)
  refine ⟨c, by rw [hM.out sp hn]; exact hc, hS, fun c' hc' => ⟨mput m0 sp c', c', hM.other hn, mput_same, hc', fun z x hz hzs => by rw [mput_ne hzs]; exact ho z x hz hzs⟩⟩
theorem MS.set {b0 : Ba} {sp : Addr} {m0 m1 : Ms} {p : Addr} {qs : List Addr} {n : Nat} {g g' : Nat → Nat → Int} {c : C} (hM : MatF b0 m0 m1 p qs n (fun i j => .int (g' i j))) (hc : m0 sp = some c) (hS : StC c) (ho : ∀ z x, b0.mem z = some x → z ≠ sp → m0 z = some x) : MS b0 sp m1 p qs n g' := ⟨m0, c, hM, hc, hS, ho⟩
section
variable {K : PySem.W.Frag} {b0 : Ba} {a : AS} {Z : Ends} {t u : TS}
theorem ET.mono {tt : TT} {k k' : Bool → AS → Prop} (h : ET K b0 tt a k) (e : ∀ b a', k b a' → k' b a') : ET K b0 tt a k' := fun σ H Q R q => h σ H Q R fun c H1 a1 h1 => q c H1 a1 (e c a1 h1)
theorem gs_ifP {c : TT} (P : Bool → AS → Prop) (h1 : ET K b0 c a P) (h2 : ∀ a1, P true a1 → GS K b0 t Z a1) (h3 : ∀ a1, P false a1 → GS K b0 u Z a1) : GS K b0 (tIfS c t u) Z a :=
  gs_if (ET.mono h1 fun b a' hp => ⟨fun e => by subst e; exact h2 a' hp, fun e => by subst e; exact h3 a' hp⟩)
/-- rows[x][z], rows[z][x] = (l, l) -/
theorem gs_sym {b1 : Ba} {sp p : Addr} {qs : List Addr} {n x z : Nat} {l : Int} {g : Nat → Nat → Int} {m : Ms} {i j c r : Nat} (hc : a.env[c]? = some (some (.ptr p))) (hi : a.env[i]? = some (some (.dat (.int (x : Int))))) (hj : a.env[j]? = some (some (.dat (.int (z : Int))))) (hr : a.env[r]? = some (some (.dat (.int l))))
    (h : MS b1 sp m p qs n g) (hx : x < n) (hz : z < n) (hk : ∀ m', MS b1 sp m' p qs n (set2 g x z l) → NX K b0 Z.nx (a.at m')) (e : a.mem = m := by rfl) :
    GS K b0 (tAsg (tTup (tCons (tVar r) (tCons (tVar r) tNil))) (gTup K 2 (gCons (gSub (tOp (rIx K) (tVar c) (tVar i)) (tVar j) rSetL) (gCons (gSub (tOp (rIx K) (tVar c) (tVar j)) (tVar i) rSetL) gNil)))) Z a := by
  subst e
  obtain ⟨m0, cc, hM, h1, h2, h3⟩ := h.ex
  refine gs_asg (ev_tup2 (ev_var hr ⟨_, rfl, ev_var hr ⟨_, rfl, gg_tup2 (ggs_cons (gg_mset hc hi hj hM hx hz fun m1 hM1 => ggs_cons (gg_mset hc hj hi hM1 hz hx fun m2 hM2 => ggs_nil ?_)))⟩⟩))
  rw [upd2_set2] at hM2
  exact hk m2 ⟨m0, cc, hM2, h1, h2, h3⟩
end
abbrev WbI := Addr × C × Nat × Nat
def pWeb : WbI → B → B → B → Ms → Prop := fun i x y z m => x = .ptr i.1 ∧ y = .dat (.int (i.2.2.1 : Int)) ∧ z = .dat (.int (i.2.2.2 : Int)) ∧ m i.1 = some i.2.1 ∧ StC i.2.1 ∧ i.2.2.1 ≤ 100 ∧ 0 < i.2.2.2 ∧ i.2.2.2 ≤ 100
def zWeb : WbI → D → Prop := fun i d => ∃ h, IMet i.2.2.1 h ∧ d = rowsI i.2.2.1 h
theorem sc_Lweb : FnScope ["_law_state_here", "_law_n", "_law_thick", "_law_rows_here", "_law_x", "_law_y", "_law_z", "_law_length"] ["_law_state_here", "_law_n", "_law_thick"] (defScope s_Lweb) := ⟨rfl, rfl, rfl, by decide +kernel, rfl, by decide +kernel, by decide +kernel⟩
theorem c_Lweb {P : Program} {w : World} {K : PySem.W.Frag} {mg : Str → Option Value} {base : Heap} (M : FX K mg) : C8.Cal P w K mg base 6 "_law_web" (spN K (n3 pWeb) (zS (fun i => i.1) zWeb)) [] := by
  obtain ⟨fd, F⟩ := M.said.def_ 45
  refine ⟨_, fd, ["_law_state_here", "_law_n", "_law_thick"], [], (def_non (j := 5) F sc_Lweb n3_len fun cdv A outer s H E hr => ⟨_, (pss_cons (ps_setLc (i := 3) (own := [("_law_x", 4)]) (g := gName 4) (by rfl) sc_Lweb.nd rfl rfl (sw_true rfl rfl rfl (by decide +kernel)) (pi_range1 rfl (M.free 62) (pa_cons (pv 1) pa_nil)) (by dsimp only [Cx.blk, Cx.nox, Cx.wish, cxOf, blk_sc, env_sc]; exact blkOk_by (by decide +kernel)) (fun _ _ _ _ _ => pg_name (i := 4) sc_Lweb.nd rfl (by first | exact Or.inl rfl | exact Or.inr rfl)) (fun _ _ _ _ _ => pts_nil) (fun _ _ _ _ _ => (pe_lc (own := [("_law_y", 5)]) (g := gName 5) (by rfl) sc_Lweb.nd (pi_range1 rfl (M.free 62) (pa_cons (pv 1) pa_nil)) (by dsimp only [Cx.blk, Cx.nox, Cx.wish, cxOf, blk_sc, env_sc]; exact blkOk_by (by decide +kernel)) (fun _ _ _ _ _ => pg_name (i := 5) sc_Lweb.nd rfl (by first | exact Or.inl rfl | exact Or.inr rfl)) (fun _ _ _ _ _ => pts_nil) (fun _ _ _ _ _ => (pe_ifExp (pt_cmpR (op_eqAny M (ops M) hr) (pv 4) (pv 5) (nomark _)) pe_int pe_int)))))
      (pss_cons (ps_for PassesOwn.never rfl (pi_range1 rfl (M.free 62) (pa_cons (pv 1) pa_nil)) (pg_name (i := 4) sc_Lweb.nd rfl (by first | exact Or.inl rfl | exact Or.inr rfl))
        (pss_one (ps_for PassesOwn.never rfl (pi_range1 rfl (M.free 62) (pa_cons (pv 4) pa_nil)) (pg_name (i := 5) sc_Lweb.nd rfl (by first | exact Or.inl rfl | exact Or.inr rfl))
          (pss_one (ps_if (PW.pt (pw_or (pt_cmpR (op_eqAny M (ops M) hr) (pv 5) (pe_op (op_subAny M (ops M) hr) (pv 4) pe_int) (nomark _)) (pw_or1 (pt_cmpR (op_eqAny M (ops M) hr) (C8.pe_c (c_Ltake M) hr (by decide) (by rfl) (pa_cons (pv 0) (pa_cons (pv 2) pa_nil))) pe_int (nomark _)))))
            (pss_cons (ps_set (i := 6) sc_Lweb.nd rfl (by first | exact Or.inl rfl | exact Or.inr rfl) (pv 5))
              (pss_cons (ps_if (pt_cmpR (op_eqAny M (ops M) hr) (pv 5) (pe_op (op_subAny M (ops M) hr) (pv 4) pe_int) (nomark _))
                (pss_one (ps_set (i := 6) sc_Lweb.nd rfl (by first | exact Or.inl rfl | exact Or.inr rfl) (C8.pe_c (c_Ltake M) hr (by decide) (by rfl) (pa_cons (pv 0) (pa_cons (pv 4) pa_nil)))))
                pss_nil)
                (pss_cons (ps_set (i := 7) sc_Lweb.nd rfl (by first | exact Or.inl rfl | exact Or.inr rfl) (pe_op (op_addAny M (ops M) hr) pe_int (C8.pe_c (c_Ltake M) hr (by decide) (by rfl) (pa_cons (pv 0) (pa_cons pe_int pa_nil)))))
                  (pss_one (ps_asg (pe_tup (pa_cons (pv 7) (pa_cons (pv 7) pa_nil))) (pg_tup (n := 2) rfl (pgs_cons (pg_sub (pe_ix (ix_seqK (K := K)) (pv 3) (pv 4) (fun _ _ => rfl)) (pv 6) set_list) (pgs_cons (pg_sub (pe_ix (ix_seqK (K := K)) (pv 3) (pv 6) (fun _ _ => rfl)) (pv 4) set_list) pgs_nil))))))))
            pss_nil)))))
        (pss_one (ps_ret (C8.pe_c (c_Lshortest M) hr (by decide) (by rfl) (pa_cons (pv 3) pa_nil)))))), ?_⟩), M.glo 36, F.kp, F.bindsN fun _ _ _ _ _ _ us hl => match us, hl with | [_, _, _], _ => rfl, .nil⟩
  try dsimp only [cx_K]
  intro b0 Z ix bs h hret
  obtain ⟨sp, c, n, th⟩ := ix
  obtain ⟨_, _, _, rfl, rfl, rfl, rfl, hp, hc, hn, hth, hth2⟩ := h
  have hp : b0.mem sp = some c := hp
  have hc : StC c := hc
  have hn : n ≤ 100 := hn
  have hth : 0 < th := hth
  have hth2 : th ≤ 100 := hth2
  walk_at "mpR"
  refine ev_lcN1 ⟨by decide, ?_⟩
  walk_at "mpR"
  refine ⟨(show n ≤ 100000 by omega), turns_mat (g := fun x y => .int (wt0 x y)) (show n ≤ 50000 by omega) (fun i m hi _ => ?_) fun p qs m hM => ?_⟩
  · refine ev_lcP1 (fun y => .int (wt0 i y)) (by decide) ?_
    walk_at "mpR"
    refine ⟨(show n ≤ 50000 by omega), fun j m hj _ => ?_, fun q h1 h2 => ⟨q, rfl, h1, h2, rfl⟩⟩
    walk_at "mpR"
    refine ⟨fun hc => ?_, fun hc => ?_⟩
    · have := of_decide_eq_true hc
      walk_at "mpR"
      exact ⟨by unfold wt0; rw [if_pos (by omega)], rfl⟩
    · have := of_decide_eq_false hc
      walk_at "mpR"
      exact ⟨by unfold wt0; rw [if_neg (by omega)], rfl⟩
  have hpq := hM.fresh p (List.mem_cons_self ..)
  have hM0 : MS b0 sp m p qs n wt0 := ⟨b0.mem, c, hM, hp, hc, fun z x hz _ => hz⟩
  let En : Option B → Option B → Option B → Option B → List (Option B) := fun w4 w5 w6 w7 => [some (.ptr sp), some (.dat (.int (n : Int))), some (.dat (.int (th : Int))), some (.ptr p), w4, w5, w6, w7]
  refine nx_go ?_
  walk_at "mpR"
  refine ⟨(show n ≤ 100000 by omega), fun x a => ∃ g w4 w5 w6 w7, a.env = En w4 w5 w6 w7 ∧ MS b0 sp a.mem p qs n g ∧ Wt n g, ⟨wt0, none, none, none, none, rfl, hM0, wt0_ok n⟩, ?_, ?_⟩
  · rintro x ⟨env, mem⟩ hx ⟨g, w4, w5, w6, w7, henv, hM, hW⟩
    cases (show env = _ from henv)
    have hx : x < n := hx
    walk_at "mpR"
    refine ⟨(show x ≤ 100000 by omega), fun y a => ∃ g w5 w6 w7, a.env = En (some (.dat (.int (x : Int)))) w5 w6 w7 ∧ MS b0 sp a.mem p qs n g ∧ Wt n g, ⟨g, w5, w6, w7, rfl, hM, hW⟩, ?_, ?_⟩
    · rintro y ⟨env, mem⟩ hy ⟨g, w5, w6, w7, henv, hM, hW⟩
      cases (show env = _ from henv)
      have hM : MS b0 sp mem p qs n g := hM
      refine gg_name ?_
      refine gs_ifP (fun _ a => a.env = En (some (.dat (.int (x : Int)))) (some (.dat (.int (y : Int)))) w6 w7 ∧ MS b0 sp a.mem p qs n g) ?_ ?_ ?_
      · walk_at "mpR"
        refine ⟨fun _ => ?_, fun _ => ⟨rfl, hM⟩⟩
        walk_at "mpR"
        refine ev_take ?_
        walk_at "mpR"
        obtain ⟨c1, hc1, hS1, hup⟩ := hM.sp
        refine ⟨sp, c1, th, rfl, rfl, hc1, hS1, hth, by omega, fun v c' hv hc' => ?_⟩
        walk_at "mpR"
        exact ⟨rfl, hup c' hc'⟩
      · rintro ⟨env, mem⟩ ⟨henv, hM⟩
        cases (show env = _ from henv)
        have hM : MS b0 sp mem p qs n g := hM
        refine gs_seq (gs_set (ev_var (b := .dat (.int (y : Int))) rfl ?_))
        refine nx_go (gs_cutS (fun a => ∃ z : Nat, z < x ∧ a.env = En (some (.dat (.int (x : Int)))) (some (.dat (.int (y : Int)))) (some (.dat (.int (z : Int)))) w7 ∧ MS b0 sp a.mem p qs n g) (fun f J => ?_) ?_)
        · walk_at "mpR"
          refine ⟨fun hc => ?_, fun hc => ?_⟩
          · refine gs_set (ev_take ?_)
            walk_at "mpR"
            obtain ⟨c1, hc1, hS1, hup⟩ := hM.sp
            refine ⟨sp, c1, x, rfl, rfl, hc1, hS1, by omega, by omega, fun v c' hv hc' => ?_⟩
            exact J _ ⟨v, hv, rfl, hup c' hc'⟩
          · walk_at "mpR"
            exact J _ ⟨y, hy, rfl, hM⟩
        · rintro ⟨env, mem⟩ ⟨z, hz, henv, hM⟩
          cases (show env = _ from henv)
          have hM : MS b0 sp mem p qs n g := hM
          refine gs_seq (gs_set (ev_op (ev_int (ev_take ?_))))
          walk_at "mpR"
          obtain ⟨c1, hc1, hS1, hup⟩ := hM.sp
          refine ⟨sp, c1, 4, rfl, rfl, hc1, hS1, by omega, by omega, fun v c' hv hc' => ?_⟩
          refine ro_addI ?_
          refine nx_go ?_
          refine gs_sym (l := 1 + (v : Int)) rfl rfl rfl rfl (hup c' hc') hx (show z < n by omega) fun m' hM' => ?_
          exact nx_inv ⟨_, some (.dat (.int (y : Int))), some (.dat (.int (z : Int))), some (.dat (.int (1 + (v : Int)))), rfl, hM', hW.set2 (by omega) (by omega) (by omega)⟩
      · rintro ⟨env, mem⟩ ⟨henv, hM⟩
        cases (show env = _ from henv)
        walk_at "mpR"
        exact nx_inv ⟨g, some (.dat (.int (y : Int))), w6, w7, rfl, hM, hW⟩
    · rintro ⟨env, mem⟩ ⟨g, w5, w6, w7, henv, hM, hW⟩
      cases (show env = _ from henv)
      exact nx_mk (nx_inv ⟨g, some (.dat (.int (x : Int))), w5, w6, w7, rfl, hM, hW⟩)
  · rintro ⟨env, mem⟩ ⟨g, w4, w5, w6, w7, henv, hM, hW⟩
    cases (show env = _ from henv)
    have hM : MS b0 sp mem p qs n g := hM
    obtain ⟨m0, c1, hMF, hc1, hS1, ho⟩ := hM.ex
    have etab : (tab n (fun i j => D.int (g i j))).map D.lst = (List.range n).map fun x => D.lst ((List.range n).map fun y => .int (g x y)) := by
      rw [tab, List.map_map]
      rfl
    refine nx_go (gs_frzM hpq.2 hMF.hp hMF.mat (e := [some (.ptr sp), some (.dat (.int (n : Int))), some (.dat (.int (th : Int))), some (.dat (.lst ((tab n (fun i j => D.int (g i j))).map D.lst))), w4, w5, w6, w7]) (.keep (.keep (.keep (.hit (.keep (.keep (.keep (.keep .nil)))))))) ?_)
    rw [etab]
    have hsn : sp ∉ p :: qs := hMF.notin (.inr ⟨c1, hc1⟩)
    walk_at "mpR"
    refine ⟨_, ⟨_, rfl, n, g, rfl, hW, hn, rfl⟩, ?_⟩
    refine zS.go hret hS1 ⟨_, fw_met hW, rfl⟩ ?_ fun z x hz hzs => ?_
    · show mdelL mem (p :: qs) sp = some c1
      rw [mdelL_not hsn, hMF.out sp hsn]
      exact hc1
    · have hz0 := ho z x hz hzs
      have hzn : z ∉ p :: qs := hMF.notin (.inr ⟨x, hz0⟩)
      show mdelL mem (p :: qs) z = some x
      rw [mdelL_not hzn, hMF.out z hzn]
      exact hz0
end MP
/-! MSE -/
set_option exponentiation.threshold 10000
/-! _law_renamed, _law_of_tree -/
namespace MP
open PySem PySem.Spec PyProof.Rows L2

def natsD (l : List Nat) : List D := l.map fun (x : Nat) => D.int (x : Int)
def sRen : B → B → D → Prop := fun x y d => ∃ (m : Nat) (h : Nat → Nat → Int) (l : List Nat), x = .dat (rowsI m h) ∧ y = .dat (.lst (natsD l)) ∧ (∀ x ∈ l, x < m) ∧ l.length ≤ 100 ∧ d = rowsI l.length (fun i j => h (l.getD i 0) (l.getD j 0))
def dN : D → Nat
  | .int i => i.toNat
  | _ => 0
theorem map_getD {α : Type} (l : List Nat) (f : Nat → α) : (List.range l.length).map (fun i => f (l.getD i 0)) = l.map f := by
  apply List.ext_getElem?
  intro i
  rw [List.getElem?_map, List.getElem?_map]
  by_cases h : i < l.length
  · rw [List.getElem?_range h, List.getElem?_eq_getElem h]
    simp [h]
  · rw [List.getElem?_eq_none (by simpa using h), List.getElem?_eq_none (by simpa using h)]
    rfl
theorem ro_rowI {K : PySem.W.Frag} {b0 : Ba} {a : AS} {k : B → AS → Prop} {n : Nat} {h : Nat → Nat → Int} {x : Nat} (hx : x < n) (hk : k (.dat (.tup ((List.range n).map fun y => .int (h x y)))) a) : RO K b0 (rIx K) (.dat (rowsI n h)) (.dat (.int (x : Int))) a k :=
  ro_ixL (atI_nat (by rw [List.getElem?_map, List.getElem?_range hx]; rfl)) hk
theorem ro_cellI {K : PySem.W.Frag} {b0 : Ba} {a : AS} {k : B → AS → Prop} {n : Nat} {h : Nat → Int} {y : Nat} (hy : y < n) (hk : k (.dat (.int (h y))) a) : RO K b0 (rIx K) (.dat (.tup ((List.range n).map fun y => .int (h y)))) (.dat (.int (y : Int))) a k :=
  ro_ixT (atI_nat (by rw [List.getElem?_map, List.getElem?_range hy]; rfl)) hk
theorem sc_Lrenamed : FnScope ["_law_rows_here", "_law_order", "_law_x", "_law_y"] ["_law_rows_here", "_law_order"] (defScope s_Lrenamed) := ⟨rfl, rfl, rfl, by decide +kernel, rfl, by decide +kernel, by decide +kernel⟩
theorem c_Lrenamed {P : Program} {w : World} {K : PySem.W.Frag} {mg : Str → Option Value} {base : Heap} (M : FX K mg) : C8.Cal P w K mg base 4 "_law_renamed" (spA K (pw (f2 sRen))) [] := by
  obtain ⟨fd, F⟩ := M.said.def_ 46
  refine ⟨_, fd, ["_law_rows_here", "_law_order"], [], (def_pure (j := 3) F sc_Lrenamed f2_len fun cdv A outer s H E hr => ⟨_, (pss_one (ps_ret (pe_lc (own := [("_law_x", 2)]) (g := gName 2) (by rfl) sc_Lrenamed.nd (pi_listK (K := K) (pv 1)) (by dsimp only [Cx.blk, Cx.nox, Cx.wish, cxOf, blk_sc, env_sc]; exact blkOk_by (by decide +kernel)) (fun _ _ _ _ _ => pg_name (i := 2) sc_Lrenamed.nd rfl (by first | exact Or.inl rfl | exact Or.inr rfl)) (fun _ _ _ _ _ => pts_nil) (fun _ _ _ _ _ => (pe_callTy (T := "tuple") (call_tuple_ofK (K := K)) (by rfl) (M.free 66) (by decide +kernel) (pa_cons (pe_lc (own := [("_law_y", 3)]) (g := gName 3) (by rfl) sc_Lrenamed.nd (pi_listK (K := K) (pv 1)) (by dsimp only [Cx.blk, Cx.nox, Cx.wish, cxOf, blk_sc, env_sc]; exact blkOk_by (by decide +kernel)) (fun _ _ _ _ _ => pg_name (i := 3) sc_Lrenamed.nd rfl (by first | exact Or.inl rfl | exact Or.inr rfl)) (fun _ _ _ _ _ => pts_nil) (fun _ _ _ _ _ => (pe_ix (ix_seqK (K := K)) (pe_ix (ix_seqK (K := K)) (pv 0) (pv 2) (fun _ _ => rfl)) (pv 3) (fun _ _ => rfl)))) pa_nil)))))), ?_⟩), M.glo 37, F.kp, F.bindsN fun _ _ _ _ _ _ us hl => match us, hl with | [_, _], _ => rfl, .nil⟩
  try dsimp only [cx_K]
  intro b0 Z bs d h hret
  obtain ⟨_, _, rfl, m, h, l, rfl, rfl, hl, hlen, rfl⟩ := h
  have hmem : ∀ {d : D}, d ∈ natsD l → ∃ x, x < m ∧ d = .int ((x : Nat) : Int) ∧ dN d = x := fun hd => by
    obtain ⟨x, hx, rfl⟩ := List.mem_map.mp hd
    exact ⟨x, hl x hx, rfl, by simp [dN]⟩
  refine gs_ret (ev_lcML (fun d => .tup ((natsD l).map fun d' => .int (h (dN d) (dN d')))) (by decide) (ev_var rfl ⟨_, rfl, by rw [natsD, List.length_map]; omega, fun d mm hd _ => ?_, ?_⟩))
  · obtain ⟨x, hx, rfl, hdx⟩ := hmem hd
    rw [hdx]
    refine ev_cb (ea_cons (ev_lcML (fun d' => .int (h x (dN d'))) (by decide) (ev_var rfl ⟨_, rfl, by rw [natsD, List.length_map]; omega, fun d mm hd _ => ?_, ?_⟩)))
    · obtain ⟨y, hy, rfl, hdy⟩ := hmem hd
      rw [hdy]
      walk_at "mpR"
      refine ro_rowI hx ?_
      walk_at "mpR"
      refine ro_cellI hy ?_
      exact ⟨rfl, rfl⟩
    · walk_at "mpR"
      exact ⟨rfl, rfl⟩
  · have e : (natsD l).map (fun d => D.tup ((natsD l).map fun d' => .int (h (dN d) (dN d')))) = (List.range l.length).map fun x => .tup ((List.range l.length).map fun y => .int (h (l.getD x 0) (l.getD y 0))) := by
      have e2 := map_getD l (fun x => D.tup ((List.range l.length).map fun y => .int (h x (l.getD y 0))))
      rw [e2, natsD, List.map_map]
      refine List.map_congr_left fun x _ => ?_
      have e3 := map_getD l (fun y => D.int (h x y))
      rw [e3, Function.comp, List.map_map]
      simp [Function.comp_def, dN]
    rw [e]
    exact hret.go fun _ _ h => h

theorem IMet.ren {m : Nat} {h : Nat → Nat → Int} (H : IMet m h) {l : List Nat} (hl : ∀ x ∈ l, x < m) (hn : l.Nodup) : IMet l.length (fun i j => h (l.getD i 0) (l.getD j 0)) := by
  have g : ∀ {i}, i < l.length → l.getD i 0 < m := fun {i} hi => by
    rw [List.getD_eq_getElem?_getD, List.getElem?_eq_getElem hi]
    exact hl _ (List.getElem_mem hi)
  refine ⟨⟨fun x hx => H.wt.zero _ (g hx), fun x y hx hy => H.wt.symm _ _ (g hx) (g hy), fun x y hx hy e => H.wt.pos _ _ (g hx) (g hy) fun e2 => e ?_, fun x y hx hy => H.wt.hi _ _ (g hx) (g hy)⟩, fun x y z hx hy hz => H.tri _ _ _ (g hx) (g hy) (g hz)⟩
  rw [List.getD_eq_getElem?_getD, List.getElem?_eq_getElem hx, List.getD_eq_getElem?_getD, List.getElem?_eq_getElem hy] at e2
  exact nodup_inj hn e2
def pOft : StI → B → B → Ms → Prop := fun i x y m => x = .ptr i.1 ∧ y = .dat (.int (i.2.2 : Int)) ∧ m i.1 = some i.2.1 ∧ StC i.2.1 ∧ i.2.2 ≤ 50 ∧ 1 ≤ i.2.2
def zOft : StI → D → Prop := fun i d => ∃ h, IMet i.2.2 h ∧ d = rowsI i.2.2 h
theorem sc_Lof_tree : FnScope ["_law_state_here", "_law_n", "_law_m", "_law_rows_here", "_law_x", "_law_z", "_law_length", "_law_y"] ["_law_state_here", "_law_n"] (defScope s_Lof_tree) := ⟨rfl, rfl, rfl, by decide +kernel, rfl, by decide +kernel, by decide +kernel⟩
theorem c_Lof_tree {P : Program} {w : World} {K : PySem.W.Frag} {mg : Str → Option Value} {base : Heap} (M : FX K mg) : C8.Cal P w K mg base 7 "_law_of_tree" (spN K (n2 pOft) (zS (fun i => i.1) zOft)) [] := by
  obtain ⟨fd, F⟩ := M.said.def_ 47
  refine ⟨_, fd, ["_law_state_here", "_law_n"], [], (def_non (j := 6) F sc_Lof_tree n2_len fun cdv A outer s H E hr => ⟨_, (pss_cons (ps_set (i := 2) sc_Lof_tree.nd rfl (by first | exact Or.inl rfl | exact Or.inr rfl) (pe_op (op_addAny M (ops M) hr) (pv 1) (C8.pe_c (c_Ltake M) hr (by decide) (by rfl) (pa_cons (pv 0) (pa_cons pe_int pa_nil)))))
      (pss_cons (ps_setLc (i := 3) (own := [("_law_x", 4)]) (g := gName 4) (by rfl) sc_Lof_tree.nd rfl rfl (sw_true rfl rfl rfl (by decide +kernel)) (pi_range1 rfl (M.free 62) (pa_cons (pv 2) pa_nil)) (by dsimp only [Cx.blk, Cx.nox, Cx.wish, cxOf, blk_sc, env_sc]; exact blkOk_by (by decide +kernel)) (fun _ _ _ _ _ => pg_name (i := 4) sc_Lof_tree.nd rfl (by first | exact Or.inl rfl | exact Or.inr rfl)) (fun _ _ _ _ _ => pts_nil) (fun _ _ _ _ _ => (pe_lc (own := [("_law_y", 7)]) (g := gName 7) (by rfl) sc_Lof_tree.nd (pi_range1 rfl (M.free 62) (pa_cons (pv 2) pa_nil)) (by dsimp only [Cx.blk, Cx.nox, Cx.wish, cxOf, blk_sc, env_sc]; exact blkOk_by (by decide +kernel)) (fun _ _ _ _ _ => pg_name (i := 7) sc_Lof_tree.nd rfl (by first | exact Or.inl rfl | exact Or.inr rfl)) (fun _ _ _ _ _ => pts_nil) (fun _ _ _ _ _ => (pe_ifExp (pt_cmpR (op_eqAny M (ops M) hr) (pv 4) (pv 7) (nomark _)) pe_int pe_int)))))
        (pss_cons (ps_for PassesOwn.never rfl (pi_range2 rfl (M.free 62) (pa_cons pe_int (pa_cons (pv 2) pa_nil))) (pg_name (i := 4) sc_Lof_tree.nd rfl (by first | exact Or.inl rfl | exact Or.inr rfl))
          (pss_cons (ps_set (i := 5) sc_Lof_tree.nd rfl (by first | exact Or.inl rfl | exact Or.inr rfl) (C8.pe_c (c_Ltake M) hr (by decide) (by rfl) (pa_cons (pv 0) (pa_cons (pv 4) pa_nil))))
            (pss_cons (ps_set (i := 6) sc_Lof_tree.nd rfl (by first | exact Or.inl rfl | exact Or.inr rfl) (pe_op (op_addAny M (ops M) hr) pe_int (C8.pe_c (c_Ltake M) hr (by decide) (by rfl) (pa_cons (pv 0) (pa_cons pe_int pa_nil)))))
              (pss_one (ps_asg (pe_tup (pa_cons (pv 6) (pa_cons (pv 6) pa_nil))) (pg_tup (n := 2) rfl (pgs_cons (pg_sub (pe_ix (ix_seqK (K := K)) (pv 3) (pv 4) (fun _ _ => rfl)) (pv 5) set_list) (pgs_cons (pg_sub (pe_ix (ix_seqK (K := K)) (pv 3) (pv 5) (fun _ _ => rfl)) (pv 4) set_list) pgs_nil))))))))
          (pss_one (ps_ret (C8.pe_c (c_Lrenamed M) hr (by decide) (by rfl) (pa_cons (C8.pe_c (c_Lshortest M) hr (by decide) (by rfl) (pa_cons (pv 3) pa_nil)) (pa_cons (pe_slice (sl_anyK (K := K)) (C8.pe_c (c_Lorder_of M) hr (by decide) (by rfl) (pa_cons (pv 0) (pa_cons (pv 2) pa_nil))) po_none (po_some (pv 1))) pa_nil)))))))), ?_⟩), M.glo 38, F.kp, F.bindsN fun _ _ _ _ _ _ us hl => match us, hl with | [_, _], _ => rfl, .nil⟩
  try dsimp only [cx_K]
  intro b0 Z ix bs h hret
  obtain ⟨sp, c, n⟩ := ix
  obtain ⟨_, _, rfl, rfl, rfl, hp, hc, hn, hn1⟩ := h
  have hp : b0.mem sp = some c := hp
  have hc : StC c := hc
  have hn : n ≤ 50 := hn
  have hn1 : 1 ≤ n := hn1
  walk_at "mpR"
  refine ev_take ?_
  walk_at "mpR"
  refine ⟨sp, c, 3, rfl, rfl, hp, hc, by omega, by omega, fun v c' hv hc' => ?_⟩
  walk_at "mpR"
  obtain ⟨m, hm⟩ : ∃ m : Nat, m = n + v := ⟨_, rfl⟩
  have em : ((n : Int) + (v : Int)) = (m : Int) := by omega
  have hm50 : m ≤ 60 := by omega
  refine ev_lcN1 ⟨by decide, ?_⟩
  refine ea_cons (ev_var (b := .dat (.int (m : Int))) (by rw [← em]; rfl) (ea_nil ⟨m, rfl, by omega, turns_mat (g := fun x y => .int (wt0 x y)) (show m ≤ 50000 by omega) (fun i mm hi _ => ?_) fun p qs mm hM => ?_⟩))
  · refine ev_lcP1 (fun y => .int (wt0 i y)) (by decide) ?_
    refine ea_cons (ev_var (b := .dat (.int (m : Int))) (by rw [← em]; rfl) (ea_nil ⟨m, rfl, by omega, fun j mm hj _ => ?_, fun q h1 h2 => ⟨q, rfl, h1, h2, rfl⟩⟩))
    walk_at "mpR"
    refine ⟨fun hc => ?_, fun hc => ?_⟩
    · have := of_decide_eq_true hc
      walk_at "mpR"
      exact ⟨by unfold wt0; rw [if_pos (by omega)], rfl⟩
    · have := of_decide_eq_false hc
      walk_at "mpR"
      exact ⟨by unfold wt0; rw [if_neg (by omega)], rfl⟩
  have hpq := hM.fresh p (List.mem_cons_self ..)
  have hM0 : MS b0 sp mm p qs m wt0 := ⟨mput b0.mem sp c', c', hM, mput_same, hc', fun z x hz hzs => by rw [mput_ne hzs]; exact hz⟩
  let En : Option B → Option B → Option B → Option B → List (Option B) := fun w4 w5 w6 w7 => [some (.ptr sp), some (.dat (.int (n : Int))), some (.dat (.int (m : Int))), some (.ptr p), w4, w5, w6, w7]
  refine nx_go (gs_seq (gs_forN2 (ea_cons (ev_int (ea_cons (ev_var (b := .dat (.int (m : Int))) (by rw [← em]; rfl) (ea_nil ⟨1, m, rfl, ⟨by omega, by omega⟩, ?_⟩)))))))
  refine ⟨fun x a => ∃ g w4 w5 w6 w7, a.env = En w4 w5 w6 w7 ∧ MS b0 sp a.mem p qs m g ∧ Wt m g, ⟨wt0, none, none, none, none, by subst hm; rfl, hM0, wt0_ok m⟩, ?_, ?_⟩
  · rintro x ⟨env, mem⟩ hx1 hx ⟨g, w4, w5, w6, w7, henv, hM, hW⟩
    cases (show env = _ from henv)
    have hM : MS b0 sp mem p qs m g := hM
    refine gg_name (gs_seq (gs_set (ev_take ?_)))
    walk_at "mpR"
    obtain ⟨c1, hc1, hS1, hup⟩ := hM.sp
    refine ⟨sp, c1, x, rfl, rfl, hc1, hS1, by omega, by omega, fun z c2 hz hc2 => ?_⟩
    obtain ⟨c3, hc3, hS3, hup3⟩ := (hup c2 hc2).sp
    refine nx_go (gs_seq (gs_set (ev_op (ev_int (ev_take ?_)))))
    walk_at "mpR"
    refine ⟨by decide, by decide, fun v c4 hv hc4 => ?_⟩
    have hv : v < 4 := hv
    refine ro_addI ?_
    refine nx_go ?_
    refine gs_sym (l := 1 + (v : Int)) rfl rfl rfl rfl (hup3 c4 hc4) hx (show z < m by omega) fun m' hM' => ?_
    exact nx_inv ⟨_, some (.dat (.int (x : Int))), some (.dat (.int (z : Int))), some (.dat (.int (1 + (v : Int)))), w7, rfl, hM', hW.set2 (by omega) (by omega) (by omega)⟩
  · rintro ⟨env, mem⟩ ⟨g, w4, w5, w6, w7, henv, hM, hW⟩
    cases (show env = _ from henv)
    have hM : MS b0 sp mem p qs m g := hM
    obtain ⟨m0, c1, hMF, hc1, hS1, ho⟩ := hM.ex
    have etab : (tab m (fun i j => D.int (g i j))).map D.lst = (List.range m).map fun x => D.lst ((List.range m).map fun y => .int (g x y)) := by
      rw [tab, List.map_map]
      rfl
    refine nx_go (gs_frzM hpq.2 hMF.hp hMF.mat (e := [some (.ptr sp), some (.dat (.int (n : Int))), some (.dat (.int (m : Int))), some (.dat (.lst ((tab m (fun i j => D.int (g i j))).map D.lst))), w4, w5, w6, w7]) (.keep (.keep (.keep (.hit (.keep (.keep (.keep (.keep .nil)))))))) ?_)
    rw [etab]
    have hsn : sp ∉ p :: qs := hMF.notin (.inr ⟨c1, hc1⟩)
    have hmsp : mdelL mem (p :: qs) sp = some c1 := by rw [mdelL_not hsn, hMF.out sp hsn]; exact hc1
    walk_at "mpR"
    refine ⟨_, ⟨_, rfl, m, g, rfl, hW, by omega, rfl⟩, ?_⟩
    walk_at "mpR"
    refine ev_callS ?_
    walk_at "mpR"
    refine ⟨(sp, c1, m), c1, ⟨_, _, rfl, rfl, rfl, hmsp, hS1, by show m ≤ 1000; omega⟩, hmsp, fun d c5 hc5 ⟨l, hd, hll, hlnd, hlm⟩ => ?_⟩
    have hd : d = .lst (natsD l) := hd
    subst hd
    walk_at "mpR"
    have hll : l.length = m := hll
    rw [cut_to]
    have etk : (natsD l).take n = natsD (l.take n) := by rw [natsD, natsD, List.map_take]
    have hlt : (l.take n).length = n := by rw [List.length_take]; omega
    rw [etk]
    refine ⟨_, ⟨_, _, rfl, m, fwN g m, l.take n, rfl, rfl, fun x hx => hlm x (List.mem_of_mem_take hx), by omega, rfl⟩, ?_⟩
    have hR := (fw_met hW).ren (l := l.take n) (fun x hx => hlm x (List.mem_of_mem_take hx)) (hlnd.sublist (List.take_sublist n l))
    rw [hlt] at hR ⊢
    refine zS.go hret hc5 ⟨_, hR, rfl⟩ ?_ fun z x hz hzs => ?_
    · exact mput_same
    · show mput (mdelL mem (p :: qs)) sp c5 z = some x
      have hz0 := ho z x hz hzs
      have hzn : z ∉ p :: qs := hMF.notin (.inr ⟨x, hz0⟩)
      rw [mput_ne hzs, mdelL_not hzn, hMF.out z hzn]
      exact hz0
end MP
/-! MSF -/
set_option exponentiation.threshold 10000
/-! _law_band -/
namespace MP
open PySem PySem.Spec PyProof.Rows L2

structure BI (lo : Int) (x y : Nat) (g : Nat → Nat → Int) : Prop where
  zero : ∀ i, g i i = 0
  symm : ∀ i j, g i j = g j i
  rng : ∀ i j, j < i → (i < x ∨ (i = x ∧ j < y)) → lo ≤ g i j ∧ g i j ≤ 2 * lo
theorem BI.set {lo : Int} {x y : Nat} {g : Nat → Nat → Int} (h : BI lo x y g) (hxy : y < x) {l : Int} (h1 : lo ≤ l) (h2 : l ≤ 2 * lo) : BI lo x (y + 1) (set2 g x y l) := by
  refine ⟨fun i => ?_, fun i j => ?_, fun i j hij hc => ?_⟩
  · show (if (i = x ∧ i = y) ∨ (i = y ∧ i = x) then l else g i i) = 0
    rw [if_neg (by omega)]
    exact h.zero i
  · show (if (i = x ∧ j = y) ∨ (i = y ∧ j = x) then l else g i j) = (if (j = x ∧ i = y) ∨ (j = y ∧ i = x) then l else g j i)
    by_cases e : (i = x ∧ j = y) ∨ (i = y ∧ j = x)
    · rw [if_pos e, if_pos (by omega)]
    · rw [if_neg e, if_neg (by omega)]
      exact h.symm i j
  · show lo ≤ (if (i = x ∧ j = y) ∨ (i = y ∧ j = x) then l else g i j) ∧ (if (i = x ∧ j = y) ∨ (i = y ∧ j = x) then l else g i j) ≤ 2 * lo
    by_cases e : (i = x ∧ j = y) ∨ (i = y ∧ j = x)
    · rw [if_pos e]; exact ⟨h1, h2⟩
    · rw [if_neg e]
      exact h.rng i j hij (by omega)
theorem BI.met {lo : Int} {n : Nat} {g : Nat → Nat → Int} (h : BI lo n 0 g) (h1 : 1 ≤ lo) (h2 : lo ≤ 1000) : IMet n g := by
  have r : ∀ i j, i < n → j < n → i ≠ j → lo ≤ g i j ∧ g i j ≤ 2 * lo := fun i j hi hj e => by
    rcases Nat.lt_or_gt_of_ne e with h3 | h3
    · rw [h.symm i j]
      exact h.rng j i h3 (.inl hj)
    · exact h.rng i j h3 (.inl hi)
  refine ⟨⟨fun x _ => h.zero x, fun x y _ _ => h.symm x y, fun x y hx hy e => by have := r x y hx hy e; omega, fun x y hx hy => ?_⟩, fun x y z hx hy hz => ?_⟩
  · by_cases e : x = y
    · rw [e, h.zero]; omega
    · have := r x y hx hy e; omega
  · by_cases e1 : x = y
    · rw [e1, h.zero]; omega
    · by_cases e2 : y = z
      · rw [e2, h.zero]; omega
      · have a1 := r x y hx hy e1
        have a2 := r y z hy hz e2
        by_cases e3 : x = z
        · rw [e3, h.zero]
          rw [e3] at a1
          omega
        · have := r x z hx hz e3
          omega
theorem sc_Lband : FnScope ["_law_state_here", "_law_n", "_law_low_here", "_law_rows_here", "_law_x", "_law_y", "_law_length", "_law_row"] ["_law_state_here", "_law_n"] (defScope s_Lband) := ⟨rfl, rfl, rfl, by decide +kernel, rfl, by decide +kernel, by decide +kernel⟩
theorem c_Lband {P : Program} {w : World} {K : PySem.W.Frag} {mg : Str → Option Value} {base : Heap} (M : FX K mg) : C8.Cal P w K mg base 6 "_law_band" (spN K (n2 pOft) (zS (fun i => i.1) zOft)) [] := by
  obtain ⟨fd, F⟩ := M.said.def_ 49
  refine ⟨_, fd, ["_law_state_here", "_law_n"], [], (def_non (j := 5) F sc_Lband n2_len fun cdv A outer s H E hr => ⟨_, (pss_cons (ps_set (i := 2) sc_Lband.nd rfl (by first | exact Or.inl rfl | exact Or.inr rfl) (pe_op (op_addAny M (ops M) hr) pe_int (C8.pe_c (c_Ltake M) hr (by decide) (by rfl) (pa_cons (pv 0) (pa_cons pe_int pa_nil)))))
      (pss_cons (ps_setLc (i := 3) (own := [("_law_x", 4)]) (g := gName 4) (by rfl) sc_Lband.nd rfl rfl (sw_true rfl rfl rfl (by decide +kernel)) (pi_range1 rfl (M.free 62) (pa_cons (pv 1) pa_nil)) (by dsimp only [Cx.blk, Cx.nox, Cx.wish, cxOf, blk_sc, env_sc]; exact blkOk_by (by decide +kernel)) (fun _ _ _ _ _ => pg_name (i := 4) sc_Lband.nd rfl (by first | exact Or.inl rfl | exact Or.inr rfl)) (fun _ _ _ _ _ => pts_nil) (fun _ _ _ _ _ => (pe_lc (own := [("_law_y", 5)]) (g := gName 5) (by rfl) sc_Lband.nd (pi_range1 rfl (M.free 62) (pa_cons (pv 1) pa_nil)) (by dsimp only [Cx.blk, Cx.nox, Cx.wish, cxOf, blk_sc, env_sc]; exact blkOk_by (by decide +kernel)) (fun _ _ _ _ _ => pg_name (i := 5) sc_Lband.nd rfl (by first | exact Or.inl rfl | exact Or.inr rfl)) (fun _ _ _ _ _ => pts_nil) (fun _ _ _ _ _ => pe_int))))
        (pss_cons (ps_for PassesOwn.never rfl (pi_range1 rfl (M.free 62) (pa_cons (pv 1) pa_nil)) (pg_name (i := 4) sc_Lband.nd rfl (by first | exact Or.inl rfl | exact Or.inr rfl))
          (pss_one (ps_for PassesOwn.never rfl (pi_range1 rfl (M.free 62) (pa_cons (pv 4) pa_nil)) (pg_name (i := 5) sc_Lband.nd rfl (by first | exact Or.inl rfl | exact Or.inr rfl))
            (pss_cons (ps_set (i := 6) sc_Lband.nd rfl (by first | exact Or.inl rfl | exact Or.inr rfl) (pe_op (op_addAny M (ops M) hr) (pv 2) (C8.pe_c (c_Ltake M) hr (by decide) (by rfl) (pa_cons (pv 0) (pa_cons (pe_op (op_addAny M (ops M) hr) (pv 2) pe_int) pa_nil)))))
              (pss_one (ps_asg (pe_tup (pa_cons (pv 6) (pa_cons (pv 6) pa_nil))) (pg_tup (n := 2) rfl (pgs_cons (pg_sub (pe_ix (ix_seqK (K := K)) (pv 3) (pv 4) (fun _ _ => rfl)) (pv 5) set_list) (pgs_cons (pg_sub (pe_ix (ix_seqK (K := K)) (pv 3) (pv 5) (fun _ _ => rfl)) (pv 4) set_list) pgs_nil)))))))))
          (pss_one (ps_ret (pe_lc (own := [("_law_row", 7)]) (g := gName 7) (by rfl) sc_Lband.nd (pi_listK (K := K) (pv 3)) (by dsimp only [Cx.blk, Cx.nox, Cx.wish, cxOf, blk_sc, env_sc]; exact blkOk_by (by decide +kernel)) (fun _ _ _ _ _ => pg_name (i := 7) sc_Lband.nd rfl (by first | exact Or.inl rfl | exact Or.inr rfl)) (fun _ _ _ _ _ => pts_nil) (fun _ _ _ _ _ => (pe_callTy (T := "tuple") (call_tuple_ofK (K := K)) (by rfl) (M.free 66) (by decide +kernel) (pa_cons (pv 7) pa_nil))))))))), ?_⟩), M.glo 40, F.kp, F.bindsN fun _ _ _ _ _ _ us hl => match us, hl with | [_, _], _ => rfl, .nil⟩
  try dsimp only [cx_K]
  intro b0 Z ix bs h hret
  obtain ⟨sp, c, n⟩ := ix
  obtain ⟨_, _, rfl, rfl, rfl, hp, hc, hn, hn1⟩ := h
  have hp : b0.mem sp = some c := hp
  have hc : StC c := hc
  have hn : n ≤ 50 := hn
  refine gs_seq (gs_set (ev_op (ev_int (ev_take ?_))))
  walk_at "mpR"
  refine ⟨sp, c, 3, rfl, rfl, hp, hc, by omega, by omega, fun v c' hv hc' => ?_⟩
  refine ro_addI ?_
  obtain ⟨lo, hlo⟩ : ∃ lo : Int, lo = 1 + (v : Int) := ⟨_, rfl⟩
  refine nx_go (gs_seq (gs_set (ev_lcN1 ⟨by decide, ?_⟩)))
  walk_at "mpR"
  refine ⟨(show n ≤ 100000 by omega), turns_mat (g := fun x y => .int ((fun _ _ => (0 : Int)) x y)) (show n ≤ 50000 by omega) (fun i m hi _ => ?_) fun p qs mm hM => ?_⟩
  · refine ev_lcP1 (fun y => .int 0) (by decide) ?_
    walk_at "mpR"
    refine ⟨(show n ≤ 50000 by omega), fun j m hj _ => ?_, fun q h1 h2 => ⟨q, rfl, h1, h2, rfl⟩⟩
    walk_at "mpR"
    exact ⟨rfl, rfl⟩
  have hpq := hM.fresh p (List.mem_cons_self ..)
  have hM0 : MS b0 sp mm p qs n (fun _ _ => 0) := ⟨mput b0.mem sp c', c', hM, mput_same, hc', fun z x hz hzs => by rw [mput_ne hzs]; exact hz⟩
  let En : Option B → Option B → Option B → Option B → List (Option B) := fun w4 w5 w6 w7 => [some (.ptr sp), some (.dat (.int (n : Int))), some (.dat (.int (1 + (v : Int)))), some (.ptr p), w4, w5, w6, w7]
  refine nx_go ?_
  walk_at "mpR"
  refine ⟨(show n ≤ 100000 by omega), fun x a => ∃ g w4 w5 w6 w7, a.env = En w4 w5 w6 w7 ∧ MS b0 sp a.mem p qs n g ∧ BI lo x 0 g, ⟨fun _ _ => 0, none, none, none, none, rfl, hM0, ⟨fun _ => rfl, fun _ _ => rfl, fun i j h1 h2 => by omega⟩⟩, ?_, ?_⟩
  · rintro x ⟨env, mem⟩ hx ⟨g, w4, w5, w6, w7, henv, hM, hB⟩
    cases (show env = _ from henv)
    have hx : x < n := hx
    walk_at "mpR"
    refine ⟨(show x ≤ 100000 by omega), fun y a => ∃ g w5 w6 w7, a.env = En (some (.dat (.int (x : Int)))) w5 w6 w7 ∧ MS b0 sp a.mem p qs n g ∧ BI lo x y g, ⟨g, w5, w6, w7, rfl, hM, hB⟩, ?_, ?_⟩
    · rintro y ⟨env, mem⟩ hy ⟨g, w5, w6, w7, henv, hM, hB⟩
      cases (show env = _ from henv)
      have hM : MS b0 sp mem p qs n g := hM
      refine gg_name (gs_seq (gs_set (ev_op (ev_var (b := .dat (.int (1 + (v : Int)))) rfl (ev_take ?_)))))
      walk_at "mpR"
      obtain ⟨c1, hc1, hS1, hup⟩ := hM.sp
      refine ⟨sp, c1, 1 + v + 1, rfl, rfl, hc1, hS1, by omega, by omega, fun z c2 hz hc2 => ?_⟩
      refine ro_addI ?_
      refine nx_go ?_
      refine gs_sym (l := 1 + (v : Int) + (z : Int)) rfl rfl rfl rfl (hup c2 hc2) hx (show y < n by omega) fun m' hM' => ?_
      exact nx_inv ⟨_, some (.dat (.int (y : Int))), some (.dat (.int (1 + (v : Int) + (z : Int)))), w7, rfl, hM', hB.set hy (by omega) (by omega)⟩
    · rintro ⟨env, mem⟩ ⟨g, w5, w6, w7, henv, hM, hB⟩
      cases (show env = _ from henv)
      exact nx_mk (nx_inv ⟨g, some (.dat (.int (x : Int))), w5, w6, w7, rfl, hM, ⟨hB.zero, hB.symm, fun i j h1 h2 => hB.rng i j h1 (by omega)⟩⟩)
  · rintro ⟨env, mem⟩ ⟨g, w4, w5, w6, w7, henv, hM, hB⟩
    cases (show env = _ from henv)
    have hM : MS b0 sp mem p qs n g := hM
    obtain ⟨m0, c1, hMF, hc1, hS1, ho⟩ := hM.ex
    have etab : (tab n (fun i j => D.int (g i j))).map D.lst = (List.range n).map fun x => D.lst ((List.range n).map fun y => .int (g x y)) := by
      rw [tab, List.map_map]
      rfl
    refine nx_go (gs_frzM hpq.2 hMF.hp hMF.mat (e := [some (.ptr sp), some (.dat (.int (n : Int))), some (.dat (.int (1 + (v : Int)))), some (.dat (.lst ((tab n (fun i j => D.int (g i j))).map D.lst))), w4, w5, w6, w7]) (.keep (.keep (.keep (.hit (.keep (.keep (.keep (.keep .nil)))))))) ?_)
    rw [etab]
    have hsn : sp ∉ p :: qs := hMF.notin (.inr ⟨c1, hc1⟩)
    refine gs_ret (ev_lcML tupF (by decide) ?_)
    walk_at "mpR"
    refine ⟨by rw [List.length_map, List.length_range]; omega, fun d m hd _ => ?_, ?_⟩
    · obtain ⟨i, hi, rfl⟩ := List.mem_map.mp hd
      walk_at "mpR"
      exact ⟨rfl, rfl⟩
    · rw [List.map_map]
      refine zS.go hret hS1 ⟨g, hB.met (by omega) (by omega), rfl⟩ ?_ fun z x hz hzs => ?_
      · show mdelL mem (p :: qs) sp = some c1
        rw [mdelL_not hsn, hMF.out sp hsn]
        exact hc1
      · have hz0 := ho z x hz hzs
        have hzn : z ∉ p :: qs := hMF.notin (.inr ⟨x, hz0⟩)
        show mdelL mem (p :: qs) z = some x
        rw [mdelL_not hzn, hMF.out z hzn]
        exact hz0
end MP
/-! MSG -/
set_option exponentiation.threshold 10000
/-! _law_grid -/
namespace MP
open PySem PySem.Spec PyProof.Rows L2

abbrev ptD (x : Nat) : D := .tup [.int ((x : Int) / 4), .int ((x : Int) % 4)]
def pB (l : List Nat) : List B := l.map fun (x : Nat) => B.dat (ptD x)
theorem pB_len {l : List Nat} : (pB l).length = l.length := List.length_map ..
def gabs (i : Int) : Int := if i < 0 then -i else i
def l1 (x y : Nat) : Int := gabs ((x : Int) / 4 - (y : Int) / 4) + gabs ((x : Int) % 4 - (y : Int) % 4)
def l1D : D → D → Int
  | .tup [.int a, .int b], .tup [.int c, .int e] => gabs (a - c) + gabs (b - e)
  | _, _ => 0
theorem l1_met {l : List Nat} (hn : l.Nodup) (hl : ∀ x ∈ l, x < 16) : IMet l.length (fun i j => l1 (l.getD i 0) (l.getD j 0)) := by
  have g : ∀ {i}, i < l.length → l.getD i 0 < 16 := fun {i} hi => by
    rw [List.getD_eq_getElem?_getD, List.getElem?_eq_getElem hi]
    exact hl _ (List.getElem_mem hi)
  refine ⟨⟨fun x hx => ?_, fun x y hx hy => ?_, fun x y hx hy e => ?_, fun x y hx hy => ?_⟩, fun x y z hx hy hz => ?_⟩
  · unfold l1 gabs; split <;> split <;> omega
  · unfold l1 gabs; split <;> split <;> split <;> split <;> omega
  · have h1 := g hx
    have h2 := g hy
    have h3 : l.getD x 0 ≠ l.getD y 0 := fun e2 => by
      rw [List.getD_eq_getElem?_getD, List.getElem?_eq_getElem hx, List.getD_eq_getElem?_getD, List.getElem?_eq_getElem hy] at e2
      exact e (nodup_inj hn e2)
    unfold l1 gabs
    split <;> split <;> omega
  · have h1 := g hx
    have h2 := g hy
    unfold l1 gabs
    split <;> split <;> omega
  · unfold l1 gabs
    split <;> split <;> split <;> split <;> split <;> split <;> omega
def pGr : StI → B → B → Ms → Prop := fun i x y m => x = .ptr i.1 ∧ y = .dat (.int (i.2.2 : Int)) ∧ m i.1 = some i.2.1 ∧ StC i.2.1 ∧ i.2.2 ≤ 16
theorem sc_Lgrid : FnScope ["_law_state_here", "_law_n", "_law_left", "_law_points", "_law_k", "_law_x", "_law_a", "_law_b"] ["_law_state_here", "_law_n"] (defScope s_Lgrid) := ⟨rfl, rfl, rfl, by decide +kernel, rfl, by decide +kernel, by decide +kernel⟩
theorem c_Lgrid {P : Program} {w : World} {K : PySem.W.Frag} {mg : Str → Option Value} {base : Heap} (M : FX K mg) : C8.Cal P w K mg base 6 "_law_grid" (spN K (n2 pGr) (zS (fun i => i.1) zOft)) [] := by
  obtain ⟨fd, F⟩ := M.said.def_ 48
  refine ⟨_, fd, ["_law_state_here", "_law_n"], [], (def_non (j := 5) F sc_Lgrid n2_len fun cdv A outer s H E hr => ⟨_, (pss_cons (ps_setLc (i := 2) (own := [("_law_x", 5)]) (g := gName 5) (by rfl) sc_Lgrid.nd rfl rfl (sw_true rfl rfl rfl (by decide +kernel)) (pi_range1 rfl (M.free 62) (pa_cons pe_int pa_nil)) (by dsimp only [Cx.blk, Cx.nox, Cx.wish, cxOf, blk_sc, env_sc]; exact blkOk_by (by decide +kernel)) (fun _ _ _ _ _ => pg_name (i := 5) sc_Lgrid.nd rfl (by first | exact Or.inl rfl | exact Or.inr rfl)) (fun _ _ _ _ _ => pts_nil) (fun _ _ _ _ _ => (pe_tup (pa_cons (pe_op op_fdivI (pv 5) pe_int) (pa_cons (pe_op op_modI (pe_callTy (T := "int") call_int1 (by rfl) (M.free 64) (by decide +kernel) (pa_cons (pv 5) pa_nil)) pe_int) pa_nil)))))
      (pss_cons (ps_set (i := 3) sc_Lgrid.nd rfl (by first | exact Or.inl rfl | exact Or.inr rfl) (pe_lst pa_nil))
        (pss_cons (ps_for PassesOwn.never rfl (pi_range1 rfl (M.free 62) (pa_cons (pv 1) pa_nil)) (pg_name (i := 4) sc_Lgrid.nd rfl (by first | exact Or.inl rfl | exact Or.inr rfl))
          (pss_one (ps_expr (pe_bm PySem.F.plainAttrs_list PySem.F.slot_list_append PySem.F.type_list_append mt_append (pv 3) (pa_cons (pe_bm PySem.F.plainAttrs_list PySem.F.slot_list_pop PySem.F.type_list_pop mt_popAt (pv 2) (pa_cons (C8.pe_c (c_Ltake M) hr (by decide) (by rfl) (pa_cons (pv 0) (pa_cons (pe_callB (call_len_anyK (K := K)) (by rfl) (M.free 61) PySem.boot_len (pa_cons (pv 2) pa_nil)) pa_nil))) pa_nil)) pa_nil)))))
          (pss_one (ps_ret (pe_lc (own := [("_law_a", 6)]) (g := gName 6) (by rfl) sc_Lgrid.nd (pi_listK (K := K) (pv 3)) (by dsimp only [Cx.blk, Cx.nox, Cx.wish, cxOf, blk_sc, env_sc]; exact blkOk_by (by decide +kernel)) (fun _ _ _ _ _ => pg_name (i := 6) sc_Lgrid.nd rfl (by first | exact Or.inl rfl | exact Or.inr rfl)) (fun _ _ _ _ _ => pts_nil) (fun _ _ _ _ _ => (pe_callTy (T := "tuple") (call_tuple_ofK (K := K)) (by rfl) (M.free 66) (by decide +kernel) (pa_cons (pe_lc (own := [("_law_b", 7)]) (g := gName 7) (by rfl) sc_Lgrid.nd (pi_listK (K := K) (pv 3)) (by dsimp only [Cx.blk, Cx.nox, Cx.wish, cxOf, blk_sc, env_sc]; exact blkOk_by (by decide +kernel)) (fun _ _ _ _ _ => pg_name (i := 7) sc_Lgrid.nd rfl (by first | exact Or.inl rfl | exact Or.inr rfl)) (fun _ _ _ _ _ => pts_nil) (fun _ _ _ _ _ => (pe_op (op_addAny M (ops M) hr) (pe_callB call_abs (by rfl) (M.free 68) (by decide +kernel) (pa_cons (pe_op (op_subAny M (ops M) hr) (pe_ix (ix_seqK (K := K)) (pv 6) pe_int (fun _ _ => rfl)) (pe_ix (ix_seqK (K := K)) (pv 7) pe_int (fun _ _ => rfl))) pa_nil)) (pe_callB call_abs (by rfl) (M.free 68) (by decide +kernel) (pa_cons (pe_op (op_subAny M (ops M) hr) (pe_ix (ix_seqK (K := K)) (pv 6) pe_int (fun _ _ => rfl)) (pe_ix (ix_seqK (K := K)) (pv 7) pe_int (fun _ _ => rfl))) pa_nil))))) pa_nil))))))))), ?_⟩), M.glo 39, F.kp, F.bindsN fun _ _ _ _ _ _ us hl => match us, hl with | [_, _], _ => rfl, .nil⟩
  try dsimp only [cx_K]
  intro b0 Z ix bs h hret
  obtain ⟨p, c, n⟩ := ix
  obtain ⟨_, _, rfl, rfl, rfl, hp, hc, hn⟩ := h
  have hp : b0.mem p = some c := hp
  have hc : StC c := hc
  have hn : n ≤ 16 := hn
  have d4 : ∀ i, CDivW i 4 := fun i => cdivw (by decide) (by decide)
  have h4 : (0 : Int) < 4 := by decide
  refine gs_seq (gs_set (ev_lcP1 ptD (by decide) ?_))
  refine ea_cons (ev_int (ea_nil ⟨16, rfl, by omega, fun i m hi _ => ?_, fun q hq1 hq2 => ?_⟩))
  · walk_at "mpR"
    refine ro_I (d4 _) ?_
    walk_at "mpR"
    exact ⟨rfl, rfl⟩
  refine nx_go (gs_seq (gs_set (ev_lstM (ea_nil ⟨by simp, fun r hr1 hr2 => ?_⟩))))
  have hqp : q ≠ p := fun e => by rw [e, hp] at hq2; cases hq2
  have hrp : r ≠ p := fun e => by rw [e, hp] at hr2; cases hr2
  have hrq : r ≠ q := fun e => by
    have h1 : mput b0.mem q (.lst _) r = none := hr1
    rw [e, mput_same] at h1
    cases h1
  let En : Option B → List (Option B) := fun w4 => [some (.ptr p), some (.dat (.int (n : Int))), some (.ptr q), some (.ptr r), w4, none, none, none]
  walk_at "mpR"
  refine ⟨(show n ≤ 100000 by omega), fun i a => ∃ (L F : List Nat) (c : C) (w4 : Option B), L.length + F.length = 16 ∧ F.length = i ∧ (F ++ L).Nodup ∧ (∀ x ∈ F ++ L, x < 16) ∧ StC c ∧
    a.env = En w4 ∧ a.mem q = some (.lst (pB L)) ∧ a.mem r = some (.lst (pB F)) ∧ a.mem p = some c ∧ ∀ z x, b0.mem z = some x → z ≠ p → a.mem z = some x,
    ⟨List.range 16, [], c, none, by simp, rfl, by simpa using List.nodup_range, fun x hx => by simpa using hx, hc, rfl, ?_, mput_same, ?_, fun z x hz hzp => ?_⟩, ?_, ?_⟩
  · show mput (mput b0.mem q _) r _ q = _
    rw [mput_ne (fun e => hrq e.symm), mput_same, pB, List.map_map]
    rfl
  · show mput (mput b0.mem q _) r _ p = _
    rw [mput_ne (fun e => hrp e.symm), mput_ne (fun e => hqp e.symm)]
    exact hp
  · show mput (mput b0.mem q _) r _ z = _
    rw [mput_ne (fun e => by rw [e, hr2] at hz; cases hz), mput_ne (fun e => by rw [e, hq2] at hz; cases hz)]
    exact hz
  · rintro i ⟨env, mem⟩ hi ⟨L, F, c, w4, hlen, hF, hnd, hlt, hc, henv, hmq, hmr, hmp, hrest⟩
    cases (show env = _ from henv)
    have hmq : mem q = _ := hmq
    have hmr : mem r = _ := hmr
    have hmp : mem p = _ := hmp
    have hi : i < n := hi
    walk_at "mpR"
    have hLpos : 0 < L.length := by omega
    refine ⟨r, pB F, rfl, hmr, ?_⟩
    refine ev_popAt ?_
    walk_at "mpR"
    refine ⟨q, pB L, rfl, hmq, ?_⟩
    refine ev_take ?_
    walk_at "mpR"
    refine rc_lenL (.inl ⟨q, rfl, hmq⟩) ?_
    walk_at "mpR"
    refine ⟨p, c, L.length, rfl, by rw [pB_len], hmp, hc, hLpos, by omega, fun v c' hv hc' => ?_⟩
    have hLv : L[v]? = some L[v] := List.getElem?_eq_getElem hv
    refine ⟨pB L, v, .dat (ptD L[v]), rfl, ?_, by rw [pB, List.getElem?_map, hLv]; rfl, by rw [pB_len]; omega, ?_⟩
    · show mput mem p c' q = _
      rw [mput_ne hqp]
      exact hmq
    refine ⟨pB F, ?_, by rw [pB_len]; omega, ?_⟩
    · show mput (mput mem p c') q _ r = _
      rw [mput_ne hrq, mput_ne hrp]
      exact hmr
    have hle : (L.eraseIdx v).length = L.length - 1 := List.length_eraseIdx_of_lt hv
    refine nx_inv ⟨L.eraseIdx v, F ++ [L[v]], c', some (.dat (.int (i : Int))), by rw [List.length_append, hle]; simp; omega, by simp [hF], perm_nodup hLv hnd, fun x hx => ?_, hc', rfl, ?_, ?_, ?_, fun z x hz hzp => ?_⟩
    · rw [List.append_assoc] at hx
      rcases List.mem_append.mp hx with hx | hx
      · exact hlt x (List.mem_append_left _ hx)
      · exact hlt x (List.mem_append_right _ ((cons_eraseIdx L v hv).mem_iff.mp hx))
    · show mput (mput (mput mem p c') q _) r _ q = _
      rw [mput_ne (fun e => hrq e.symm), mput_same, pB, pB, erase_map]
    · show mput (mput (mput mem p c') q _) r _ r = _
      rw [mput_same]
      simp [pB]
    · show mput (mput (mput mem p c') q _) r _ p = _
      rw [mput_ne (fun e => hrp e.symm), mput_ne (fun e => hqp e.symm), mput_same]
    · show mput (mput (mput mem p c') q _) r _ z = _
      rw [mput_ne (fun e => by rw [e, hr2] at hz; cases hz), mput_ne (fun e => by rw [e, hq2] at hz; cases hz), mput_ne hzp]
      exact hrest z x hz hzp
  · rintro ⟨env, mem⟩ ⟨L, F, c, w4, hlen, hF, hnd, hlt, hc, henv, hmq, hmr, hmp, hrest⟩
    cases (show env = _ from henv)
    have hmr : mem r = _ := hmr
    have hF : F.length = n := hF
    rw [List.nodup_append] at hnd
    have hF1 := hnd.1
    have hF2 : ∀ x ∈ F, x < 16 := fun x hx => hlt x (List.mem_append_left _ hx)
    have hmemF : ∀ {d : D}, d ∈ F.map ptD → ∃ x, d = ptD x := fun hd => by
      obtain ⟨x, _, rfl⟩ := List.mem_map.mp hd
      exact ⟨x, rfl⟩
    refine nx_go (gs_frz (ds := F.map ptD) hr2 (by show mem r = _; rw [hmr, pB, List.map_map]; rfl) (e := [some (.ptr p), some (.dat (.int (n : Int))), some (.ptr q), some (.dat (.lst (F.map ptD))), w4, none, none, none]) (.keep (.keep (.keep (.hit (.keep (.keep (.keep (.keep .nil)))))))) ?_)
    refine gs_ret (ev_lcML (fun d => .tup ((F.map ptD).map fun d' => .int (l1D d d'))) (by decide) (ev_var rfl ⟨_, rfl, by rw [List.length_map]; omega, fun d m hd _ => ?_, ?_⟩))
    · obtain ⟨x, rfl⟩ := hmemF hd
      refine ev_cb (ea_cons (ev_lcML (fun d' => .int (l1D (ptD x) d')) (by decide) (ev_var rfl ⟨_, rfl, by rw [List.length_map]; omega, fun d m hd _ => ?_, ?_⟩)))
      · obtain ⟨y, rfl⟩ := hmemF hd
        walk_at "mpR"
        exact ⟨rfl, rfl⟩
      · walk_at "mpR"
        exact ⟨rfl, rfl⟩
    · have e : (F.map ptD).map (fun d => D.tup ((F.map ptD).map fun d' => .int (l1D d d'))) = (List.range F.length).map fun x => .tup ((List.range F.length).map fun y => .int (l1 (F.getD x 0) (F.getD y 0))) := by
        have e2 := map_getD F (fun x => D.tup ((List.range F.length).map fun y => .int (l1 x (F.getD y 0))))
        rw [e2, List.map_map]
        refine List.map_congr_left fun x _ => ?_
        have e3 := map_getD F (fun y => D.int (l1 x y))
        rw [e3, Function.comp, List.map_map]
        rfl
      rw [e]
      have hI := l1_met hF1 hF2
      refine zS.go hret hc ⟨fun i j => l1 (F.getD i 0) (F.getD j 0), by show IMet n _; rw [← hF]; exact hI, by show _ = rowsI n _; rw [← hF]; rfl⟩ ?_ fun z x hz hzp => ?_
      · show mdel mem r p = _
        rw [mdel_ne (fun e => hrp e.symm)]
        exact hmp
      · show mdel mem r z = _
        rw [mdel_ne (fun e => by rw [e, hr2] at hz; cases hz)]
        exact hrest z x hz hzp
end MP
/-! MSH -/
set_option exponentiation.threshold 10000
/-! _law_levels -/
namespace MP
open PySem PySem.Spec PyProof.Rows L2

/-- levels: the first place where two words differ -/
def lvl (h : Nat → Int) (wa wb : Nat → Nat) (i j : Nat) : Int := if i = j then 0 else if wa i ≠ wa j then h 2 else if wb i ≠ wb j then h 1 else h 0
theorem lvl_met {h : Nat → Int} {wa wb : Nat → Nat} {n : Nat} (h0 : 1 ≤ h 0) (h1 : h 0 ≤ h 1) (h2 : h 1 ≤ h 2) (h3 : h 2 ≤ 1000) : IMet n (lvl h wa wb) := by
  refine ⟨⟨fun x _ => if_pos rfl, fun x y _ _ => ?_, fun x y _ _ e => ?_, fun x y _ _ => ?_⟩, fun x y z _ _ _ => ?_⟩
  · unfold lvl; split <;> split <;> (try split) <;> (try split) <;> (try split) <;> (try split) <;> omega
  · unfold lvl; split <;> (try split) <;> (try split) <;> omega
  · unfold lvl; split <;> (try split) <;> (try split) <;> omega
  · unfold lvl
    by_cases e1 : x = y
    · subst e1
      simp only [if_true]
      omega
    · by_cases e2 : y = z
      · subst e2
        simp only [if_true]
        omega
      · simp only [if_neg e1, if_neg e2]
        split <;> (try split) <;> (try split) <;> (try split) <;> (try split) <;> (try split) <;> (try split) <;> omega
def cmpn (wa wb : Nat → Nat) (x k : Nat) : Int := if k = 0 then (wa x : Int) else if k = 1 then (wb x : Int) else (x : Int)
theorem cmpn_at {wa wb : Nat → Nat} {x k : Nat} (hk : k < 3) : ([D.int (wa x : Int), .int (wb x : Int), .int (x : Int)] : List D)[k]? = some (.int (cmpn wa wb x k)) := by
  rcases (by omega : k = 0 ∨ k = 1 ∨ k = 2) with rfl | rfl | rfl <;> rfl
theorem apart_cases (h : Nat → Int) (wa wb : Nat → Nat) (x y : Nat) : ((List.range 3).filter (fun k => !decide (cmpn wa wb x k = cmpn wa wb y k)) = [] ∧ lvl h wa wb x y = 0) ∨
    ∃ (k : Nat) (r : List Nat), (List.range 3).filter (fun k => !decide (cmpn wa wb x k = cmpn wa wb y k)) = k :: r ∧ k < 3 ∧ r.length ≤ 2 ∧ lvl h wa wb x y = h (2 - k) := by
  have e : List.range 3 = [0, 1, 2] := rfl
  have i1 : ((wa x : Int) = (wa y : Int)) = (wa x = wa y) := propext (by omega)
  have i2 : ((wb x : Int) = (wb y : Int)) = (wb x = wb y) := propext (by omega)
  have i3 : ((x : Int) = (y : Int)) = (x = y) := propext (by omega)
  rw [e]
  simp only [List.filter_cons, List.filter_nil, cmpn]
  unfold lvl
  by_cases h1 : wa x = wa y <;> by_cases h2 : wb x = wb y <;> by_cases h3 : x = y
  · left; simp [i1, i2, i3, h1, h2, h3]
  · exact .inr ⟨2, [], by simp [i1, i2, i3, h1, h2, h3]⟩
  · exact absurd (h3 ▸ rfl) h2
  · exact .inr ⟨1, [2], by simp [i1, i2, i3, h1, h2, h3]⟩
  · exact absurd (h3 ▸ rfl) h1
  · exact .inr ⟨0, [2], by simp [i1, i2, i3, h1, h2, h3]⟩
  · exact absurd (h3 ▸ rfl) h1
  · exact .inr ⟨0, [1, 2], by simp [i1, i2, i3, h1, h2, h3]⟩
structure Hs (hs : List Int) : Prop where
  ne : hs ≠ []
  rg : ∀ x ∈ hs, 1 ≤ x ∧ x ≤ 2 + 4 * (hs.length : Int)
  so : hs.Pairwise (· ≤ ·)
theorem hs_last {hs : List Int} (h : Hs hs) : ∃ l : Int, atI (hs.map fun x => B.dat (.int x)) (-1) = some (.dat (.int l)) ∧ l ∈ hs ∧ ∀ x ∈ hs, x ≤ l := by
  have hpos : 0 < hs.length := List.length_pos_iff.mpr h.ne
  have hi : hs.length - 1 < hs.length := by omega
  refine ⟨hs[hs.length - 1], ?_, List.getElem_mem hi, fun x hx => ?_⟩
  · unfold atI ixN
    rw [List.length_map, if_neg (by decide), if_pos (by omega)]
    show (hs.map fun x => B.dat (.int x))[(-1 + (hs.length : Int)).toNat]? = _
    rw [show (-1 + (hs.length : Int)).toNat = hs.length - 1 by omega, List.getElem?_map, List.getElem?_eq_getElem hi]
    rfl
  · obtain ⟨i, hi2, rfl⟩ := List.mem_iff_getElem.mp hx
    by_cases e : i = hs.length - 1
    · subst e; exact Int.le_refl _
    · exact List.pairwise_iff_getElem.mp h.so i (hs.length - 1) hi2 hi (by omega)
theorem Hs.snoc {hs : List Int} (h : Hs hs) {l v : Int} (hl : l ∈ hs) (hm : ∀ x ∈ hs, x ≤ l) (hv : 0 ≤ v ∧ v ≤ 2) : Hs (hs ++ [l + 1 + v]) := by
  have hr := h.rg l hl
  refine ⟨by simp, fun x hx => ?_, ?_⟩
  · rw [List.length_append]
    rcases List.mem_append.mp hx with hx | hx
    · have := h.rg x hx
      simp
      omega
    · have : x = l + 1 + v := by simpa using hx
      simp
      omega
  · rw [List.pairwise_append]
    refine ⟨h.so, by simp, fun a ha b hb => ?_⟩
    have : b = l + 1 + v := by simpa using hb
    have := hm a ha
    omega
theorem sc_Llevels : FnScope ["_law_state_here", "_law_n", "_law_heights", "_law_k", "_law_words", "_law_rows_here", "_law_one", "_law_row", "_law_two", "_law_apart", "_law_x"] ["_law_state_here", "_law_n"] (defScope s_Llevels) := ⟨rfl, rfl, rfl, by decide +kernel, rfl, by decide +kernel, by decide +kernel⟩
theorem c_Llevels {P : Program} {w : World} {K : PySem.W.Frag} {mg : Str → Option Value} {base : Heap} (M : FX K mg) : C8.Cal P w K mg base 6 "_law_levels" (spN K (n2 pOft) (zS (fun i => i.1) zOft)) [] := by
  obtain ⟨fd, F⟩ := M.said.def_ 50
  refine ⟨_, fd, ["_law_state_here", "_law_n"], [], (def_non (j := 5) F sc_Llevels n2_len fun cdv A outer s H E hr => ⟨_, (pss_cons (ps_set (i := 2) sc_Llevels.nd rfl (by first | exact Or.inl rfl | exact Or.inr rfl) (pe_lst (pa_cons (pe_op (op_addAny M (ops M) hr) pe_int (C8.pe_c (c_Ltake M) hr (by decide) (by rfl) (pa_cons (pv 0) (pa_cons pe_int pa_nil)))) pa_nil)))
      (pss_cons (ps_for PassesOwn.never rfl (pi_range1 rfl (M.free 62) (pa_cons pe_int pa_nil)) (pg_name (i := 3) sc_Llevels.nd rfl (by first | exact Or.inl rfl | exact Or.inr rfl))
        (pss_one (ps_expr (pe_bm PySem.F.plainAttrs_list PySem.F.slot_list_append PySem.F.type_list_append mt_append (pv 2) (pa_cons (pe_op (op_addAny M (ops M) hr) (pe_op (op_addAny M (ops M) hr) (pe_ix (ix_seqK (K := K)) (pv 2) (pe_un un_neg pe_int) (fun _ _ => rfl)) pe_int) (C8.pe_c (c_Ltake M) hr (by decide) (by rfl) (pa_cons (pv 0) (pa_cons pe_int pa_nil)))) pa_nil)))))
        (pss_cons (ps_setLc (i := 4) (own := [("_law_x", 10)]) (g := gName 10) (by rfl) sc_Llevels.nd rfl rfl (sw_true rfl rfl rfl (by decide +kernel)) (pi_range1 rfl (M.free 62) (pa_cons (pv 1) pa_nil)) (by dsimp only [Cx.blk, Cx.nox, Cx.wish, cxOf, blk_sc, env_sc]; exact blkOk_by (by decide +kernel)) (fun _ _ _ _ _ => pg_name (i := 10) sc_Llevels.nd rfl (by first | exact Or.inl rfl | exact Or.inr rfl)) (fun _ _ _ _ _ => pts_nil) (fun _ _ _ _ _ => (pe_tup (pa_cons (C8.pe_c (c_Ltake M) hr (by decide) (by rfl) (pa_cons (pv 0) (pa_cons pe_int pa_nil))) (pa_cons (C8.pe_c (c_Ltake M) hr (by decide) (by rfl) (pa_cons (pv 0) (pa_cons pe_int pa_nil))) (pa_cons (pv 10) pa_nil))))))
          (pss_cons (ps_set (i := 5) sc_Llevels.nd rfl (by first | exact Or.inl rfl | exact Or.inr rfl) (pe_lst pa_nil))
            (pss_cons (ps_for PassesOwn.never rfl (pi_listK (K := K) (pv 4)) (pg_name (i := 6) sc_Llevels.nd rfl (by first | exact Or.inl rfl | exact Or.inr rfl))
              (pss_cons (ps_set (i := 7) sc_Llevels.nd rfl (by first | exact Or.inl rfl | exact Or.inr rfl) (pe_lst pa_nil))
                (pss_cons (ps_for PassesOwn.never rfl (pi_listK (K := K) (pv 4)) (pg_name (i := 8) sc_Llevels.nd rfl (by first | exact Or.inl rfl | exact Or.inr rfl))
                  (pss_cons (ps_setLc (i := 9) (own := [("_law_k", 3)]) (g := gName 3) (by rfl) sc_Llevels.nd rfl rfl (sw_true rfl rfl rfl (by decide +kernel)) (pi_range1 rfl (M.free 62) (pa_cons pe_int pa_nil)) (by dsimp only [Cx.blk, Cx.nox, Cx.wish, cxOf, blk_sc, env_sc]; exact blkOk_by (by decide +kernel)) (fun _ _ _ _ _ => pg_name (i := 3) sc_Llevels.nd rfl (by first | exact Or.inl rfl | exact Or.inr rfl)) (fun _ _ _ _ _ => pts_one (pt_cmpR (op_neAny M (ops M) hr) (pe_ix (ix_seqK (K := K)) (pv 6) (pv 3) (fun _ _ => rfl)) (pe_ix (ix_seqK (K := K)) (pv 8) (pv 3) (fun _ _ => rfl)) (nomark _))) (fun _ _ _ _ _ => (pv 3)))
                    (pss_one (ps_expr (pe_bm PySem.F.plainAttrs_list PySem.F.slot_list_append PySem.F.type_list_append mt_append (pv 7) (pa_cons (pe_ifExp (pt_cmpR (op_eqAny M (ops M) hr) (pe_callB (call_len_anyK (K := K)) (by rfl) (M.free 61) PySem.boot_len (pa_cons (pv 9) pa_nil)) pe_int (nomark _)) pe_int (pe_ix (ix_seqK (K := K)) (pv 2) (pe_op (op_subAny M (ops M) hr) pe_int (pe_ix (ix_seqK (K := K)) (pv 9) pe_int (fun _ _ => rfl))) (fun _ _ => rfl))) pa_nil))))))
                  (pss_one (ps_expr (pe_bm PySem.F.plainAttrs_list PySem.F.slot_list_append PySem.F.type_list_append mt_append (pv 5) (pa_cons (pe_callTy (T := "tuple") (call_tuple_ofK (K := K)) (by rfl) (M.free 66) (by decide +kernel) (pa_cons (pv 7) pa_nil)) pa_nil)))))))
              (pss_one (ps_ret (pv 5)))))))), ?_⟩), M.glo 41, F.kp, F.bindsN fun _ _ _ _ _ _ us hl => match us, hl with | [_, _], _ => rfl, .nil⟩
  try dsimp only [cx_K]
  intro b0 Z ix bs h hret
  obtain ⟨sp, c, n⟩ := ix
  obtain ⟨_, _, rfl, rfl, rfl, hp, hc, hn, hn1⟩ := h
  have hp : b0.mem sp = some c := hp
  have hc : StC c := hc
  have hn : n ≤ 50 := hn
  refine gs_seq (gs_set (ev_lstM ?_))
  walk_at "mpR"
  refine ev_take ?_
  walk_at "mpR"
  refine ⟨sp, c, 2, rfl, rfl, hp, hc, by omega, by omega, fun v0 c1 hv0 hc1 => ?_⟩
  walk_at "mpR"
  refine ⟨by simp, fun q hq1 hq2 => ?_⟩
  have hqs : q ≠ sp := fun e => by rw [e, hp] at hq2; cases hq2
  let En : List (Option B) → List (Option B) := fun ws => [some (.ptr sp), some (.dat (.int (n : Int))), some (.ptr q)] ++ ws
  walk_at "mpR"
  refine ⟨(show 2 ≤ 100000 by omega), fun k a => ∃ (hs : List Int) (c : C) (w3 : Option B), hs.length = k + 1 ∧ Hs hs ∧ StC c ∧ a.env = En [w3, none, none, none, none, none, none, none] ∧ a.mem q = some (.lst (hs.map fun x => .dat (.int x))) ∧ a.mem sp = some c ∧ ∀ z x, b0.mem z = some x → z ≠ sp → a.mem z = some x,
    ⟨[1 + (v0 : Int)], c1, none, rfl, ⟨by simp, fun x hx => ?_, by simp⟩, hc1, rfl, mput_same, ?_, fun z x hz hzs => ?_⟩, ?_, ?_⟩
  · have : x = 1 + (v0 : Int) := by simpa using hx
    simp
    omega
  · show mput (mput b0.mem sp c1) q _ sp = _
    rw [mput_ne (fun e => hqs e.symm), mput_same]
  · show mput (mput b0.mem sp c1) q _ z = _
    rw [mput_ne (fun e => by rw [e, hq2] at hz; cases hz), mput_ne hzs]
    exact hz
  · rintro k ⟨env, mem⟩ hk0 ⟨hs, c, w3, hlen, hH, hc, henv, hmq, hms, hrest⟩
    cases (show env = _ from henv)
    have hmq : mem q = _ := hmq
    have hms : mem sp = _ := hms
    have hk : k < 2 := hk0
    walk_at "mpR"
    obtain ⟨l, hl, hL⟩ : ∃ l : Int, atI (hs.map fun x => B.dat (.int x)) (-1) = some (.dat (.int l)) ∧ l ∈ hs ∧ ∀ x ∈ hs, x ≤ l := hs_last hH
    refine ⟨q, hs.map fun x => .dat (.int x), rfl, hmq, ?_⟩
    walk_at "mpR"
    refine ro_ixP hmq hl ?_
    walk_at "mpR"
    refine ev_take ?_
    walk_at "mpR"
    refine ⟨sp, c, 3, rfl, rfl, hms, hc, by omega, by omega, fun v c2 hv hc2 => ?_⟩
    walk_at "mpR"
    refine ⟨hs.map fun x => .dat (.int x), by show mput mem sp c2 q = _; rw [mput_ne hqs]; exact hmq, by rw [List.length_map]; omega, ?_⟩
    refine nx_inv ⟨hs ++ [l + 1 + (v : Int)], c2, some (.dat (.int (k : Int))), by simp [hlen], hH.snoc hL.1 hL.2 (by omega), hc2, rfl, ?_, ?_, fun z x hz hzs => ?_⟩
    · show mput (mput mem sp c2) q _ q = _
      rw [mput_same]
      simp
    · show mput (mput mem sp c2) q _ sp = _
      rw [mput_ne (fun e => hqs e.symm), mput_same]
    · show mput (mput mem sp c2) q _ z = _
      rw [mput_ne (fun e => by rw [e, hq2] at hz; cases hz), mput_ne hzs]
      exact hrest z x hz hzs
  · rintro ⟨env, mem⟩ ⟨hs, c, w3, hlen, hH, hc, henv, hmq, hms, hrest⟩
    cases (show env = _ from henv)
    have hmq : mem q = _ := hmq
    have hms : mem sp = _ := hms
    have hlen : hs.length = 3 := hlen
    refine nx_go (gs_seq (gs_set (ev_lcN1 ⟨by decide, ?_⟩)))
    walk_at "mpR"
    refine ⟨(show n ≤ 100000 by omega), ?_⟩
    let wd : (Nat → Nat) → (Nat → Nat) → Nat → D := fun wa wb x => .tup [.int (wa x : Int), .int (wb x : Int), .int (x : Int)]
    refine ⟨fun p i acc m => ∃ (wa wb : Nat → Nat) (c : C), acc = ((List.range i).map (wd wa wb)).map B.dat ∧ m sp = some c ∧ StC c ∧ p ≠ sp ∧ p ≠ q ∧ m q = some (.lst (hs.map fun x => .dat (.int x))) ∧ ∀ z x, b0.mem z = some x → z ≠ sp → m z = some x, ?_, ?_, ?_⟩
    · intro p h1 h2
      have hps : p ≠ sp := fun e => by have h1 : mem p = none := h1; rw [e, hms] at h1; cases h1
      have hpq : p ≠ q := fun e => by have h1 : mem p = none := h1; rw [e, hmq] at h1; cases h1
      refine ⟨fun _ => 0, fun _ => 0, c, rfl, by rw [mput_ne (fun e => hps e.symm)]; exact hms, hc, hps, hpq, by rw [mput_ne (fun e => hpq e.symm)]; exact hmq, fun z x hz hzs => ?_⟩
      rw [mput_ne (fun e => by rw [e, h2] at hz; cases hz)]
      exact hrest z x hz hzs
    · rintro p i acc m hi hb ⟨wa, wb, c, rfl, hms, hc, hps, hpq, hmq, hrest⟩ hm
      refine et_yes ⟨fun _ => ?_, fun h => (by cases h)⟩
      refine ev_tup3 (ev_take ?_)
      walk_at "mpR"
      refine ⟨sp, c, 2, rfl, rfl, hms, hc, by omega, by omega, fun v1 c2 hv1 hc2 => ?_⟩
      refine ⟨_, rfl, ev_take ?_⟩
      walk_at "mpR"
      refine ⟨by decide, by decide, fun v2 c3 hv2 hc3 => ?_⟩
      walk_at "mpR"
      refine ⟨by rw [List.length_map, List.length_map, List.length_range]; omega, ?_, fun j => if j = i then v1 else wa j, fun j => if j = i then v2 else wb j, c3, ?_, ?_, hc3, hps, hpq, ?_, fun z x hz hzs => ?_⟩
      · show mput (mput m sp c2) sp c3 p = _
        rw [mput_mput, mput_ne hps]
        exact hm
      · rw [List.range_succ, List.map_append, List.map_append]
        congr 1
        · refine congrArg (List.map B.dat) (List.map_congr_left fun j hj => ?_)
          have : ¬ j = i := by have := List.mem_range.mp hj; omega
          simp [wd, this]
        · simp [wd]
      · rw [mput_ne (fun e => hps e.symm)]
        show mput (mput m sp c2) sp c3 sp = _
        rw [mput_same]
      · rw [mput_ne (fun e => hpq e.symm)]
        show mput (mput m sp c2) sp c3 q = _
        rw [mput_mput, mput_ne hqs]
        exact hmq
      · rw [mput_ne (fun e => by rw [e, hb] at hz; cases hz)]
        show mput (mput m sp c2) sp c3 z = _
        rw [mput_mput, mput_ne hzs]
        exact hrest z x hz hzs
    · rintro p acc m h1 h2 ⟨wa, wb, c, rfl, hms, hc, hps, hpq, hmq, hrest⟩ hm
      have hp0 : b0.mem p = none := h2
      let W : List D := (List.range n).map (wd wa wb)
      let h : Nat → Int := fun i => hs.getD i 0
      have hW : (List.range n).map (wd wa wb) = W := rfl
      refine nx_go (gs_frz (ds := W) hp0 hm (e := [some (.ptr sp), some (.dat (.int (n : Int))), some (.ptr q), w3, some (.dat (.lst W)), none, none, none, none, none, none]) (.keep (.keep (.keep (.keep (.hit (.keep (.keep (.keep (.keep (.keep (.keep .nil))))))))))) ?_)
      refine gs_seq (gs_set (ev_lstM (ea_nil ⟨by simp, fun r hr1 hr2 => ?_⟩)))
      have hqp : q ≠ p := fun e => hpq e.symm
      have hrs : r ≠ sp := fun e => by rw [e, hp] at hr2; cases hr2
      have hrq : r ≠ q := fun e => by
        have h3 : mdel m p r = none := hr1
        rw [e, mdel_ne hqp, hmq] at h3
        cases h3
      let rowD : Nat → D := fun x => .tup ((List.range n).map fun y => .int (lvl h wa wb x y))
      let R : Nat → List B → AS → Prop := fun i extra a => True
      let En2 : List (Option B) → List (Option B) := fun ws => [some (.ptr sp), some (.dat (.int (n : Int))), some (.ptr q)] ++ ws
      have hWl : W.length = n := by show ((List.range n).map _).length = n; rw [List.length_map, List.length_range]
      have hWat : ∀ {i d}, W[i]? = some d → i < n ∧ d = wd wa wb i := fun {i d} hd => by
        have hd : ((List.range n).map (wd wa wb))[i]? = some d := hd
        rw [List.getElem?_map] at hd
        obtain ⟨x, hx, rfl⟩ := Option.map_eq_some_iff.mp hd
        have hi : i < n := by
          have := (List.getElem?_eq_some_iff.mp hx).1
          simpa using this
        rw [List.getElem?_range hi] at hx
        cases hx
        exact ⟨hi, rfl⟩
      walk_at "mpR"
      refine ⟨fun i a => ∃ (w3 w6 w7 w8 w9 : Option B), a.env = En2 [w3, some (.dat (.lst W)), some (.ptr r), w6, w7, w8, w9, none] ∧ a.mem q = some (.lst (hs.map fun x => .dat (.int x))) ∧ a.mem r = some (.lst (((List.range i).map rowD).map B.dat)) ∧ a.mem sp = some c ∧ ∀ z x, b0.mem z = some x → z ≠ sp → a.mem z = some x,
        ⟨w3, none, none, none, none, rfl, ?_, mput_same, ?_, fun z x hz hzs => ?_⟩, ?_, ?_⟩
      · show mput (mdel m p) r _ q = _
        rw [mput_ne (fun e => hrq e.symm), mdel_ne hqp]
        exact hmq
      · show mput (mdel m p) r _ sp = _
        rw [mput_ne (fun e => hrs e.symm), mdel_ne (fun e => hps e.symm)]
        exact hms
      · show mput (mdel m p) r _ z = _
        rw [mput_ne (fun e => by rw [e, hr2] at hz; cases hz), mdel_ne (fun e => by rw [e, hp0] at hz; cases hz)]
        exact hrest z x hz hzs
      · rintro v0' x d ⟨env, mem⟩ hd ⟨w3, w6, w7, w8, w9, henv, hmq, hmr, hms, hrest⟩
        cases (show env = _ from henv)
        have hmq : mem q = _ := hmq
        have hmr : mem r = _ := hmr
        have hms : mem sp = _ := hms
        obtain ⟨hx, rfl⟩ := hWat hd
        refine gg_name (gs_seq (gs_set (ev_lstM (ea_nil ⟨by simp, fun t ht1 ht2 => ?_⟩))))
        have ht0 : mem t = none := ht1
        have ht3 : ∀ {x}, ¬ b0.mem t = some x := fun {x} hz => by
          have h3 : mem t = some x := hrest t x hz (fun e => by rw [e, hms] at ht0; cases ht0)
          rw [ht0] at h3
          cases h3
        have htr : t ≠ r := fun e => by rw [e, hmr] at ht0; cases ht0
        have htq : t ≠ q := fun e => by rw [e, hmq] at ht0; cases ht0
        have hts : t ≠ sp := fun e => by rw [e, hms] at ht0; cases ht0
        walk_at "mpR"
        refine ⟨fun j a => ∃ (w3 w8 w9 : Option B), a.env = En2 [w3, some (.dat (.lst W)), some (.ptr r), some (.dat (wd wa wb x)), some (.ptr t), w8, w9, none] ∧ a.mem q = some (.lst (hs.map fun x => .dat (.int x))) ∧ a.mem r = some (.lst (((List.range x).map rowD).map B.dat)) ∧ a.mem sp = some c ∧
            a.mem t = some (.lst (((List.range j).map fun y => D.int (lvl h wa wb x y)).map B.dat)) ∧ ∀ z x, b0.mem z = some x → z ≠ sp → a.mem z = some x,
          ⟨w3, w8, w9, rfl, ?_, ?_, ?_, mput_same, fun z x hz hzs => ?_⟩, ?_, ?_⟩
        · show mput mem t _ q = _
          rw [mput_ne (fun e => htq e.symm)]
          exact hmq
        · show mput mem t _ r = _
          rw [mput_ne (fun e => htr e.symm)]
          exact hmr
        · show mput mem t _ sp = _
          rw [mput_ne (fun e => hts e.symm)]
          exact hms
        · show mput mem t _ z = _
          rw [mput_ne (fun e => ht3 (e ▸ hz))]
          exact hrest z x hz hzs
        · rintro v1' y d ⟨env, mem⟩ hd ⟨w3, w8, w9, henv, hmq, hmr, hms, hmt, hrest⟩
          cases (show env = _ from henv)
          have hmq : mem q = _ := hmq
          have hmr : mem r = _ := hmr
          have hms : mem sp = _ := hms
          have hmt : mem t = _ := hmt
          obtain ⟨hy, rfl⟩ := hWat hd
          refine gg_name (gs_seq (gs_set (ev_lcF1 (fun k => !decide (cmpn wa wb x k = cmpn wa wb y k)) (fun k => .int (k : Int)) (by decide) (ea_cons (ev_int (ea_nil ⟨3, rfl, by decide, fun k m hk _ => ?_, fun k m hk _ _ => ?_, ?_⟩))))))
          · walk_at "mpR"
            refine ro_ixT (atI_nat (cmpn_at hk)) ?_
            walk_at "mpR"
            refine ro_ixT (atI_nat (cmpn_at hk)) ?_
            walk_at "mpR"
            exact ⟨rfl, rfl⟩
          · walk_at "mpR"
            exact ⟨rfl, rfl⟩
          have fin : ∀ {v : Int}, v = lvl h wa wb x y → (((List.range y).map fun y => D.int (lvl h wa wb x y)).map B.dat) ++ [B.dat (.int v)] = ((List.range (y + 1)).map fun y => D.int (lvl h wa wb x y)).map B.dat := by
            rintro v rfl
            rw [List.range_succ, List.map_append, List.map_append]
            rfl
          have hyl : (((List.range y).map fun y => D.int (lvl h wa wb x y)).map B.dat).length < 100000 := by
            rw [List.length_map, List.length_map, List.length_range]
            omega
          refine nx_go (gs_app (ev_var rfl ⟨t, _, rfl, hmt, ?_⟩))
          refine ev_if (et_test ?_)
          rcases apart_cases h wa wb x y with ⟨e1, e2⟩ | ⟨k1, rr, e1, hk1, hrr, e2⟩
          · rw [e1]
            walk_at "mpR"
            refine ⟨fun _ => ?_, fun hc => (by simp at hc)⟩
            walk_at "mpR"
            refine ⟨_, hmt, hyl, ?_⟩
            rw [fin e2.symm]
            refine nx_inv ⟨w3, some (.dat (wd wa wb y)), some (.dat (.lst [])), rfl, ?_, ?_, ?_, mput_same, fun z x hz hzs => ?_⟩
            · show mput mem t _ q = _
              rw [mput_ne (fun e => htq e.symm)]
              exact hmq
            · show mput mem t _ r = _
              rw [mput_ne (fun e => htr e.symm)]
              exact hmr
            · show mput mem t _ sp = _
              rw [mput_ne (fun e => hts e.symm)]
              exact hms
            · show mput mem t _ z = _
              rw [mput_ne (fun e => ht3 (e ▸ hz))]
              exact hrest z x hz hzs
          · rw [e1]
            walk_at "mpR"
            refine ⟨fun hc => ?_, fun hc => ?_⟩
            · have hc := of_decide_eq_true hc
              simp at hc
              omega
            · walk_at "mpR"
              have hgi : atI (hs.map fun x => B.dat (.int x)) ((2 : Int) - (k1 : Int)) = some (.dat (.int (h (2 - k1)))) := by
                rw [show (2 : Int) - (k1 : Int) = ((2 - k1 : Nat) : Int) by omega]
                refine atI_nat ?_
                have hl : 2 - k1 < hs.length := by omega
                rw [List.getElem?_map, List.getElem?_eq_getElem hl]
                show some (B.dat (.int hs[2 - k1])) = some (.dat (.int (hs.getD (2 - k1) 0)))
                rw [List.getD_eq_getElem?_getD, List.getElem?_eq_getElem hl]
                rfl
              refine ro_ixP hmq hgi ?_
              walk_at "mpR"
              refine ⟨_, hmt, hyl, ?_⟩
              rw [fin e2.symm]
              refine nx_inv ⟨w3, some (.dat (wd wa wb y)), some (.dat (.lst ((k1 :: rr).map fun (k : Nat) => D.int (k : Int)))), rfl, ?_, ?_, ?_, mput_same, fun z x hz hzs => ?_⟩
              · show mput mem t _ q = _
                rw [mput_ne (fun e => htq e.symm)]
                exact hmq
              · show mput mem t _ r = _
                rw [mput_ne (fun e => htr e.symm)]
                exact hmr
              · show mput mem t _ sp = _
                rw [mput_ne (fun e => hts e.symm)]
                exact hms
              · show mput mem t _ z = _
                rw [mput_ne (fun e => ht3 (e ▸ hz))]
                exact hrest z x hz hzs
        · rintro ⟨env, mem⟩ ⟨w3, w8, w9, henv, hmq, hmr, hms, hmt, hrest⟩
          cases (show env = _ from henv)
          have hmq : mem q = _ := hmq
          have hmr : mem r = _ := hmr
          have hms : mem sp = _ := hms
          have hmt : mem t = _ := hmt
          rw [hWl] at hmt
          refine nx_go (gs_app (ev_var rfl ⟨r, _, rfl, hmr, ?_⟩))
          walk_at "mpR"
          refine rc_tupleL (ds := (List.range n).map fun y => D.int (lvl h wa wb x y)) (.inl ⟨t, rfl, hmt⟩) ?_
          walk_at "mpR"
          refine ⟨_, hmr, by rw [List.length_map, List.length_map, List.length_range]; omega, ?_⟩
          refine nx_inv ⟨w3, some (.dat (wd wa wb x)), some (.ptr t), w8, w9, rfl, ?_, ?_, ?_, fun z x hz hzs => ?_⟩
          · show mput mem r _ q = _
            rw [mput_ne (fun e => hrq e.symm)]
            exact hmq
          · show mput mem r _ r = _
            rw [mput_same, List.range_succ, List.map_append, List.map_append]
            rfl
          · show mput mem r _ sp = _
            rw [mput_ne (fun e => hrs e.symm)]
            exact hms
          · show mput mem r _ z = _
            rw [mput_ne (fun e => by rw [e, hr2] at hz; cases hz)]
            exact hrest z x hz hzs
      · rintro ⟨env, mem⟩ ⟨w3, w6, w7, w8, w9, henv, hmq, hmr, hms, hrest⟩
        cases (show env = _ from henv)
        have hmr : mem r = _ := hmr
        have hms : mem sp = _ := hms
        rw [hWl] at hmr
        refine nx_go (gs_ret (ev_var rfl ?_))
        have hg : ∀ i, i < 3 → 1 ≤ h i ∧ h i ≤ 1000 := fun i hi => by
          have hl : i < hs.length := by omega
          have e : h i = hs[i] := by
            show hs.getD i 0 = _
            rw [List.getD_eq_getElem?_getD, List.getElem?_eq_getElem hl]
            rfl
          have := hH.rg hs[i] (List.getElem_mem hl)
          rw [e]
          omega
        have hle : ∀ i j, i < j → j < 3 → h i ≤ h j := fun i j hij hj => by
          have hl1 : i < hs.length := by omega
          have hl2 : j < hs.length := by omega
          have e1 : h i = hs[i] := by
            show hs.getD i 0 = _
            rw [List.getD_eq_getElem?_getD, List.getElem?_eq_getElem hl1]
            rfl
          have e2 : h j = hs[j] := by
            show hs.getD j 0 = _
            rw [List.getD_eq_getElem?_getD, List.getElem?_eq_getElem hl2]
            rfl
          rw [e1, e2]
          exact List.pairwise_iff_getElem.mp hH.so i j hl1 hl2 hij
        refine rt_frz (d := .lst ((List.range n).map rowD)) hr2 hmr ⟨_, rfl, rfl⟩ (zS.go hret hc ⟨lvl h wa wb, lvl_met (hg 0 (by omega)).1 (hle 0 1 (by omega) (by omega)) (hle 1 2 (by omega) (by omega)) (hg 2 (by omega)).2, rfl⟩ ?_ fun z x hz hzs => ?_)
        · show mdel mem r sp = _
          rw [mdel_ne (fun e => hrs e.symm)]
          exact hms
        · show mdel mem r z = _
          rw [mdel_ne (fun e => by rw [e, hr2] at hz; cases hz)]
          exact hrest z x hz hzs
end MP
/-! MSI -/
set_option exponentiation.threshold 10000
/-! the law's own rationals: pairs of whole numbers -/
namespace MP
open PySem PySem.Spec PyProof.Rows L2

/-- a rational as the law holds it -/
abbrev qD (q : Rat) : D := .tup [.int q.num, .int (q.den : Int)]
def sLow : B → B → D → Prop := fun x y d => ∃ n dd : Int, x = .dat (.int n) ∧ y = .dat (.int dd) ∧ dd ≠ 0 ∧ dd.natAbs < 2 ^ 8000 ∧ d = qD (Rat.divInt n dd)
theorem sc_Llow : FnScope ["_law_n", "_law_d", "_law_a", "_law_b"] ["_law_n", "_law_d"] (defScope s_Llow) := ⟨rfl, rfl, rfl, by decide +kernel, rfl, by decide +kernel, by decide +kernel⟩
theorem c_Llow {P : Program} {w : World} {K : PySem.W.Frag} {mg : Str → Option Value} {base : Heap} (M : FX K mg) : C8.Cal P w K mg base 4 "_law_low" (spA K (pw (f2 sLow))) [] := by
  obtain ⟨fd, F⟩ := M.said.def_ 54
  refine ⟨_, fd, ["_law_n", "_law_d"], [], (def_pure (j := 3) F sc_Llow f2_len fun cdv A outer s H E hr => ⟨_, (pss_cons (ps_if (pt_cmpR op_lt (pv 1) pe_int (nomark _))
      (pss_one (ps_par (i := 0) (j := 1) (by rfl) sc_Llow.nd rfl rfl (by decide) rfl rfl (pa_cons (pe_un un_neg (pv 0)) (pa_cons (pe_un un_neg (pv 1)) pa_nil)) (by rfl)))
      pss_nil)
      (pss_cons (ps_par (i := 2) (j := 3) (by rfl) sc_Llow.nd rfl rfl (by decide) rfl rfl (pa_cons (pe_callB call_abs (by rfl) (M.free 68) (by decide +kernel) (pa_cons (pv 0) pa_nil)) (pa_cons (pv 1) pa_nil)) (by rfl))
        (pss_cons (ps_while PassesOwn.never (pt_cmpR op_ne (pv 3) pe_int (nomark _))
          (pss_one (ps_par (i := 2) (j := 3) (by rfl) sc_Llow.nd rfl rfl (by decide) rfl rfl (pa_cons (pv 3) (pa_cons (pe_op op_modI (pe_callTy (T := "int") call_int1 (by rfl) (M.free 64) (by decide +kernel) (pa_cons (pv 2) pa_nil)) (pv 3)) pa_nil)) (by rfl))))
          (pss_one (ps_ret (pe_tup (pa_cons (pe_op op_fdivI (pv 0) (pv 2)) (pa_cons (pe_op op_fdivI (pv 1) (pv 2)) pa_nil)))))))), ?_⟩), M.glo 45, F.kp, F.bindsN fun _ _ _ _ _ _ us hl => match us, hl with | [_, _], _ => rfl, .nil⟩
  try dsimp only [cx_K]
  intro b0 Z bs d h hret
  obtain ⟨_, _, rfl, n, dd, rfl, rfl, hd, hw, rfl⟩ := h
  refine gs_cutS (fun a => ∃ n' d' : Int, 0 < d' ∧ d'.natAbs < 2 ^ 8000 ∧ Rat.divInt n' d' = Rat.divInt n dd ∧ a = ⟨[some (.dat (.int n')), some (.dat (.int d')), none, none], b0.mem⟩) (fun f J => ?_) ?_
  · walk_at "mpR"
    refine ⟨fun hc => ?_, fun hc => ?_⟩
    · have hc := of_decide_eq_true hc
      refine gs_par ?_
      walk_at "mpR"
      exact ⟨_, _, rfl, nx_mk (J _ ⟨-n, -dd, by omega, by omega, Rat.neg_divInt_neg _ _, rfl⟩)⟩
    · have hc := of_decide_eq_false hc
      walk_at "mpR"
      exact J _ ⟨n, dd, by omega, hw, rfl, rfl⟩
  · rintro _ ⟨n', d', h1, h2, h3, rfl⟩
    obtain ⟨g1, g2⟩ := div_gcd (n := n') h1
    have g0 := gcd_pos' (n := n') h1
    have gw : ((Nat.gcd n'.natAbs d'.natAbs : Nat) : Int).natAbs < 2 ^ 8000 := by
      refine Nat.lt_of_le_of_lt ?_ h2
      rw [Int.natAbs_natCast]
      exact Nat.gcd_le_right _ (by omega)
    refine gs_seq (gs_par ?_)
    walk_at "mpR"
    refine ⟨_, _, rfl, nx_go (gs_cutS (fun a => a = ⟨[some (.dat (.int n')), some (.dat (.int d')), some (.dat (.int ((Nat.gcd n'.natAbs d'.natAbs : Nat) : Int))), some (.dat (.int 0))], b0.mem⟩) (fun f J => ?_) ?_)⟩
    · refine gs_while (fun m a => ∃ α β : Nat, β = m ∧ Nat.gcd α β = Nat.gcd n'.natAbs d'.natAbs ∧ a = ⟨[some (.dat (.int n')), some (.dat (.int d')), some (.dat (.int (α : Int))), some (.dat (.int (β : Int)))], b0.mem⟩) d'.natAbs ⟨n'.natAbs, d'.natAbs, rfl, rfl, ?_⟩ ?_
      · have e1 : (if n' < 0 then -n' else n') = (n'.natAbs : Int) := by split <;> omega
        have e2 : d' = (d'.natAbs : Int) := by omega
        rw [e1]
        conv => lhs; rw [e2]
        conv => rhs; rw [e2]
        simp
      · rintro m _ ⟨α, β, rfl, hg, rfl⟩
        walk_at "mpR"
        refine ⟨fun hc => ?_, fun hc => ?_⟩
        · have hb : 0 < β := by
            have := of_decide_eq_false (by simpa using hc : decide ((β : Int) = 0) = false)
            omega
          have hbI : (0 : Int) < (β : Int) := by omega
          refine gs_par ?_
          walk_at "mpR"
          refine ⟨_, _, rfl, nx_inv ⟨α % β, Nat.mod_lt _ hb, β, α % β, rfl, ?_, ?_⟩⟩
          · rw [Nat.gcd_comm, ← Nat.gcd_rec, Nat.gcd_comm, hg]
          · rw [Int.natCast_emod]
            rfl
        · have hb : β = 0 := by
            have := of_decide_eq_true (by simpa using hc : decide ((β : Int) = 0) = true)
            omega
          subst hb
          rw [Nat.gcd_zero_right] at hg
          subst hg
          exact nx_mk (J _ rfl)
    · rintro _ rfl
      walk_at "mpR"
      refine ro_I (cdivw g0 gw) ?_
      walk_at "mpR"
      refine ro_I (cdivw g0 gw) ?_
      walk_at "mpR"
      rw [g1, g2, h3]
      exact hret _ fun _ _ h => h
def sPlus : B → B → D → Prop := fun x y d => ∃ p q : Rat, x = .dat (qD p) ∧ y = .dat (qD q) ∧ Wee p ∧ Wee q ∧ d = qD (p + q)
theorem sc_Lplus : FnScope ["_law_a", "_law_b"] ["_law_a", "_law_b"] (defScope s_Lplus) := ⟨rfl, rfl, rfl, by decide +kernel, rfl, by decide +kernel, by decide +kernel⟩
theorem c_Lplus {P : Program} {w : World} {K : PySem.W.Frag} {mg : Str → Option Value} {base : Heap} (M : FX K mg) : C8.Cal P w K mg base 5 "_law_plus" (spA K (pw (f2 sPlus))) [] := by
  obtain ⟨fd, F⟩ := M.said.def_ 55
  refine ⟨_, fd, ["_law_a", "_law_b"], [], (def_pure (j := 4) F sc_Lplus f2_len fun cdv A outer s H E hr => ⟨_, (pss_one (ps_ret (C8.pe_c (c_Llow M) hr (by decide) (by rfl) (pa_cons (pe_op op_add (pe_op op_mulI (pe_ix (ix_seqK (K := K)) (pv 0) pe_int (fun _ _ => rfl)) (pe_ix (ix_seqK (K := K)) (pv 1) pe_int (fun _ _ => rfl))) (pe_op op_mulI (pe_ix (ix_seqK (K := K)) (pv 1) pe_int (fun _ _ => rfl)) (pe_ix (ix_seqK (K := K)) (pv 0) pe_int (fun _ _ => rfl)))) (pa_cons (pe_op op_mulI (pe_ix (ix_seqK (K := K)) (pv 0) pe_int (fun _ _ => rfl)) (pe_ix (ix_seqK (K := K)) (pv 1) pe_int (fun _ _ => rfl))) pa_nil))))), ?_⟩), M.glo 46, F.kp, F.bindsN fun _ _ _ _ _ _ us hl => match us, hl with | [_, _], _ => rfl, .nil⟩
  try dsimp only [cx_K]
  intro b0 Z bs d h hret
  obtain ⟨_, _, rfl, p, q, rfl, rfl, hp, hq, rfl⟩ := h
  obtain ⟨m1, m2⟩ := wee_mul hp hq
  obtain ⟨m3, m4⟩ := wee_mul hq hp
  obtain ⟨d1, d2⟩ := wee_den2 hp hq
  walk_at "mpR"
  refine ⟨_, ⟨_, _, rfl, _, _, rfl, rfl, d1, d2, rfl⟩, ?_⟩
  rw [rat_add_eq]
  exact hret.go fun _ _ h => h
def sBelow : B → B → D → Prop := fun x y d => ∃ p q : Rat, x = .dat (qD p) ∧ y = .dat (qD q) ∧ Wee p ∧ Wee q ∧ d = .bl (decide (p < q))
theorem sc_Lbelow : FnScope ["_law_a", "_law_b"] ["_law_a", "_law_b"] (defScope s_Lbelow) := ⟨rfl, rfl, rfl, by decide +kernel, rfl, by decide +kernel, by decide +kernel⟩
theorem c_Lbelow {P : Program} {w : World} {K : PySem.W.Frag} {mg : Str → Option Value} {base : Heap} (M : FX K mg) : C8.Cal P w K mg base 4 "_law_below" (spA K (pw (f2 sBelow))) [] := by
  obtain ⟨fd, F⟩ := M.said.def_ 56
  refine ⟨_, fd, ["_law_a", "_law_b"], [], (def_pure (j := 3) F sc_Lbelow f2_len fun cdv A outer s H E hr => ⟨_, (pss_one (ps_ret (pe_cmpR op_lt (pe_op op_mulI (pe_ix (ix_seqK (K := K)) (pv 0) pe_int (fun _ _ => rfl)) (pe_ix (ix_seqK (K := K)) (pv 1) pe_int (fun _ _ => rfl))) (pe_op op_mulI (pe_ix (ix_seqK (K := K)) (pv 1) pe_int (fun _ _ => rfl)) (pe_ix (ix_seqK (K := K)) (pv 0) pe_int (fun _ _ => rfl))) (nomark _)))), ?_⟩), M.glo 47, F.kp, F.bindsN fun _ _ _ _ _ _ us hl => match us, hl with | [_, _], _ => rfl, .nil⟩
  try dsimp only [cx_K]
  intro b0 Z bs d h hret
  obtain ⟨_, _, rfl, p, q, rfl, rfl, hp, hq, rfl⟩ := h
  obtain ⟨m1, m2⟩ := wee_mul hp hq
  obtain ⟨m3, m4⟩ := wee_mul hq hp
  walk_at "mpR"
  rw [show decide (p.num * (q.den : Int) < q.num * (p.den : Int)) = decide (p < q) from decide_eq_decide.mpr (Rat.lt_iff p q).symm]
  exact hret.go fun _ _ h => h
def seenD : D → D
  | .rat q => qD q
  | _ => .non
def sSeen : B → D → Prop := fun x d => ∃ e, x = .dat e ∧ okD e ∧ d = seenD e
theorem sc_Lseen : FnScope ["_law_x"] ["_law_x"] (defScope s_Lseen) := ⟨rfl, rfl, rfl, by decide +kernel, rfl, by decide +kernel, by decide +kernel⟩
theorem c_Lseen {P : Program} {w : World} {K : PySem.W.Frag} {mg : Str → Option Value} {base : Heap} (M : FX K mg) : C8.Cal P w K mg base 4 "_law_seen" (spA K (pw (f1 sSeen))) [] := by
  obtain ⟨fd, F⟩ := M.said.def_ 57
  refine ⟨_, fd, ["_law_x"], [], (def_pure (j := 3) F sc_Lseen f1_len fun cdv A outer s H E hr => ⟨_, (pss_cons (ps_if (pt_not (pt_val (pe_callB (call_isiK' (K := K)) (by rfl) (M.free 63) (by decide +kernel) (pa_cons (pv 0) (pa_cons (pe_glob (v := .ref (He.ga K "Ratio")) rfl (M.glo 1) rfl) pa_nil)))))
      (pss_one (ps_ret pe_non))
      pss_nil)
      (pss_one (ps_ret (pe_tup (pa_cons (pe_fldK (K := K) (pv 0) rfl) (pa_cons (pe_fldK (K := K) (pv 0) rfl) pa_nil)))))), ?_⟩), M.glo 48, F.kp, F.bindsN fun _ _ _ _ _ _ us hl => match us, hl with | [_], _ => rfl, .nil⟩
  try dsimp only [cx_K]
  intro b0 Z bs d h hret
  obtain ⟨_, rfl, e, rfl, ho, rfl⟩ := h
  walk_at "mpR"
  refine ⟨fun hc => ?_, fun hc => ?_⟩
  · walk_at "mpR"
    have e1 : D.non = seenD e := by
      cases e with
      | rat q => cases hc
      | _ => rfl
    rw [e1]
    exact hret.go fun _ _ h => h
  · cases e with
    | rat q =>
      walk_at "mpR"
      exact hret.go fun _ _ h => h
    | _ => cases hc
theorem sc_Lare_points : FnScope ["_law_n", "_law_value", "_law_count", "_law_x"] ["_law_n", "_law_value", "_law_count"] (defScope s_Lare_points) := ⟨rfl, rfl, rfl, by decide +kernel, rfl, by decide +kernel, by decide +kernel⟩
theorem c_Lare_points {P : Program} {w : World} {K : PySem.W.Frag} {mg : Str → Option Value} {base : Heap} (M : FX K mg) : C8.Cal P w K mg base 4 "_law_are_points" (spA K (pw (f3 sPts))) [] := by
  obtain ⟨fd, F⟩ := M.said.def_ 58
  refine ⟨_, fd, ["_law_n", "_law_value", "_law_count"], [], (def_pure (j := 3) F sc_Lare_points f3_len fun cdv A outer s H E hr => ⟨_, (pss_cons (ps_if (PW.pt (pw_or (pt_not (pt_val (pe_callB (call_isiK' (K := K)) (by rfl) (M.free 63) (by decide +kernel) (pa_cons (pv 1) (pa_cons (pe_bltn (v := .ty "tuple") rfl (M.free 66) (by decide +kernel) rfl) pa_nil))))) (pw_or1 (pt_cmpR (op_neAny M (ops M) hr) (pe_callB (call_len_anyK (K := K)) (by rfl) (M.free 61) PySem.boot_len (pa_cons (pv 1) pa_nil)) (pv 2) (nomark _)))))
      (pss_one (ps_ret pe_bl))
      pss_nil)
      (pss_cons (ps_for PassesOwn.never rfl (pi_tupK (K := K) (pv 1)) (pg_name (i := 3) sc_Lare_points.nd rfl (by first | exact Or.inl rfl | exact Or.inr rfl))
        (pss_one (ps_if (PW.pt (pw_or (pt_not (pt_val (pe_callB (call_isiK' (K := K)) (by rfl) (M.free 63) (by decide +kernel) (pa_cons (pv 3) (pa_cons (pe_bltn (v := .ty "int") rfl (M.free 64) (by decide +kernel) rfl) pa_nil))))) (pw_or (pt_val (pe_callB (call_isiK' (K := K)) (by rfl) (M.free 63) (by decide +kernel) (pa_cons (pv 3) (pa_cons (pe_bltn (v := .ty "bool") rfl (M.free 65) (by decide +kernel) rfl) pa_nil)))) (pw_or (pt_cmpR (op_ltAny (K := K) hr) (pv 3) pe_int (nomark _)) (pw_or1 (pt_cmpR op_ge (pv 3) (pv 0) (nomark _)))))))
          (pss_one (ps_ret pe_bl))
          pss_nil)))
        (pss_one (ps_ret pe_bl)))), ?_⟩), M.glo 49, F.kp, F.bindsN fun _ _ _ _ _ _ us hl => match us, hl with | [_, _, _], _ => rfl, .nil⟩
  try dsimp only [cx_K]
  intro b0 Z bs d h hret
  obtain ⟨_, _, _, rfl, n, e, c, rfl, rfl, hp, rfl, rfl⟩ := h
  have ho := hp.ok
  walk_at "mpR"
  refine ⟨fun hc => ?_, fun hc => ?_⟩
  · cases e with
    | tup ds =>
      walk_at "mpR"
      refine ⟨fun hc2 => ?_, fun hc2 => ?_⟩
      · walk_at "mpR"
        have e1 : false = arePts n c (.tup ds) := by
          show _ = (decide ((ds.length : Int) = c) && ds.all (isPt n))
          rw [decide_eq_false (by simpa using hc2), Bool.false_and]
        rw [e1]
        exact hret.go fun _ _ h => h
      · have hl : (ds.length : Int) = c := by simpa using hc2
        walk_at "mpR"
        refine ⟨fun i a => (ds.take i).all (isPt n) = true ∧ ∃ w, a = ⟨[some (.dat (.int n)), some (.dat (.tup ds)), some (.dat (.int c)), w], b0.mem⟩, ⟨by simp, _, rfl⟩, ?_, ?_⟩
        · rintro v i d _ hd ⟨hal, w, rfl⟩
          have hpd := hp.tup d (List.mem_of_getElem? hd)
          have hod := hpd.ok
          have noP : isPt n d = false → Ret K b0 Z (.bl false) := fun h => by
            have e1 : arePts n c (.tup ds) = false := by
              show (decide ((ds.length : Int) = c) && ds.all (isPt n)) = _
              rw [all_false hd h, Bool.and_false]
            rw [e1] at hret
            exact hret
          walk_at "mpR"
          refine ⟨fun hc3 => ?_, fun hc3 => ?_⟩
          · cases d with
            | int z =>
              walk_at "mpR"
              refine ⟨fun _ => ?_, fun h => (by cases h)⟩
              walk_at "mpR"
              refine ⟨fun hc4 => ?_, fun hc4 => ?_⟩
              · have hc4 := of_decide_eq_false hc4
                walk_at "mpR"
                refine ⟨fun hc5 => ?_, fun hc5 => ?_⟩
                · have hc5 := of_decide_eq_true hc5
                  walk_at "mpR"
                  refine (noP ?_).goUp fun _ _ h => h
                  show (_ && decide (z < n)) = false
                  rw [decide_eq_false (by omega : ¬ z < n), Bool.and_false]
                · have hc5 := of_decide_eq_false hc5
                  walk_at "mpR"
                  exact nx_inv ⟨by rw [all_take_succ hd, hal, isPt_int (by omega) (by omega)]; rfl, _, rfl⟩
              · have hc4 := of_decide_eq_true hc4
                refine ⟨fun _ => ?_, fun h => (by cases h)⟩
                walk_at "mpR"
                refine (noP ?_).goUp fun _ _ h => h
                show (decide (0 ≤ z) && _) = false
                rw [decide_eq_false (by omega)]
                rfl
            | bl b =>
              walk_at "mpR"
              refine ⟨fun h => (by cases h), fun _ => ?_⟩
              refine ⟨fun _ => ?_, fun h => (by cases h)⟩
              walk_at "mpR"
              exact (noP rfl).goUp fun _ _ h => h
            | _ => cases hc3
          · refine ⟨fun _ => ?_, fun h => (by cases h)⟩
            walk_at "mpR"
            refine (noP ?_).goUp fun _ _ h => h
            cases d with
            | int z => cases hc3
            | _ => rfl
        · rintro _ ⟨hal, w, rfl⟩
          walk_at "mpR"
          have e1 : true = arePts n c (.tup ds) := by
            show _ = (decide ((ds.length : Int) = c) && ds.all (isPt n))
            rw [List.take_length] at hal
            rw [hal, decide_eq_true hl]
            rfl
          rw [e1]
          exact hret.go fun _ _ h => h
    | _ => cases hc
  · refine ⟨fun _ => ?_, fun h => (by cases h)⟩
    walk_at "mpR"
    have e1 : false = arePts n c e := by
      cases e with
      | tup ds => cases hc
      | _ => rfl
    rw [e1]
    exact hret.go fun _ _ h => h
end MP
/-! MSJ -/
set_option exponentiation.threshold 10000
/-! the law's table, the metric's rows, the drawn factor, the drawn rows -/
namespace MP
open PySem PySem.Spec PyProof.Rows L2

/-- a metric of whole numbers times a / b -/
def scl (h : Nat → Nat → Int) (a b : Nat) (x y : Nat) : Rat := Rat.divInt (h x y * (a : Int)) (b : Int)
def tabD (n : Nat) (f : Nat → Nat → Rat) : D := .lst ((List.range n).map fun x => .lst ((List.range n).map fun y => qD (f x y)))
theorem scl_eq {h : Nat → Nat → Int} {a b x y : Nat} : scl h a b x y = (h x y : Rat) * ((a : Int) : Rat) / ((b : Int) : Rat) := by
  unfold scl
  rw [Rat.divInt_eq_div, Rat.intCast_mul]
theorem scl_met {n a b : Nat} {h : Nat → Nat → Int} (H : IMet n h) (ha : 1 ≤ a) (hb : 1 ≤ b) : IsMet n (scl h a b) := by
  have hq : (0 : Rat) < ((a : Int) : Rat) / ((b : Int) : Rat) := by
    have h1 : (0 : Rat) < ((a : Int) : Rat) := by exact_mod_cast (by omega : (0 : Int) < (a : Int))
    have h2 : (0 : Rat) < ((b : Int) : Rat) := by exact_mod_cast (by omega : (0 : Int) < (b : Int))
    rw [Rat.div_def]
    exact Rat.mul_pos h1 (Rat.inv_pos.mpr h2)
  have e : ∀ x y, scl h a b x y = (h x y : Rat) * (((a : Int) : Rat) / ((b : Int) : Rat)) := fun x y => by rw [scl_eq, Rat.div_def, Rat.div_def, Rat.mul_assoc]
  refine ⟨fun x hx => ?_, fun x y hx hy => ?_, fun x y z hx hy hz => ?_, fun x y hx hy ne => ?_⟩
  · rw [e, H.wt.zero x hx]
    simp
  · rw [e, e, H.wt.symm x y hx hy]
  · rw [e, e, e, ← Rat.add_mul]
    refine Rat.mul_le_mul_of_nonneg_right ?_ (Rat.le_of_lt hq)
    have := H.tri x y z hx hy hz
    exact_mod_cast this
  · rw [e]
    refine Rat.mul_pos ?_ hq
    have := H.wt.pos x y hx hy ne
    exact_mod_cast (by omega : (0 : Int) < h x y)
theorem Wt.le' {n : Nat} {h : Nat → Nat → Int} (H : Wt n h) {x y : Nat} (hx : x < n) (hy : y < n) : (h x y).natAbs ≤ 10000 := by
  have h1 := H.nonneg hx hy
  have h2 := H.hi x y hx hy
  omega
theorem scl_ok {n a b : Nat} {h : Nat → Nat → Int} (H : IMet n h) (h1 : 1 ≤ n) (h8 : n ≤ 8) (ha : a ≤ 4) (hb1 : 1 ≤ b) (hb : b ≤ 3) : MetOk n (scl h a b) := by
  refine ⟨h1, h8, fun x y hx hy => ?_⟩
  have hw := H.wt.le' hx hy
  refine ⟨h x y * a * ((6 / b : Nat) : Int), ?_, ?_⟩
  · unfold scl
    have hk : 6 = b * (6 / b) := by rcases (by omega : b = 1 ∨ b = 2 ∨ b = 3) with rfl | rfl | rfl <;> rfl
    have hk0 : 6 / b ≠ 0 := by rcases (by omega : b = 1 ∨ b = 2 ∨ b = 3) with rfl | rfl | rfl <;> decide
    generalize 6 / b = k at hk hk0
    rw [hk, Int.natCast_mul, Rat.divInt_mul_right (by omega)]
  · rw [Int.natAbs_mul, Int.natAbs_mul, Int.natAbs_natCast, Int.natAbs_natCast]
    have hk : 6 / b ≤ 6 := Nat.div_le_self _ _
    have q1 : (h x y).natAbs * a ≤ 10000 * 4 := Nat.mul_le_mul hw ha
    have q2 : (h x y).natAbs * a * (6 / b) ≤ 10000 * 4 * 6 := Nat.mul_le_mul q1 hk
    exact Nat.le_trans q2 (by decide)
def unT : D → List D
  | .tup ds => ds
  | _ => []
def unI : D → Int
  | .int i => i
  | _ => 0
def sTab : B → B → D → Prop := fun x y d => ∃ (n a b : Nat) (h : Nat → Nat → Int), x = .dat (rowsI n h) ∧ y = .dat (.tup [.int (a : Int), .int (b : Int)]) ∧ n ≤ 100 ∧ a ≤ 100 ∧ 1 ≤ b ∧ b ≤ 100 ∧ (∀ x y, x < n → y < n → (h x y).natAbs ≤ 10000) ∧ d = tabD n (scl h a b)
theorem b8000 {b : Nat} (h : b ≤ 100) : ((b : Int)).natAbs < 2 ^ 8000 := by
  rw [Int.natAbs_natCast]
  exact Nat.lt_of_lt_of_le (by omega : b < 2 ^ 7) (Nat.pow_le_pow_right (by omega) (by omega))
theorem ixF {a b : Nat} : atI [D.int (a : Int), .int (b : Int)] 1 = some (.int (b : Int)) := atI_nat (n := 1) rfl
theorem sc_Ltable : FnScope ["_law_rows_here", "_law_factor_here", "_law_row", "_law_x"] ["_law_rows_here", "_law_factor_here"] (defScope s_Ltable) := ⟨rfl, rfl, rfl, by decide +kernel, rfl, by decide +kernel, by decide +kernel⟩
theorem c_Ltable {P : Program} {w : World} {K : PySem.W.Frag} {mg : Str → Option Value} {base : Heap} (M : FX K mg) : C8.Cal P w K mg base 5 "_law_table" (spA K (pw (f2 sTab))) [] := by
  obtain ⟨fd, F⟩ := M.said.def_ 59
  refine ⟨_, fd, ["_law_rows_here", "_law_factor_here"], [], (def_pure (j := 4) F sc_Ltable f2_len fun cdv A outer s H E hr => ⟨_, (pss_one (ps_ret (pe_lc (own := [("_law_row", 2)]) (g := gName 2) (by rfl) sc_Ltable.nd (pi_listK (K := K) (pv 0)) (by dsimp only [Cx.blk, Cx.nox, Cx.wish, cxOf, blk_sc, env_sc]; exact blkOk_by (by decide +kernel)) (fun _ _ _ _ _ => pg_name (i := 2) sc_Ltable.nd rfl (by first | exact Or.inl rfl | exact Or.inr rfl)) (fun _ _ _ _ _ => pts_nil) (fun _ _ _ _ _ => (pe_lc (own := [("_law_x", 3)]) (g := gName 3) (by rfl) sc_Ltable.nd (pi_tupK (K := K) (pv 2)) (by dsimp only [Cx.blk, Cx.nox, Cx.wish, cxOf, blk_sc, env_sc]; exact blkOk_by (by decide +kernel)) (fun _ _ _ _ _ => pg_name (i := 3) sc_Ltable.nd rfl (by first | exact Or.inl rfl | exact Or.inr rfl)) (fun _ _ _ _ _ => pts_nil) (fun _ _ _ _ _ => (C8.pe_c (c_Llow M) hr (by decide) (by rfl) (pa_cons (pe_op op_mulI (pv 3) (pe_ix (ix_seqK (K := K)) (pv 1) pe_int (fun _ _ => rfl))) (pa_cons (pe_ix (ix_seqK (K := K)) (pv 1) pe_int (fun _ _ => rfl)) pa_nil))))))))), ?_⟩), M.glo 50, F.kp, F.bindsN fun _ _ _ _ _ _ us hl => match us, hl with | [_, _], _ => rfl, .nil⟩
  try dsimp only [cx_K]
  intro b0 Z bs d h hret
  obtain ⟨_, _, rfl, n, fa', fb, h, rfl, rfl, hn, ha, hb1, hb, hh, rfl⟩ := h
  have hlen : ∀ {α : Type} (f : Nat → α), ((List.range n).map f).length = n := fun f => by rw [List.length_map, List.length_range]
  have hm : ∀ x y, x < n → y < n → IntMulOk (h x y) (fa' : Int) := fun x y hx hy => mul_ok (a := 40) (b := 40) (by have := hh x y hx hy; omega) (by omega) (by omega)
  refine gs_ret (ev_lcML (fun d => .lst ((unT d).map fun e => qD (Rat.divInt (unI e * (fa' : Int)) (fb : Int)))) (by decide) (ev_var rfl ⟨_, rfl, by rw [hlen]; omega, fun d m hd _ => ?_, ?_⟩))
  · obtain ⟨x, hx, rfl⟩ := List.mem_map.mp hd
    have hx := List.mem_range.mp hx
    refine ev_lcMT (fun e => qD (Rat.divInt (unI e * (fa' : Int)) (fb : Int))) (by decide) (ev_var rfl ⟨_, rfl, by rw [hlen]; omega, fun d m hd _ => ?_, rfl, rfl⟩)
    obtain ⟨y, hy, rfl⟩ := List.mem_map.mp hd
    have hy := List.mem_range.mp hy
    have := hm x y hx hy
    walk_at "mpR"
    refine ⟨_, ⟨_, _, rfl, _, _, rfl, rfl, by omega, b8000 hb, rfl⟩, ?_⟩
    exact ⟨rfl, rfl⟩
  · rw [List.map_map]
    have e : (List.range n).map ((fun d => D.lst ((unT d).map fun e => qD (Rat.divInt (unI e * (fa' : Int)) (fb : Int)))) ∘ fun x => D.tup ((List.range n).map fun y => .int (h x y))) = (List.range n).map fun x => D.lst ((List.range n).map fun y => qD (scl h fa' fb x y)) := by
      refine List.map_congr_left fun x _ => ?_
      simp only [Function.comp, unT, List.map_map]
      rfl
    rw [e]
    exact hret.go fun _ _ h => h
def sRats : B → B → D → Prop := fun x y d => ∃ (n a b : Nat) (h : Nat → Nat → Int), x = .dat (rowsI n h) ∧ y = .dat (.tup [.int (a : Int), .int (b : Int)]) ∧ n ≤ 100 ∧ a ≤ 100 ∧ 1 ≤ b ∧ b ≤ 100 ∧ (∀ x y, x < n → y < n → (h x y).natAbs ≤ 10000) ∧ d = rowsD n (scl h a b)
theorem sc_Lratios : FnScope ["_law_rows_here", "_law_factor_here", "_law_row", "_law_x"] ["_law_rows_here", "_law_factor_here"] (defScope s_Lratios) := ⟨rfl, rfl, rfl, by decide +kernel, rfl, by decide +kernel, by decide +kernel⟩
theorem c_Lratios {P : Program} {w : World} {K : PySem.W.Frag} {mg : Str → Option Value} {base : Heap} (M : FX K mg) : C8.Cal P w K mg base 5 "_law_ratios" (spA K (pw (f2 sRats))) [] := by
  obtain ⟨fd, F⟩ := M.said.def_ 53
  refine ⟨_, fd, ["_law_rows_here", "_law_factor_here"], [], (def_pure (j := 4) F sc_Lratios f2_len fun cdv A outer s H E hr => ⟨_, (pss_one (ps_ret (pe_callTy (T := "tuple") (call_tuple_ofK (K := K)) (by rfl) (M.free 66) (by decide +kernel) (pa_cons (pe_lc (own := [("_law_row", 2)]) (g := gName 2) (by rfl) sc_Lratios.nd (pi_listK (K := K) (pv 0)) (by dsimp only [Cx.blk, Cx.nox, Cx.wish, cxOf, blk_sc, env_sc]; exact blkOk_by (by decide +kernel)) (fun _ _ _ _ _ => pg_name (i := 2) sc_Lratios.nd rfl (by first | exact Or.inl rfl | exact Or.inr rfl)) (fun _ _ _ _ _ => pts_nil) (fun _ _ _ _ _ => (pe_callTy (T := "tuple") (call_tuple_ofK (K := K)) (by rfl) (M.free 66) (by decide +kernel) (pa_cons (pe_lc (own := [("_law_x", 3)]) (g := gName 3) (by rfl) sc_Lratios.nd (pi_tupK (K := K) (pv 2)) (by dsimp only [Cx.blk, Cx.nox, Cx.wish, cxOf, blk_sc, env_sc]; exact blkOk_by (by decide +kernel)) (fun _ _ _ _ _ => pg_name (i := 3) sc_Lratios.nd rfl (by first | exact Or.inl rfl | exact Or.inr rfl)) (fun _ _ _ _ _ => pts_nil) (fun _ _ _ _ _ => (C8.pe_mk (mk_Ratio2 M) hr (by decide) (by rfl) (pa_cons (pe_op op_mulI (pv 3) (pe_ix (ix_seqK (K := K)) (pv 1) pe_int (fun _ _ => rfl))) (pa_cons (pe_ix (ix_seqK (K := K)) (pv 1) pe_int (fun _ _ => rfl)) pa_nil))))) pa_nil)))) pa_nil)))), ?_⟩), M.glo 44, F.kp, F.bindsN fun _ _ _ _ _ _ us hl => match us, hl with | [_, _], _ => rfl, .nil⟩
  try dsimp only [cx_K]
  intro b0 Z bs d h hret
  obtain ⟨_, _, rfl, n, fa', fb, h, rfl, rfl, hn, ha, hb1, hb, hh, rfl⟩ := h
  have hlen : ∀ {α : Type} (f : Nat → α), ((List.range n).map f).length = n := fun f => by rw [List.length_map, List.length_range]
  have hm : ∀ x y, x < n → y < n → IntMulOk (h x y) (fa' : Int) := fun x y hx hy => mul_ok (a := 40) (b := 40) (by have := hh x y hx hy; omega) (by omega) (by omega)
  refine gs_ret (ev_cb (ea_cons (ev_lcML (fun d => .tup ((unT d).map fun e => .rat (Rat.divInt (unI e * (fa' : Int)) (fb : Int)))) (by decide) (ev_var rfl ⟨_, rfl, by rw [hlen]; omega, fun d m hd _ => ?_, ?_⟩))))
  · obtain ⟨x, hx, rfl⟩ := List.mem_map.mp hd
    have hx := List.mem_range.mp hx
    refine ev_cb (ea_cons (ev_lcMT (fun e => .rat (Rat.divInt (unI e * (fa' : Int)) (fb : Int))) (by decide) (ev_var rfl ⟨_, rfl, by rw [hlen]; omega, fun d m hd _ => ?_, ?_⟩)))
    · obtain ⟨y, hy, rfl⟩ := List.mem_map.mp hd
      have hy := List.mem_range.mp hy
      have := hm x y hx hy
      refine ev_mkR2 ?_
      walk_at "mpR"
      refine ⟨_, _, rfl, by omega, b8000 hb, ?_⟩
      exact ⟨rfl, rfl⟩
    · walk_at "mpR"
      exact ⟨rfl, rfl⟩
  · walk_at "mpR"
    rw [List.map_map]
    have e : (List.range n).map ((fun d => D.tup ((unT d).map fun e => .rat (Rat.divInt (unI e * (fa' : Int)) (fb : Int)))) ∘ fun x => D.tup ((List.range n).map fun y => .int (h x y))) = (List.range n).map fun x => D.tup ((List.range n).map fun y => .rat (scl h fa' fb x y)) := by
      refine List.map_congr_left fun x _ => ?_
      simp only [Function.comp, unT, List.map_map]
      rfl
    rw [e]
    exact hret.go fun _ _ h => h
/-! ### the drawn factor, the drawn rows -/
abbrev StP := Addr × C
def pSt1 : StP → B → Ms → Prop := fun i x m => x = .ptr i.1 ∧ m i.1 = some i.2 ∧ StC i.2
def zFac : StP → D → Prop := fun _ d => ∃ a b : Nat, 1 ≤ a ∧ a ≤ 4 ∧ 1 ≤ b ∧ b ≤ 3 ∧ d = .tup [.int (a : Int), .int (b : Int)]
theorem sc_Lfactor : FnScope ["_law_state_here"] ["_law_state_here"] (defScope s_Lfactor) := ⟨rfl, rfl, rfl, by decide +kernel, rfl, by decide +kernel, by decide +kernel⟩
theorem c_Lfactor {P : Program} {w : World} {K : PySem.W.Frag} {mg : Str → Option Value} {base : Heap} (M : FX K mg) : C8.Cal P w K mg base 6 "_law_factor" (spN K (n1 pSt1) (zS (fun i => i.1) zFac)) [] := by
  obtain ⟨fd, F⟩ := M.said.def_ 52
  refine ⟨_, fd, ["_law_state_here"], [], (def_non (j := 5) F sc_Lfactor n1_len fun cdv A outer s H E hr => ⟨_, (pss_one (ps_ret (pe_tup (pa_cons (pe_op (op_addAny M (ops M) hr) pe_int (C8.pe_c (c_Ltake M) hr (by decide) (by rfl) (pa_cons (pv 0) (pa_cons pe_int pa_nil)))) (pa_cons (pe_op (op_addAny M (ops M) hr) pe_int (C8.pe_c (c_Ltake M) hr (by decide) (by rfl) (pa_cons (pv 0) (pa_cons pe_int pa_nil)))) pa_nil))))), ?_⟩), M.glo 43, F.kp, F.bindsN fun _ _ _ _ _ _ us hl => match us, hl with | [_], _ => rfl, .nil⟩
  try dsimp only [cx_K]
  intro b0 Z ix bs h hret
  obtain ⟨sp, c⟩ := ix
  obtain ⟨_, rfl, rfl, hp, hc⟩ := h
  have hp : b0.mem sp = some c := hp
  have hc : StC c := hc
  refine gs_ret (ev_tup2 (ev_op (ev_int (ev_take ?_))))
  walk_at "mpR"
  refine ⟨sp, c, 4, rfl, rfl, hp, hc, by omega, by omega, fun v1 c1 hv1 hc1 => ?_⟩
  refine ro_addI ⟨_, rfl, ev_op (ev_int (ev_take ?_))⟩
  walk_at "mpR"
  refine ⟨by decide, by decide, fun v2 c2 hv2 hc2 => ?_⟩
  have hv2 : v2 < 3 := hv2
  refine ro_addI ⟨_, rfl, ?_⟩
  refine zS.go hret hc2 ⟨1 + v1, 1 + v2, by omega, by omega, by omega, by omega, by rw [Int.natCast_add, Int.natCast_add]; rfl⟩ mput_same fun z x hz hzs => ?_
  show mput (mput b0.mem sp c1) sp c2 z = some x
  rw [mput_ne hzs, mput_ne hzs]
  exact hz
def pRows : StI → B → B → Ms → Prop := fun i x y m => x = .ptr i.1 ∧ y = .dat (.int (i.2.2 : Int)) ∧ m i.1 = some i.2.1 ∧ StC i.2.1 ∧ 1 ≤ i.2.2 ∧ i.2.2 ≤ 16
def zRows : StI → D → Prop := fun i d => ∃ (n : Nat) (h : Nat → Nat → Int), 1 ≤ n ∧ n ≤ i.2.2 ∧ IMet n h ∧ d = rowsI n h
theorem sc_Lrows : FnScope ["_law_state_here", "_law_most", "_law_n", "_law_pick"] ["_law_state_here", "_law_most"] (defScope s_Lrows) := ⟨rfl, rfl, rfl, by decide +kernel, rfl, by decide +kernel, by decide +kernel⟩
theorem c_Lrows {P : Program} {w : World} {K : PySem.W.Frag} {mg : Str → Option Value} {base : Heap} (M : FX K mg) : C8.Cal P w K mg base 8 "_law_rows" (spN K (n2 pRows) (zS (fun i => i.1) zRows)) [] := by
  obtain ⟨fd, F⟩ := M.said.def_ 51
  refine ⟨_, fd, ["_law_state_here", "_law_most"], [], (def_non (j := 7) F sc_Lrows n2_len fun cdv A outer s H E hr => ⟨_, (pss_cons (ps_set (i := 2) sc_Lrows.nd rfl (by first | exact Or.inl rfl | exact Or.inr rfl) (pe_op (op_addAny M (ops M) hr) pe_int (C8.pe_c (c_Ltake M) hr (by decide) (by rfl) (pa_cons (pv 0) (pa_cons (pv 1) pa_nil)))))
      (pss_cons (ps_set (i := 3) sc_Lrows.nd rfl (by first | exact Or.inl rfl | exact Or.inr rfl) (C8.pe_c (c_Ltake M) hr (by decide) (by rfl) (pa_cons (pv 0) (pa_cons pe_int pa_nil))))
        (pss_cons (ps_if (pt_cmpR (op_eqAny M (ops M) hr) (pv 3) pe_int (nomark _))
          (pss_one (ps_ret (C8.pe_c (c_Lweb M) hr (by decide) (by rfl) (pa_cons (pv 0) (pa_cons (pv 2) (pa_cons pe_int pa_nil))))))
          pss_nil)
          (pss_cons (ps_if (pt_cmpR (op_eqAny M (ops M) hr) (pv 3) pe_int (nomark _))
            (pss_one (ps_ret (C8.pe_c (c_Lweb M) hr (by decide) (by rfl) (pa_cons (pv 0) (pa_cons (pv 2) (pa_cons pe_int pa_nil))))))
            pss_nil)
            (pss_cons (ps_if (pt_cmpR (op_eqAny M (ops M) hr) (pv 3) pe_int (nomark _))
              (pss_one (ps_ret (C8.pe_c (c_Lof_tree M) hr (by decide) (by rfl) (pa_cons (pv 0) (pa_cons (pv 2) pa_nil)))))
              pss_nil)
              (pss_cons (ps_if (pt_cmpR (op_eqAny M (ops M) hr) (pv 3) pe_int (nomark _))
                (pss_one (ps_ret (C8.pe_c (c_Lgrid M) hr (by decide) (by rfl) (pa_cons (pv 0) (pa_cons (pv 2) pa_nil)))))
                pss_nil)
                (pss_cons (ps_if (pt_cmpR (op_eqAny M (ops M) hr) (pv 3) pe_int (nomark _))
                  (pss_one (ps_ret (C8.pe_c (c_Lband M) hr (by decide) (by rfl) (pa_cons (pv 0) (pa_cons (pv 2) pa_nil)))))
                  pss_nil)
                  (pss_one (ps_ret (C8.pe_c (c_Llevels M) hr (by decide) (by rfl) (pa_cons (pv 0) (pa_cons (pv 2) pa_nil)))))))))))), ?_⟩), M.glo 42, F.kp, F.bindsN fun _ _ _ _ _ _ us hl => match us, hl with | [_, _], _ => rfl, .nil⟩
  try dsimp only [cx_K]
  intro b0 Z ix bs h hret
  obtain ⟨sp, c, mo⟩ := ix
  obtain ⟨_, _, rfl, rfl, rfl, hp, hc, hm1, hm⟩ := h
  have hp : b0.mem sp = some c := hp
  have hc : StC c := hc
  have hm : mo ≤ 16 := hm
  have hm1 : 1 ≤ mo := hm1
  refine gs_seq (gs_set (ev_op (ev_int (ev_take ?_))))
  walk_at "mpR"
  refine ⟨sp, c, mo, rfl, rfl, hp, hc, by omega, by omega, fun v c1 hv hc1 => ?_⟩
  refine ro_addI (nx_go (gs_seq (gs_set (ev_take ?_))))
  walk_at "mpR"
  refine ⟨by decide, by decide, fun pk c2 hpk hc2 => ?_⟩
  obtain ⟨n, hn⟩ : ∃ n : Nat, n = 1 + v := ⟨_, rfl⟩
  have en : (1 : Int) + (v : Int) = (n : Int) := by omega
  have hn1 : 1 ≤ n := by omega
  have hnm : n ≤ mo := by omega
  have fin : ∀ {h : Nat → Nat → Int} {d : D} {cc : C} {m : Ms} {e : List (Option B)}, IMet n h → d = rowsI n h → StC cc → (∀ z, m z = b0.mem z ∨ z = sp) → m sp = some cc → RT K b0 Z.rt (.dat d) ⟨e, m⟩ := fun {h d cc m e} H hd hcc hm' hs => by
    subst hd
    refine zS.go hret hcc ⟨n, h, hn1, hnm, H, rfl⟩ hs fun z x hz hzs => ?_
    rcases hm' z with e | e
    · exact e.trans hz
    · exact absurd e hzs
  have mp2 : ∀ (cc : C) (z : Addr), mput (mput (mput b0.mem sp c1) sp c2) sp cc z = b0.mem z ∨ z = sp := fun cc z => by
    by_cases e : z = sp
    · exact .inr e
    · left; rw [mput_ne e, mput_ne e, mput_ne e]
  have hms : mput (mput b0.mem sp c1) sp c2 sp = some c2 := mput_same
  have e1 : ([some (.ptr sp), some (.dat (.int (mo : Int))), some (.dat (.int (1 + (v : Int)))), some (.dat (.int (pk : Int)))] : List (Option B)) = [some (.ptr sp), some (.dat (.int (mo : Int))), some (.dat (.int (n : Int))), some (.dat (.int (pk : Int)))] := by rw [en]
  refine nx_go ?_
  show GS K b0 _ _ ⟨[some (.ptr sp), some (.dat (.int (mo : Int))), some (.dat (.int (1 + (v : Int)))), some (.dat (.int (pk : Int)))], mput (mput b0.mem sp c1) sp c2⟩
  rw [e1]
  walk_at "mpR"
  refine ⟨fun hc => ?_, fun hc => ?_⟩
  · refine gs_ret (ev_callS ?_)
    walk_at "mpR"
    refine ⟨(sp, c2, n, 2), c2, ⟨_, _, _, rfl, rfl, rfl, rfl, hms, hc2, by show n ≤ 100; omega, by show 0 < 2; omega, by show 2 ≤ 100; omega⟩, hms, fun d cc hcc ⟨h, H, hd⟩ => fin H hd hcc (mp2 cc) mput_same⟩
  walk_at "mpR"
  refine ⟨fun hc => ?_, fun hc => ?_⟩
  · refine gs_ret (ev_callS ?_)
    walk_at "mpR"
    refine ⟨(sp, c2, n, 5), c2, ⟨_, _, _, rfl, rfl, rfl, rfl, hms, hc2, by show n ≤ 100; omega, by show 0 < 5; omega, by show 5 ≤ 100; omega⟩, hms, fun d cc hcc ⟨h, H, hd⟩ => fin H hd hcc (mp2 cc) mput_same⟩
  walk_at "mpR"
  refine ⟨fun hc => ?_, fun hc => ?_⟩
  · refine gs_ret (ev_callS ?_)
    walk_at "mpR"
    refine ⟨(sp, c2, n), c2, ⟨_, _, rfl, rfl, rfl, hms, hc2, by show n ≤ 50; omega, hn1⟩, hms, fun d cc hcc ⟨h, H, hd⟩ => fin H hd hcc (mp2 cc) mput_same⟩
  walk_at "mpR"
  refine ⟨fun hc => ?_, fun hc => ?_⟩
  · refine gs_ret (ev_callS ?_)
    walk_at "mpR"
    refine ⟨(sp, c2, n), c2, ⟨_, _, rfl, rfl, rfl, hms, hc2, by show n ≤ 16; omega⟩, hms, fun d cc hcc ⟨h, H, hd⟩ => fin H hd hcc (mp2 cc) mput_same⟩
  walk_at "mpR"
  refine ⟨fun hc => ?_, fun hc => ?_⟩
  · refine gs_ret (ev_callS ?_)
    walk_at "mpR"
    refine ⟨(sp, c2, n), c2, ⟨_, _, rfl, rfl, rfl, hms, hc2, by show n ≤ 50; omega, hn1⟩, hms, fun d cc hcc ⟨h, H, hd⟩ => fin H hd hcc (mp2 cc) mput_same⟩
  refine nx_go (gs_ret (ev_callS ?_))
  walk_at "mpR"
  refine ⟨(sp, c2, n), c2, ⟨_, _, rfl, rfl, rfl, hms, hc2, by show n ≤ 50; omega, hn1⟩, hms, fun d cc hcc ⟨h, H, hd⟩ => fin H hd hcc (mp2 cc) mput_same⟩
end MP
/-! MSK -/
set_option exponentiation.threshold 10000
/-! the law's ways; lists of its rationals compared -/
namespace MP
open PySem PySem.Spec PyProof.Rows L2

abbrev edgeQ (e : Edge) : D := .tup [.int e.1, .int e.2.1, qD e.2.2]
def sLways : B → B → B → D → Prop := fun x y z d => ∃ (m : Nat) (es : List Edge) (s : Int), x = .dat (.int (m : Int)) ∧ y = .dat (.lst (es.map edgeQ)) ∧ z = .dat (.int s) ∧ m ≤ 100 ∧ es.length ≤ 100 ∧ esB BIG es ∧ d = .dct ((waysN es s m).map (·.1)) ((waysN es s m).map fun p => qD p.2)
theorem sc_Lways : FnScope ["_law_m", "_law_edges", "_law_start", "_law_found", "_law_turn", "_law_x", "_law_y", "_law_length"] ["_law_m", "_law_edges", "_law_start"] (defScope s_Lways) := ⟨rfl, rfl, rfl, by decide +kernel, rfl, by decide +kernel, by decide +kernel⟩
theorem c_Lways {P : Program} {w : World} {K : PySem.W.Frag} {mg : Str → Option Value} {base : Heap} (M : FX K mg) : C8.Cal P w K mg base 6 "_law_ways" (spA K (pw (f3 sLways))) [] := by
  obtain ⟨fd, F⟩ := M.said.def_ 62
  refine ⟨_, fd, ["_law_m", "_law_edges", "_law_start"], [], (def_pure (j := 5) F sc_Lways f3_len fun cdv A outer s H E hr => ⟨_, (pss_cons (ps_set (i := 3) sc_Lways.nd rfl (by first | exact Or.inl rfl | exact Or.inr rfl) (pe_disp (pps_cons (pv 2) (pe_tup (pa_cons pe_int (pa_cons pe_int pa_nil))) pps_nil) (by rfl) (by rfl) (fun z => by cases z) (by decide)))
      (pss_cons (ps_for PassesOwn.never rfl (pi_range1 rfl (M.free 62) (pa_cons (pv 0) pa_nil)) (pg_name (i := 4) sc_Lways.nd rfl (by first | exact Or.inl rfl | exact Or.inr rfl))
        (pss_one (ps_for PassesOwn.never rfl (pi_listK (K := K) (pv 1)) (pg_tup (n := 3) rfl (pgs_cons (pg_name (i := 5) sc_Lways.nd rfl (by first | exact Or.inl rfl | exact Or.inr rfl)) (pgs_cons (pg_name (i := 6) sc_Lways.nd rfl (by first | exact Or.inl rfl | exact Or.inr rfl)) (pgs_cons (pg_name (i := 7) sc_Lways.nd rfl (by first | exact Or.inl rfl | exact Or.inr rfl)) pgs_nil))))
          (pss_cons (ps_if (PW.pt (pw_and (pt_cmp (pc_din (hu_of hr) (pv 5) (pv 3)) rfl) (pw_and1 (pt_cmp (pc_dnotin (hu_of hr) (pv 6) (pv 3)) rfl))))
            (pss_one (ps_dput (hu_of hr) (pv 3) (pv 6) (C8.pe_c (c_Lplus M) hr (by decide) (by rfl) (pa_cons (pe_dget (hu_of hr) (pv 3) (pv 5) (fun _ _ => rfl)) (pa_cons (pv 7) pa_nil))) rfl))
            pss_nil)
            (pss_one (ps_if (PW.pt (pw_and (pt_cmp (pc_din (hu_of hr) (pv 6) (pv 3)) rfl) (pw_and1 (pt_cmp (pc_dnotin (hu_of hr) (pv 5) (pv 3)) rfl))))
              (pss_one (ps_dput (hu_of hr) (pv 3) (pv 5) (C8.pe_c (c_Lplus M) hr (by decide) (by rfl) (pa_cons (pe_dget (hu_of hr) (pv 3) (pv 6) (fun _ _ => rfl)) (pa_cons (pv 7) pa_nil))) rfl))
              pss_nil))))))
        (pss_one (ps_ret (pv 3))))), ?_⟩), M.glo 53, F.kp, F.bindsN fun _ _ _ _ _ _ us hl => match us, hl with | [_, _, _], _ => rfl, .nil⟩
  try dsimp only [cx_K]
  intro b0 Z bs d h hret
  obtain ⟨_, _, _, rfl, m, es, s, rfl, rfl, rfl, hm, hes, hb, rfl⟩ := h
  refine gs_seq (gs_set (ev_disp1 fun p hp0 hp => ?_))
  walk_at "mpR"
  refine ⟨s, .tup [.int 0, .int 1], rfl, rfl, mput_same, ?_⟩
  rw [mput_mput]
  let St : Nat → Nat → AS → Prop := fun i j a => ∃ w1 w2 w3 w4, a = ⟨[some (.dat (.int (m : Int))), some (.dat (.lst (es.map edgeQ))), some (.dat (.int s)), some (.ptr p), w1, w2, w3, w4], mput b0.mem p (.dic (dOf qD ((es.take j).foldl wStep (waysN es s i))))⟩ ∧
    FdB BIG ((es.take j).foldl wStep (waysN es s i)) ∧ ((es.take j).foldl wStep (waysN es s i)).length ≤ 1 + 2 * (i * 100 + j)
  have q0 : qD 0 = .tup [.int 0, .int 1] := rfl
  walk_at "mpR"
  refine ⟨by omega, fun i a => St i 0 a, ⟨_, _, _, _, rfl, FdB.one, by simp [waysN]⟩, ?_, ?_⟩
  · rintro i _ hi ⟨w1, w2, w3, w4, rfl, hF, hL⟩
    walk_at "mpR"
    refine ⟨fun j a => St i j a, ⟨_, _, _, _, rfl, hF, hL⟩, ?_, ?_⟩
    · rintro v j d _ hd ⟨w1, w2, w3, w4, rfl, hF, hL⟩
      rw [List.getElem?_map] at hd
      obtain ⟨⟨x, y, l⟩, he, rfl⟩ := Option.map_eq_some_iff.mp hd
      have hb1 : Bd 24 BIG l := hb _ (List.mem_of_getElem? he)
      have hj : j < es.length := (List.getElem?_eq_some_iff.mp he).1
      obtain ⟨hF1, hL1⟩ := hF.half (x := x) (y := y) hb1
      obtain ⟨hF2, hL2⟩ := hF1.half (x := y) (y := x) hb1
      have hbig : BIG * 30000 < 2 ^ 2000 := Nat.lt_of_lt_of_le (by decide : BIG * 30000 < 2 ^ 100) (Nat.pow_le_pow_right (by omega) (by omega))
      have h12 : 24 < 2 ^ 2000 := Nat.lt_of_lt_of_le (by decide : 24 < 2 ^ 5) (Nat.pow_le_pow_right (by omega) (by omega))
      have wl : Wee l := hb1.wee (by omega) h12 (Nat.lt_of_le_of_lt (by omega) hbig)
      have wq : ∀ {fd : Fnd} {i q}, FdB BIG fd → fd.length ≤ 30000 → fget fd i = some q → Wee q := fun hF hL e => (hF _ (fget_mem e)).wee (by omega) h12 (Nat.lt_of_le_of_lt (Nat.mul_le_mul_left _ hL) hbig)
      have hij : i * 100 + j ≤ 10000 := by omega
      walk_at "mp1"
      refine gs_half (c := 3) (o := qD) (fd := (es.take j).foldl wStep (waysN es s i)) (x := x) (y := y) (l := l) rfl rfl rfl mput_same (by omega) (fun q e => ?_) ?_
      · walk_at "mpR"
        refine ⟨_, _, _, _, rfl, rfl, mput_same, by rw [dget_dOf, e]; rfl, ?_⟩
        walk_at "mpR"
        exact ⟨_, ⟨_, _, rfl, q, l, rfl, rfl, wq hF (by omega) e, wl, rfl⟩, rfl, rfl⟩
      refine nx_go ?_
      dsimp only
      rw [mput_mput]
      refine gs_half (c := 3) (o := qD) (fd := wHalf ((es.take j).foldl wStep (waysN es s i)) x y l) (x := y) (y := x) (l := l) rfl rfl rfl mput_same (by omega) (fun q e => ?_) ?_
      · walk_at "mpR"
        refine ⟨_, _, _, _, rfl, rfl, mput_same, by rw [dget_dOf, e]; rfl, ?_⟩
        walk_at "mpR"
        exact ⟨_, ⟨_, _, rfl, q, l, rfl, rfl, wq hF1 (by omega) e, wl, rfl⟩, rfl, rfl⟩
      dsimp only
      rw [mput_mput]
      have e1 := rnd_take (fd := waysN es s i) he
      refine nx_inv ⟨w1, some (.dat (.int x)), some (.dat (.int y)), some (.dat (qD l)), ?_, ?_, ?_⟩
      · rw [e1]
        rfl
      · rw [e1]
        exact hF2
      · rw [e1]
        have : (wStep ((es.take j).foldl wStep (waysN es s i)) (x, y, l)).length ≤ ((es.take j).foldl wStep (waysN es s i)).length + 2 := by
          show (wHalf (wHalf _ x y l) y x l).length ≤ _
          omega
        omega
    · rintro _ ⟨w1, w2, w3, w4, rfl, hF, hL⟩
      rw [List.length_map, List.take_length] at hF hL ⊢
      refine nx_inv ⟨_, _, _, _, rfl, hF, ?_⟩
      show (waysN es s (i + 1)).length ≤ _
      have : (waysN es s (i + 1)).length ≤ 1 + 2 * (i * 100 + es.length) := hL
      omega
  · rintro _ ⟨w1, w2, w3, w4, rfl, hF, hL⟩
    walk_at "mpR"
    refine rt_frz (d := .dct ((waysN es s m).map (·.1)) ((waysN es s m).map fun p => qD p.2)) hp mput_same ?_ (hret.go fun q c hq => ?_)
    · show _ = D.dct _ _
      rw [List.take_zero]
      simp [dOf, Function.comp_def]
    · show mdel (mput b0.mem p _) p q = _
      rw [mdel_mput hp]
      exact hq
/-! ### != of lists of rationals -/
def dq (q : Rat) : PyData := .tuple [.int q.num, .int (q.den : Int)]
theorem dp_qs {K : PySem.W.Frag} {F H : Hp} (e : Ex F H) : ∀ {qs : List Rat} {vs : List V}, Reps K F (qs.map qD) vs → DpAll K H vs (qs.map dq)
  | [], vs, h => by cases (show vs = [] from h); exact .nil
  | q :: qs, vs, h => by
    obtain ⟨v, r, rfl, h1, h2⟩ := h
    obtain ⟨p, us, rfl, hp, rs⟩ := h1
    have h3 := rs.ints (is := [q.num, (q.den : Int)])
    subst h3
    exact .cons (.tup (e.sqT hp) (.cons (.int _) (.cons (.int _) .nil))) (dp_qs e h2)
theorem eqv_q (p q : Rat) : PyData.eqv (dq p) (dq q) = decide (p = q) := by
  have h := eqvAll_ints [p.num, (p.den : Int)] [q.num, (q.den : Int)]
  show PyData.eqvAll [.int p.num, .int (p.den : Int)] [.int q.num, .int (q.den : Int)] = _
  refine Eq.trans h (decide_eq_decide.mpr ⟨fun e => ?_, fun e => by rw [e]⟩)
  simp only [List.cons.injEq, and_true] at e
  exact rat_ext e.1 (by have := e.2; omega)
theorem eqvAll_qs : ∀ ps qs : List Rat, PyData.eqvAll (ps.map dq) (qs.map dq) = decide (ps = qs)
  | [], [] => by simp [PyData.eqvAll]
  | [], _ :: _ => by simp [PyData.eqvAll]
  | _ :: _, [] => by simp [PyData.eqvAll]
  | p :: ps, q :: qs => by
    show PyData.eqvAll (dq p :: ps.map dq) (dq q :: qs.map dq) = _
    rw [PyData.eqvAll, eqvAll_qs ps qs, eqv_q]
    by_cases h : p = q
    · subst h; simp
    · simp [h]
theorem canLay_qs : ∀ qs : List Rat, PyData.canLayAll0 (qs.map dq) = true
  | [] => rfl
  | q :: qs => by
    show PyData.canLayAll0 (dq q :: qs.map dq) = true
    rw [PyData.canLayAll0, canLay_qs qs, Bool.and_true]
    show PyData.canLay0 (.tuple _) = true
    rw [PyData.canLay0]
    exact canLay_ints [q.num, (q.den : Int)]
theorem depth_qs : ∀ qs : List Rat, PyData.depthAll (qs.map dq) ≤ 4
  | [] => by simp [PyData.depthAll]
  | q :: qs => by
    show PyData.depthAll (dq q :: qs.map dq) ≤ 4
    rw [PyData.depthAll]
    have := depth_qs qs
    have h2 := depth_ints [q.num, (q.den : Int)]
    have h3 : PyData.depth (dq q) = PyData.depth (.tuple [.int q.num, .int (q.den : Int)]) := rfl
    rw [h3, PyData.depth]
    have h4 : ([q.num, (q.den : Int)].map PyData.int) = [.int q.num, .int (q.den : Int)] := rfl
    rw [h4] at h2
    omega
theorem shaped_qs {qs : List Rat} : SeqAt.shaped (.list (qs.map dq)) = true := by
  unfold SeqAt.shaped
  rw [PyData.canLay0, canLay_qs, PyData.depth]
  have := depth_qs qs
  simp
  omega
theorem ro_neQs {K : PySem.W.Frag} {b0 : Ba} {a : AS} {k : B → AS → Prop} {ps qs : List Rat} (hk : k (.dat (.bl (!decide (ps = qs)))) a) : RO K b0 (rNeAny K) (.dat (.lst (ps.map qD))) (.dat (.lst (qs.map qD))) a k :=
  ro_or2 (ro_or1 (ro_here hk fun F H u v e ru rv => ⟨_, rfl, fun Q q => by
    obtain ⟨p, vs, rfl, hp, rs⟩ := ru
    obtain ⟨p', vs', rfl, hp', rs'⟩ := rv
    refine ⟨.list (ps.map dq), .list (qs.map dq), .lst (.inl (.inl (e _ _ hp))) (dp_qs e rs), .lst (.inl (.inl (e _ _ hp'))) (dp_qs e rs'), shaped_qs, shaped_qs, ?_⟩
    have h : PyData.eqv (.list (ps.map dq)) (.list (qs.map dq)) = decide (ps = qs) := by
      rw [PyData.eqv]
      exact eqvAll_qs ps qs
    rw [h]
    exact q⟩))
end MP
/-! MSL -/
set_option exponentiation.threshold 10000
/-! _law_tree_holds -/
namespace MP
open PySem PySem.Spec PyProof.Rows L2

def sg (s0 s1 s2 : Rat) (i : Nat) : Rat := if i = 0 then s0 else if i = 1 then s1 else s2
def cB (s0 s1 s2 : Rat) (k i : Nat) : Bool := !decide ((i : Int) = (k : Int)) && decide (sg s0 s1 s2 i < sg s0 s1 s2 k)
def cntB (s0 s1 s2 : Rat) (k : Nat) : Bool := decide (((((List.range 3).filter (cB s0 s1 s2 k)).map fun (i : Nat) => D.int (i : Int)).length : Int) = 2)
theorem above_cnt (s0 s1 s2 : Rat) : above3 s0 s1 s2 = (List.range 3).any (cntB s0 s1 s2) := by
  have e : List.range 3 = [0, 1, 2] := rfl
  unfold cntB above3
  rw [e]
  have c00 : cB s0 s1 s2 0 0 = false := rfl
  have c11 : cB s0 s1 s2 1 1 = false := rfl
  have c22 : cB s0 s1 s2 2 2 = false := rfl
  have c01 : cB s0 s1 s2 0 1 = decide (s1 < s0) := rfl
  have c02 : cB s0 s1 s2 0 2 = decide (s2 < s0) := rfl
  have c10 : cB s0 s1 s2 1 0 = decide (s0 < s1) := rfl
  have c12 : cB s0 s1 s2 1 2 = decide (s2 < s1) := rfl
  have c20 : cB s0 s1 s2 2 0 = decide (s0 < s2) := rfl
  have c21 : cB s0 s1 s2 2 1 = decide (s1 < s2) := rfl
  simp only [List.any_cons, List.any_nil, List.filter_cons, List.filter_nil, c00, c11, c22, c01, c02, c10, c12, c20, c21]
  generalize decide (s1 < s0) = a1, decide (s2 < s0) = a2, decide (s0 < s1) = a3, decide (s2 < s1) = a4, decide (s0 < s2) = a5, decide (s1 < s2) = a6
  revert a1 a2 a3 a4 a5 a6
  decide
theorem sg_at {s0 s1 s2 : Rat} {i : Nat} (hi : i < 3) : ([qD s0, qD s1, qD s2] : List D)[i]? = some (qD (sg s0 s1 s2 i)) := by
  rcases (by omega : i = 0 ∨ i = 1 ∨ i = 2) with rfl | rfl | rfl <;> rfl
section
variable {K : PySem.W.Frag} {b0 : Ba} {a : AS} {k : B → AS → Prop} {n : Nat} {f : Nat → Nat → Rat}
theorem ro_rowQ {x : Nat} (hx : x < n) (hk : k (.dat (.lst ((List.range n).map fun y => qD (f x y)))) a) : RO K b0 (rIx K) (.dat (tabD n f)) (.dat (.int (x : Int))) a k :=
  ro_ixL (atI_nat (by rw [List.getElem?_map, List.getElem?_range hx]; rfl)) hk
theorem ro_cellQ {g : Nat → Rat} {y : Nat} (hy : y < n) (hk : k (.dat (qD (g y))) a) : RO K b0 (rIx K) (.dat (.lst ((List.range n).map fun y => qD (g y)))) (.dat (.int (y : Int))) a k :=
  ro_ixL (atI_nat (by rw [List.getElem?_map, List.getElem?_range hy]; rfl)) hk
end
def sHold : B → B → D → Prop := fun x y d => ∃ (n : Nat) (f : Nat → Nat → Rat) (e : D), x = .dat (tabD n f) ∧ MetOk n f ∧ y = .dat e ∧ Psm e ∧ d = .bl (holdsT n f e)
theorem isS_two {p : D} (h : isS "points" p = true) : isS "tree" p = false := by
  cases p with
  | str s =>
    have h : decide (s = "points") = true := h
    have h := of_decide_eq_true h
    subst h
    exact decide_eq_false (show ¬ (("points" : Str) = "tree") by decide +kernel)
  | _ => cases h
theorem sc_Ltree_holds : FnScope ["_law_table_here", "_law_paper", "_law_n", "_law_x", "_law_y", "_law_u", "_law_v", "_law_sums", "_law_k", "_law_m", "_law_edges", "_law_edge", "_law_length", "_law_found", "_law_i"] ["_law_table_here", "_law_paper"] (defScope s_Ltree_holds) := ⟨rfl, rfl, rfl, by decide +kernel, rfl, by decide +kernel, by decide +kernel⟩
theorem c_Ltree_holds {P : Program} {w : World} {K : PySem.W.Frag} {mg : Str → Option Value} {base : Heap} (M : FX K mg) : C8.Cal P w K mg base 7 "_law_tree_holds" (spA K (pw (f2 sHold))) [] := by
  obtain ⟨fd, F⟩ := M.said.def_ 63
  refine ⟨_, fd, ["_law_table_here", "_law_paper"], [], (def_pure (j := 6) F sc_Ltree_holds f2_len fun cdv A outer s H E hr => ⟨_, (pss_cons (ps_set (i := 2) sc_Ltree_holds.nd rfl (by first | exact Or.inl rfl | exact Or.inr rfl) (pe_callB (call_len_anyK (K := K)) (by rfl) (M.free 61) PySem.boot_len (pa_cons (pv 0) pa_nil)))
      (pss_cons (ps_if (PW.pt (pw_or (pt_not (pt_val (pe_callB (call_isiK' (K := K)) (by rfl) (M.free 63) (by decide +kernel) (pa_cons (pv 1) (pa_cons (pe_bltn (v := .ty "tuple") rfl (M.free 66) (by decide +kernel) rfl) pa_nil))))) (pw_or1 (pt_cmpR (op_eqAny M (ops M) hr) (pe_callB (call_len_anyK (K := K)) (by rfl) (M.free 61) PySem.boot_len (pa_cons (pv 1) pa_nil)) pe_int (nomark _)))))
        (pss_one (ps_ret pe_bl))
        pss_nil)
        (pss_cons (ps_if (pt_cmpR (op_eqAny M (ops M) hr) (pe_ix (ix_seqK (K := K)) (pv 1) pe_int (fun _ _ => rfl)) pe_str (nomark _))
          (pss_cons (ps_if (pt_not (pt_val (C8.pe_c (c_Lare_points M) hr (by decide) (by rfl) (pa_cons (pv 2) (pa_cons (pe_slice (sl_anyK (K := K)) (pv 1) (po_some pe_int) po_none) (pa_cons pe_int pa_nil))))))
            (pss_one (ps_ret pe_bl))
            pss_nil)
            (pss_cons (ps_asg (pe_slice (sl_anyK (K := K)) (pv 1) (po_some pe_int) po_none) (pg_tup (n := 4) rfl (pgs_cons (pg_name (i := 3) sc_Ltree_holds.nd rfl (by first | exact Or.inl rfl | exact Or.inr rfl)) (pgs_cons (pg_name (i := 4) sc_Ltree_holds.nd rfl (by first | exact Or.inl rfl | exact Or.inr rfl)) (pgs_cons (pg_name (i := 5) sc_Ltree_holds.nd rfl (by first | exact Or.inl rfl | exact Or.inr rfl)) (pgs_cons (pg_name (i := 6) sc_Ltree_holds.nd rfl (by first | exact Or.inl rfl | exact Or.inr rfl)) pgs_nil))))))
              (pss_cons (ps_set (i := 7) sc_Ltree_holds.nd rfl (by first | exact Or.inl rfl | exact Or.inr rfl) (pe_lst (pa_cons (C8.pe_c (c_Lplus M) hr (by decide) (by rfl) (pa_cons (pe_ix (ix_seqK (K := K)) (pe_ix (ix_seqK (K := K)) (pv 0) (pv 3) (fun _ _ => rfl)) (pv 4) (fun _ _ => rfl)) (pa_cons (pe_ix (ix_seqK (K := K)) (pe_ix (ix_seqK (K := K)) (pv 0) (pv 5) (fun _ _ => rfl)) (pv 6) (fun _ _ => rfl)) pa_nil))) (pa_cons (C8.pe_c (c_Lplus M) hr (by decide) (by rfl) (pa_cons (pe_ix (ix_seqK (K := K)) (pe_ix (ix_seqK (K := K)) (pv 0) (pv 3) (fun _ _ => rfl)) (pv 5) (fun _ _ => rfl)) (pa_cons (pe_ix (ix_seqK (K := K)) (pe_ix (ix_seqK (K := K)) (pv 0) (pv 4) (fun _ _ => rfl)) (pv 6) (fun _ _ => rfl)) pa_nil))) (pa_cons (C8.pe_c (c_Lplus M) hr (by decide) (by rfl) (pa_cons (pe_ix (ix_seqK (K := K)) (pe_ix (ix_seqK (K := K)) (pv 0) (pv 3) (fun _ _ => rfl)) (pv 6) (fun _ _ => rfl)) (pa_cons (pe_ix (ix_seqK (K := K)) (pe_ix (ix_seqK (K := K)) (pv 0) (pv 4) (fun _ _ => rfl)) (pv 5) (fun _ _ => rfl)) pa_nil))) pa_nil)))))
                (pss_cons (ps_for PassesOwn.never rfl (pi_range1 rfl (M.free 62) (pa_cons pe_int pa_nil)) (pg_name (i := 8) sc_Ltree_holds.nd rfl (by first | exact Or.inl rfl | exact Or.inr rfl))
                  (pss_one (ps_if (pt_cmpR (op_eqAny M (ops M) hr) (pe_callB (call_len_anyK (K := K)) (by rfl) (M.free 61) PySem.boot_len (pa_cons (pe_lc (own := [("_law_i", 14)]) (g := gName 14) (by rfl) sc_Ltree_holds.nd (pi_range1 rfl (M.free 62) (pa_cons pe_int pa_nil)) (by dsimp only [Cx.blk, Cx.nox, Cx.wish, cxOf, blk_sc, env_sc]; exact blkOk_by (by decide +kernel)) (fun _ _ _ _ _ => pg_name (i := 14) sc_Ltree_holds.nd rfl (by first | exact Or.inl rfl | exact Or.inr rfl)) (fun _ _ _ _ _ => pts_one (PW.pt (pw_and (pt_cmpR (op_neAny M (ops M) hr) (pv 14) (pv 8) (nomark _)) (pw_and1 (pt_val (C8.pe_c (c_Lbelow M) hr (by decide) (by rfl) (pa_cons (pe_ix (ix_seqK (K := K)) (pv 7) (pv 14) (fun _ _ => rfl)) (pa_cons (pe_ix (ix_seqK (K := K)) (pv 7) (pv 8) (fun _ _ => rfl)) pa_nil)))))))) (fun _ _ _ _ _ => (pv 14))) pa_nil)) pe_int (nomark _))
                    (pss_one (ps_ret pe_bl))
                    pss_nil)))
                  (pss_one (ps_ret pe_bl))))))
          pss_nil)
          (pss_cons (ps_if (PW.pt (pw_or (pt_cmpR (op_neAny M (ops M) hr) (pe_ix (ix_seqK (K := K)) (pv 1) pe_int (fun _ _ => rfl)) pe_str (nomark _)) (pw_or1 (pt_cmpR (op_neAny M (ops M) hr) (pe_callB (call_len_anyK (K := K)) (by rfl) (M.free 61) PySem.boot_len (pa_cons (pv 1) pa_nil)) pe_int (nomark _)))))
            (pss_one (ps_ret pe_bl))
            pss_nil)
            (pss_cons (ps_set (i := 9) sc_Ltree_holds.nd rfl (by first | exact Or.inl rfl | exact Or.inr rfl) (pe_ix (ix_seqK (K := K)) (pv 1) pe_int (fun _ _ => rfl)))
              (pss_cons (ps_if (PW.pt (pw_or (pt_not (pt_val (pe_callB (call_isiK' (K := K)) (by rfl) (M.free 63) (by decide +kernel) (pa_cons (pv 9) (pa_cons (pe_bltn (v := .ty "int") rfl (M.free 64) (by decide +kernel) rfl) pa_nil))))) (pw_or (pt_val (pe_callB (call_isiK' (K := K)) (by rfl) (M.free 63) (by decide +kernel) (pa_cons (pv 9) (pa_cons (pe_bltn (v := .ty "bool") rfl (M.free 65) (by decide +kernel) rfl) pa_nil)))) (pw_or1 (pt_not (pt_chain op_le op_le (pv 2) (pv 9) (pe_op op_mulI pe_int (pv 2))))))))
                (pss_one (ps_ret pe_bl))
                pss_nil)
                (pss_cons (ps_if (PW.pt (pw_or (pt_not (pt_val (pe_callB (call_isiK' (K := K)) (by rfl) (M.free 63) (by decide +kernel) (pa_cons (pe_ix (ix_seqK (K := K)) (pv 1) pe_int (fun _ _ => rfl)) (pa_cons (pe_bltn (v := .ty "tuple") rfl (M.free 66) (by decide +kernel) rfl) pa_nil))))) (pw_or1 (pt_cmpR (op_neAny M (ops M) hr) (pe_callB (call_len_anyK (K := K)) (by rfl) (M.free 61) PySem.boot_len (pa_cons (pe_ix (ix_seqK (K := K)) (pv 1) pe_int (fun _ _ => rfl)) pa_nil)) (pe_op (op_subAny M (ops M) hr) (pv 9) pe_int) (nomark _)))))
                  (pss_one (ps_ret pe_bl))
                  pss_nil)
                  (pss_cons (ps_set (i := 10) sc_Ltree_holds.nd rfl (by first | exact Or.inl rfl | exact Or.inr rfl) (pe_lst pa_nil))
                    (pss_cons (ps_for PassesOwn.never rfl (pi_tupK (K := K) (pe_ix (ix_seqK (K := K)) (pv 1) pe_int (fun _ _ => rfl))) (pg_name (i := 11) sc_Ltree_holds.nd rfl (by first | exact Or.inl rfl | exact Or.inr rfl))
                      (pss_cons (ps_if (PW.pt (pw_or (pt_not (pt_val (pe_callB (call_isiK' (K := K)) (by rfl) (M.free 63) (by decide +kernel) (pa_cons (pv 11) (pa_cons (pe_bltn (v := .ty "tuple") rfl (M.free 66) (by decide +kernel) rfl) pa_nil))))) (pw_or (pt_cmpR (op_neAny M (ops M) hr) (pe_callB (call_len_anyK (K := K)) (by rfl) (M.free 61) PySem.boot_len (pa_cons (pv 11) pa_nil)) pe_int (nomark _)) (pw_or (pt_not (pt_val (C8.pe_c (c_Lare_points M) hr (by decide) (by rfl) (pa_cons (pv 9) (pa_cons (pe_slice (sl_anyK (K := K)) (pv 11) po_none (po_some pe_int)) (pa_cons pe_int pa_nil)))))) (pw_or1 (pt_cmpR op_ge (pe_ix (ix_seqK (K := K)) (pv 11) pe_int (fun _ _ => rfl)) (pe_ix (ix_seqK (K := K)) (pv 11) pe_int (fun _ _ => rfl)) (nomark _)))))))
                        (pss_one (ps_ret pe_bl))
                        pss_nil)
                        (pss_cons (ps_set (i := 12) sc_Ltree_holds.nd rfl (by first | exact Or.inl rfl | exact Or.inr rfl) (C8.pe_c (c_Lseen M) hr (by decide) (by rfl) (pa_cons (pe_ix (ix_seqK (K := K)) (pv 11) pe_int (fun _ _ => rfl)) pa_nil)))
                          (pss_cons (ps_if (PW.pt (pw_or (pt_cmpR op_isN (pv 12) pe_non (nomark _)) (pw_or1 (pt_cmpR op_le (pe_ix (ix_seqK (K := K)) (pv 12) pe_int (fun _ _ => rfl)) pe_int (nomark _)))))
                            (pss_one (ps_ret pe_bl))
                            pss_nil)
                            (pss_one (ps_expr (pe_bm PySem.F.plainAttrs_list PySem.F.slot_list_append PySem.F.type_list_append mt_append (pv 10) (pa_cons (pe_tup (pa_cons (pe_ix (ix_seqK (K := K)) (pv 11) pe_int (fun _ _ => rfl)) (pa_cons (pe_ix (ix_seqK (K := K)) (pv 11) pe_int (fun _ _ => rfl)) (pa_cons (pv 12) pa_nil)))) pa_nil))))))))
                      (pss_cons (ps_for PassesOwn.never rfl (pi_range1 rfl (M.free 62) (pa_cons (pv 2) pa_nil)) (pg_name (i := 3) sc_Ltree_holds.nd rfl (by first | exact Or.inl rfl | exact Or.inr rfl))
                        (pss_cons (ps_set (i := 13) sc_Ltree_holds.nd rfl (by first | exact Or.inl rfl | exact Or.inr rfl) (C8.pe_c (c_Lways M) hr (by decide) (by rfl) (pa_cons (pv 9) (pa_cons (pv 10) (pa_cons (pv 3) pa_nil)))))
                          (pss_one (ps_if (PW.pt (pw_or (pt_cmpR (op_neAny M (ops M) hr) (pe_callB (call_len_anyK (K := K)) (by rfl) (M.free 61) PySem.boot_len (pa_cons (pv 13) pa_nil)) (pv 9) (nomark _)) (pw_or1 (pt_cmpR (op_neAny M (ops M) hr) (pe_lc (own := [("_law_y", 4)]) (g := gName 4) (by rfl) sc_Ltree_holds.nd (pi_range1 rfl (M.free 62) (pa_cons (pv 2) pa_nil)) (by dsimp only [Cx.blk, Cx.nox, Cx.wish, cxOf, blk_sc, env_sc]; exact blkOk_by (by decide +kernel)) (fun _ _ _ _ _ => pg_name (i := 4) sc_Ltree_holds.nd rfl (by first | exact Or.inl rfl | exact Or.inr rfl)) (fun _ _ _ _ _ => pts_nil) (fun _ _ _ _ _ => (pe_dget (hu_of hr) (pv 13) (pv 4) (fun _ _ => rfl)))) (pe_ix (ix_seqK (K := K)) (pv 0) (pv 3) (fun _ _ => rfl)) (nomark _)))))
                            (pss_one (ps_ret pe_bl))
                            pss_nil))))
                        (pss_one (ps_ret pe_bl)))))))))))), ?_⟩), M.glo 54, F.kp, F.bindsN fun _ _ _ _ _ _ us hl => match us, hl with | [_, _], _ => rfl, .nil⟩
  try dsimp only [cx_K]
  intro b0 Z bs d h hret
  obtain ⟨_, _, rfl, n, f, e, rfl, hf, rfl, hp, rfl⟩ := h
  have ho := hp.ok
  have no : holdsT n f e = false → Ret K b0 Z (.bl false) := fun h => h ▸ hret
  have hlo := hf.lo
  have hhi := hf.hi
  have hlen : ∀ {α : Type} (f : Nat → α), ((List.range n).map f).length = n := fun f => by rw [List.length_map, List.length_range]
  have m1 : IntMulOk 2 (n : Int) := mul_ok (a := 2) (b := 10) (by decide) (by omega) (by omega)
  refine gs_seq (gs_set (ev_cb (ea_cons (ev_var (b := .dat (tabD n f)) rfl (ea_nil (rc_lenL (.inr ⟨_, rfl, rfl⟩) ?_))))))
  rw [List.length_map, hlen]
  walk_at "mpR"
  refine ⟨fun hc => ?_, fun hc => ?_⟩
  · cases e with
    | tup ds =>
      walk_at "mpR"
      refine ⟨fun hc2 => ?_, fun hc2 => ?_⟩
      · walk_at "mpR"
        refine (no ?_).go fun _ _ h => h
        cases ds with
        | nil => rfl
        | cons => simp at hc2; omega
      · cases ds with
        | nil => simp at hc2
        | cons p0 ps =>
          have hq := hp.tup
          have hq' : Psm (.tup ps) := Psms.iff.mpr fun d hd => hq d (List.mem_cons_of_mem _ hd)
          have hp0 := hq p0 (List.mem_cons_self ..)
          walk_at "mpR"
          refine ro_eqS hp0.plain ?_
          walk_at "mpR"
          refine ⟨fun hc3 => ?_, fun hc3 => ?_⟩
          · have unf : holdsT n f (.tup (p0 :: ps)) = (arePts n 4 (.tup ps) && pointsT f ps) := by
              show (if isS "tree" p0 = true then _ else _) = _
              rw [if_neg (by rw [isS_two hc3]; decide), hc3, Bool.true_and]
            walk_at "mpR"
            rw [cut_tail]
            refine ⟨_, ⟨_, _, _, rfl, (n : Int), .tup ps, 4, rfl, rfl, hq', rfl, rfl⟩, ?_⟩
            walk_at "mpR"
            refine ⟨fun hc5 => ?_, fun hc5 => ?_⟩
            · walk_at "mpR"
              refine (no ?_).go fun _ _ h => h
              rw [unf, show arePts n 4 (.tup ps) = false by simpa using hc5]
              rfl
            · have h6 : arePts n 4 (.tup ps) = true := by simpa using hc5
              have h7 : ps.length = 4 ∧ ps.all (isPt n) = true := by
                have h8 : (decide ((ps.length : Int) = 4) && ps.all (isPt n)) = true := h6
                simp only [Bool.and_eq_true, decide_eq_true_eq] at h8
                exact ⟨by omega, h8.2⟩
              obtain ⟨d0, d1, d2, d3, rfl⟩ : ∃ d0 d1 d2 d3, ps = [d0, d1, d2, d3] := by
                match ps, h7.1 with
                | [d0, d1, d2, d3], _ => exact ⟨d0, d1, d2, d3, rfl⟩
              have h8 : isPt n d0 = true ∧ isPt n d1 = true ∧ isPt n d2 = true ∧ isPt n d3 = true := by simpa using h7.2
              obtain ⟨x, rfl, hx0, hx1⟩ := isPt_eq h8.1
              obtain ⟨y, rfl, hy0, hy1⟩ := isPt_eq h8.2.1
              obtain ⟨u, rfl, hu0, hu1⟩ := isPt_eq h8.2.2.1
              obtain ⟨v, rfl, hv0, hv1⟩ := isPt_eq h8.2.2.2
              obtain ⟨x, rfl⟩ := Int.eq_ofNat_of_zero_le hx0
              obtain ⟨y, rfl⟩ := Int.eq_ofNat_of_zero_le hy0
              obtain ⟨u, rfl⟩ := Int.eq_ofNat_of_zero_le hu0
              obtain ⟨v, rfl⟩ := Int.eq_ofNat_of_zero_le hv0
              have lx : x < n := by omega
              have ly : y < n := by omega
              have lu : u < n := by omega
              have lv : v < n := by omega
              have unf2 : holdsT n f (.tup [p0, .int x, .int y, .int u, .int v]) = above3 (f x y + f u v) (f x u + f y v) (f x v + f y u) := by
                rw [unf, h6]
                rfl
              rw [unf2] at hret no
              have w1 : ∀ {i j}, i < n → j < n → Wee (f i j) := fun hi hj => hf.wee hi hj
              have w2 : ∀ {i j k l}, i < n → j < n → k < n → l < n → Wee (f i j + f k l) := fun hi hj hk hl => wee_sum hf hi hj hk hl
              walk_at "mpR"
              rw [cut_tail]
              walk_at "mpR"
              have cell : ∀ {te ti tj : TE} {a : AS} {kk : B → AS → Prop} {i j : Nat}, i < n → j < n → (∀ {k : B → AS → Prop}, k (.dat (tabD n f)) a → EV K b0 te a k) → (∀ {k : B → AS → Prop}, k (.dat (.int (i : Int))) a → EV K b0 ti a k) → (∀ {k : B → AS → Prop}, k (.dat (.int (j : Int))) a → EV K b0 tj a k) → kk (.dat (qD (f i j))) a → EV K b0 (tOp (rIx K) (tOp (rIx K) te ti) tj) a kk := fun hi hj h1 h2 h3 hk =>
                ev_op (ev_op (h1 (h2 (ro_rowQ hi (h3 (ro_cellQ hj hk))))))
              refine ev_lst3 ?_
              have V : ∀ {i : Nat} {b : B} {a : AS}, a.env[i]? = some (some b) → ∀ {k : B → AS → Prop}, k b a → EV K b0 (tVar i) a k := fun h _ hk => ev_var h hk
              refine ev_callP (ea_cons (cell lx ly (V rfl) (V rfl) (V rfl) (ea_cons (cell lu lv (V rfl) (V rfl) (V rfl) (ea_nil ⟨_, ⟨_, _, rfl, _, _, rfl, rfl, w1 lx ly, w1 lu lv, rfl⟩, ?_⟩)))))
              refine ⟨_, rfl, ev_callP (ea_cons (cell lx lu (V rfl) (V rfl) (V rfl) (ea_cons (cell ly lv (V rfl) (V rfl) (V rfl) (ea_nil ⟨_, ⟨_, _, rfl, _, _, rfl, rfl, w1 lx lu, w1 ly lv, rfl⟩, ?_⟩)))))⟩
              refine ⟨_, rfl, ev_callP (ea_cons (cell lx lv (V rfl) (V rfl) (V rfl) (ea_cons (cell ly lu (V rfl) (V rfl) (V rfl) (ea_nil ⟨_, ⟨_, _, rfl, _, _, rfl, rfl, w1 lx lv, w1 ly lu, rfl⟩, ?_⟩)))))⟩
              refine ⟨_, rfl, ?_⟩
              generalize hs0 : f x y + f u v = s0 at *
              generalize hs1 : f x u + f y v = s1 at *
              generalize hs2 : f x v + f y u = s2 at *
              have ws : ∀ {i}, i < 3 → Wee (sg s0 s1 s2 i) := fun {i} hi => by
                rcases (by omega : i = 0 ∨ i = 1 ∨ i = 2) with rfl | rfl | rfl
                · show Wee s0; rw [← hs0]; exact w2 lx ly lu lv
                · show Wee s1; rw [← hs1]; exact w2 lx lu ly lv
                · show Wee s2; rw [← hs2]; exact w2 lx lv ly lu
              let En : Option B → Option B → List (Option B) := fun w8 w14 => [some (.dat (tabD n f)), some (.dat (.tup [p0, .int x, .int y, .int u, .int v])), some (.dat (.int (n : Int))), some (.dat (.int (x : Int))), some (.dat (.int (y : Int))), some (.dat (.int (u : Int))), some (.dat (.int (v : Int))), some (.dat (.lst [qD s0, qD s1, qD s2])), w8, none, none, none, none, none, w14]
              refine nx_go (gs_seq (gs_forN1 (ea_cons (ev_int (ea_nil ⟨3, rfl, by decide, fun k a => (∀ j, j < k → cntB s0 s1 s2 j = false) ∧ ∃ w8, a = ⟨En w8 none, b0.mem⟩, ⟨fun j hj => by omega, none, rfl⟩, ?_, ?_⟩)))))
              · rintro k _ hk ⟨hal, w8, rfl⟩
                refine gg_name (gs_if (et_test (ev_op (ev_cb (ea_cons (ev_lcF1 (cB s0 s1 s2 k) (fun i => .int (i : Int)) (by decide) (ea_cons (ev_int (ea_nil ⟨3, rfl, by decide, fun i m hi _ => ?_, fun i m hi _ _ => ?_, ?_⟩)))))))))
                · walk_at "mpR"
                  refine ⟨fun hc7 => ?_, fun hc7 => ?_⟩
                  · walk_at "mpR"
                    refine ro_ixL (atI_nat (sg_at hi)) ?_
                    walk_at "mpR"
                    refine ro_ixL (atI_nat (sg_at hk)) ?_
                    walk_at "mpR"
                    refine ⟨_, ⟨_, _, rfl, _, _, rfl, rfl, ws hi, ws hk, rfl⟩, ?_⟩
                    refine ⟨_, rfl, ?_, rfl⟩
                    unfold cB
                    rw [hc7, Bool.true_and]
                  · refine ⟨?_, rfl⟩
                    unfold cB
                    rw [hc7, Bool.false_and]
                · walk_at "mpR"
                  exact ⟨rfl, rfl⟩
                · walk_at "mpR"
                  refine ⟨fun hc7 => ?_, fun hc7 => ?_⟩
                  · walk_at "mpR"
                    rw [show true = above3 s0 s1 s2 from by rw [above_cnt]; exact (List.any_eq_true.mpr ⟨k, List.mem_range.mpr hk, hc7⟩).symm]
                    exact hret.go fun _ _ h => h
                  · walk_at "mpR"
                    refine nx_inv ⟨fun j hj => ?_, some (.dat (.int (k : Int))), rfl⟩
                    rcases (by omega : j < k ∨ j = k) with h | rfl
                    · exact hal j h
                    · exact hc7
              · rintro _ ⟨hal, w8, rfl⟩
                walk_at "mpR"
                refine (no ?_).go fun _ _ h => h
                rw [above_cnt, List.any_eq_false]
                intro k hk
                rw [hal k (List.mem_range.mp hk)]
                decide
          · walk_at "mpR"
            refine ro_neS hp0.plain ?_
            walk_at "mpR"
            refine ⟨fun hc4 => ?_, fun hc4 => ?_⟩
            · have htr : isS "tree" p0 = true := by simpa using hc4
              have unf : holdsT n f (.tup (p0 :: ps)) = treeT n f ps := if_pos htr
              walk_at "mpR"
              refine ⟨fun hc5 => ?_, fun hc5 => ?_⟩
              · walk_at "mpR"
                refine (no ?_).go fun _ _ h => h
                rw [unf]
                refine treeT_no fun hl => ?_
                have := of_decide_eq_false (by simpa using hc5 : decide ((((p0 :: ps).length : Nat) : Int) = 3) = false)
                simp at this
                omega
              · have hl : ps.length = 2 := by
                  have := of_decide_eq_true (by simpa using hc5 : decide ((((p0 :: ps).length : Nat) : Int) = 3) = true)
                  simp at this
                  omega
                obtain ⟨p1, p2, rfl⟩ : ∃ p1 p2, ps = [p1, p2] := by
                  match ps, hl with
                  | [p1, p2], _ => exact ⟨p1, p2, rfl⟩
                have hp1 : Psm p1 := hq p1 (by simp)
                have hp2 : Psm p2 := hq p2 (by simp)
                have ho1 := hp1.ok
                have ho2 := hp2.ok
                have unfS : holdsT n f (.tup [p0, p1, p2]) = showsT n f p1 p2 := unf
                rw [unfS] at hret no
                have at1 : atI [p0, p1, p2] 1 = some p1 := atI_nat (n := 1) rfl
                have at2 : atI [p0, p1, p2] 2 = some p2 := atI_nat (n := 2) rfl
                have at20 : ∀ a b c : D, atI [a, b, c] 0 = some a := fun a b c => atI_nat (n := 0) rfl
                have at21 : ∀ a b c : D, atI [a, b, c] 1 = some b := fun a b c => atI_nat (n := 1) rfl
                have at22 : ∀ a b c : D, atI [a, b, c] 2 = some c := fun a b c => atI_nat (n := 2) rfl
                refine gs_next (nx_go (gs_seq (gs_set (ev_op (ev_var rfl (ev_int (ro_ixT at1 ?_)))))))
                walk_at "mpR"
                refine ⟨fun hc => ?_, fun hc => ?_⟩
                · cases p1 with
                  | int m =>
                    walk_at "mpR"
                    refine ⟨fun _ => ?_, fun hc2 => (by cases hc2)⟩
                    walk_at "mpR"
                    refine ⟨fun hcA => ?_, fun hcA => ?_⟩
                    · have a1 : (n : Int) ≤ m := of_decide_eq_true hcA
                      walk_at "mpR"
                      refine ⟨fun hcB => ?_, fun hcB => ?_⟩
                      · walk_at "mpR"
                        refine (no ?_).go fun _ _ h => h
                        have := of_decide_eq_false (by simpa using hcB : decide (m ≤ 2 * (n : Int)) = false)
                        cases p2 <;> first | rfl | skip
                        show (decide ((n : Int) ≤ m) && decide (m ≤ 2 * (n : Int)) && _ && _ && _) = false
                        rw [decide_eq_false this]
                        simp
                      · have a2 : m ≤ 2 * (n : Int) := of_decide_eq_true (by simpa using hcB)
                        refine gs_next (nx_go (gs_seq (gs_if ?_)))
                        have P2 : ∀ {a : AS} {kk : B → AS → Prop}, a.env[1]? = some (some (.dat (.tup [p0, .int m, p2]))) → kk (.dat p2) a → EV K b0 (tOp (rIx K) (tVar 1) (tC (.int 2))) a kk := fun h hk => ev_op (ev_var h (ev_int (ro_ixT at2 hk)))
                        refine et_or (et_not (et_B (ev_cb (ea_cons (P2 rfl (ea_cons (ev_raw (ea_nil (rc_isT' M (by decide) ho2 ?_)))))))))
                        refine ⟨_, rfl, fun hc6 => ?_, fun hc6 => ?_⟩
                        · cases p2 with
                          | tup ds =>
                            have unf : showsT n f (.int m) (.tup ds) = (decide ((ds.length : Int) = m - 1) && ds.all (isEdge m) && (List.range n).all (wayOk n f m.toNat (ds.map edgeOf))) := by
                              show (decide ((n : Int) ≤ m) && decide (m ≤ 2 * (n : Int)) && _ && _ && _) = _
                              rw [decide_eq_true a1, decide_eq_true a2]
                              rfl
                            refine et_test (ev_op (ev_cb (ea_cons (P2 rfl (ea_nil (rc_lenT ?_))))))
                            walk_at "mpR"
                            refine ⟨fun hc7 => ?_, fun hc7 => ?_⟩
                            · have := of_decide_eq_false (by simpa using hc7 : decide ((ds.length : Int) = m - 1) = false)
                              walk_at "mpR"
                              refine (no ?_).go fun _ _ h => h
                              rw [unf, decide_eq_false this]
                              rfl
                            · have a3 : (ds.length : Int) = m - 1 := of_decide_eq_true (by simpa using hc7)
                              refine gs_next (nx_go (gs_seq (gs_set (ev_lstM (ea_nil ⟨by simp, fun p hp0' hpb => ?_⟩)))))
                              have hds16 : ds.length ≤ 16 := by omega
                              let E0 : Option B → Option B → Option B → Option B → List (Option B) := fun w3 w11 w12 w13 => [some (.dat (tabD n f)), some (.dat (.tup [p0, .int m, .tup ds])), some (.dat (.int (n : Int))), w3, none, none, none, none, none, some (.dat (.int m)), some (.ptr p), w11, w12, w13, none]
                              refine nx_go (gs_seq (gs_forT (P2 rfl ⟨ds, rfl, fun i a => (ds.take i).all (isEdge m) = true ∧ ∃ w11 w12, a = ⟨E0 none w11 w12 none, mput b0.mem p (.lst (((ds.take i).map fun d => edgeQ (edgeOf d)).map B.dat))⟩, ⟨by simp, none, none, rfl⟩, ?_, ?_⟩)))
                              · rintro v i d _ hd ⟨hal, w11, w12, rfl⟩
                                have hpd := hp2.tup d (List.mem_of_getElem? hd)
                                have hod := hpd.ok
                                have noE : isEdge m d = false → Ret K b0 Z (.bl false) := fun h => no (by
                                  rw [unf, all_false hd h]
                                  simp)
                                have hkeep : ∀ (q : Addr) (c : C), b0.mem q = some c → mput b0.mem p (.lst (((ds.take i).map fun d => edgeQ (edgeOf d)).map B.dat)) q = some c := fun q c h => by
                                  rw [mput_ne (fun e => by rw [e, hpb] at h; cases h)]
                                  exact h
                                walk_at "mpR"
                                refine ⟨fun hc8 => ?_, fun hc8 => ?_⟩
                                · cases d with
                                  | tup es =>
                                    walk_at "mpR"
                                    refine ⟨fun hc9 => ?_, fun hc9 => ?_⟩
                                    · have hl3 : es.length = 3 := by have := of_decide_eq_true (by simpa using hc9 : decide ((es.length : Int) = 3) = true); omega
                                      obtain ⟨d0, d1, d2, rfl⟩ : ∃ d0 d1 d2, es = [d0, d1, d2] := by
                                        match es, hl3 with
                                        | [d0, d1, d2], _ => exact ⟨d0, d1, d2, rfl⟩
                                      obtain ⟨q0, q1, q2, _⟩ := (show Psms [d0, d1, d2] from hpd)
                                      have o2 := q2.ok
                                      walk_at "mpR"
                                      rw [cut_two]
                                      refine ⟨_, ⟨_, _, _, rfl, m, .tup [d0, d1], 2, rfl, rfl, ⟨q0, q1, trivial⟩, rfl, rfl⟩, ?_⟩
                                      walk_at "mpR"
                                      refine ⟨fun hc10 => ?_, fun hc10 => ?_⟩
                                      · have h3 : arePts m 2 (.tup [d0, d1]) = true := by simpa using hc10
                                        have h4 : isPt m d0 = true ∧ isPt m d1 = true := by simpa [arePts] using h3
                                        obtain ⟨u, rfl, hu0, hu1⟩ := isPt_eq h4.1
                                        obtain ⟨v, rfl, hv0, hv1⟩ := isPt_eq h4.2
                                        walk_at "mpR"
                                        refine ⟨fun hc11 => ?_, fun hc11 => ?_⟩
                                        · have h6 : v ≤ u := of_decide_eq_true hc11
                                          have h7 : isEdge m (.tup [.int u, .int v, d2]) = false := by
                                            cases q : isEdge m (.tup [.int u, .int v, d2]) with
                                            | false => rfl
                                            | true =>
                                              obtain ⟨u', v', l, e, h1, h2, h3, _⟩ := isEdge_tup q
                                              cases e
                                              omega
                                          walk_at "mpR"
                                          exact (noE h7).goUp hkeep
                                        · have h6 : u < v := by have := of_decide_eq_false hc11; omega
                                          walk_at "mpR"
                                          refine ⟨_, ⟨_, rfl, d2, rfl, o2, rfl⟩, ?_⟩
                                          refine nx_go (gs_seq (gs_if (et_or (et_test (ev_op (ev_var rfl (ev_non (ro_isN fun F z hz => ?_))))))))
                                          cases d2 with
                                          | rat l =>
                                            obtain ⟨zp, zv, rfl, _⟩ := hz
                                            refine ⟨_, rfl, fun _ => ?_, fun h => (by cases of_decide_eq_true h)⟩
                                            walk_at "mpR"
                                            refine ro_ixT (ds := [.int l.num, .int (l.den : Int)]) (d := .int l.num) rfl ?_
                                            walk_at "mpR"
                                            refine ⟨fun hc12 => ?_, fun hc12 => ?_⟩
                                            · have h9 := of_decide_eq_true hc12
                                              walk_at "mpR"
                                              refine (noE ?_).goUp hkeep
                                              cases q : isEdge m (.tup [.int u, .int v, .rat l]) with
                                              | false => rfl
                                              | true =>
                                                obtain ⟨u', v', l', e, h1, h2, h3, h4'⟩ := isEdge_tup q
                                                cases e
                                                have := Rat.num_pos'.mpr h4'
                                                omega
                                            · have h9 := of_decide_eq_false hc12
                                              have h10 : 0 < l := Rat.num_pos'.mp (by omega)
                                              have hE : isEdge m (.tup [.int u, .int v, .rat l]) = true := by
                                                show (decide (0 ≤ u) && decide (u < v) && decide (v < m) && decide (0 < l)) = true
                                                rw [decide_eq_true hu0, decide_eq_true h6, decide_eq_true hv1, decide_eq_true h10]
                                                rfl
                                              refine gs_next (nx_go (gs_app (ev_var rfl ⟨p, _, rfl, mput_same, ?_⟩)))
                                              walk_at "mpR"
                                              have hti : (ds.take i).length ≤ 16 := by rw [List.length_take]; omega
                                              refine ⟨by rw [List.length_map, List.length_map]; omega, ?_⟩
                                              refine nx_inv ⟨by rw [all_take_succ hd, hal, hE]; rfl, some (.dat (.tup [.int u, .int v, .rat l])), some (.dat (qD l)), ?_⟩
                                              rw [List.take_succ, hd, List.map_append, List.map_append]
                                              simp only [AS.at, mput_mput]
                                              rfl
                                          | _ =>
                                            cases (show z = .non from hz)
                                            refine ⟨_, rfl, fun h => (by cases of_decide_eq_false h rfl), fun _ => ?_⟩
                                            refine ⟨fun _ => ?_, fun h => (by cases h)⟩
                                            walk_at "mpR"
                                            exact (noE rfl).goUp hkeep
                                      · have h3 : arePts m 2 (.tup [d0, d1]) = false := by simpa using hc10
                                        refine ⟨fun _ => ?_, fun h => (by cases h)⟩
                                        walk_at "mpR"
                                        exact (noE (isEdge_no h3)).goUp hkeep
                                    · have hl3 : es.length ≠ 3 := by have := of_decide_eq_false (by simpa using hc9 : decide ((es.length : Int) = 3) = false); omega
                                      refine ⟨fun _ => ?_, fun h => (by cases h)⟩
                                      walk_at "mpR"
                                      exact (noE (isEdge_len hl3)).goUp hkeep
                                  | _ => cases hc8
                                · refine ⟨fun _ => ?_, fun h => (by cases h)⟩
                                  walk_at "mpR"
                                  refine (noE ?_).goUp hkeep
                                  cases d with
                                  | tup es => cases hc8
                                  | _ => rfl
                              · rintro _ ⟨hal, w11, w12, rfl⟩
                                rw [List.take_length] at hal ⊢
                                obtain ⟨mm, rfl⟩ := Int.eq_ofNat_of_zero_le (show 0 ≤ m by omega)
                                let es := ds.map edgeOf
                                have hes : (ds.map fun d => edgeQ (edgeOf d)) = es.map edgeQ := by
                                  show _ = (ds.map edgeOf).map edgeQ
                                  rw [List.map_map]
                                  rfl
                                have hin : EsIn mm es := fun e he => by
                                  obtain ⟨d, hd, rfl⟩ := List.mem_map.mp he
                                  obtain ⟨e, h1, h2, h3, h4, h5, _⟩ := isEdge_eq (List.all_eq_true.mp hal d hd)
                                  rw [h2]
                                  exact ⟨⟨h3, by omega⟩, by omega, h5⟩
                                have hb : esB BIG es := fun e he => by
                                  obtain ⟨d, hd, rfl⟩ := List.mem_map.mp he
                                  obtain ⟨e, h1, h2, _⟩ := isEdge_eq (List.all_eq_true.mp hal d hd)
                                  have hpd := hp2.tup d hd
                                  rw [h2]
                                  rw [h1] at hpd
                                  exact hpd.2.2.1
                                have hlenE : es.length ≤ 100 := by show (ds.map edgeOf).length ≤ 100; rw [List.length_map]; omega
                                have unf2 : showsT n f (.int (mm : Int)) (.tup ds) = (List.range n).all (wayOk n f mm es) := by
                                  rw [unf, decide_eq_true a3, hal]
                                  rfl
                                rw [hes]
                                let E1 : Option B → Option B → List (Option B) := fun w3 w13 => [some (.dat (tabD n f)), some (.dat (.tup [p0, .int (mm : Int), .tup ds])), some (.dat (.int (n : Int))), w3, none, none, none, none, none, some (.dat (.int (mm : Int))), some (.dat (.lst (es.map edgeQ))), none, none, w13, none]
                                refine nx_go (gs_frz (ds := es.map edgeQ) hpb mput_same (e := E1 none none) (.keep (.keep (.keep (.keep (.keep (.keep (.keep (.keep (.keep (.keep (.hit (.drop (.drop (.keep (.keep .nil))))))))))))))) ?_)
                                have hmd : mdel (mput b0.mem p (.lst ((es.map edgeQ).map B.dat))) p = b0.mem := mdel_mput hpb
                                show GS K b0 _ _ ⟨E1 none none, mdel (mput b0.mem p (.lst ((es.map edgeQ).map B.dat))) p⟩
                                rw [hmd]
                                refine gs_seq (gs_forN1 (ea_cons (ev_var rfl (ea_nil ⟨n, rfl, by omega, fun i a => (List.range i).all (wayOk n f mm es) = true ∧ ∃ w3 w13, a = ⟨E1 w3 w13, b0.mem⟩, ⟨by simp, none, none, rfl⟩, ?_, ?_⟩))))
                                · rintro x _ hx ⟨hal2, w3, w13, rfl⟩
                                  refine gg_name (gs_seq (gs_set ?_))
                                  walk_at "mpR"
                                  refine ⟨_, ⟨_, _, _, rfl, mm, es, (x : Int), rfl, rfl, rfl, by omega, hlenE, hb, rfl⟩, ?_⟩
                                  have noX : wayOk n f mm es x = false → Ret K b0 Z (.bl false) := fun h => no (by
                                    rw [unf2, List.all_eq_false]
                                    exact ⟨x, List.mem_range.mpr hx, by rw [h]; decide⟩)
                                  refine nx_go (gs_if (et_or (et_test (ev_op (ev_cb (ea_cons (ev_var rfl (ea_nil (ro_lenF ?_)))))))))
                                  walk_at "mpR"
                                  refine ⟨fun hc7 => ?_, fun hc7 => ?_⟩
                                  · have hl : (waysN es x mm).length = mm := by
                                      rw [List.length_map] at hc7
                                      have := of_decide_eq_true (by simpa using hc7 : decide (((waysN es x mm).length : Int) = (mm : Int)) = true)
                                      omega
                                    have hget : ∀ y, y < n → ∃ q, fget (waysN es x mm) (y : Int) = some q := fun y hy =>
                                      Option.isSome_iff_exists.mp (ways_full hin ⟨by omega, by omega⟩ hl (show y < mm by omega))
                                    let vals : Nat → Rat := fun y => (fget (waysN es x mm) (y : Int)).getD 0
                                    have hdg : ∀ y, y < n → dget (((waysN es x mm).map (·.1)).zip ((waysN es x mm).map fun p => qD p.2)) (y : Int) = some (qD (vals y)) := fun y hy => by
                                      have e : ((waysN es x mm).map (·.1)).zip ((waysN es x mm).map fun p => qD p.2) = dOf qD (waysN es x mm) := by
                                        rw [List.zip_map', dOf]
                                      obtain ⟨q, hq⟩ := hget y hy
                                      rw [e, dget_dOf, hq]
                                      show some (qD q) = some (qD ((fget (waysN es x mm) (y : Int)).getD 0))
                                      rw [hq]
                                      rfl
                                    refine et_test (ev_op (ev_lcM1 (fun y => qD (vals y)) (by decide) (ea_cons (ev_var rfl (ea_nil ⟨n, rfl, by omega, fun y m hy _ => ?_, ?_⟩)))))
                                    · exact ev_dgetF (ev_var rfl (ev_var rfl ⟨_, _, _, _, rfl, rfl, hdg y hy, rfl, rfl⟩))
                                    · walk_at "mpR"
                                      refine ro_rowQ hx ?_
                                      have e1 : (List.range n).map (fun y => qD (vals y)) = ((List.range n).map vals).map qD := by rw [List.map_map]; rfl
                                      have e2 : (List.range n).map (fun y => qD (f x y)) = ((List.range n).map (f x)).map qD := by rw [List.map_map]; rfl
                                      rw [e1, e2]
                                      refine ro_neQs ?_
                                      walk_at "mpR"
                                      refine ⟨fun hc8 => ?_, fun hc8 => ?_⟩
                                      · have hne := of_decide_eq_false (by simpa using hc8 : decide ((List.range n).map vals = (List.range n).map (f x)) = false)
                                        walk_at "mpR"
                                        refine (noX ?_).go fun _ _ h => h
                                        cases q : wayOk n f mm es x with
                                        | false => rfl
                                        | true =>
                                          refine absurd (List.map_congr_left fun y hy => ?_) hne
                                          unfold wayOk at q
                                          simp only [Bool.and_eq_true, List.all_eq_true, decide_eq_true_eq] at q
                                          have := q.2 y hy
                                          show (fget (waysN es x mm) (y : Int)).getD 0 = f x y
                                          rw [this]
                                          rfl
                                      · have heq : (List.range n).map vals = (List.range n).map (f x) := of_decide_eq_true (by simpa using hc8)
                                        walk_at "mpR"
                                        refine nx_inv ⟨?_, _, _, rfl⟩
                                        rw [List.range_succ, List.all_append, hal2]
                                        simp only [List.all_cons, List.all_nil, Bool.true_and, Bool.and_true]
                                        unfold wayOk
                                        simp only [hl, decide_true, Bool.true_and, List.all_eq_true, List.mem_range, decide_eq_true_eq]
                                        intro y hy
                                        obtain ⟨q, hq⟩ := hget y hy
                                        have h3 : vals y = f x y := by
                                          have h4 := congrArg (fun l : List Rat => l.getD y 0) heq
                                          simp only [List.getD_eq_getElem?_getD, List.getElem?_map, List.getElem?_range hy] at h4
                                          exact h4
                                        have h5 : vals y = q := by
                                          show (fget (waysN es x mm) (y : Int)).getD 0 = q
                                          rw [hq]
                                          rfl
                                        rw [hq, ← h5, h3]
                                  · refine ⟨fun _ => ?_, fun h => (by cases h)⟩
                                    walk_at "mpR"
                                    refine (noX ?_).go fun _ _ h => h
                                    have : ¬ (waysN es x mm).length = mm := fun e => by
                                      rw [List.length_map, e] at hc7
                                      simp at hc7
                                    unfold wayOk
                                    simp [this]
                                · rintro _ ⟨hal2, w3, w13, rfl⟩
                                  walk_at "mpR"
                                  rw [show true = showsT n f (.int (mm : Int)) (.tup ds) from by rw [unf2, hal2]]
                                  exact hret.go fun _ _ h => h
                          | _ => cases hc6
                        · refine ⟨fun _ => ?_, fun h => (by cases h)⟩
                          walk_at "mpR"
                          refine (no ?_).go fun _ _ h => h
                          cases p2 with
                          | tup ds => cases hc6
                          | _ => rfl
                    · refine ⟨_, rfl, fun _ => ?_, fun h => (by cases h)⟩
                      walk_at "mpR"
                      refine (no ?_).go fun _ _ h => h
                      have := of_decide_eq_false hcA
                      cases p2 <;> first | rfl | skip
                      show (decide ((n : Int) ≤ m) && decide (m ≤ 2 * (n : Int)) && _ && _ && _) = false
                      rw [decide_eq_false this]
                      simp
                  | bl b =>
                    walk_at "mpR"
                    refine ⟨fun hc => (by cases hc), fun _ => ?_⟩
                    refine ⟨fun _ => ?_, fun h => (by cases h)⟩
                    walk_at "mpR"
                    exact (no rfl).go fun _ _ h => h
                  | _ => cases hc
                · refine ⟨fun _ => ?_, fun h => (by cases h)⟩
                  walk_at "mpR"
                  refine (no ?_).go fun _ _ h => h
                  cases p1 with
                  | int m => cases hc
                  | _ => rfl
            · have htr : isS "tree" p0 = false := by simpa using hc4
              refine ⟨fun _ => ?_, fun h => (by cases h)⟩
              walk_at "mpR"
              refine (no ?_).go fun _ _ h => h
              show (if isS "tree" p0 = true then _ else _) = _
              rw [htr, hc3]
              rfl
    | _ => cases hc
  · refine ⟨fun _ => ?_, fun h => (by cases h)⟩
    walk_at "mpR"
    refine (no ?_).go fun _ _ h => h
    cases e with
    | tup ds => cases hc
    | _ => rfl
end MP
/-! MSM -/
set_option exponentiation.threshold 10000
/-! _law_four, _law_many_edges, _law_leaves, _law_longer -/
namespace MP
open PySem PySem.Spec PyProof.Rows L2

def fourB (n : Nat) (f : Nat → Nat → Rat) : Bool := (quads n).all fun q => !abv f q
theorem fourB_iff {n : Nat} {f : Nat → Nat → Rat} : fourB n f = true ↔ Four n f := by
  unfold fourB Four
  rw [List.all_eq_true]
  simp
theorem holds_points {n : Nat} {f : Nat → Nat → Rat} {x y u v : Nat} (hx : x < n) (hy : y < n) (hu : u < n) (hv : v < n) : holdsT n f (pointsP (x, y, u, v)) = abv f (x, y, u, v) := by
  have h1 : isS "tree" (.str "points") = false := isS_two (p := .str "points") (by decide +kernel)
  have h2 : isS "points" (.str "points") = true := by decide +kernel
  show (if isS "tree" (.str "points") = true then treeT n f [.int (x : Int), .int (y : Int), .int (u : Int), .int (v : Int)] else isS "points" (.str "points") && arePts n 4 (.tup [.int (x : Int), .int (y : Int), .int (u : Int), .int (v : Int)]) && pointsT f [.int (x : Int), .int (y : Int), .int (u : Int), .int (v : Int)]) = _
  have h3 : arePts n 4 (.tup [.int (x : Int), .int (y : Int), .int (u : Int), .int (v : Int)]) = true := by
    simp [arePts, isPt]
    omega
  rw [h1, h2, h3]
  rfl
theorem psm_points {q : Quad} : Psm (pointsP q) := ⟨trivial, trivial, trivial, trivial, trivial, trivial⟩
def sFour : B → D → Prop := fun x d => ∃ (n : Nat) (f : Nat → Nat → Rat), x = .dat (tabD n f) ∧ MetOk n f ∧ d = .bl (fourB n f)
theorem sc_Lfour : FnScope ["_law_table_here", "_law_n", "_law_x", "_law_y", "_law_u", "_law_v"] ["_law_table_here"] (defScope s_Lfour) := ⟨rfl, rfl, rfl, by decide +kernel, rfl, by decide +kernel, by decide +kernel⟩
theorem c_Lfour {P : Program} {w : World} {K : PySem.W.Frag} {mg : Str → Option Value} {base : Heap} (M : FX K mg) : C8.Cal P w K mg base 8 "_law_four" (spA K (pw (f1 sFour))) [] := by
  obtain ⟨fd, F⟩ := M.said.def_ 64
  refine ⟨_, fd, ["_law_table_here"], [], (def_pure (j := 7) F sc_Lfour f1_len fun cdv A outer s H E hr => ⟨_, (pss_cons (ps_set (i := 1) sc_Lfour.nd rfl (by first | exact Or.inl rfl | exact Or.inr rfl) (pe_callB (call_len_anyK (K := K)) (by rfl) (M.free 61) PySem.boot_len (pa_cons (pv 0) pa_nil)))
      (pss_cons (ps_for PassesOwn.never rfl (pi_range1 rfl (M.free 62) (pa_cons (pv 1) pa_nil)) (pg_name (i := 2) sc_Lfour.nd rfl (by first | exact Or.inl rfl | exact Or.inr rfl))
        (pss_one (ps_for PassesOwn.never rfl (pi_range2 rfl (M.free 62) (pa_cons (pe_op (op_addAny M (ops M) hr) (pv 2) pe_int) (pa_cons (pv 1) pa_nil))) (pg_name (i := 3) sc_Lfour.nd rfl (by first | exact Or.inl rfl | exact Or.inr rfl))
          (pss_one (ps_for PassesOwn.never rfl (pi_range2 rfl (M.free 62) (pa_cons (pe_op (op_addAny M (ops M) hr) (pv 3) pe_int) (pa_cons (pv 1) pa_nil))) (pg_name (i := 4) sc_Lfour.nd rfl (by first | exact Or.inl rfl | exact Or.inr rfl))
            (pss_one (ps_for PassesOwn.never rfl (pi_range2 rfl (M.free 62) (pa_cons (pe_op (op_addAny M (ops M) hr) (pv 4) pe_int) (pa_cons (pv 1) pa_nil))) (pg_name (i := 5) sc_Lfour.nd rfl (by first | exact Or.inl rfl | exact Or.inr rfl))
              (pss_one (ps_if (pt_val (C8.pe_c (c_Ltree_holds M) hr (by decide) (by rfl) (pa_cons (pv 0) (pa_cons (pe_tup (pa_cons pe_str (pa_cons (pv 2) (pa_cons (pv 3) (pa_cons (pv 4) (pa_cons (pv 5) pa_nil)))))) pa_nil))))
                (pss_one (ps_ret pe_bl))
                pss_nil)))))))))
        (pss_one (ps_ret pe_bl)))), ?_⟩), M.glo 55, F.kp, F.bindsN fun _ _ _ _ _ _ us hl => match us, hl with | [_], _ => rfl, .nil⟩
  try dsimp only [cx_K]
  intro b0 Z bs d h hret
  obtain ⟨_, rfl, n, f, rfl, hf, rfl⟩ := h
  have hhi := hf.hi
  have hlen : ∀ {α : Type} (f : Nat → α), ((List.range n).map f).length = n := fun f => by rw [List.length_map, List.length_range]
  refine gs_seq (gs_set (ev_cb (ea_cons (ev_var (b := .dat (tabD n f)) rfl (ea_nil (rc_lenL (.inr ⟨_, rfl, rfl⟩) ?_))))))
  rw [List.length_map, hlen]
  have no : ∀ {q : Quad}, q ∈ quads n → abv f q = true → Ret K b0 Z (.bl false) := fun hq h => by
    have : fourB n f = false := by
      unfold fourB
      rw [List.all_eq_false]
      exact ⟨_, hq, by rw [h]; decide⟩
    rw [this] at hret
    exact hret
  let E : Option B → Option B → Option B → Option B → List (Option B) := fun w2 w3 w4 w5 => [some (.dat (tabD n f)), some (.dat (.int (n : Int))), w2, w3, w4, w5]
  refine nx_go (gs_seq (gs_forN1 (ea_cons (ev_var rfl (ea_nil ⟨n, rfl, by omega, fun x a => (∀ q ∈ quads n, q.1 < x → abv f q = false) ∧ ∃ w2 w3 w4 w5, a = ⟨E w2 w3 w4 w5, b0.mem⟩, ⟨fun q _ h => by omega, none, none, none, none, rfl⟩, ?_, ?_⟩)))))
  · rintro x _ hx ⟨h1, w2, w3, w4, w5, rfl⟩
    refine gg_name (gs_forN2 ?_)
    walk_at "mpR"
    refine ⟨x + 1, n, rfl, ⟨by omega, by omega⟩, fun y a => (∀ q ∈ quads n, q.1 = x → q.2.1 < y → abv f q = false) ∧ ∃ w3 w4 w5, a = ⟨E (some (.dat (.int (x : Int)))) w3 w4 w5, b0.mem⟩, ⟨fun q hq h h2 => by have := mem_quads.mp hq; omega, w3, w4, w5, rfl⟩, ?_, ?_⟩
    · rintro y _ hy1 hy ⟨h2, w3, w4, w5, rfl⟩
      refine gg_name (gs_forN2 ?_)
      walk_at "mpR"
      refine ⟨y + 1, n, rfl, ⟨by omega, by omega⟩, fun u a => (∀ q ∈ quads n, q.1 = x → q.2.1 = y → q.2.2.1 < u → abv f q = false) ∧ ∃ w4 w5, a = ⟨E (some (.dat (.int (x : Int)))) (some (.dat (.int (y : Int)))) w4 w5, b0.mem⟩, ⟨fun q hq h h2 h3 => by have := mem_quads.mp hq; omega, w4, w5, rfl⟩, ?_, ?_⟩
      · rintro u _ hu1 hu ⟨h3, w4, w5, rfl⟩
        refine gg_name (gs_forN2 ?_)
        walk_at "mpR"
        refine ⟨u + 1, n, rfl, ⟨by omega, by omega⟩, fun v a => (∀ q ∈ quads n, q.1 = x → q.2.1 = y → q.2.2.1 = u → q.2.2.2 < v → abv f q = false) ∧ ∃ w5, a = ⟨E (some (.dat (.int (x : Int)))) (some (.dat (.int (y : Int)))) (some (.dat (.int (u : Int)))) w5, b0.mem⟩, ⟨fun q hq h h2 h3 h4 => by have := mem_quads.mp hq; omega, w5, rfl⟩, ?_, ?_⟩
        · rintro v _ hv1 hv ⟨h4, w5, rfl⟩
          walk_at "mpR"
          refine ⟨_, ⟨_, _, rfl, n, f, pointsP (x, y, u, v), rfl, hf, rfl, psm_points, rfl⟩, ?_⟩
          rw [holds_points (by omega) (by omega) (by omega) (by omega)]
          have hmq : ((x, y, u, v) : Quad) ∈ quads n := mem_quads.mpr ⟨by show x < y; omega, by show y < u; omega, by show u < v; omega, by show v < n; omega⟩
          walk_at "mpR"
          refine ⟨fun hc => ?_, fun hc => ?_⟩
          · walk_at "mpR"
            exact (no hmq hc).go fun _ _ h => h
          · walk_at "mpR"
            refine nx_inv ⟨fun q hq e1 e2 e3 e4 => ?_, some (.dat (.int (v : Int))), rfl⟩
            by_cases e : q.2.2.2 < v
            · exact h4 q hq e1 e2 e3 e
            · have : q = (x, y, u, v) := by
                obtain ⟨a1, a2, a3, a4⟩ := q
                simp only at e1 e2 e3 e4 e
                have : a4 = v := by omega
                rw [e1, e2, e3, this]
              rw [this]
              exact hc
        · rintro _ ⟨h4, w5, rfl⟩
          refine nx_mk (nx_inv ⟨fun q hq e1 e2 e3 => ?_, _, _, rfl⟩)
          by_cases e : q.2.2.1 < u
          · exact h3 q hq e1 e2 e
          · exact h4 q hq e1 e2 (by omega) (mem_quads.mp hq).2.2.2
      · rintro _ ⟨h3, w4, w5, rfl⟩
        refine nx_mk (nx_inv ⟨fun q hq e1 e2 => ?_, _, _, _, rfl⟩)
        by_cases e : q.2.1 < y
        · exact h2 q hq e1 e
        · exact h3 q hq e1 (by omega) (by have := mem_quads.mp hq; omega)
    · rintro _ ⟨h2, w3, w4, w5, rfl⟩
      refine nx_mk (nx_inv ⟨fun q hq e1 => ?_, _, _, _, _, rfl⟩)
      by_cases e : q.1 < x
      · exact h1 q hq e
      · exact h2 q hq (by omega) (by have := mem_quads.mp hq; omega)
  · rintro _ ⟨h1, w2, w3, w4, w5, rfl⟩
    walk_at "mpR"
    have : fourB n f = true := fourB_iff.mpr fun q hq => h1 q hq (by have := mem_quads.mp hq; omega)
    rw [this] at hret
    exact hret.go fun _ _ h => h
/-! ### _law_many_edges -/
def trP (m : Nat) (es : List Edge) : D := .tup [.str "tree", .int (m : Int), .tup (es.map edgeD)]
def sMany : B → B → D → Prop := fun x y d => ∃ (n m : Nat) (es : List Edge), x = .dat (trP m es) ∧ y = .dat (.int (n : Int)) ∧ n ≤ m ∧ m ≤ 100 ∧ es.length ≤ 100 ∧ (∀ x, n ≤ x → x < m → 3 ≤ degF es (x : Int)) ∧ d = .bl true
theorem sc_Lmany_edges : FnScope ["_law_paper", "_law_n", "_law_x", "_law_edge"] ["_law_paper", "_law_n"] (defScope s_Lmany_edges) := ⟨rfl, rfl, rfl, by decide +kernel, rfl, by decide +kernel, by decide +kernel⟩
theorem c_Lmany_edges {P : Program} {w : World} {K : PySem.W.Frag} {mg : Str → Option Value} {base : Heap} (M : FX K mg) : C8.Cal P w K mg base 8 "_law_many_edges" (spA K (pw (f2 sMany))) [] := by
  obtain ⟨fd, F⟩ := M.said.def_ 66
  refine ⟨_, fd, ["_law_paper", "_law_n"], [], (def_pure (j := 7) F sc_Lmany_edges f2_len fun cdv A outer s H E hr => ⟨_, (pss_cons (ps_for PassesOwn.never rfl (pi_range2 rfl (M.free 62) (pa_cons (pv 1) (pa_cons (pe_ix (ix_seqK (K := K)) (pv 0) pe_int (fun _ _ => rfl)) pa_nil))) (pg_name (i := 2) sc_Lmany_edges.nd rfl (by first | exact Or.inl rfl | exact Or.inr rfl))
      (pss_one (ps_if (pt_cmpR (op_ltAny (K := K) hr) (pe_callB (call_len_anyK (K := K)) (by rfl) (M.free 61) PySem.boot_len (pa_cons (pe_lc (own := [("_law_edge", 3)]) (g := gName 3) (by rfl) sc_Lmany_edges.nd (pi_tupK (K := K) (pe_ix (ix_seqK (K := K)) (pv 0) pe_int (fun _ _ => rfl))) (by dsimp only [Cx.blk, Cx.nox, Cx.wish, cxOf, blk_sc, env_sc]; exact blkOk_by (by decide +kernel)) (fun _ _ _ _ _ => pg_name (i := 3) sc_Lmany_edges.nd rfl (by first | exact Or.inl rfl | exact Or.inr rfl)) (fun _ _ _ _ _ => pts_one (pt_cmpR (op_inAny M (ops M) hr) (pv 2) (pe_slice (sl_anyK (K := K)) (pv 3) po_none (po_some pe_int)) rfl)) (fun _ _ _ _ _ => (pv 3))) pa_nil)) pe_int (nomark _))
        (pss_one (ps_ret pe_bl))
        pss_nil)))
      (pss_one (ps_ret pe_bl))), ?_⟩), M.glo 57, F.kp, F.bindsN fun _ _ _ _ _ _ us hl => match us, hl with | [_, _], _ => rfl, .nil⟩
  try dsimp only [cx_K]
  intro b0 Z bs d h hret
  obtain ⟨_, _, rfl, n, m, es, rfl, rfl, hn, hm, he, hd, rfl⟩ := h
  have P1 : ∀ {a : AS} {kk : B → AS → Prop}, a.env[0]? = some (some (.dat (trP m es))) → kk (.dat (.int (m : Int))) a → EV K b0 (tOp (rIx K) (tVar 0) (tC (.int 1))) a kk := fun h hk => ev_op (ev_var h (ev_int (ro_ixT (atI_nat (n := 1) rfl) hk)))
  have P2 : ∀ {a : AS} {kk : B → AS → Prop}, a.env[0]? = some (some (.dat (trP m es))) → kk (.dat (.tup (es.map edgeD))) a → EV K b0 (tOp (rIx K) (tVar 0) (tC (.int 2))) a kk := fun h hk => ev_op (ev_var h (ev_int (ro_ixT (atI_nat (n := 2) rfl) hk)))
  refine gs_seq (gs_forN2 (ea_cons (ev_var rfl (ea_cons (P1 rfl (ea_nil ⟨n, m, rfl, ⟨hn, by omega⟩, fun x a => ∃ w2, a = ⟨[some (.dat (trP m es)), some (.dat (.int (n : Int))), w2, none], b0.mem⟩, ⟨none, rfl⟩, ?_, ?_⟩))))))
  · rintro x _ hx1 hx ⟨w2, rfl⟩
    refine gg_name (gs_if (et_test (ev_op (ev_cb (ea_cons (ev_lcFT (fun d => decide ((x : Int) ∈ [(edgeOf d).1, (edgeOf d).2.1])) (fun d => d) (by decide) (P2 rfl ⟨_, rfl, by rw [List.length_map]; omega, fun d mm hd _ => ?_, fun d mm hd _ _ => ?_, ?_⟩)))))))
    · obtain ⟨e, _, rfl⟩ := List.mem_map.mp hd
      walk_at "mpR"
      rw [cut_two]
      refine ro_inI (is := [e.1, e.2.1]) ?_
      walk_at "mpR"
      exact ⟨rfl, rfl⟩
    · walk_at "mpR"
      exact ⟨rfl, rfl⟩
    · walk_at "mpR"
      rw [List.map_id', List.filter_map, List.length_map]
      have h3 := hd x hx1 hx
      unfold degF at h3
      refine ⟨fun hc => ?_, fun hc => ?_⟩
      · have hc := of_decide_eq_true hc
        exfalso
        have : (((es.filter ((fun d => decide ((x : Int) ∈ [(edgeOf d).1, (edgeOf d).2.1])) ∘ edgeD)).length : Nat) : Int) < 3 := hc
        have e2 : ((fun d => decide ((x : Int) ∈ [(edgeOf d).1, (edgeOf d).2.1])) ∘ edgeD) = fun e : Edge => decide ((x : Int) ∈ [e.1, e.2.1]) := rfl
        rw [e2] at this
        omega
      · walk_at "mpR"
        exact nx_inv ⟨_, rfl⟩
  · rintro _ ⟨w2, rfl⟩
    walk_at "mpR"
    exact hret.go fun _ _ h => h
/-! ### more papers -/
def pTr : (Nat × List Edge) → B → Prop := fun i x => x = .dat (trP i.1 i.2) ∧ i.1 ≤ 100 ∧ i.2.length ≤ 20 ∧ esB6 i.2
def zPs {ι : Type} : ι → D → Prop := fun _ d => ∃ ps : List D, d = .lst ps ∧ ps.length ≤ 300 ∧ ∀ p ∈ ps, Psm p
theorem psm_edge {e : Edge} (h : Bd 12 BE e.2.2) : Psm (edgeD e) := ⟨trivial, trivial, (h.up 2 (by omega)).mono (by decide), trivial⟩
theorem psm_edges {es : List Edge} (h : esB6 es) : ∀ d ∈ es.map edgeD, Psm d := fun d hd => by
  obtain ⟨e, he, rfl⟩ := List.mem_map.mp hd
  exact psm_edge (h e he)
theorem psm_tr {m : Int} {ds : List D} (h : ∀ d ∈ ds, Psm d) : Psm (.tup [.str "tree", .int m, .tup ds]) := ⟨trivial, trivial, Psms.iff.mpr h, trivial⟩
theorem bd_half1 : Bd 24 BIG (Rat.divInt 1 2) := ⟨12, by rw [Rat.divInt_eq_div, Rat.divInt_eq_div]; decide +kernel, by decide⟩
theorem sc_Lleaves : FnScope ["_law_paper", "_law_n", "_law_m", "_law_edges", "_law_found", "_law_turn"] ["_law_paper", "_law_n"] (defScope s_Lleaves) := ⟨rfl, rfl, rfl, by decide +kernel, rfl, by decide +kernel, by decide +kernel⟩
theorem c_Lleaves {P : Program} {w : World} {K : PySem.W.Frag} {mg : Str → Option Value} {base : Heap} (M : FX K mg) : C8.Cal P w K mg base 6 "_law_leaves" (spP K (p2 (fun (i : Nat × Nat × List Edge) x y => pTr i.2 x ∧ y = .dat (.int (i.1 : Int)) ∧ i.1 ≤ 100 ∧ i.2.1 ≤ 2 * i.1)) (zPs)) [] := by
  obtain ⟨fd, F⟩ := M.said.def_ 65
  refine ⟨_, fd, ["_law_paper", "_law_n"], [], (def_pn (j := 5) F sc_Lleaves p2_len fun cdv A outer s H E hr => ⟨_, (pss_cons (ps_asg (pe_slice (sl_anyK (K := K)) (pv 0) (po_some pe_int) po_none) (pg_tup (n := 2) rfl (pgs_cons (pg_name (i := 2) sc_Lleaves.nd rfl (by first | exact Or.inl rfl | exact Or.inr rfl)) (pgs_cons (pg_name (i := 3) sc_Lleaves.nd rfl (by first | exact Or.inl rfl | exact Or.inr rfl)) pgs_nil))))
      (pss_cons (ps_set (i := 4) sc_Lleaves.nd rfl (by first | exact Or.inl rfl | exact Or.inr rfl) (pe_lst pa_nil))
        (pss_cons (ps_for PassesOwn.never rfl (pi_range1 rfl (M.free 62) (pa_cons (pe_op (op_subAny M (ops M) hr) (pe_op (op_addAny M (ops M) hr) (pe_op op_mulI pe_int (pv 1)) pe_int) (pv 2)) pa_nil)) (pg_name (i := 5) sc_Lleaves.nd rfl (by first | exact Or.inl rfl | exact Or.inr rfl))
          (pss_cons (ps_set (i := 3) sc_Lleaves.nd rfl (by first | exact Or.inl rfl | exact Or.inr rfl) (pe_op (op_addAny M (ops M) hr) (pv 3) (pe_tup (pa_cons (pe_tup (pa_cons pe_int (pa_cons (pv 2) (pa_cons (C8.pe_mk (mk_Ratio2 M) hr (by decide) (by rfl) (pa_cons pe_int (pa_cons pe_int pa_nil))) pa_nil)))) pa_nil))))
            (pss_cons (ps_set (i := 2) sc_Lleaves.nd rfl (by first | exact Or.inl rfl | exact Or.inr rfl) (pe_op (op_addAny M (ops M) hr) (pv 2) pe_int))
              (pss_one (ps_expr (pe_bm PySem.F.plainAttrs_list PySem.F.slot_list_append PySem.F.type_list_append mt_append (pv 4) (pa_cons (pe_tup (pa_cons pe_str (pa_cons (pv 2) (pa_cons (pv 3) pa_nil)))) pa_nil)))))))
          (pss_one (ps_ret (pv 4)))))), ?_⟩), M.glo 56, F.kp, F.bindsN fun _ _ _ _ _ _ us hl => match us, hl with | [_, _], _ => rfl, .nil⟩
  try dsimp only [cx_K]
  intro b0 Z ix bs h hret
  obtain ⟨n, m, es⟩ := ix
  obtain ⟨_, _, rfl, ⟨rfl, hm, he, hb⟩, rfl, hn, hmn⟩ := h
  have hm : m ≤ 100 := hm
  have he : es.length ≤ 20 := he
  have hn : n ≤ 100 := hn
  have hmn : m ≤ 2 * n := hmn
  have m1 : IntMulOk 2 (n : Int) := mul_ok (a := 2) (b := 10) (by decide) (by omega) (by omega)
  have hpe := psm_edges hb
  walk_at "mpR"
  rw [cut_tail]
  refine gg_tup (ds := [.int (m : Int), .tup (es.map edgeD)]) rfl (ggs_cons (gg_name (ggs_cons (gg_name (ggs_nil ?_)))))
  refine nx_go (gs_seq (gs_set (ev_lstM (ea_nil ⟨by simp, fun p hp0 hp => ?_⟩))))
  walk_at "mpR"
  have ek : (2 * (n : Int) + 1 - (m : Int)) = ((2 * n + 1 - m : Nat) : Int) := by omega
  refine ⟨2 * n + 1 - m, by rw [ek], by omega, fun i a => ∃ (ds : List D) (ps : List D) (w5 : Option B), (∀ d ∈ ds, Psm d) ∧ (∀ d ∈ ps, Psm d) ∧ ds.length = es.length + i ∧ ps.length = i ∧
    a = ⟨[some (.dat (trP m es)), some (.dat (.int (n : Int))), some (.dat (.int ((m + i : Nat) : Int))), some (.dat (.tup ds)), some (.ptr p), w5], mput b0.mem p (.lst (ps.map B.dat))⟩, ⟨es.map edgeD, [], none, hpe, fun d h => (by cases h), by simp, rfl, rfl⟩, ?_, ?_⟩
  · rintro i _ hi ⟨ds, ps, w5, h1, h2, h3, h4, rfl⟩
    refine gg_name (gs_seq (gs_set (ev_op (ev_var rfl (ev_tup1 (ev_tup3 ?_))))))
    walk_at "mpR"
    refine ev_mkR2 ?_
    walk_at "mpR"
    refine ⟨1, 2, rfl, by decide, by decide +kernel, ?_⟩
    refine ⟨_, rfl, _, rfl, ro_addT (by simp; omega) ?_⟩
    have hnew : ∀ d ∈ ds ++ [D.tup [.int 0, .int ((m + i : Nat) : Int), .rat (Rat.divInt 1 2)]], Psm d := fun d hd => by
      rcases List.mem_append.mp hd with hd | hd
      · exact h1 d hd
      · rw [List.mem_singleton] at hd
        subst hd
        exact ⟨trivial, trivial, bd_half1, trivial⟩
    refine nx_go (gs_seq (gs_set ?_))
    walk_at "mpR"
    refine ⟨by rw [List.length_map]; omega, ?_⟩
    have e1 : (((m + i : Nat) : Int) + 1) = ((m + (i + 1) : Nat) : Int) := by omega
    refine nx_inv ⟨ds ++ [D.tup [.int 0, .int ((m + i : Nat) : Int), .rat (Rat.divInt 1 2)]], ps ++ [.tup [.str "tree", .int ((m + (i + 1) : Nat) : Int), .tup (ds ++ [D.tup [.int 0, .int ((m + i : Nat) : Int), .rat (Rat.divInt 1 2)]])]], some (.dat (.int (i : Int))), hnew, fun d hd => ?_, by simp; omega, by simp; omega, ?_⟩
    · rcases List.mem_append.mp hd with hd | hd
      · exact h2 d hd
      · rw [List.mem_singleton] at hd
        subst hd
        exact psm_tr hnew
    · rw [List.map_append]
      simp only [AS.at, AS.put, mput_mput, e1]
      rfl
  · rintro _ ⟨ds, ps, w5, h1, h2, h3, h4, rfl⟩
    walk_at "mpR"
    refine rt_frz (d := .lst ps) hp mput_same ⟨_, rfl, rfl⟩ ((hret _ ⟨ps, rfl, by omega, h2⟩).go fun q c hq => ?_)
    show mdel (mput b0.mem p _) p q = _
    rw [mdel_mput hp]
    exact hq
theorem sc_Llonger : FnScope ["_law_paper", "_law_m", "_law_edges", "_law_x", "_law_y", "_law_length", "_law_half", "_law_one", "_law_two", "_law_three"] ["_law_paper"] (defScope s_Llonger) := ⟨rfl, rfl, rfl, by decide +kernel, rfl, by decide +kernel, by decide +kernel⟩
theorem c_Llonger {P : Program} {w : World} {K : PySem.W.Frag} {mg : Str → Option Value} {base : Heap} (M : FX K mg) : C8.Cal P w K mg base 6 "_law_longer" (spP K (p1 pTr) (zPs)) [] := by
  obtain ⟨fd, F⟩ := M.said.def_ 68
  refine ⟨_, fd, ["_law_paper"], [], (def_pn (j := 5) F sc_Llonger p1_len fun cdv A outer s H E hr => ⟨_, (pss_cons (ps_asg (pe_slice (sl_anyK (K := K)) (pv 0) (po_some pe_int) po_none) (pg_tup (n := 2) rfl (pgs_cons (pg_name (i := 1) sc_Llonger.nd rfl (by first | exact Or.inl rfl | exact Or.inr rfl)) (pgs_cons (pg_name (i := 2) sc_Llonger.nd rfl (by first | exact Or.inl rfl | exact Or.inr rfl)) pgs_nil))))
      (pss_cons (ps_if (pt_cmpR (op_eqAny M (ops M) hr) (pe_callB (call_len_anyK (K := K)) (by rfl) (M.free 61) PySem.boot_len (pa_cons (pv 2) pa_nil)) pe_int (nomark _))
        (pss_one (ps_ret (pe_lst pa_nil)))
        pss_nil)
        (pss_cons (ps_asg (pe_ix (ix_seqK (K := K)) (pv 2) pe_int (fun _ _ => rfl)) (pg_tup (n := 3) rfl (pgs_cons (pg_name (i := 3) sc_Llonger.nd rfl (by first | exact Or.inl rfl | exact Or.inr rfl)) (pgs_cons (pg_name (i := 4) sc_Llonger.nd rfl (by first | exact Or.inl rfl | exact Or.inr rfl)) (pgs_cons (pg_name (i := 5) sc_Llonger.nd rfl (by first | exact Or.inl rfl | exact Or.inr rfl)) pgs_nil)))))
          (pss_cons (ps_set (i := 6) sc_Llonger.nd rfl (by first | exact Or.inl rfl | exact Or.inr rfl) (C8.pe_mk (mk_Ratio2 M) hr (by decide) (by rfl) (pa_cons (pe_fldK (K := K) (pv 5) rfl) (pa_cons (pe_op op_mulI pe_int (pe_fldK (K := K) (pv 5) rfl)) pa_nil))))
            (pss_cons (ps_set (i := 7) sc_Llonger.nd rfl (by first | exact Or.inl rfl | exact Or.inr rfl) (pe_op (op_addAny M (ops M) hr) (pe_tup (pa_cons (pe_tup (pa_cons (pv 3) (pa_cons (pv 1) (pa_cons (pv 6) pa_nil)))) (pa_cons (pe_tup (pa_cons (pv 4) (pa_cons (pv 1) (pa_cons (pv 6) pa_nil)))) pa_nil))) (pe_slice (sl_anyK (K := K)) (pv 2) (po_some pe_int) po_none)))
              (pss_cons (ps_set (i := 8) sc_Llonger.nd rfl (by first | exact Or.inl rfl | exact Or.inr rfl) (pe_op (op_addAny M (ops M) hr) (pe_tup (pa_cons (pe_tup (pa_cons (pv 3) (pa_cons (pv 1) (pa_cons (pv 5) pa_nil)))) (pa_cons (pe_tup (pa_cons (pv 4) (pa_cons (pv 1) (pa_cons (pv 5) pa_nil)))) pa_nil))) (pe_slice (sl_anyK (K := K)) (pv 2) (po_some pe_int) po_none)))
                (pss_cons (ps_set (i := 9) sc_Llonger.nd rfl (by first | exact Or.inl rfl | exact Or.inr rfl) (pe_op (op_addAny M (ops M) hr) (pv 2) (pe_tup (pa_cons (pe_tup (pa_cons pe_int (pa_cons (pv 1) (pa_cons (C8.pe_mk (mk_Ratio1 M) hr (by decide) (by rfl) (pa_cons pe_int pa_nil)) pa_nil)))) pa_nil))))
                  (pss_one (ps_ret (pe_lst (pa_cons (pe_tup (pa_cons pe_str (pa_cons (pe_op (op_addAny M (ops M) hr) (pv 1) pe_int) (pa_cons (pv 7) pa_nil)))) (pa_cons (pe_tup (pa_cons pe_str (pa_cons (pe_op (op_addAny M (ops M) hr) (pv 1) pe_int) (pa_cons (pv 8) pa_nil)))) (pa_cons (pe_tup (pa_cons pe_str (pa_cons (pe_op (op_addAny M (ops M) hr) (pv 1) pe_int) (pa_cons (pv 9) pa_nil)))) (pa_cons (pe_tup (pa_cons pe_str (pa_cons (pv 1) (pa_cons (pv 7) pa_nil)))) (pa_cons (pe_tup (pa_cons pe_str (pa_cons (pe_op (op_addAny M (ops M) hr) (pv 1) pe_int) (pa_cons (pv 2) pa_nil)))) pa_nil))))))))))))))), ?_⟩), M.glo 59, F.kp, F.bindsN fun _ _ _ _ _ _ us hl => match us, hl with | [_], _ => rfl, .nil⟩
  try dsimp only [cx_K]
  intro b0 Z ix bs h hret
  obtain ⟨m, es⟩ := ix
  obtain ⟨_, rfl, rfl, hm, he, hb⟩ := h
  have hm : m ≤ 100 := hm
  have he : es.length ≤ 20 := he
  have hpe := psm_edges hb
  walk_at "mpR"
  rw [cut_tail]
  refine gg_tup (ds := [.int (m : Int), .tup (es.map edgeD)]) rfl (ggs_cons (gg_name (ggs_cons (gg_name (ggs_nil ?_)))))
  refine nx_go ?_
  walk_at "mpR"
  refine ⟨fun hc => ?_, fun hc => ?_⟩
  · refine gs_ret (ev_lst0 ?_)
    exact (hret _ ⟨[], rfl, by simp, fun p h => (by cases h)⟩).go fun _ _ h => h
  · cases es with
    | nil => simp at hc
    | cons e es =>
      obtain ⟨x, y, l⟩ := e
      have hbl : Bd 12 BE l := hb (x, y, l) (List.mem_cons_self ..)
      have wl : Wee l := hbl.wee6 (by decide)
      have m1 : IntMulOk 2 (l.den : Int) := mul_ok (a := 2) (b := 3000) (by decide) (by rw [Int.natAbs_natCast]; exact wl.2) (by omega)
      have hle : (((x, y, l) :: es).map edgeD).length ≤ 20 := by rw [List.length_map]; exact he
      refine gs_next (nx_go (gs_seq (gs_asg (ev_op (ev_var rfl (ev_int (ro_ixT (d := edgeD (x, y, l)) (atI_nat (n := 0) rfl) ?_)))))))
      refine gg_tup (ds := [.int x, .int y, .rat l]) rfl (ggs_cons (gg_name (ggs_cons (gg_name (ggs_cons (gg_name (ggs_nil ?_)))))))
      refine nx_go (gs_seq (gs_set (ev_mkR2 ?_)))
      walk_at "mpR"
      refine ⟨_, _, rfl, by have := l.den_pos; omega, ?_, ?_⟩
      · rw [Int.natAbs_mul, Int.natAbs_natCast]
        refine Nat.lt_of_lt_of_le (Nat.mul_lt_mul_of_lt_of_lt (show (2 : Int).natAbs < 2 ^ 2 by decide) wl.2) ?_
        rw [← Nat.pow_add]
        exact Nat.pow_le_pow_right (by omega) (by omega)
      rw [half_eq]
      have hh : Bd 24 BIG (l / 2) := hbl.half.mono (by decide)
      have hl24 : Bd 24 BIG l := (hbl.up 2 (by omega)).mono (by decide)
      have hps : ∀ d ∈ es.map edgeD, Psm d := fun d hd => hpe d (List.mem_cons_of_mem _ hd)
      have tail : cutG (((x, y, l) :: es).map edgeD) (some 1) none = es.map edgeD := cut_tail _ _
      have hle2 : (es.map edgeD).length ≤ 20 := by simp at hle ⊢; omega
      have h2 : ∀ {q : Rat}, Bd 24 BIG q → ∀ d ∈ [D.tup [.int x, .int (m : Int), .rat q], .tup [.int y, .int (m : Int), .rat q]] ++ es.map edgeD, Psm d := fun hq d hd => by
        rcases List.mem_append.mp hd with hd | hd
        · simp only [List.mem_cons, List.not_mem_nil, or_false] at hd
          rcases hd with rfl | rfl <;> exact ⟨trivial, trivial, hq, trivial⟩
        · exact hps d hd
      refine nx_go (gs_seq (gs_set (ev_op (ev_tup2 ?_))))
      walk_at "mpR"
      rw [tail]
      refine ro_addT (by simp at hle2 ⊢; omega) ?_
      refine nx_go (gs_seq (gs_set (ev_op (ev_tup2 ?_))))
      walk_at "mpR"
      rw [tail]
      refine ro_addT (by simp at hle2 ⊢; omega) ?_
      refine nx_go (gs_seq (gs_set (ev_op (ev_var rfl (ev_tup1 (ev_tup3 ?_))))))
      walk_at "mpR"
      refine ev_mkR1 ?_
      walk_at "mpR"
      refine ro_addT (by simp at hle ⊢; omega) ?_
      have h3 : ∀ d ∈ (((x, y, l) :: es).map edgeD) ++ [D.tup [.int 0, .int (m : Int), .rat ((1 : Int) : Rat)]], Psm d := fun d hd => by
        rcases List.mem_append.mp hd with hd | hd
        · exact hpe d hd
        · rw [List.mem_singleton] at hd
          subst hd
          exact ⟨trivial, trivial, Bd.int (by omega) (by decide), trivial⟩
      refine nx_go (gs_ret (ev_lst5 ?_))
      walk_at "mpR"
      refine (hret _ ⟨_, rfl, by simp, fun p hp => ?_⟩).go fun _ _ h => h
      simp only [List.mem_cons, List.not_mem_nil, or_false] at hp
      rcases hp with rfl | rfl | rfl | rfl | rfl
      · exact psm_tr (h2 hh)
      · exact psm_tr (h2 hl24)
      · exact psm_tr h3
      · exact psm_tr (h2 hh)
      · exact psm_tr hpe
end MP
/-! MSN -/
set_option exponentiation.threshold 10000
/-! _law_other, _law_bend -/
namespace MP
open PySem PySem.Spec PyProof.Rows L2

/-! ### what t changes may have made of a paper -/
abbrev BN (t : Nat) : Nat := 2 ^ 50 + 100 * t
mutual
def Psn (t : Nat) : D → Prop
  | .rat q => Bd 24 (BN t) q
  | .tup ds => ds.length ≤ 100 + t ∧ Psns t ds
  | .lst ds => Psns t ds
  | .ro _ => False
  | .obj _ _ _ => False
  | .dct _ _ => False
  | .non => True
  | .bl _ => True
  | .int _ => True
  | .str _ => True
def Psns (t : Nat) : List D → Prop
  | [] => True
  | d :: ds => Psn t d ∧ Psns t ds
end
theorem Psns.iff {t : Nat} : ∀ {ds : List D}, Psns t ds ↔ ∀ d ∈ ds, Psn t d
  | [] => ⟨fun _ d h => (nomatch h), fun _ => trivial⟩
  | d :: ds => by
    show Psn t d ∧ Psns t ds ↔ _
    rw [Psns.iff]
    constructor
    · rintro ⟨h1, h2⟩ x hx
      rcases List.mem_cons.mp hx with rfl | hx
      · exact h1
      · exact h2 x hx
    · exact fun h => ⟨h d (List.mem_cons_self ..), fun x hx => h x (List.mem_cons_of_mem _ hx)⟩
mutual
theorem Psn.mono {t u : Nat} (h : t ≤ u) : ∀ {d : D}, Psn t d → Psn u d
  | .rat q, p => Bd.mono (show Bd 24 (BN t) q from p) (by show 2 ^ 50 + 100 * t ≤ 2 ^ 50 + 100 * u; omega)
  | .tup ds, p => ⟨by have := p.1; omega, Psns.mono h p.2⟩
  | .lst ds, p => Psns.mono h (show Psns t ds from p)
  | .ro _, p => False.elim p
  | .obj _ _ _, p => False.elim p
  | .dct _ _, p => False.elim p
  | .non, _ => trivial
  | .bl _, _ => trivial
  | .int _, _ => trivial
  | .str _, _ => trivial
theorem Psns.mono {t u : Nat} (h : t ≤ u) : ∀ {ds : List D}, Psns t ds → Psns u ds
  | [], _ => trivial
  | d :: ds, p => ⟨Psn.mono h p.1, Psns.mono h p.2⟩
end
mutual
theorem Psn.psm {t : Nat} (h : t ≤ 1000) : ∀ {d : D}, Psn t d → Psm d
  | .rat q, p => Bd.mono (show Bd 24 (BN t) q from p) (by show 2 ^ 50 + 100 * t ≤ 2 ^ 70; omega)
  | .tup ds, p => Psns.psm h p.2
  | .lst ds, p => Psns.psm h (show Psns t ds from p)
  | .ro _, p => False.elim p
  | .obj _ _ _, p => False.elim p
  | .dct _ _, p => False.elim p
  | .non, _ => trivial
  | .bl _, _ => trivial
  | .int _, _ => trivial
  | .str _, _ => trivial
theorem Psns.psm {t : Nat} (h : t ≤ 1000) : ∀ {ds : List D}, Psns t ds → Psms ds
  | [], _ => trivial
  | d :: ds, p => ⟨Psn.psm h p.1, Psns.psm h p.2⟩
end
theorem Psn.tup {t : Nat} {ds : List D} (h : Psn t (.tup ds)) : ∀ d ∈ ds, Psn t d := Psns.iff.mp h.2
section
variable {K : PySem.W.Frag} {b0 : Ba} {a : AS} {Z : Ends} {t u : TS}
/-- a test that changes nothing, what it guards hands back -/
theorem gs_skip {c : TT} (h : ET K b0 c a fun b a1 => a1 = a ∧ (b = true → GS K b0 t { Z with nx := u Z } a)) (hn : GS K b0 u Z a) : GS K b0 (tSeq (tIfS c t tNext) u) Z a :=
  gs_seq (gs_if fun σ H Q R q => h σ H Q R fun b H' a1 ⟨e, h1⟩ R' e' => q b H' a1 (by subst e; exact ⟨h1, fun _ => gs_next hn⟩) R' e')
theorem mput_self {m : Ms} {p : Addr} {c : C} (h : m p = some c) : mput m p c = m := by
  funext b
  unfold mput
  split
  · rename_i e; rw [e, h]
  · rfl
end
abbrev OtI := Addr × C × Nat × D × Nat
def pOth : OtI → B → B → B → Ms → Prop := fun i x y z m => x = .ptr i.1 ∧ y = .dat (.int (i.2.2.1 : Int)) ∧ z = .dat i.2.2.2.1 ∧ m i.1 = some i.2.1 ∧ StC i.2.1 ∧ i.2.2.1 ≤ 100 ∧ Psn i.2.2.2.2 i.2.2.2.1 ∧ i.2.2.2.2 ≤ 100
def zOth : OtI → D → Prop := fun i d => Psn (i.2.2.2.2 + 1) d
theorem bd_inv {k : Int} {v : Nat} {t : Nat} (hk : k.natAbs ≤ 100) (hv : v < 2) : Bd 24 (BN t) (Rat.divInt k (1 + (v : Int))) := by
  rcases (by omega : v = 0 ∨ v = 1) with rfl | rfl
  · refine ⟨k * 24, ?_, ?_⟩
    · show Rat.divInt k 1 = Rat.divInt (k * 24) (1 * 24)
      rw [Rat.divInt_mul_right (by decide)]
    · rw [Int.natAbs_mul]
      show k.natAbs * 24 ≤ 2 ^ 50 + 100 * t
      omega
  · refine ⟨k * 12, ?_, ?_⟩
    · show Rat.divInt k 2 = Rat.divInt (k * 12) (2 * 12)
      rw [Rat.divInt_mul_right (by decide)]
    · rw [Int.natAbs_mul]
      show k.natAbs * 12 ≤ 2 ^ 50 + 100 * t
      omega
theorem bd_inv1 {v : Nat} (hv : v < 2) : Bd 24 24 (Rat.divInt 1 (1 + (v : Int))) := by
  rcases (by omega : v = 0 ∨ v = 1) with rfl | rfl
  · exact ⟨24, by rw [Rat.divInt_eq_div, Rat.divInt_eq_div]; decide +kernel, by decide⟩
  · exact ⟨12, by rw [Rat.divInt_eq_div, Rat.divInt_eq_div]; decide +kernel, by decide⟩
theorem bdN_wee {t : Nat} {q : Rat} (ht : t ≤ 1000) (h : Bd 24 (BN t) q) : Wee q := h.wee (by omega) (Nat.lt_of_lt_of_le (by decide : 24 < 2 ^ 5) (Nat.pow_le_pow_right (by omega) (by omega))) (Nat.lt_of_lt_of_le (by show 2 ^ 50 + 100 * t < 2 ^ 60; omega) (Nat.pow_le_pow_right (by omega) (by omega)))
theorem cutG_sub {α : Type} {xs : List α} {lo hi : Option Int} : ∀ d ∈ cutG xs lo hi, d ∈ xs := fun d h => List.mem_of_mem_drop (List.mem_of_mem_take h)
theorem cutG_len {α : Type} {xs : List α} {lo hi : Option Int} : (cutG xs lo hi).length ≤ xs.length := by
  unfold cutG
  rw [List.length_take, List.length_drop]
  omega
theorem lt12 {p : Addr → Prop} : True := trivial
def kinds : List D := [.str "tree", .str "points", .str "levels", .str "cuts", .str "functional", .str "euclid", .str "vector", .str "isometric", .str "unlike", .str "splits", .bl true, .bl false]
theorem kinds_at {v : Nat} (h : v < 12) : ∃ d, kinds[v]? = some d ∧ ∀ t, Psn t d := by
  have hl : v < kinds.length := h
  refine ⟨kinds[v], List.getElem?_eq_getElem hl, fun t => ?_⟩
  have hm : kinds[v] ∈ kinds := List.getElem_mem hl
  simp only [kinds, List.mem_cons, List.not_mem_nil, or_false] at hm
  rcases hm with e | e | e | e | e | e | e | e | e | e | e | e <;> (rw [show kinds[v] = _ from e]; trivial)
theorem sc_Lother : FnScope ["_law_state_here", "_law_n", "_law_data", "_law_k"] ["_law_state_here", "_law_n", "_law_data"] (defScope s_Lother) := ⟨rfl, rfl, rfl, by decide +kernel, rfl, by decide +kernel, by decide +kernel⟩
theorem c_Lother {P : Program} {w : World} {K : PySem.W.Frag} {mg : Str → Option Value} {base : Heap} (M : FX K mg) : C8.Cal P w K mg base 6 "_law_other" (spN K (n3 pOth) (zS (fun i => i.1) zOth)) [] := by
  obtain ⟨fd, F⟩ := M.said.def_ 60
  refine ⟨_, fd, ["_law_state_here", "_law_n", "_law_data"], [], (def_non (j := 5) F sc_Lother n3_len fun cdv A outer s H E hr => ⟨_, (pss_cons (ps_set (i := 3) sc_Lother.nd rfl (by first | exact Or.inl rfl | exact Or.inr rfl) (C8.pe_c (c_Ltake M) hr (by decide) (by rfl) (pa_cons (pv 0) (pa_cons pe_int pa_nil))))
      (pss_cons (ps_if (pt_cmpR (op_eqAny M (ops M) hr) (pv 3) pe_int (nomark _))
        (pss_one (ps_ret (pe_tup pa_nil)))
        pss_nil)
        (pss_cons (ps_if (pt_cmpR (op_eqAny M (ops M) hr) (pv 3) pe_int (nomark _))
          (pss_one (ps_ret (pe_op (op_subAny M (ops M) hr) (C8.pe_c (c_Ltake M) hr (by decide) (by rfl) (pa_cons (pv 0) (pa_cons (pe_op (op_addAny M (ops M) hr) (pv 1) pe_int) pa_nil))) pe_int)))
          pss_nil)
          (pss_cons (ps_if (pt_cmpR (op_eqAny M (ops M) hr) (pv 3) pe_int (nomark _))
            (pss_one (ps_ret (C8.pe_mk (mk_Ratio2 M) hr (by decide) (by rfl) (pa_cons (pe_op (op_subAny M (ops M) hr) (C8.pe_c (c_Ltake M) hr (by decide) (by rfl) (pa_cons (pv 0) (pa_cons pe_int pa_nil))) pe_int) (pa_cons (pe_op (op_addAny M (ops M) hr) pe_int (C8.pe_c (c_Ltake M) hr (by decide) (by rfl) (pa_cons (pv 0) (pa_cons pe_int pa_nil)))) pa_nil)))))
            pss_nil)
            (pss_cons (ps_if (PW.pt (pw_and (pt_cmpR (op_eqAny M (ops M) hr) (pv 3) pe_int (nomark _)) (pw_and1 (pt_val (pe_callB (call_isiK' (K := K)) (by rfl) (M.free 63) (by decide +kernel) (pa_cons (pv 2) (pa_cons (pe_glob (v := .ref (He.ga K "Ratio")) rfl (M.glo 1) rfl) pa_nil)))))))
              (pss_one (ps_ret (pe_op (op_addAny M (ops M) hr) (pv 2) (C8.pe_mk (mk_Ratio2 M) hr (by decide) (by rfl) (pa_cons pe_int (pa_cons (pe_op (op_addAny M (ops M) hr) pe_int (C8.pe_c (c_Ltake M) hr (by decide) (by rfl) (pa_cons (pv 0) (pa_cons pe_int pa_nil)))) pa_nil))))))
              pss_nil)
              (pss_cons (ps_if (PW.pt (pw_and (pt_cmpR (op_eqAny M (ops M) hr) (pv 3) pe_int (nomark _)) (pw_and1 (pt_val (pe_callB (call_isiK' (K := K)) (by rfl) (M.free 63) (by decide +kernel) (pa_cons (pv 2) (pa_cons (pe_glob (v := .ref (He.ga K "Ratio")) rfl (M.glo 1) rfl) pa_nil)))))))
                (pss_one (ps_ret (pe_fldK (K := K) (pv 2) rfl)))
                pss_nil)
                (pss_cons (ps_if (PW.pt (pw_and (pt_cmpR (op_eqAny M (ops M) hr) (pv 3) pe_int (nomark _)) (pw_and1 (pt_val (pe_callB (call_isiK' (K := K)) (by rfl) (M.free 63) (by decide +kernel) (pa_cons (pv 2) (pa_cons (pe_glob (v := .ref (He.ga K "Ratio")) rfl (M.glo 1) rfl) pa_nil)))))))
                  (pss_one (ps_ret (pe_un (un_negR M (ops M) hr) (pv 2))))
                  pss_nil)
                  (pss_cons (ps_if (PW.pt (pw_and (pt_cmpR (op_eqAny M (ops M) hr) (pv 3) pe_int (nomark _)) (pw_and (pt_val (pe_callB (call_isiK' (K := K)) (by rfl) (M.free 63) (by decide +kernel) (pa_cons (pv 2) (pa_cons (pe_bltn (v := .ty "int") rfl (M.free 64) (by decide +kernel) rfl) pa_nil)))) (pw_and1 (pt_not (pt_val (pe_callB (call_isiK' (K := K)) (by rfl) (M.free 63) (by decide +kernel) (pa_cons (pv 2) (pa_cons (pe_bltn (v := .ty "bool") rfl (M.free 65) (by decide +kernel) rfl) pa_nil)))))))))
                    (pss_one (ps_ret (pe_op (op_addAny M (ops M) hr) (pv 2) pe_int)))
                    pss_nil)
                    (pss_cons (ps_if (PW.pt (pw_and (pt_cmpR (op_eqAny M (ops M) hr) (pv 3) pe_int (nomark _)) (pw_and1 (pt_val (pe_callB (call_isiK' (K := K)) (by rfl) (M.free 63) (by decide +kernel) (pa_cons (pv 2) (pa_cons (pe_bltn (v := .ty "tuple") rfl (M.free 66) (by decide +kernel) rfl) pa_nil)))))))
                      (pss_one (ps_ret (pe_callTy (T := "list") (call_list_ofK (K := K)) (by rfl) (M.free 67) (by decide +kernel) (pa_cons (pv 2) pa_nil))))
                      pss_nil)
                      (pss_cons (ps_if (PW.pt (pw_and (pt_cmpR (op_eqAny M (ops M) hr) (pv 3) pe_int (nomark _)) (pw_and1 (pt_val (pe_callB (call_isiK' (K := K)) (by rfl) (M.free 63) (by decide +kernel) (pa_cons (pv 2) (pa_cons (pe_bltn (v := .ty "tuple") rfl (M.free 66) (by decide +kernel) rfl) pa_nil)))))))
                        (pss_one (ps_ret (pe_slice (sl_anyK (K := K)) (pv 2) po_none (po_some (pe_un un_neg pe_int)))))
                        pss_nil)
                        (pss_cons (ps_if (PW.pt (pw_and (pt_cmpR (op_eqAny M (ops M) hr) (pv 3) pe_int (nomark _)) (pw_and1 (pt_val (pe_callB (call_isiK' (K := K)) (by rfl) (M.free 63) (by decide +kernel) (pa_cons (pv 2) (pa_cons (pe_bltn (v := .ty "tuple") rfl (M.free 66) (by decide +kernel) rfl) pa_nil)))))))
                          (pss_one (ps_ret (pe_op (op_addAny M (ops M) hr) (pv 2) (pe_slice (sl_anyK (K := K)) (pv 2) po_none (po_some pe_int)))))
                          pss_nil)
                          (pss_cons (ps_if (PW.pt (pw_and (pt_cmpR (op_eqAny M (ops M) hr) (pv 3) pe_int (nomark _)) (pw_and1 (pt_val (pe_callB (call_isiK' (K := K)) (by rfl) (M.free 63) (by decide +kernel) (pa_cons (pv 2) (pa_cons (pe_bltn (v := .ty "tuple") rfl (M.free 66) (by decide +kernel) rfl) pa_nil)))))))
                            (pss_one (ps_ret (pe_revT (pv 2))))
                            pss_nil)
                            (pss_cons (ps_if (pt_cmpR (op_eqAny M (ops M) hr) (pv 3) pe_int (nomark _))
                              (pss_one (ps_ret (pe_ix (ix_seqK (K := K)) (pe_lst (pa_cons pe_str (pa_cons pe_str (pa_cons pe_str (pa_cons pe_str (pa_cons pe_str (pa_cons pe_str (pa_cons pe_str (pa_cons pe_str (pa_cons pe_str (pa_cons pe_str (pa_cons pe_bl (pa_cons pe_bl pa_nil))))))))))))) (C8.pe_c (c_Ltake M) hr (by decide) (by rfl) (pa_cons (pv 0) (pa_cons pe_int pa_nil))) (fun _ _ => rfl))))
                              pss_nil)
                              (pss_one (ps_ret pe_non))))))))))))))), ?_⟩), M.glo 51, F.kp, F.bindsN fun _ _ _ _ _ _ us hl => match us, hl with | [_, _, _], _ => rfl, .nil⟩
  try dsimp only [cx_K]
  intro b0 Z ix bs h hret
  obtain ⟨sp, c, n, data, t⟩ := ix
  obtain ⟨_, _, _, rfl, rfl, rfl, rfl, hp, hc, hn, hd, ht⟩ := h
  have hp : b0.mem sp = some c := hp
  have hc : StC c := hc
  have hn : n ≤ 100 := hn
  have hd : Psn t data := hd
  have ht : t ≤ 100 := ht
  have hdm : Psm data := hd.psm (by omega)
  have ho : okD data := hdm.ok
  refine gs_seq (gs_set (ev_take ?_))
  walk_at "mpR"
  refine ⟨sp, c, 13, rfl, rfl, hp, hc, by omega, by omega, fun kv c1 hkv hc1 => ?_⟩
  have fin : ∀ {d : D} {cc : C} {m : Ms} {e : List (Option B)}, Psn (t + 1) d → StC cc → (∀ z, m z = b0.mem z ∨ z = sp) → m sp = some cc → RT K b0 Z.rt (.dat d) ⟨e, m⟩ := fun {d cc m e} hq hcc hm' hs => by
    refine zS.go hret hcc hq hs fun z x hz hzs => ?_
    rcases hm' z with e | e
    · exact e.trans hz
    · exact absurd e hzs
  have mp1 : ∀ (cc : C) (z : Addr), mput b0.mem sp cc z = b0.mem z ∨ z = sp := fun cc z => by
    by_cases e : z = sp
    · exact .inr e
    · left; rw [mput_ne e]
  have mp2 : ∀ (c1 cc : C) (z : Addr), mput (mput b0.mem sp c1) sp cc z = b0.mem z ∨ z = sp := fun c1 cc z => by
    rw [mput_mput]
    exact mp1 cc z
  have mp3 : ∀ (c1 c2 cc : C) (z : Addr), mput (mput (mput b0.mem sp c1) sp c2) sp cc z = b0.mem z ∨ z = sp := fun c1 c2 cc z => by
    rw [mput_mput, mput_mput]
    exact mp1 cc z
  have hms : mput b0.mem sp c1 sp = some c1 := mput_same
  have up : ∀ {d : D}, Psn t d → Psn (t + 1) d := fun h => h.mono (Nat.le_succ _)
  refine nx_go (gs_skip ?_ ?_)
  · walk_at "mpR"
    refine ⟨rfl, fun _ => ?_⟩
    refine gs_ret (ev_tup0 ?_)
    exact fin ⟨by simp, trivial⟩ hc1 (mp1 c1) hms
  refine gs_skip ?_ ?_
  · walk_at "mpR"
    refine ⟨rfl, fun _ => ?_⟩
    refine gs_ret (ev_op (ev_take ?_))
    walk_at "mpR"
    refine ⟨by show 0 < n + 3; omega, by show n + 3 ≤ 100000; omega, fun v c2 hv hc2 => ?_⟩
    walk_at "mpR"
    exact fin trivial hc2 (mp2 c1 c2) mput_same
  refine gs_skip ?_ ?_
  · walk_at "mpR"
    refine ⟨rfl, fun _ => ?_⟩
    refine gs_ret (ev_mkR2 (ea_cons (ev_op (ev_take ?_))))
    walk_at "mpR"
    refine ⟨by decide, by decide, fun v c2 hv hc2 => ?_⟩
    refine ev_int (ro_subI (ea_cons (ev_op (ev_int (ev_take ?_)))))
    walk_at "mpR"
    refine ⟨by decide, by decide, fun v2 c3 hv2 hc3 => ?_⟩
    have hv : v < 5 := hv
    have hv2 : v2 < 2 := hv2
    refine ro_addI (ea_nil ⟨_, _, rfl, by omega, Nat.lt_of_lt_of_le (by omega : (1 + (v2 : Int)).natAbs < 2 ^ 3) (Nat.pow_le_pow_right (by omega) (by omega)), ?_⟩)
    exact fin (bd_inv (by omega) hv2) hc3 (mp3 c1 c2 c3) mput_same
  refine gs_skip ?_ ?_
  · walk_at "mpR"
    refine ⟨fun _ => ?_, fun _ => ⟨rfl, fun h => (by cases h)⟩⟩
    walk_at "mpR"
    refine ⟨rfl, fun hr => ?_⟩
    cases data with
    | rat q =>
      refine gs_ret (ev_op (ev_var rfl (ev_mkR2 (ea_cons (ev_int (ea_cons (ev_op (ev_int (ev_take ?_)))))))))
      walk_at "mpR"
      refine ⟨by decide, by decide, fun v2 c3 hv2 hc3 => ?_⟩
      have hv2 : v2 < 2 := hv2
      have hb1 := bd_inv1 hv2
      have hb : Bd 24 (BN t) q := hd
      refine ro_addI (ea_nil ⟨_, _, rfl, by omega, Nat.lt_of_lt_of_le (by omega : (1 + (v2 : Int)).natAbs < 2 ^ 3) (Nat.pow_le_pow_right (by omega) (by omega)), ?_⟩)
      refine ro_addR (bdN_wee (by omega) hb) (bdN_wee (t := 0) (by omega) (hb1.mono (by decide))) ?_
      exact fin ((hb.add hb1).mono (by show 2 ^ 50 + 100 * t + 24 ≤ 2 ^ 50 + 100 * (t + 1); omega)) hc3 (mp2 c1 c3) mput_same
    | _ => cases hr
  refine gs_skip ?_ ?_
  · walk_at "mpR"
    refine ⟨fun _ => ?_, fun _ => ⟨rfl, fun h => (by cases h)⟩⟩
    walk_at "mpR"
    refine ⟨rfl, fun hr => ?_⟩
    cases data with
    | rat q =>
      walk_at "mpR"
      exact fin trivial hc1 (mp1 c1) hms
    | _ => cases hr
  refine gs_skip ?_ ?_
  · walk_at "mpR"
    refine ⟨fun _ => ?_, fun _ => ⟨rfl, fun h => (by cases h)⟩⟩
    walk_at "mpR"
    refine ⟨rfl, fun hr => ?_⟩
    cases data with
    | rat q =>
      have hb : Bd 24 (BN t) q := hd
      refine gs_ret (ev_negR (ev_var rfl ⟨q, rfl, bdN_wee (by omega) hb, ?_⟩))
      exact fin (up (show Psn t (.rat (-q)) from hb.neg)) hc1 (mp1 c1) hms
    | _ => cases hr
  refine gs_skip ?_ ?_
  · walk_at "mpR"
    refine ⟨fun _ => ?_, fun _ => ⟨rfl, fun h => (by cases h)⟩⟩
    walk_at "mpR"
    refine ⟨fun hi => ?_, fun _ => ⟨rfl, fun h => (by cases h)⟩⟩
    walk_at "mpR"
    refine ⟨rfl, fun hb => ?_⟩
    cases data with
    | int z =>
      walk_at "mpR"
      exact fin trivial hc1 (mp1 c1) hms
    | bl b => cases hb
    | _ => cases hi
  refine gs_skip ?_ ?_
  · walk_at "mpR"
    refine ⟨fun _ => ?_, fun _ => ⟨rfl, fun h => (by cases h)⟩⟩
    walk_at "mpR"
    refine ⟨rfl, fun hr => ?_⟩
    cases data with
    | tup ds =>
      refine gs_ret (ev_cb (ea_cons (ev_var rfl (ea_nil (rc_listD (ds := ds) (.inr rfl) ?_)))))
      exact fin (show Psn (t + 1) (.lst ds) from (up hd).2) hc1 (mp1 c1) hms
    | _ => cases hr
  refine gs_skip ?_ ?_
  · walk_at "mpR"
    refine ⟨fun _ => ?_, fun _ => ⟨rfl, fun h => (by cases h)⟩⟩
    walk_at "mpR"
    refine ⟨rfl, fun hr => ?_⟩
    cases data with
    | tup ds =>
      walk_at "mpR"
      refine fin ⟨Nat.le_trans cutG_len (by have := hd.1; omega), Psns.iff.mpr fun d h => up (hd.tup d (cutG_sub d h))⟩ hc1 (mp1 c1) hms
    | _ => cases hr
  refine gs_skip ?_ ?_
  · walk_at "mpR"
    refine ⟨fun _ => ?_, fun _ => ⟨rfl, fun h => (by cases h)⟩⟩
    walk_at "mpR"
    refine ⟨rfl, fun hr => ?_⟩
    cases data with
    | tup ds =>
      walk_at "mpR"
      have hl := hd.1
      have e1 : cutG ds none (some 1) = ds.take 1 := cut_to ds 1
      rw [e1]
      refine ro_addT (by rw [List.length_take]; omega) ?_
      refine fin ⟨by rw [List.length_append, List.length_take]; omega, Psns.iff.mpr fun d h => ?_⟩ hc1 (mp1 c1) hms
      rcases List.mem_append.mp h with h | h
      · exact up (hd.tup d h)
      · exact up (hd.tup d (List.mem_of_mem_take h))
    | _ => cases hr
  refine gs_skip ?_ ?_
  · walk_at "mpR"
    refine ⟨fun _ => ?_, fun _ => ⟨rfl, fun h => (by cases h)⟩⟩
    walk_at "mpR"
    refine ⟨rfl, fun hr => ?_⟩
    cases data with
    | tup ds =>
      walk_at "mpR"
      refine fin ⟨by rw [List.length_reverse]; have := hd.1; omega, Psns.iff.mpr fun d h => up (hd.tup d (List.mem_reverse.mp h))⟩ hc1 (mp1 c1) hms
    | _ => cases hr
  refine gs_skip ?_ ?_
  · walk_at "mpR"
    refine ⟨rfl, fun _ => ?_⟩
    refine gs_ret (ev_op (ev_lstD (ea_cons (ev_str (ea_cons (ev_str (ea_cons (ev_str (ea_cons (ev_str (ea_cons (ev_str (ea_cons (ev_str (ea_cons (ev_str (ea_cons (ev_str (ea_cons (ev_str (ea_cons (ev_str (ea_cons (ev_bl (ea_cons (ev_bl (ea_nil ⟨kinds, rfl, by decide, ?_⟩)))))))))))))))))))))))))))
    refine ev_take ?_
    walk_at "mpR"
    refine ⟨by decide, by decide, fun v c2 hv hc2 => ?_⟩
    obtain ⟨d, h1, h2⟩ := kinds_at (v := v) hv
    refine ro_ixL (atI_nat h1) ?_
    exact fin (h2 _) hc2 (mp2 c1 c2) mput_same
  walk_at "mpR"
  exact fin trivial hc1 (mp1 c1) hms
/-! ### _law_bend -/
abbrev BeI := Addr × C × Nat × D × Nat × Nat
def pBend (r : Nat) : BeI → B → B → B → B → Ms → Prop := fun i x y z u m => x = .ptr i.1 ∧ y = .dat (.int (i.2.2.1 : Int)) ∧ z = .dat i.2.2.2.1 ∧ u = .dat (.int (i.2.2.2.2.2 : Int)) ∧ m i.1 = some i.2.1 ∧ StC i.2.1 ∧ i.2.2.1 ≤ 100 ∧ Psn i.2.2.2.2.1 i.2.2.2.1 ∧ i.2.2.2.2.1 ≤ 100 ∧ i.2.2.2.2.2 < r
def zBend : BeI → D → Prop := fun i d => Psn (i.2.2.2.2.1 + 1) d
theorem sc_Lbend : FnScope ["_law_state_here", "_law_n", "_law_data", "_law_room", "_law_at"] ["_law_state_here", "_law_n", "_law_data", "_law_room"] (defScope s_Lbend) := ⟨rfl, rfl, rfl, by decide +kernel, rfl, by decide +kernel, by decide +kernel⟩
theorem bend_ok {P : Program} {w : World} {K : PySem.W.Frag} {mg : Str → Option Value} {base : Heap} (M : FX K mg) {fd : FuncData} (F : FunD K d_Lbend.name d_Lbend.qual d_Lbend.params d_Lbend.body d_Lbend.scope (d_Lbend.dvs K) (d_Lbend.kws K) (He.fAd K d_Lbend.at_) fd) :
    ∀ r, FnOk P w K mg base CX0 (7 + r) (He.fAd K d_Lbend.at_) fd ["_law_state_here", "_law_n", "_law_data", "_law_room"] (spN K (n4 (pBend r)) (zS (fun i => i.1) zBend))
  | 0 => by
    refine F.ok (k := 6) sc_Lbend (fun vs H Q E h => ?_) (fun cdv A outer s H vs Q E hr h => ?_)
    · obtain ⟨i, bs, m, _, _, ⟨_, _, _, _, _, _, _, _, _, _, _, _, _, _, h⟩, _⟩ := h
      exact absurd h (Nat.not_lt_zero _)
    · obtain ⟨i, bs, m, _, _, ⟨_, _, _, _, _, _, _, _, _, _, _, _, _, _, h⟩, _⟩ := h
      exact absurd h (Nat.not_lt_zero _)
  | r + 1 => by
    have c_rec : C8.Cal P w K mg base (7 + r) "_law_bend" (spN K (n4 (pBend r)) (zS (fun i => i.1) zBend)) [] := ⟨_, fd, _, [], bend_ok M F r, M.glo 52, F.kp, F.bindsN fun _ _ _ _ _ _ us hl => match us, hl with | [_, _, _, _], _ => rfl, .nil⟩
    refine def_non (j := 7 + r) F sc_Lbend n4_len fun cdv A outer s H E hr0 => ?_
    have hr := hr0.mono (show 7 ≤ 7 + r by omega)
    refine ⟨_, (pss_cons (ps_if (PW.pt (pw_or (pt_cmpR (op_eqAny M (ops M) hr) (pv 3) pe_int (nomark _)) (pw_or (pt_not (pt_val (pe_callB (call_isiK' (K := K)) (by rfl) (M.free 63) (by decide +kernel) (pa_cons (pv 2) (pa_cons (pe_bltn (v := .ty "tuple") rfl (M.free 66) (by decide +kernel) rfl) pa_nil))))) (pw_or (pt_cmpR (op_eqAny M (ops M) hr) (pe_callB (call_len_anyK (K := K)) (by rfl) (M.free 61) PySem.boot_len (pa_cons (pv 2) pa_nil)) pe_int (nomark _)) (pw_or1 (pt_cmpR (op_eqAny M (ops M) hr) (C8.pe_c (c_Ltake M) hr (by decide) (by rfl) (pa_cons (pv 0) (pa_cons pe_int pa_nil))) pe_int (nomark _)))))))
      (pss_one (ps_ret (C8.pe_c (c_Lother M) hr (by decide) (by rfl) (pa_cons (pv 0) (pa_cons (pv 1) (pa_cons (pv 2) pa_nil))))))
      pss_nil)
      (pss_cons (ps_set (i := 4) sc_Lbend.nd rfl (by first | exact Or.inl rfl | exact Or.inr rfl) (C8.pe_c (c_Ltake M) hr (by decide) (by rfl) (pa_cons (pv 0) (pa_cons (pe_callB (call_len_anyK (K := K)) (by rfl) (M.free 61) PySem.boot_len (pa_cons (pv 2) pa_nil)) pa_nil))))
        (pss_one (ps_ret (pe_op (op_addAny M (ops M) hr) (pe_op (op_addAny M (ops M) hr) (pe_slice (sl_anyK (K := K)) (pv 2) po_none (po_some (pv 4))) (pe_tup (pa_cons (C8.pe_c c_rec hr0 (by omega) (by rfl) (pa_cons (pv 0) (pa_cons (pv 1) (pa_cons (pe_ix (ix_seqK (K := K)) (pv 2) (pv 4) (fun _ _ => rfl)) (pa_cons (pe_op (op_subAny M (ops M) hr) (pv 3) pe_int) pa_nil))))) pa_nil))) (pe_slice (sl_anyK (K := K)) (pv 2) (po_some (pe_op (op_addAny M (ops M) hr) (pv 4) pe_int)) po_none)))))), ?_⟩
    try dsimp only [cx_K]
    rintro b0 Z ⟨sp, c, n, data, t, rm⟩ bs ⟨_, _, _, _, rfl, rfl, rfl, rfl, rfl, hp, hc, hn, hd, ht, hrm⟩ hret
    have hp : b0.mem sp = some c := hp
    have hc : StC c := hc
    have hn : n ≤ 100 := hn
    have hd : Psn t data := hd
    have ht : t ≤ 100 := ht
    have hrm : rm < r + 1 := hrm
    have ho : okD data := (hd.psm (by omega)).ok
    let E0 : Option B → List (Option B) := fun w => [some (.ptr sp), some (.dat (.int (n : Int))), some (.dat data), some (.dat (.int (rm : Int))), w]
    have fin : ∀ {d : D} {cc : C} {m : Ms} {e : List (Option B)}, Psn (t + 1) d → StC cc → (∀ z, m z = b0.mem z ∨ z = sp) → m sp = some cc → RT K b0 Z.rt (.dat d) ⟨e, m⟩ := fun {d cc m e} hq hcc hm' hs => by
      refine zS.go hret hcc hq hs fun z x hz hzs => ?_
      rcases hm' z with e | e
      · exact e.trans hz
      · exact absurd e hzs
    have mp1 : ∀ (cc : C) (z : Addr), mput b0.mem sp cc z = b0.mem z ∨ z = sp := fun cc z => by
      by_cases e : z = sp
      · exact .inr e
      · left; rw [mput_ne e]
    have up : ∀ {d : D}, Psn t d → Psn (t + 1) d := fun h => h.mono (Nat.le_succ _)
    have same : (⟨E0 none, b0.mem⟩ : AS) = ⟨E0 none, mput b0.mem sp c⟩ := by rw [mput_self hp]
    refine gs_seq (gs_if ?_)
    refine ET.mono (k := fun b a1 => (∃ c', StC c' ∧ a1 = ⟨E0 none, mput b0.mem sp c'⟩) ∧ (b = false → rm ≠ 0 ∧ ∃ ds, data = .tup ds ∧ 0 < ds.length)) ?_ ?_
    · have top : ∃ c', StC c' ∧ (⟨E0 none, b0.mem⟩ : AS) = ⟨E0 none, mput b0.mem sp c'⟩ := ⟨c, hc, same⟩
      walk_at "mpR"
      refine ⟨fun h1 => ?_, fun _ => ⟨top, fun h => (by cases h)⟩⟩
      have h1 := of_decide_eq_false h1
      walk_at "mpR"
      refine ⟨fun h2 => ?_, fun _ => ⟨top, fun h => (by cases h)⟩⟩
      cases data with
      | tup ds =>
        walk_at "mpR"
        refine ⟨fun h3 => ?_, fun _ => ⟨top, fun h => (by cases h)⟩⟩
        have h3 := of_decide_eq_false h3
        refine et_test (ev_op (ev_take ?_))
        walk_at "mpR"
        refine ⟨sp, c, 6, rfl, rfl, hp, hc, by omega, by omega, fun v c2 hv hc2 => ?_⟩
        walk_at "mpR"
        exact ⟨⟨c2, hc2, rfl⟩, fun _ => ⟨fun e => h1 (by rw [e]; rfl), ds, rfl, by omega⟩⟩
      | _ => cases h2
    · rintro b _ ⟨⟨c2, hc2, rfl⟩, hb⟩
      have hms : mput b0.mem sp c2 sp = some c2 := mput_same
      refine ⟨fun _ => ?_, fun hf => ?_⟩
      · refine gs_ret (ev_callS ?_)
        walk_at "mpR"
        refine ⟨(sp, c2, n, data, t), c2, ⟨_, _, _, rfl, rfl, rfl, rfl, hms, hc2, hn, hd, ht⟩, hms, fun d cc hcc hdd => ?_⟩
        exact fin hdd hcc (fun z => by show mput (mput b0.mem sp c2) sp cc z = _ ∨ _; rw [mput_mput]; exact mp1 cc z) mput_same
      · obtain ⟨hr0', ds, rfl, hpos⟩ := hb hf
        have hl := hd.1
        refine gs_next (nx_go (gs_seq (gs_set (ev_take ?_))))
        walk_at "mpR"
        refine ⟨by omega, fun at' c3 hat hc3 => ?_⟩
        have hms3 : mput (mput b0.mem sp c2) sp c3 sp = some c3 := mput_same
        walk_at "mpR"
        rw [cut_to]
        refine ev_callS ?_
        walk_at "mpR"
        refine ro_ixT (atI_nat (List.getElem?_eq_getElem hat)) ?_
        walk_at "mpR"
        have erm : (rm : Int) - 1 = ((rm - 1 : Nat) : Int) := by omega
        refine ⟨(sp, c3, n, ds[at'], t, rm - 1), c3, ⟨_, _, _, _, rfl, rfl, rfl, rfl, by rw [erm], hms3, hc3, hn, hd.tup _ (List.getElem_mem hat), ht, by show rm - 1 < r; omega⟩, hms3, fun d cc hcc hdd => ?_⟩
        have hdd : Psn (t + 1) d := hdd
        refine ⟨_, rfl, ro_addT (by rw [List.length_take]; simp; omega) ?_⟩
        walk_at "mpR"
        have e1 : cutG ds (some ((at' : Int) + 1)) none = ds.drop (at' + 1) := cut_from ds (at' + 1)
        rw [e1]
        refine ro_addT (by simp; omega) ?_
        refine fin ⟨by simp; omega, Psns.iff.mpr fun x hx => ?_⟩ hcc (fun z => by show mput (mput (mput b0.mem sp c2) sp c3) sp cc z = _ ∨ _; rw [mput_mput, mput_mput]; exact mp1 cc z) mput_same
        rcases List.mem_append.mp hx with hx | hx
        · rcases List.mem_append.mp hx with hx | hx
          · exact up (hd.tup x (List.mem_of_mem_take hx))
          · rw [List.mem_singleton] at hx
            subst hx
            exact hdd
        · exact up (hd.tup x (List.mem_of_mem_drop hx))
theorem c_Lbend {P : Program} {w : World} {K : PySem.W.Frag} {mg : Str → Option Value} {base : Heap} (M : FX K mg) : C8.Cal P w K mg base 12 "_law_bend" (spN K (n4 (pBend 5)) (zS (fun i => i.1) zBend)) [] := by
  obtain ⟨fd, F⟩ := M.said.def_ 61
  exact ⟨_, fd, _, [], bend_ok M F 5, M.glo 52, F.kp, F.bindsN fun _ _ _ _ _ _ us hl => match us, hl with | [_, _, _, _], _ => rfl, .nil⟩
end MP
/-! MSO -/
set_option exponentiation.threshold 10000
/-! _law_no_length -/
namespace MP
open PySem PySem.Spec PyProof.Rows L2

/-! ### four points about an edge of length mid -/
def crossI (x y : Nat) : Int := if (!decide (decide ((x : Int) < 2) = decide ((y : Int) < 2))) = true then 1 else 0
def neqI (x y : Nat) : Int := if (!decide ((x : Int) = (y : Int))) = true then 1 else 0
def gNL (e : Nat → Nat) (mid : Nat) (x y : Nat) : Int := neqI x y * (((e x : Int) + (e y : Int)) - (mid : Int) * crossI x y)
theorem lt4 {P : Nat → Prop} (h0 : P 0) (h1 : P 1) (h2 : P 2) (h3 : P 3) : ∀ x, x < 4 → P x := fun x hx => by
  rcases (by omega : x = 0 ∨ x = 1 ∨ x = 2 ∨ x = 3) with rfl | rfl | rfl | rfl <;> assumption
theorem gNL_eq (e : Nat → Nat) (mid : Nat) {x y : Nat} (hx : x < 4) (hy : y < 4) : gNL e mid x y = if x = y then 0 else if (x < 2 ↔ y < 2) then (e x : Int) + (e y : Int) else (e x : Int) + (e y : Int) - (mid : Int) := by
  have c : crossI x y = if (x < 2 ↔ y < 2) then 0 else 1 := by
    unfold crossI
    by_cases h1 : x < 2 <;> by_cases h2 : y < 2
    · have a1 : (x : Int) < 2 := by omega
      have a2 : (y : Int) < 2 := by omega
      simp [h1, h2, a1, a2]
    · have a1 : (x : Int) < 2 := by omega
      have a2 : ¬ (y : Int) < 2 := by omega
      simp [h1, h2, a1, a2]
    · have a1 : ¬ (x : Int) < 2 := by omega
      have a2 : (y : Int) < 2 := by omega
      simp [h1, h2, a1, a2]
    · have a1 : ¬ (x : Int) < 2 := by omega
      have a2 : ¬ (y : Int) < 2 := by omega
      simp [h1, h2, a1, a2]
  have n : neqI x y = if x = y then 0 else 1 := by
    unfold neqI
    by_cases h : x = y
    · simp [h]
    · have : ¬ (x : Int) = (y : Int) := by omega
      simp [h, this]
  unfold gNL
  rw [c, n]
  split
  · omega
  · split <;> omega
structure NLok (e : Nat → Nat) (mid : Nat) : Prop where
  lo : ∀ x, x < 4 → 1 ≤ e x ∧ e x ≤ 4
  mi : ∀ x, x < 4 → mid ≤ e x
theorem nl_imet {e : Nat → Nat} {mid : Nat} (h : NLok e mid) : IMet 4 (gNL e mid) := by
  refine ⟨⟨fun x hx => ?_, fun x y hx hy => ?_, fun x y hx hy ne => ?_, fun x y hx hy => ?_⟩, fun x y z hx hy hz => ?_⟩
  · rw [gNL_eq e mid hx hx, if_pos rfl]
  · rw [gNL_eq e mid hx hy, gNL_eq e mid hy hx]
    by_cases a : x = y
    · rw [if_pos a, if_pos a.symm]
    · rw [if_neg a, if_neg (Ne.symm a)]
      by_cases b : x < 2 ↔ y < 2
      · rw [if_pos b, if_pos b.symm]; omega
      · rw [if_neg b, if_neg (fun c => b c.symm)]; omega
  · rw [gNL_eq e mid hx hy, if_neg ne]
    have := h.lo x hx
    have := h.lo y hy
    have := h.mi x hx
    split <;> omega
  · rw [gNL_eq e mid hx hy]
    have := h.lo x hx
    have := h.lo y hy
    split
    · omega
    · split <;> omega
  · rw [gNL_eq e mid hx hy, gNL_eq e mid hx hz, gNL_eq e mid hy hz]
    have := h.lo x hx
    have := h.lo y hy
    have := h.lo z hz
    have := h.mi x hx
    have := h.mi y hy
    have := h.mi z hz
    by_cases a : x = z
    · subst a
      rw [if_pos rfl]
      split <;> split <;> (try split) <;> (try split) <;> omega
    · rw [if_neg a]
      by_cases b : x = y
      · subst b
        rw [if_pos rfl, if_neg a]
        split <;> omega
      · rw [if_neg b]
        by_cases c : y = z
        · subst c
          rw [if_pos rfl]
          split <;> omega
        · rw [if_neg c]
          by_cases p : x < 2 <;> by_cases q : y < 2 <;> by_cases r : z < 2 <;> simp [p, q, r] <;> omega
abbrev fNL (e : Nat → Nat) (mid : Nat) : Nat → Nat → Rat := fun x y => ((gNL e mid x y : Int) : Rat)
theorem nl_met {e : Nat → Nat} {mid : Nat} (h : NLok e mid) : IsMet 4 (fNL e mid) := by
  have H := nl_imet h
  refine ⟨fun x hx => ?_, fun x y hx hy => ?_, fun x y z hx hy hz => ?_, fun x y hx hy ne => ?_⟩
  · show ((gNL e mid x x : Int) : Rat) = 0
    rw [H.wt.zero x hx]; rfl
  · show ((gNL e mid x y : Int) : Rat) = ((gNL e mid y x : Int) : Rat)
    rw [H.wt.symm x y hx hy]
  · show ((gNL e mid x z : Int) : Rat) ≤ ((gNL e mid x y : Int) : Rat) + ((gNL e mid y z : Int) : Rat)
    have := H.tri x y z hx hy hz
    exact_mod_cast this
  · show (0 : Rat) < ((gNL e mid x y : Int) : Rat)
    have := H.wt.pos x y hx hy ne
    exact_mod_cast (by omega : (0 : Int) < gNL e mid x y)
theorem nl_ok {e : Nat → Nat} {mid : Nat} (h : NLok e mid) : MetOk 4 (fNL e mid) := ⟨by omega, by omega, fun x y hx hy => Bd.int (by omega) (by
  have := (nl_imet h).wt.le' hx hy
  have h2 : (gNL e mid x y).natAbs * 6 ≤ 10000 * 6 := Nat.mul_le_mul_right _ this
  exact Nat.le_trans h2 (by decide))⟩
theorem nl_quads : quads 4 = [(0, 1, 2, 3)] := by decide
theorem nl_abv {e : Nat → Nat} {mid : Nat} (h : NLok e mid) : abv (fNL e mid) (0, 1, 2, 3) = decide (0 < mid) := by
  have g : ∀ {x y : Nat}, x < 4 → y < 4 → fNL e mid x y = (((if x = y then 0 else if (x < 2 ↔ y < 2) then (e x : Int) + (e y : Int) else (e x : Int) + (e y : Int) - (mid : Int) : Int)) : Rat) := fun hx hy => by
    show ((gNL e mid _ _ : Int) : Rat) = _
    rw [gNL_eq e mid hx hy]
  unfold abv above3
  simp only
  rw [g (x := 0) (y := 1) (by omega) (by omega), g (x := 2) (y := 3) (by omega) (by omega), g (x := 0) (y := 2) (by omega) (by omega), g (x := 1) (y := 3) (by omega) (by omega), g (x := 0) (y := 3) (by omega) (by omega), g (x := 1) (y := 2) (by omega) (by omega)]
  simp only [← Rat.intCast_add, Rat.intCast_lt_intCast]
  simp
  by_cases hm : 0 < mid
  · simp [hm]; omega
  · simp [hm]; omega
theorem nl_four {e : Nat → Nat} {mid : Nat} (h : NLok e mid) : Four 4 (fNL e mid) ↔ mid = 0 := by
  unfold Four
  rw [nl_quads]
  simp only [List.mem_singleton, forall_eq, nl_abv h]
  rw [decide_eq_false_iff_not]
  omega
/-- the told tree -/
def nlEdge (e : Nat → Nat) (k : Nat) : D := .tup [.int (k : Int), .int (4 + (if decide ((1 : Int) < (k : Int)) = true then 1 else 0)), .rat ((e k : Int) : Rat)]
def nlPaper (e : Nat → Nat) (mid : Nat) : D := .tup [.str "tree", .int 6, .tup (((List.range 4).map (nlEdge e)) ++ [.tup [.int 4, .int 5, .rat (((0 : Int) - (mid : Int) : Int) : Rat)]])]
theorem nl_psm {e : Nat → Nat} {mid : Nat} (h : NLok e mid) : Psm (nlPaper e mid) := by
  refine psm_tr fun d hd => ?_
  rcases List.mem_append.mp hd with hd | hd
  · obtain ⟨k, hk, rfl⟩ := List.mem_map.mp hd
    have := h.lo k (List.mem_range.mp hk)
    exact ⟨trivial, trivial, Bd.int (by omega) (by
      have h2 : ((e k : Int)).natAbs ≤ 4 := by omega
      exact Nat.le_trans (Nat.mul_le_mul_right _ h2) (by decide)), trivial⟩
  · rw [List.mem_singleton] at hd
    subst hd
    have := h.mi 0 (by omega)
    have := h.lo 0 (by omega)
    exact ⟨trivial, trivial, Bd.int (by omega) (by
      have h2 : ((0 : Int) - (mid : Int)).natAbs ≤ 4 := by omega
      exact Nat.le_trans (Nat.mul_le_mul_right _ h2) (by decide)), trivial⟩
theorem holdsT_tree {n : Nat} {f : Nat → Nat → Rat} {p0 : D} {ps : List D} (h : isS "tree" p0 = true) : holdsT n f (.tup (p0 :: ps)) = treeT n f ps := if_pos h
theorem showsT_no {n : Nat} {f : Nat → Nat → Rat} {m : Int} {es : List D} (h : es.all (isEdge m) = false) : showsT n f (.int m) (.tup es) = false := by
  show (decide ((n : Int) ≤ m) && decide (m ≤ 2 * (n : Int)) && decide ((es.length : Int) = m - 1) && es.all (isEdge m) && _) = false
  rw [h]
  simp
theorem nl_false {e : Nat → Nat} {mid : Nat} : holdsT 4 (fNL e mid) (nlPaper e mid) = false := by
  have h1 : isS "tree" (.str "tree") = true := by decide +kernel
  have e1 : holdsT 4 (fNL e mid) (nlPaper e mid) = treeT 4 (fNL e mid) _ := holdsT_tree h1
  rw [e1]
  show showsT 4 (fNL e mid) (.int 6) (.tup _) = false
  have : (((List.range 4).map (nlEdge e)) ++ [D.tup [.int 4, .int 5, .rat (((0 : Int) - (mid : Int) : Int) : Rat)]]).all (isEdge 6) = false := by
    rw [List.all_eq_false]
    refine ⟨_, List.mem_append_right _ (List.mem_singleton.mpr rfl), ?_⟩
    have : ¬ (0 : Rat) < (((0 : Int) - (mid : Int) : Int) : Rat) := by
      intro h
      have : (0 : Int) < (0 : Int) - (mid : Int) := by exact_mod_cast h
      omega
    show ¬ (decide ((0 : Int) ≤ 4) && decide ((4 : Int) < 5) && decide ((5 : Int) < 6) && decide ((0 : Rat) < (((0 : Int) - (mid : Int) : Int) : Rat))) = true
    rw [decide_eq_false this]
    simp
  exact showsT_no this
def unL : D → List D
  | .lst ds => ds
  | _ => []
theorem nl_zeros {e : Nat → Nat} {mid : Nat} (h : NLok e mid) {x : Nat} (hx : x < 4) : ((((List.range 4).map fun y => D.int (gNL e mid x y)).filter fun d => decide (unI d = 0)).map fun d => d).length = 1 := by
  have H := nl_imet h
  have key : ∀ y, y < 4 → (decide (gNL e mid x y = 0)) = decide (y = x) := fun y hy => by
    by_cases q : y = x
    · subst q
      rw [H.wt.zero y hy]
      simp
    · have := H.wt.pos x y hx hy (Ne.symm q)
      rw [decide_eq_false q, decide_eq_false (by omega)]
  rw [List.map_id', List.filter_map, List.length_map]
  have e2 : (List.range 4).filter ((fun d => decide (unI d = 0)) ∘ fun y => D.int (gNL e mid x y)) = (List.range 4).filter fun y => decide (y = x) := List.filter_congr fun y hy => key y (List.mem_range.mp hy)
  rw [e2]
  rcases (by omega : x = 0 ∨ x = 1 ∨ x = 2 ∨ x = 3) with rfl | rfl | rfl | rfl <;> decide
def zTrue {ι : Type} : ι → D → Prop := fun _ d => d = .bl true
theorem sc_Lno_length : FnScope ["_law_state_here", "_law_ends", "_law_middle", "_law_rows_here", "_law_x", "_law_far", "_law_metric", "_law_edges", "_law_k", "_law_y", "_law_row", "_law_e"] ["_law_state_here"] (defScope s_Lno_length) := ⟨rfl, rfl, rfl, by decide +kernel, rfl, by decide +kernel, by decide +kernel⟩
theorem c_Lno_length {P : Program} {w : World} {K : PySem.W.Frag} {mg : Str → Option Value} {base : Heap} (M : FX K mg) : C8.Cal P w K mg base 11 "_law_no_length" (spN K (n1 pSt1) (zS (fun i => i.1) zTrue)) [] := by
  obtain ⟨fd, F⟩ := M.said.def_ 67
  refine ⟨_, fd, ["_law_state_here"], [], (def_non (j := 10) F sc_Lno_length n1_len fun cdv A outer s H E hr => ⟨_, (pss_cons (ps_set (i := 1) sc_Lno_length.nd rfl (by first | exact Or.inl rfl | exact Or.inr rfl) (pe_lc (own := [("_law_k", 8)]) (g := gName 8) (by rfl) sc_Lno_length.nd (pi_range1 rfl (M.free 62) (pa_cons pe_int pa_nil)) (by dsimp only [Cx.blk, Cx.nox, Cx.wish, cxOf, blk_sc, env_sc]; exact blkOk_by (by decide +kernel)) (fun _ _ _ _ _ => pg_name (i := 8) sc_Lno_length.nd rfl (by first | exact Or.inl rfl | exact Or.inr rfl)) (fun _ _ _ _ _ => pts_nil) (fun _ _ _ _ _ => (pe_op (op_addAny M (ops M) hr) pe_int (C8.pe_c (c_Ltake M) hr (by decide) (by rfl) (pa_cons (pv 0) (pa_cons pe_int pa_nil)))))))
      (pss_cons (ps_set (i := 2) sc_Lno_length.nd rfl (by first | exact Or.inl rfl | exact Or.inr rfl) (pe_op op_mulI (C8.pe_c (c_Ltake M) hr (by decide) (by rfl) (pa_cons (pv 0) (pa_cons pe_int pa_nil))) (pe_op (op_addAny M (ops M) hr) pe_int (C8.pe_c (c_Ltake M) hr (by decide) (by rfl) (pa_cons (pv 0) (pa_cons (pe_callB (cr_minK (K := K) rfl) (by rfl) (M.free 69) (by decide +kernel) (pa_cons (pv 1) pa_nil)) pa_nil))))))
        (pss_cons (ps_set (i := 3) sc_Lno_length.nd rfl (by first | exact Or.inl rfl | exact Or.inr rfl) (pe_lst pa_nil))
          (pss_cons (ps_for PassesOwn.never rfl (pi_range1 rfl (M.free 62) (pa_cons pe_int pa_nil)) (pg_name (i := 4) sc_Lno_length.nd rfl (by first | exact Or.inl rfl | exact Or.inr rfl))
            (pss_one (ps_expr (pe_bm PySem.F.plainAttrs_list PySem.F.slot_list_append PySem.F.type_list_append mt_append (pv 3) (pa_cons (pe_lc (own := [("_law_y", 9)]) (g := gName 9) (by rfl) sc_Lno_length.nd (pi_range1 rfl (M.free 62) (pa_cons pe_int pa_nil)) (by dsimp only [Cx.blk, Cx.nox, Cx.wish, cxOf, blk_sc, env_sc]; exact blkOk_by (by decide +kernel)) (fun _ _ _ _ _ => pg_name (i := 9) sc_Lno_length.nd rfl (by first | exact Or.inl rfl | exact Or.inr rfl)) (fun _ _ _ _ _ => pts_nil) (fun _ _ _ _ _ => (pe_op op_mulI (pe_callTy (T := "int") call_int1 (by rfl) (M.free 64) (by decide +kernel) (pa_cons (pe_cmpR (op_neAny M (ops M) hr) (pv 4) (pv 9) (nomark _)) pa_nil)) (pe_op (op_subAny M (ops M) hr) (pe_op (op_addAny M (ops M) hr) (pe_ix (ix_seqK (K := K)) (pv 1) (pv 4) (fun _ _ => rfl)) (pe_ix (ix_seqK (K := K)) (pv 1) (pv 9) (fun _ _ => rfl))) (pe_op op_mulI (pv 2) (pe_callTy (T := "int") call_int1 (by rfl) (M.free 64) (by decide +kernel) (pa_cons (pe_cmpR (op_neAny M (ops M) hr) (pe_cmpR (op_ltAny (K := K) hr) (pv 4) pe_int (nomark _)) (pe_cmpR (op_ltAny (K := K) hr) (pv 9) pe_int (nomark _)) (nomark _)) pa_nil))))))) pa_nil)))))
            (pss_cons (ps_setLc (i := 5) (own := [("_law_row", 10)]) (g := gName 10) (by rfl) sc_Lno_length.nd rfl rfl (sw_true rfl rfl rfl (by decide +kernel)) (pi_listK (K := K) (pv 3)) (by dsimp only [Cx.blk, Cx.nox, Cx.wish, cxOf, blk_sc, env_sc]; exact blkOk_by (by decide +kernel)) (fun _ _ _ _ _ => pg_name (i := 10) sc_Lno_length.nd rfl (by first | exact Or.inl rfl | exact Or.inr rfl)) (fun _ _ _ _ _ => pts_one (pt_cmpR op_gt (pe_callB (call_len_anyK (K := K)) (by rfl) (M.free 61) PySem.boot_len (pa_cons (pe_lc (own := [("_law_e", 11)]) (g := gName 11) (by rfl) sc_Lno_length.nd (pi_listK (K := K) (pv 10)) (by dsimp only [Cx.blk, Cx.nox, Cx.wish, cxOf, blk_sc, env_sc]; exact blkOk_by (by decide +kernel)) (fun _ _ _ _ _ => pg_name (i := 11) sc_Lno_length.nd rfl (by first | exact Or.inl rfl | exact Or.inr rfl)) (fun _ _ _ _ _ => pts_one (pt_cmpR (op_eqAny M (ops M) hr) (pv 11) pe_int (nomark _))) (fun _ _ _ _ _ => (pv 11))) pa_nil)) pe_int (nomark _))) (fun _ _ _ _ _ => (pv 10)))
              (pss_cons (ps_if (pt_cmpR op_gt (pe_callB (call_len_anyK (K := K)) (by rfl) (M.free 61) PySem.boot_len (pa_cons (pv 5) pa_nil)) pe_int (nomark _))
                (pss_one (ps_ret pe_bl))
                pss_nil)
                (pss_cons (ps_set (i := 6) sc_Lno_length.nd rfl (by first | exact Or.inl rfl | exact Or.inr rfl) (C8.pe_mk (mk_Metric M) hr (by decide) (by rfl) (pa_cons (pv 3) pa_nil)))
                  (pss_cons (ps_set (i := 7) sc_Lno_length.nd rfl (by first | exact Or.inl rfl | exact Or.inr rfl) (pe_op (op_addAny M (ops M) hr) (pe_callTy (T := "tuple") (call_tuple_ofK (K := K)) (by rfl) (M.free 66) (by decide +kernel) (pa_cons (pe_lc (own := [("_law_k", 8)]) (g := gName 8) (by rfl) sc_Lno_length.nd (pi_range1 rfl (M.free 62) (pa_cons pe_int pa_nil)) (by dsimp only [Cx.blk, Cx.nox, Cx.wish, cxOf, blk_sc, env_sc]; exact blkOk_by (by decide +kernel)) (fun _ _ _ _ _ => pg_name (i := 8) sc_Lno_length.nd rfl (by first | exact Or.inl rfl | exact Or.inr rfl)) (fun _ _ _ _ _ => pts_nil) (fun _ _ _ _ _ => (pe_tup (pa_cons (pv 8) (pa_cons (pe_op (op_addAny M (ops M) hr) pe_int (pe_callTy (T := "int") call_int1 (by rfl) (M.free 64) (by decide +kernel) (pa_cons (pe_cmpR op_gt (pv 8) pe_int (nomark _)) pa_nil))) (pa_cons (C8.pe_mk (mk_Ratio1 M) hr (by decide) (by rfl) (pa_cons (pe_ix (ix_seqK (K := K)) (pv 1) (pv 8) (fun _ _ => rfl)) pa_nil)) pa_nil)))))) pa_nil)) (pe_tup (pa_cons (pe_tup (pa_cons pe_int (pa_cons pe_int (pa_cons (C8.pe_mk (mk_Ratio1 M) hr (by decide) (by rfl) (pa_cons (pe_op (op_subAny M (ops M) hr) pe_int (pv 2)) pa_nil)) pa_nil)))) pa_nil))))
                    (pss_cons (ps_if (pt_cmpR op_notBl (C8.pe_c (c_takes_tree M) hr (by decide) (by rfl) (pa_cons (pv 6) (pa_cons (pe_tup (pa_cons pe_str (pa_cons pe_int (pa_cons (pv 7) pa_nil)))) pa_nil))) pe_bl (nomark _))
                      (pss_one (ps_ret pe_bl))
                      pss_nil)
                      (pss_one (ps_ret (pe_cmpR (op_eqAny M (ops M) hr) (pe_cmpR (op_eqAny M (ops M) hr) (pe_ix (ix_seqK (K := K)) (C8.pe_c (c_tree_paper M) hr (by decide) (by rfl) (pa_cons (pv 6) pa_nil)) pe_int (fun _ _ => rfl)) pe_str (nomark _)) (pe_cmpR (op_eqAny M (ops M) hr) (pv 2) pe_int (nomark _)) (nomark _))))))))))))), ?_⟩), M.glo 58, F.kp, F.bindsN fun _ _ _ _ _ _ us hl => match us, hl with | [_], _ => rfl, .nil⟩
  try dsimp only [cx_K]
  intro b0 Z ix bs h hret
  obtain ⟨sp, c⟩ := ix
  obtain ⟨_, rfl, rfl, hp, hc⟩ := h
  have hp : b0.mem sp = some c := hp
  have hc : StC c := hc
  refine gs_seq (gs_set (ev_lcN1 ⟨by decide, ea_cons (ev_int (ea_nil ⟨4, rfl, by decide, ?_⟩))⟩))
  refine ⟨fun p i acc m => ∃ (e : Nat → Nat) (c : C), acc = ((List.range i).map fun k => D.int (e k : Int)).map B.dat ∧ (∀ k, k < i → 1 ≤ e k ∧ e k ≤ 4) ∧ m sp = some c ∧ StC c ∧ p ≠ sp ∧ ∀ z x, b0.mem z = some x → z ≠ sp → m z = some x, ?_, ?_, ?_⟩
  · intro p h1 h2
    have hps : p ≠ sp := fun e => by have h1 : b0.mem p = none := h1; rw [e, hp] at h1; cases h1
    refine ⟨fun _ => 1, c, rfl, fun k hk => by omega, by rw [mput_ne (fun e => hps e.symm)]; exact hp, hc, hps, fun z x hz hzs => ?_⟩
    rw [mput_ne (fun e => by rw [e, h2] at hz; cases hz)]
    exact hz
  · rintro p i acc m hi hb ⟨e, c, rfl, he, hms, hc, hps, hrest⟩ hm
    refine et_yes ⟨fun _ => ?_, fun h => (by cases h)⟩
    refine ev_op (ev_int (ev_take ?_))
    walk_at "mpR"
    refine ⟨sp, c, 4, rfl, rfl, hms, hc, by omega, by omega, fun v c2 hv hc2 => ?_⟩
    have hv : v < 4 := hv
    refine ro_addI ⟨by rw [List.length_map, List.length_map, List.length_range]; omega, ?_, fun k => if k = i then 1 + v else e k, c2, ?_, fun k hk => ?_, ?_, hc2, hps, fun z x hz hzs => ?_⟩
    · show mput m sp c2 p = _
      rw [mput_ne hps]
      exact hm
    · rw [List.range_succ, List.map_append, List.map_append]
      congr 1
      · refine congrArg (List.map B.dat) (List.map_congr_left fun j hj => ?_)
        have : ¬ j = i := by have := List.mem_range.mp hj; omega
        simp [this]
      · simp
    · by_cases q : k = i
      · simp only [q, if_true]; omega
      · simp only [q, if_false]
        exact he k (by omega)
    · rw [mput_ne (fun e => hps e.symm)]
      exact mput_same
    · rw [mput_ne (fun e => by rw [e, hb] at hz; cases hz)]
      show mput m sp c2 z = _
      rw [mput_ne hzs]
      exact hrest z x hz hzs
  · rintro p acc m h1 h2 ⟨e, c, rfl, he, hms, hc, hps, hrest⟩ hm
    have hp0 : b0.mem p = none := h2
    let L : List D := (List.range 4).map fun k => D.int (e k : Int)
    let En : Option B → Option B → Option B → Option B → Option B → Option B → List (Option B) := fun w2 w3 w4 w5 w6 w7 => [some (.ptr sp), some (.dat (.lst L)), w2, w3, w4, w5, w6, w7, none, none, none, none]
    refine nx_go (gs_frz (ds := L) hp0 hm (e := En none none none none none none) (.keep (.hit (.keep (.keep (.keep (.keep (.keep (.keep (.keep (.keep (.keep (.keep .nil)))))))))))) ?_)
    have hms1 : mdel m p sp = some c := by rw [mdel_ne (fun e => hps e.symm)]; exact hms
    have hrest1 : ∀ z x, b0.mem z = some x → z ≠ sp → mdel m p z = some x := fun z x hz hzs => by
      rw [mdel_ne (fun e => by rw [e, hp0] at hz; cases hz)]
      exact hrest z x hz hzs
    generalize mdel m p = m1 at hms1 hrest1
    have hL : ∀ {k : Nat}, k < 4 → L[k]? = some (.int (e k : Int)) := fun hk => by
      show ((List.range 4).map _)[_]? = _
      rw [List.getElem?_map, List.getElem?_range hk]
      rfl
    refine gs_seq (gs_set (ev_op (ev_take ?_)))
    walk_at "mpR"
    refine ⟨sp, c, 2, rfl, rfl, hms1, hc, by omega, by omega, fun v1 c1 hv1 hc1 => ?_⟩
    have hv1 : v1 < 2 := hv1
    refine ev_op (ev_int (ev_take ?_))
    walk_at "mpR"
    refine rc_minL (is := (List.range 4).map fun k => (e k : Int)) (.inr ⟨L, rfl, ?_⟩) (by simp) fun mn hmn hle => ?_
    · show _ = L.map B.dat
      rw [List.map_map]
      rfl
    obtain ⟨kk, hkk, rfl⟩ := List.mem_map.mp hmn
    have hkk := List.mem_range.mp hkk
    have hek := he kk hkk
    have hmin : ∀ k, k < 4 → e kk ≤ e k := fun k hk => by
      have := hle (e k : Int) (List.mem_map.mpr ⟨k, List.mem_range.mpr hk, rfl⟩)
      omega
    walk_at "mpR"
    refine ⟨by omega, by omega, fun v2 c2 hv2 hc2 => ?_⟩
    refine ro_addI ?_
    have mo : IntMulOk (v1 : Int) (1 + (v2 : Int)) := mul_ok (a := 10) (b := 10) (by omega) (by omega) (by omega)
    refine ro_I mo ?_
    obtain ⟨mid, hmid⟩ : ∃ mid : Nat, mid = v1 * (1 + v2) := ⟨_, rfl⟩
    have emid : (v1 : Int) * (1 + (v2 : Int)) = (mid : Int) := by rw [hmid, Int.natCast_mul, Int.natCast_add]; rfl
    rw [emid]
    have hmle : mid ≤ e kk := by
      rcases (by omega : v1 = 0 ∨ v1 = 1) with q | q
      · rw [hmid, q]; omega
      · rw [hmid, q]; omega
    have hN : NLok e mid := ⟨he, fun x hx => Nat.le_trans hmle (hmin x hx)⟩
    have hms2 : mput (mput m1 sp c1) sp c2 sp = some c2 := mput_same
    have hrest2 : ∀ z x, b0.mem z = some x → z ≠ sp → mput (mput m1 sp c1) sp c2 z = some x := fun z x hz hzs => by
      rw [mput_ne hzs, mput_ne hzs]
      exact hrest1 z x hz hzs
    show NX K b0 _ ⟨En (some (.dat (.int (mid : Int)))) none none none none none, mput (mput m1 sp c1) sp c2⟩
    generalize mput (mput m1 sp c1) sp c2 = m2 at hms2 hrest2
    -- the rows
    have cI : ∀ {x y : Nat} {k : B → AS → Prop} {a : AS}, True := trivial
    let rowD : Nat → D := fun x => .lst ((List.range 4).map fun y => .int (gNL e mid x y))
    refine nx_go (gs_seq (gs_set (ev_lstM (ea_nil ⟨by simp, fun r hr1 hr2 => ?_⟩))))
    have hr0 : m2 r = none := hr1
    have hrs : r ≠ sp := fun e => by rw [e, hms2] at hr0; cases hr0
    have bI : ∀ b : Bool, (if b = true then (1 : Int) else 0).natAbs < 2 ^ 1 := fun b => by cases b <;> decide
    refine nx_go (gs_seq (gs_forN1 (ea_cons (ev_int (ea_nil ⟨4, rfl, by decide, fun x a => ∃ w4, a = ⟨En (some (.dat (.int (mid : Int)))) (some (.ptr r)) w4 none none none, mput m2 r (.lst (((List.range x).map rowD).map B.dat))⟩, ⟨none, rfl⟩, ?_, ?_⟩)))))
    · rintro x _ hx ⟨w4, rfl⟩
      refine gg_name (gs_app (ev_var rfl ⟨r, _, rfl, mput_same, ?_⟩))
      refine ev_lcM1 (fun y => .int (gNL e mid x y)) (by decide) (ea_cons (ev_int (ea_nil ⟨4, rfl, by decide, fun y m hy _ => ?_, ?_⟩)))
      · have hx4 : x < 4 := hx
        have hy4 : y < 4 := hy
        have b1 := hN.lo x hx4
        have b2 := hN.lo y hy4
        have b3 := hN.mi x hx4
        have mo2 : ∀ b : Bool, IntMulOk (mid : Int) (if b = true then 1 else 0) := fun b => mul_ok (a := 10) (b := 1) (by omega) (bI b) (by omega)
        have mo3 : ∀ b c : Bool, IntMulOk (if b = true then 1 else 0) ((e x : Int) + (e y : Int) - (mid : Int) * (if c = true then 1 else 0)) := fun b c => mul_ok (a := 1) (b := 10) (bI b) (by cases c <;> simp <;> omega) (by omega)
        walk_at "mpR"
        refine ro_ixL (atI_nat (hL hx4)) ?_
        walk_at "mpR"
        refine ro_ixL (atI_nat (hL hy4)) ?_
        walk_at "mpR"
        refine ro_I (mo2 _) ?_
        walk_at "mpR"
        refine ro_I (mo3 _ _) ?_
        exact ⟨rfl, rfl⟩
      · refine ⟨_, mput_same, by rw [List.length_map, List.length_map, List.length_range]; omega, ?_⟩
        refine nx_inv ⟨some (.dat (.int (x : Int))), ?_⟩
        have e3 : ((List.range x).map rowD).map B.dat ++ [B.dat (rowD x)] = ((List.range (x + 1)).map rowD).map B.dat := by
          rw [List.range_succ, List.map_append, List.map_append]
          rfl
        rw [← e3]
        simp only [AS.at, mput_mput]
        rfl
    rintro _ ⟨w4, rfl⟩
    let R : D := .lst ((List.range 4).map rowD)
    refine nx_go (gs_frz (ds := (List.range 4).map rowD) hr2 mput_same (e := En (some (.dat (.int (mid : Int)))) (some (.dat R)) w4 none none none) (.keep (.keep (.keep (.hit (.keep (.keep (.keep (.keep (.keep (.keep (.keep (.keep .nil)))))))))))) ?_)
    have hmd : mdel (mput m2 r (.lst (((List.range 4).map rowD).map B.dat))) r = m2 := mdel_mput hr0
    show GS K b0 _ _ ⟨En (some (.dat (.int (mid : Int)))) (some (.dat R)) w4 none none none, mdel (mput m2 r (.lst (((List.range 4).map rowD).map B.dat))) r⟩
    rw [hmd]
    -- no point is far
    refine gs_seq (gs_set (ev_lcFL (fun d => decide (1 < ((((unL d).filter fun d => decide (unI d = 0)).map fun d => d).length : Int))) (fun d => d) (by decide) (ev_var rfl ⟨_, rfl, by simp, fun d m hd _ => ?_, fun d m hd _ _ => ?_, ?_⟩)))
    · obtain ⟨x, hx, rfl⟩ := List.mem_map.mp hd
      refine et_test (ev_op (ev_cb (ea_cons (ev_lcFL (fun d => decide (unI d = 0)) (fun d => d) (by decide) (ev_var rfl ⟨_, rfl, by simp, fun d m hd _ => ?_, fun d m hd _ _ => ?_, ?_⟩)))))
      · obtain ⟨y, hy, rfl⟩ := List.mem_map.mp hd
        walk_at "mpR"
        exact ⟨rfl, rfl⟩
      · walk_at "mpR"
        exact ⟨rfl, rfl⟩
      · walk_at "mpR"
        exact ⟨rfl, rfl⟩
    · walk_at "mpR"
      exact ⟨rfl, rfl⟩
    have hno : ((List.range 4).map rowD).filter (fun d => decide (1 < ((((unL d).filter fun d => decide (unI d = 0)).map fun d => d).length : Int))) = [] := by
      rw [List.filter_eq_nil_iff]
      intro d hd
      obtain ⟨x, hx, rfl⟩ := List.mem_map.mp hd
      have := nl_zeros hN (List.mem_range.mp hx)
      show ¬ decide (1 < ((((((List.range 4).map fun y => D.int (gNL e mid x y)).filter fun d => decide (unI d = 0)).map fun d => d).length : Nat) : Int)) = true
      rw [this]
      decide
    rw [hno]
    walk_at "mpR"
    refine ⟨fun h => (by simp at h), fun _ => ?_⟩
    refine gs_next (nx_go (gs_seq (gs_set (ev_mkMet (ea_cons (ev_var rfl (ea_nil ⟨false, 4, fun x y => .int (gNL e mid x y), rfl, fun _ _ _ _ => rfl, nl_ok hN, nl_met hN, ?_⟩)))))))
    show NX K b0 _ ⟨En (some (.dat (.int (mid : Int)))) (some (.dat R)) w4 (some (.dat (.lst []))) (some (.dat (mtr 4 (fNL e mid)))) none, m2⟩
    refine nx_go (gs_seq (gs_set (ev_op (ev_cb (ea_cons (ev_lcM1 (nlEdge e) (by decide) (ea_cons (ev_int (ea_nil ⟨4, rfl, by decide, fun k m hk _ => ?_, ?_⟩)))))))))
    · have hk4 : k < 4 := hk
      walk_at "mpR"
      refine ev_mkR1 ?_
      walk_at "mpR"
      refine ro_ixL (atI_nat (hL hk4)) ?_
      walk_at "mpR"
      exact ⟨rfl, rfl⟩
    walk_at "mpR"
    refine ev_mkR1 ?_
    walk_at "mpR"
    refine ro_addT (by simp) ?_
    refine nx_go (gs_skip ?_ ?_)
    · walk_at "mpR"
      refine ⟨_, ⟨_, _, rfl, 4, fNL e mid, nlPaper e mid, rfl, nl_ok hN, rfl, nl_psm hN, rfl⟩, ?_⟩
      rw [nl_false]
      walk_at "mpR"
      exact ⟨rfl, fun h => (by cases h)⟩
    refine gs_ret ?_
    walk_at "mpM"
    refine ⟨(4, fNL e mid), ⟨_, rfl, rfl, nl_ok hN, nl_met hN⟩, fun d hd => ?_⟩
    have e0 : ∀ (p0 : D) (ps : List D), atI (p0 :: ps) 0 = some p0 := fun p0 ps => atI_nat (n := 0) rfl
    have fin : ∀ {b : Bool}, b = true → RT K b0 Z.rt (.dat (.bl b)) ⟨[some (.ptr sp), some (.dat (.lst L)), some (.dat (.int (mid : Int))), some (.dat R), w4, some (.dat (.lst [])), some (.dat (mtr 4 (fNL e mid))), some (.dat (.tup (((List.range 4).map (nlEdge e)) ++ [.tup [.int 4, .int 5, .rat (((0 : Int) - (mid : Int) : Int) : Rat)]]))), none, none, none, none], m2⟩ := fun {b} hb => by
      subst hb
      exact zS.go hret hc2 rfl hms2 fun z x hz hzs => hrest2 z x hz hzs
    have ht : isS "tree" (.str "tree") = true := by decide +kernel
    have hpt : isS "tree" (.str "points") = false := isS_two (p := .str "points") (by decide +kernel)
    rcases hd with ⟨h4, hd⟩ | ⟨q, hq, ha, hd⟩
    · have hd : d = treeP 4 (fNL e mid) := hd
      subst hd
      have h0 := (nl_four hN).mp h4
      refine ev_int (ro_ixT (e0 _ _) ?_)
      walk_at "mpM"
      refine ro_eqS trivial ?_
      rw [ht]
      walk_at "mpM"
      exact fin (by rw [h0]; rfl)
    · have hd : d = pointsP q := hd
      subst hd
      have h0 : 0 < mid := by
        have hq : q ∈ quads 4 := hq
        rw [nl_quads] at hq
        rw [List.mem_singleton] at hq
        subst hq
        have ha : abv (fNL e mid) (0, 1, 2, 3) = true := ha
        rw [nl_abv hN] at ha
        exact of_decide_eq_true ha
      refine ev_int (ro_ixT (e0 _ _) ?_)
      walk_at "mpM"
      refine ro_eqS trivial ?_
      rw [hpt]
      walk_at "mpM"
      refine fin ?_
      rw [decide_eq_false (by omega : ¬ (mid : Int) = 0)]
      rfl
end MP
/-! MSQ -/
set_option exponentiation.threshold 10000
/-! a def that hands back a new thing that will change; _law_state -/
namespace MP
open PySem PySem.Spec PyProof.Rows L2

def spF (K : PySem.W.Frag) {ι : Type} (Pre : ι → List B → Ms → Prop) (Post : ι → C → Prop) : Sp := fun vs H Q _ => ∃ (i : ι) (bs : List B) (m : Ms), Conts K m H ∧ RepBs K (mask H m) bs vs ∧ Pre i bs m ∧
  ∀ (p : Addr) (H' : Hp) (c : C), Post i c → H p = none → m p = none → (∀ q o, H q = some o → m q = none → H' q = some o) → Conts K (mput m p c) H' → Q (.ref p) H'
section
variable {P : Program} {w : World} {K : PySem.W.Frag} {mg : Str → Option Value} {base : Heap} {b0 : Ba} {a : AS} {te ta tb tc : TE} {k : B → AS → Prop} {Z : Ends} {t u : TS}
variable {x qual : Str} {params : Arguments} {body : List Stmt} {scope : Scope} {dvs : List V} {kws : List (Str × V)} {f : Addr} {fd : FuncData} {N ps : List Str} {j : Nat}
/-- a new thing is handed back -/
def RetF (K : PySem.W.Frag) (b0 : Ba) (Z : Ends) (c : C) : Prop := ∀ (a : AS) (p : Addr), b0.mem p = none → a.mem p = some c → (∀ q, (b0.mem q).isSome → a.mem q = b0.mem q) → RT K b0 Z.rt (.ptr p) a
theorem rt_new {c : C} {Q : VK} {p : Addr} (h0 : b0.mem p = none) (hp : a.mem p = some c) (hs : ∀ q, (b0.mem q).isSome → a.mem q = b0.mem q)
    (hq : ∀ (H' : Hp), b0.hp p = none → (∀ q o, b0.hp q = some o → b0.mem q = none → H' q = some o) → Conts K (mput b0.mem p c) H' → Q (.ref p) H') : RT K b0 Q (.ptr p) a := fun σ H v R rb => by
  cases (show v = .ref p from rb)
  have sub : ∀ q u, mput b0.mem p c q = some u → a.mem q = some u := fun q u h => by
    by_cases e : q = p
    · subst e
      rw [mput_same] at h
      cases h
      exact hp
    · rw [mput_ne e] at h
      rw [hs q (by rw [h]; rfl), h]
  have e : Ex (mask H a.mem) (mask H (mput b0.mem p c)) := fun q o hq => by
    obtain ⟨z1, z2⟩ := mask_some hq
    refine mask_mk ?_ z2
    cases z : mput b0.mem p c q with
    | none => rfl
    | some u => rw [sub q u z] at z1; cases z1
  refine hq H (R.new p (by rw [hp]; rfl) h0) (fun q o h1 h2 => R.keep q o h1 h2) fun q u h => ?_
  obtain ⟨o, h1, h2⟩ := R.cont q u (sub q u h)
  exact ⟨o, h1, h2.mono e⟩
theorem def_fr {ι : Type} {Pre : ι → List B → Ms → Prop} {Post : ι → C → Prop} (F : FunD K x qual params body scope dvs kws f fd) (S : FnScope N ps scope) (len : ∀ i bs m, Pre i bs m → bs.length = ps.length)
    (hbody : ∀ (cdv : Value) (A : Around) (outer : List Env) (s : Shared) (H : Hp) (E : XK), Room j (A.deeper (envOfC qual scope s.heap.objs.size f cdv)) →
      ∃ t, PSs (cxOf CX0 P w K mg base N qual scope f cdv A outer s H E).nox body t ∧ ∀ (b0 : Ba) (Z : Ends) (i : ι) (bs : List B), Pre i bs b0.mem → (∀ c, Post i c → RetF K b0 Z c) → GS K b0 t Z ⟨startA N bs, b0.mem⟩) : FnOk P w K mg base CX0 (j + 1) f fd ps (spF K Pre Post) := by
  refine F.ok S (fun vs H Q E h => ?_) (fun cdv A outer s H vs Q E hr h => ?_)
  · obtain ⟨i, bs, m, _, hr, h1, _⟩ := h
    rw [← Pd.len hr]
    exact len i bs m h1
  · obtain ⟨i, bs, m, hc, hrb, h1, hf⟩ := h
    obtain ⟨t, h2, h3⟩ := hbody cdv A outer s H E hr
    exact ⟨t, h2.nox, h3 ⟨H, m, []⟩ _ i bs h1 (fun c hp a p g1 g2 g3 => rt_new (b0 := ⟨H, m, []⟩) g1 g2 g3 fun H' q1 q2 q3 => hf p H' c hp q1 g1 q2 q3) _ _ (rel_start hc hrb)⟩
theorem ev_callF {ι : Type} {Pre : ι → List B → Ms → Prop} {Post : ι → C → Prop} {E : XK} {tas : TA} (h : EA K b0 tas a fun bs a1 => ∃ i, Pre i bs a1.mem ∧ ∀ c p, Post i c → a1.mem p = none → b0.mem p = none → k (.ptr p) (a1.at (mput a1.mem p c))) : EV K b0 (tCall (spF K Pre Post) [] E tas) a k := fun σ H Q R0 q =>
  h σ H _ R0 fun vs H1 bs a1 ⟨i, h1, h2⟩ R1 e1 r1 => by
    refine ⟨i, bs, a1.mem, R1.cont, by rw [List.append_nil]; exact r1, h1, fun p H' c hp hH hm hk hc => ?_⟩
    have e : Ex (mask H1 a1.mem) (mask H' (mput a1.mem p c)) := fun q o hq => by
      obtain ⟨z1, z2⟩ := mask_some hq
      have ne : q ≠ p := fun e => by rw [e, hH] at z2; cases z2
      exact mask_mk (by rw [mput_ne ne]; exact z1) (hk q o z2 z1)
    refine q (.ref p) H' (.ptr p) (a1.at (mput a1.mem p c)) (h2 c p hp hm (R1.free0 hH).1) ⟨R1.len, fun i c hi => ?_, hc, fun q o hq hm => ?_, fun q hq => ?_, fun q hq hm => ?_, fun x hx => (R1.gho x hx).mono e⟩ (e1.trans e) rfl
    · obtain ⟨w, h4, h5⟩ := R1.slot i c hi
      exact ⟨w, h4, h5.mono e⟩
    · refine hk q o (R1.keep q o hq hm) ?_
      cases z : a1.mem q with
      | none => rfl
      | some c =>
        have := R1.new q (by rw [z]; rfl) hm
        rw [hq] at this
        cases this
    · show (mput a1.mem p c q).isSome = true
      unfold mput
      split
      · rfl
      · exact R1.old q hq
    · by_cases ne : q = p
      · rw [ne]; exact (R1.free0 hH).2
      · have h3 : (mput a1.mem p c q).isSome = true := hq
        rw [mput_ne ne] at h3
        exact R1.new q h3 hm
end
def pState : List Int → B → Ms → Prop := fun ns x _ => x = .dat (.ro (ns.map D.int))
theorem sc_Lstate : FnScope ["_law_script", "_law_seed", "_law_total", "_law_cell"] ["_law_script"] (defScope s_Lstate) := ⟨rfl, rfl, rfl, by decide +kernel, rfl, by decide +kernel, by decide +kernel⟩
theorem c_Lstate {P : Program} {w : World} {K : PySem.W.Frag} {mg : Str → Option Value} {base : Heap} (M : FX K mg) : C8.Cal P w K mg base 4 "_law_state" (spF K (n1 pState) (fun _ => StC)) [] := by
  obtain ⟨fd, F⟩ := M.said.def_ 41
  refine ⟨_, fd, ["_law_script"], [], (def_fr (j := 3) F sc_Lstate n1_len fun cdv A outer s H E hr => ⟨_, (pss_cons (ps_set (i := 1) sc_Lstate.nd rfl (by first | exact Or.inl rfl | exact Or.inr rfl) pe_int)
      (pss_cons (ps_set (i := 2) sc_Lstate.nd rfl (by first | exact Or.inl rfl | exact Or.inr rfl) pe_int)
        (pss_cons (ps_for PassesOwn.never rfl (pi_listK (K := K) (pe_slice (sl_anyK (K := K)) (pv 0) po_none (po_some pe_int))) (pg_name (i := 3) sc_Lstate.nd rfl (by first | exact Or.inl rfl | exact Or.inr rfl))
          (pss_cons (ps_set (i := 1) sc_Lstate.nd rfl (by first | exact Or.inl rfl | exact Or.inr rfl) (pe_op op_add (pe_op op_mulI (pv 1) pe_int) (pe_callB call_abs (by rfl) (M.free 68) (by decide +kernel) (pa_cons (pv 3) pa_nil))))
            (pss_one (ps_set (i := 2) sc_Lstate.nd rfl (by first | exact Or.inl rfl | exact Or.inr rfl) (pe_op op_modI (pe_callTy (T := "int") call_int1 (by rfl) (M.free 64) (by decide +kernel) (pa_cons (pe_op op_add (pe_op op_mulI (pv 2) pe_int) (pv 3)) pa_nil)) pe_int)))))
          (pss_one (ps_ret (pe_lst (pa_cons (pv 1) (pa_cons (pv 2) pa_nil)))))))), ?_⟩), M.glo 32, F.kp, F.bindsN fun _ _ _ _ _ _ us hl => match us, hl with | [_], _ => rfl, .nil⟩
  try dsimp only [cx_K]
  intro b0 Z ns bs h hret
  obtain ⟨_, rfl, rfl⟩ := h
  have mS : ∀ i : Int, IntMulOk i 1000003 := fun i => IntMulOk.of_right (by decide)
  have mT : ∀ i : Int, IntMulOk i 48271 := fun i => IntMulOk.of_right (by decide)
  have hM : (0 : Int) < 2147483647 := by decide
  have ent : ∀ d ∈ cutG (ns.map D.int) none (some 63), ∃ z : Int, d = .int z := fun d hd => by
    obtain ⟨z, _, rfl⟩ := List.mem_map.mp (cutG_sub d hd)
    exact ⟨z, rfl⟩
  refine gs_seq (gs_set (ev_int (nx_go (gs_seq (gs_set (ev_int (nx_go (gs_seq ?_))))))))
  refine gs_forL (ev_sl (ev_var rfl (eo_none (eo_some (ev_int ⟨63, rfl, ns.map D.int, .inr ⟨.inr rfl, ?_⟩⟩)))))
  generalize cutG (ns.map D.int) none (some 63) = ds at ent
  refine ⟨ds, rfl, fun _ a => ∃ (s t : Int) (w3 : Option B), 0 ≤ s ∧ 0 ≤ t ∧ t < 2147483647 ∧ a = ⟨[some (.dat (.ro (ns.map D.int))), some (.dat (.int s)), some (.dat (.int t)), w3], b0.mem⟩, ⟨0, 1, none, by decide, by decide, by decide, rfl⟩, ?_, ?_⟩
  · rintro v i d _ hd ⟨s, t, w3, hs, ht, ht2, rfl⟩
    obtain ⟨z, rfl⟩ := ent d (List.mem_of_getElem? hd)
    refine gg_name (gs_seq (gs_set ?_))
    walk_at "mpR"
    refine ro_I (mS _) ?_
    walk_at "mpR"
    refine ro_I (mT _) ?_
    walk_at "mpR"
    have h3 : 0 ≤ (t * 48271 + z) % 2147483647 := Int.emod_nonneg _ (by decide)
    have h4 : (t * 48271 + z) % 2147483647 < 2147483647 := Int.emod_lt_of_pos _ (by decide)
    refine nx_inv ⟨s * 1000003 + (if z < 0 then -z else z), (t * 48271 + z) % 2147483647, some (.dat (.int z)), ?_, h3, h4, rfl⟩
    have : 0 ≤ s * 1000003 := Int.mul_nonneg hs (by decide)
    split <;> omega
  · rintro _ ⟨s, t, w3, hs, ht, ht2, rfl⟩
    refine nx_go (gs_ret (ev_lstM (ea_cons (ev_var rfl (ea_cons (ev_var rfl (ea_nil ⟨by simp, fun p hp0 hp => ?_⟩)))))))
    refine hret (.lst [.dat (.int s), .dat (.int t)]) ⟨s, t, rfl, hs, ht, ht2⟩ _ p hp mput_same fun q hq => ?_
    show mput b0.mem p _ q = _
    rw [mput_ne (fun e => by rw [e, hp] at hq; cases hq)]
end MP
/-! MST -/
set_option exponentiation.threshold 10000
/-! what the law rests on: the paper holds, no paper of the other kind does -/
namespace MP
open PySem PySem.Spec PyProof.Rows L2

theorem four_all {n : Nat} {f : Nat → Nat → Rat} (hm : IsMet n f) (h4 : Four n f) {x y u v : Nat} (hx : x < n) (hy : y < n) (hu : u < n) (hv : v < n) : above3 (f x y + f u v) (f x u + f y v) (f x v + f y u) = false := by
  have key : ∀ {x y u v : Nat}, x < n → y < n → u < n → v < n → f x y + f u v ≤ f x u + f y v ∨ f x y + f u v ≤ f x v + f y u := by
    intro x y u v hx hy hu hv
    have s1 := gr_symm hm hu hy
    have s2 := gr_symm hm hv hy
    have s3 := gr_symm hm hu hx
    have U1 := gr_ult hm h4 hx hu hy
    have U2 := gr_ult hm h4 hx hv hy
    have U3 := gr_ult hm h4 hu hx hv
    have U4 := gr_ult hm h4 hu hy hv
    rw [f_gr (f := f) x y, f_gr (f := f) u v, f_gr (f := f) x u, f_gr (f := f) y v, f_gr (f := f) x v, f_gr (f := f) y u]
    generalize f 0 x = X, f 0 y = Y, f 0 u = U, f 0 v = W, gr f x y = a, gr f u v = b, gr f x u = c, gr f y v = d, gr f x v = e, gr f y u = g, gr f u y = g', gr f v y = d', gr f u x = c' at *
    grind
  have k1 := key hx hy hu hv
  have k2 := key hx hu hy hv
  have k3 := key hx hv hy hu
  have t1 := hm.symm u y hu hy
  have t2 := hm.symm v y hv hy
  have t3 := hm.symm v u hv hu
  unfold above3
  simp only [Bool.or_eq_false_iff, Bool.and_eq_false_iff, decide_eq_false_iff_not]
  grind
theorem isS_eq {s : Str} {p : D} (h : isS s p = true) : p = .str s := by
  cases p with
  | str z => exact congrArg D.str (of_decide_eq_true h)
  | _ => cases h
/-- what holds is of the metric's kind -/
theorem holds_kind {n : Nat} {f : Nat → Nat → Rat} (hf : MetOk n f) (hm : IsMet n f) {d : D} (h : holdsT n f d = true) : ∃ p0 ps, d = .tup (p0 :: ps) ∧ ((p0 = .str "tree" ∧ Four n f) ∨ (p0 = .str "points" ∧ ¬ Four n f)) := by
  cases d with
  | tup ds =>
    cases ds with
    | nil => cases h
    | cons p0 ps =>
      refine ⟨p0, ps, rfl, ?_⟩
      cases ht : isS "tree" p0 with
      | true =>
        left
        refine ⟨isS_eq ht, ?_⟩
        rw [holdsT_tree ht] at h
        unfold treeT at h
        split at h
        · rename_i p1 p2
          unfold showsT at h
          split at h
          · rename_i m es
            simp only [Bool.and_eq_true, decide_eq_true_eq, List.all_eq_true, List.mem_range] at h
            obtain ⟨⟨⟨⟨h1, h2⟩, h3⟩, h5⟩, h6⟩ := h
            obtain ⟨mm, rfl⟩ := Int.eq_ofNat_of_zero_le (show 0 ≤ m by omega)
            have h6' : ∀ x, x < n → wayOk n f mm (es.map edgeOf) x = true := fun x hx => h6 x hx
            refine accepted_four (m := mm) (es := es.map edgeOf) hf.lo (by omega) (fun e he => ?_) (by rw [List.length_map]; omega) h6'
            obtain ⟨d, hd, rfl⟩ := List.mem_map.mp he
            obtain ⟨e, h7, h8, h9, h10, h11, h12⟩ := isEdge_eq (h5 d hd)
            rw [h8]
            exact ⟨e.1.toNat, e.2.1.toNat, by omega, by omega, by omega, by omega, h12⟩
          · cases h
        · cases h
      | false =>
        right
        have h : (if isS "tree" p0 = true then treeT n f ps else isS "points" p0 && arePts n 4 (.tup ps) && pointsT f ps) = true := h
        rw [ht] at h
        have h : (isS "points" p0 && arePts n 4 (.tup ps) && pointsT f ps) = true := h
        simp only [Bool.and_eq_true] at h
        obtain ⟨⟨h1, h2⟩, h3⟩ := h
        refine ⟨isS_eq h1, fun h4 => ?_⟩
        have h2 : (decide ((ps.length : Int) = 4) && ps.all (isPt n)) = true := h2
        simp only [Bool.and_eq_true, decide_eq_true_eq] at h2
        obtain ⟨d0, d1, d2, d3, rfl⟩ : ∃ d0 d1 d2 d3, ps = [d0, d1, d2, d3] := by
          match ps, h2.1 with
          | [d0, d1, d2, d3], _ => exact ⟨d0, d1, d2, d3, rfl⟩
        have h8 : isPt n d0 = true ∧ isPt n d1 = true ∧ isPt n d2 = true ∧ isPt n d3 = true := by simpa using h2.2
        obtain ⟨x, rfl, hx0, hx1⟩ := isPt_eq h8.1
        obtain ⟨y, rfl, hy0, hy1⟩ := isPt_eq h8.2.1
        obtain ⟨u, rfl, hu0, hu1⟩ := isPt_eq h8.2.2.1
        obtain ⟨v, rfl, hv0, hv1⟩ := isPt_eq h8.2.2.2
        have h3 : above3 (f x.toNat y.toNat + f u.toNat v.toNat) (f x.toNat u.toNat + f y.toNat v.toNat) (f x.toNat v.toNat + f y.toNat u.toNat) = true := h3
        rw [four_all hm h4 (by omega) (by omega) (by omega) (by omega)] at h3
        cases h3
  | _ => cases h
structure PapOk (n : Nat) (f : Nat → Nat → Rat) (paper : D) (tr : Bool) : Prop where
  p0 : ∃ ps, paper = .tup (.str (if tr = true then "tree" else "points") :: ps)
  holds : holdsT n f paper = true
  psn : Psn 0 paper
  four : fourB n f = tr
  many : tr = true → ∃ m es, paper = trP m es ∧ n ≤ m ∧ m ≤ 2 * n ∧ es.length ≤ 20 ∧ esB6 es ∧ ∀ x, n ≤ x → x < m → 3 ≤ degF es (x : Int)
theorem edgeOf_D (es : List Edge) : (es.map edgeD).map edgeOf = es := by
  rw [List.map_map]
  conv => rhs; rw [← List.map_id es]
  rfl
theorem paper_ok {n : Nat} {f : Nat → Nat → Rat} (hf : MetOk n f) (hm : IsMet n f) {d : D} (h : zPaper (n, f) d) : ∃ tr, PapOk n f d tr := by
  rcases h with ⟨h4, hd⟩ | ⟨q, hq, ha, hd⟩
  · have h4 : Four n f := h4
    have hd : d = treeP n f := hd
    subst hd
    obtain ⟨T, hl, hw⟩ := mathT hf hm h4
    have t1 := T.lo
    have t2 := T.hi
    have t3 := T.hi8
    refine ⟨true, ⟨_, rfl⟩, ?_, ?_, fourB_iff.mpr h4, fun _ => ⟨(edgesT n f).length + 1, edgesT n f, rfl, t1, t2, by omega, T.bd, T.deg⟩⟩
    · have e1 : holdsT n f (treeP n f) = treeT n f _ := holdsT_tree (by decide +kernel)
      rw [e1]
      show showsT n f (.int (((edgesT n f).length + 1 : Nat) : Int)) (.tup ((edgesT n f).map edgeD)) = true
      show (decide ((n : Int) ≤ (((edgesT n f).length + 1 : Nat) : Int)) && decide ((((edgesT n f).length + 1 : Nat) : Int) ≤ 2 * (n : Int)) && decide (((((edgesT n f).map edgeD).length : Nat) : Int) = (((edgesT n f).length + 1 : Nat) : Int) - 1) && ((edgesT n f).map edgeD).all (isEdge (((edgesT n f).length + 1 : Nat) : Int)) && (List.range n).all (wayOk n f (((edgesT n f).length + 1 : Nat) : Int).toNat (((edgesT n f).map edgeD).map edgeOf))) = true
      rw [edgeOf_D, List.length_map, Int.toNat_natCast]
      have a4 : ((edgesT n f).map edgeD).all (isEdge (((edgesT n f).length + 1 : Nat) : Int)) = true := by
        rw [List.all_eq_true]
        intro d hd
        obtain ⟨e, he, rfl⟩ := List.mem_map.mp hd
        have h1 := T.rng e he
        have h2 := T.pos e he
        show (decide (0 ≤ e.1) && decide (e.1 < e.2.1) && decide (e.2.1 < (((edgesT n f).length + 1 : Nat) : Int)) && decide (0 < e.2.2)) = true
        rw [decide_eq_true h1.1, decide_eq_true h1.2.1, decide_eq_true h2, decide_eq_true (by have := h1.2.2; omega)]
        rfl
      have a5 : (List.range n).all (wayOk n f ((edgesT n f).length + 1) (edgesT n f)) = true := by
        rw [List.all_eq_true]
        intro x hx
        exact hw x (List.mem_range.mp hx)
      rw [a4, a5, decide_eq_true (by omega), decide_eq_true (by omega), decide_eq_true (by omega)]
      rfl
    · refine ⟨by show 3 ≤ 100 + 0; omega, trivial, trivial, ⟨by rw [List.length_map]; omega, Psns.iff.mpr fun d hd => ?_⟩, trivial⟩
      obtain ⟨e, he, rfl⟩ := List.mem_map.mp hd
      exact ⟨by show 3 ≤ 100 + 0; omega, trivial, trivial, ((T.bd e he).up 2 (by omega)).mono (by decide), trivial⟩
  · have hq : q ∈ quads n := hq
    have ha : abv f q = true := ha
    have hd : d = pointsP q := hd
    subst hd
    have hmq := mem_quads.mp hq
    refine ⟨false, ⟨_, rfl⟩, ?_, ⟨by show 5 ≤ 100 + 0; omega, trivial, trivial, trivial, trivial, trivial, trivial⟩, ?_, fun h => (by cases h)⟩
    · obtain ⟨x, y, u, v⟩ := q
      simp only at hmq
      rw [holds_points (by omega) (by omega) (by omega) (by omega)]
      exact ha
    · unfold fourB
      rw [List.all_eq_false]
      exact ⟨q, hq, by rw [ha]; decide⟩
theorem PapOk.kind {n : Nat} {f : Nat → Nat → Rat} {paper d : D} {tr : Bool} (P : PapOk n f paper tr) (hf : MetOk n f) (hm : IsMet n f) (h : holdsT n f d = true) : ∃ ps, d = .tup (.str (if tr = true then "tree" else "points") :: ps) := by
  obtain ⟨p0, ps, rfl, ⟨rfl, h4⟩ | ⟨rfl, h4⟩⟩ := holds_kind hf hm h
  · have := fourB_iff.mpr h4
    rw [P.four] at this
    subst this
    exact ⟨ps, rfl⟩
  · have : tr = false := by
      cases tr with
      | false => rfl
      | true => exact absurd (fourB_iff.mp P.four) h4
    subst this
    exact ⟨ps, rfl⟩
end MP
/-! MSU -/
set_option exponentiation.threshold 10000
/-! law -/
namespace MP
open PySem PySem.Spec PyProof.Rows L2

/-- the law's state stands at sp, all else as it was -/
def LS (b0 : Ba) (sp : Addr) (m : Ms) : Prop := ∃ c, m sp = some c ∧ StC c ∧ ∀ z x, b0.mem z = some x → m z = some x
theorem LS.put {b0 : Ba} {sp : Addr} {m : Ms} {c : C} (h : LS b0 sp m) (hsp : b0.mem sp = none) (hc : StC c) : LS b0 sp (mput m sp c) := by
  obtain ⟨c0, h1, h2, h3⟩ := h
  refine ⟨c, mput_same, hc, fun z x hz => ?_⟩
  rw [mput_ne (fun e => by rw [e, hsp] at hz; cases hz)]
  exact h3 z x hz
theorem LS.new {b0 : Ba} {sp p : Addr} {m : Ms} {c : C} (h : LS b0 sp m) (hb : b0.mem p = none) (ne : p ≠ sp) : LS b0 sp (mput m p c) := by
  obtain ⟨c0, h1, h2, h3⟩ := h
  refine ⟨c0, by rw [mput_ne (fun e => ne e.symm)]; exact h1, h2, fun z x hz => ?_⟩
  rw [mput_ne (fun e => by rw [e, hb] at hz; cases hz)]
  exact h3 z x hz
theorem LS.del {b0 : Ba} {sp p : Addr} {m : Ms} (h : LS b0 sp m) (hb : b0.mem p = none) (ne : p ≠ sp) : LS b0 sp (mdel m p) := by
  obtain ⟨c0, h1, h2, h3⟩ := h
  refine ⟨c0, by rw [mdel_ne (fun e => ne e.symm)]; exact h1, h2, fun z x hz => ?_⟩
  rw [mdel_ne (fun e => by rw [e, hb] at hz; cases hz)]
  exact h3 z x hz
theorem LS.fresh {b0 : Ba} {sp p : Addr} {m : Ms} (h : LS b0 sp m) (hp : m p = none) : p ≠ sp := fun e => by
  obtain ⟨c0, h1, _⟩ := h
  rw [e, h1] at hp
  cases hp
def ptsD (e : Nat → Nat) : D := .tup (.str "points" :: (List.range 4).map fun k => D.int (e k : Int))
theorem psm_pts (e : Nat → Nat) : Psm (ptsD e) := ⟨trivial, Psms.iff.mpr fun d hd => by
  obtain ⟨k, _, rfl⟩ := List.mem_map.mp hd
  trivial⟩
/-- the tries stand at r -/
structure TS (b0 : Ba) (sp r : Addr) (m : Ms) (ps : List D) (N : Nat) : Prop where
  ls : LS b0 sp m
  at_ : m r = some (.lst (ps.map B.dat))
  ne : r ≠ sp
  psm : ∀ p ∈ ps, Psm p
  len : ps.length ≤ N
theorem TS.put {b0 : Ba} {sp r : Addr} {m : Ms} {ps : List D} {N : Nat} {c : C} (h : TS b0 sp r m ps N) (hsp : b0.mem sp = none) (hc : StC c) : TS b0 sp r (mput m sp c) ps N :=
  ⟨h.ls.put hsp hc, by rw [mput_ne h.ne]; exact h.at_, h.ne, h.psm, h.len⟩
theorem TS.app {b0 : Ba} {sp r : Addr} {m : Ms} {ps : List D} {N : Nat} {d : D} (h : TS b0 sp r m ps N) (hr : b0.mem r = none) (hd : Psm d) : TS b0 sp r (mput m r (.lst (ps.map B.dat ++ [.dat d]))) (ps ++ [d]) (N + 1) :=
  ⟨h.ls.new hr h.ne, by rw [mput_same, List.map_append]; rfl, h.ne, fun p hp => by
    rcases List.mem_append.mp hp with hp | hp
    · exact h.psm p hp
    · rw [List.mem_singleton] at hp
      rw [hp]; exact hd, by rw [List.length_append]; have := h.len; simp; omega⟩
theorem ro_neSS {K : PySem.W.Frag} {b0 : Ba} {a : AS} {k : B → AS → Prop} {s t : Str} (hk : k (.dat (.bl (!decide (s = t)))) a) : RO K b0 (rNeAny K) (.dat (.str s)) (.dat (.str t)) a k := ro_or1 (ro_ne (x := .str s) (y := .str t) rfl rfl rfl (by rw [vstr_dec]; exact hk))
theorem sc_law : FnScope ["_law_script", "_law_state_here", "_law_rows_here", "_law_factor_here", "_law_n", "_law_table_here", "_law_metric", "_law_paper", "_law_tries", "_law_turn", "_law_data", "_law_step", "_law_taken", "_law_k"] ["_law_script"] (defScope s_law) := ⟨rfl, rfl, rfl, by decide +kernel, rfl, by decide +kernel, by decide +kernel⟩
theorem law_ok {P : Program} {w : World} {K : PySem.W.Frag} {mg : Str → Option Value} {base : Heap} (M : FX K mg) {fd : FuncData} (F : FunD K d_law.name d_law.qual d_law.params d_law.body d_law.scope (d_law.dvs K) (d_law.kws K) (He.fAd K d_law.at_) fd) :
    FnOk P w K mg base CX0 30 (He.fAd K d_law.at_) fd ["_law_script"] (spA K (pw (f1 sLaw))) := by
  refine def_pure (j := 29) F sc_law f1_len fun cdv A outer s H E hr => ⟨_, (pss_cons (ps_set (i := 1) sc_law.nd rfl (by first | exact Or.inl rfl | exact Or.inr rfl) (C8.pe_c (c_Lstate M) hr (by decide) (by rfl) (pa_cons (pv 0) pa_nil)))
      (pss_cons (ps_set (i := 2) sc_law.nd rfl (by first | exact Or.inl rfl | exact Or.inr rfl) (C8.pe_c (c_Lrows M) hr (by decide) (by rfl) (pa_cons (pv 1) (pa_cons (pe_op (op_addAny M (ops M) hr) pe_int (pe_op op_mulI pe_int (pe_callTy (T := "int") call_int1 (by rfl) (M.free 64) (by decide +kernel) (pa_cons (pe_cmpR (op_eqAny M (ops M) hr) (C8.pe_c (c_Ltake M) hr (by decide) (by rfl) (pa_cons (pv 1) (pa_cons pe_int pa_nil))) pe_int (nomark _)) pa_nil)))) pa_nil))))
        (pss_cons (ps_set (i := 3) sc_law.nd rfl (by first | exact Or.inl rfl | exact Or.inr rfl) (C8.pe_c (c_Lfactor M) hr (by decide) (by rfl) (pa_cons (pv 1) pa_nil)))
          (pss_cons (ps_set (i := 4) sc_law.nd rfl (by first | exact Or.inl rfl | exact Or.inr rfl) (pe_callB (call_len_anyK (K := K)) (by rfl) (M.free 61) PySem.boot_len (pa_cons (pv 2) pa_nil)))
            (pss_cons (ps_set (i := 5) sc_law.nd rfl (by first | exact Or.inl rfl | exact Or.inr rfl) (C8.pe_c (c_Ltable M) hr (by decide) (by rfl) (pa_cons (pv 2) (pa_cons (pv 3) pa_nil))))
              (pss_cons (ps_set (i := 6) sc_law.nd rfl (by first | exact Or.inl rfl | exact Or.inr rfl) (C8.pe_mk (mk_Metric M) hr (by decide) (by rfl) (pa_cons (C8.pe_c (c_Lratios M) hr (by decide) (by rfl) (pa_cons (pv 2) (pa_cons (pv 3) pa_nil))) pa_nil)))
                (pss_cons (ps_set (i := 7) sc_law.nd rfl (by first | exact Or.inl rfl | exact Or.inr rfl) (C8.pe_c (c_tree_paper M) hr (by decide) (by rfl) (pa_cons (pv 6) pa_nil)))
                  (pss_cons (ps_if (PW.pt (pw_or (pt_not (pt_val (C8.pe_c (c_Ltree_holds M) hr (by decide) (by rfl) (pa_cons (pv 5) (pa_cons (pv 7) pa_nil))))) (pw_or1 (pt_cmpR op_notBl (C8.pe_c (c_takes_tree M) hr (by decide) (by rfl) (pa_cons (pv 6) (pa_cons (pv 7) pa_nil))) pe_bl (nomark _)))))
                    (pss_one (ps_ret pe_bl))
                    pss_nil)
                    (pss_cons (ps_if (pt_cmpR (op_neAny M (ops M) hr) (pe_cmpR (op_eqAny M (ops M) hr) (pe_ix (ix_seqK (K := K)) (pv 7) pe_int (fun _ _ => rfl)) pe_str (nomark _)) (C8.pe_c (c_Lfour M) hr (by decide) (by rfl) (pa_cons (pv 5) pa_nil)) (nomark _))
                      (pss_one (ps_ret pe_bl))
                      pss_nil)
                      (pss_cons (ps_if (PW.pt (pw_or (pt_not (pt_val (C8.pe_c (c_Lno_length M) hr (by decide) (by rfl) (pa_cons (pv 1) pa_nil)))) (pw_or1 (PW.pt (pw_and (pt_cmpR (op_eqAny M (ops M) hr) (pe_ix (ix_seqK (K := K)) (pv 7) pe_int (fun _ _ => rfl)) pe_str (nomark _)) (pw_and1 (pt_not (pt_val (C8.pe_c (c_Lmany_edges M) hr (by decide) (by rfl) (pa_cons (pv 7) (pa_cons (pv 4) pa_nil)))))))))))
                        (pss_one (ps_ret pe_bl))
                        pss_nil)
                        (pss_cons (ps_set (i := 8) sc_law.nd rfl (by first | exact Or.inl rfl | exact Or.inr rfl) (pe_lst (pa_cons (pe_tup (pa_cons pe_str (pa_cons (pv 4) (pa_cons (pe_tup pa_nil) pa_nil)))) (pa_cons (pe_tup (pa_cons pe_str (pa_cons pe_int (pa_cons pe_int (pa_cons pe_int (pa_cons pe_int pa_nil)))))) (pa_cons (pe_tup (pa_cons pe_str (pa_cons pe_int (pa_cons pe_int (pa_cons pe_int pa_nil))))) (pa_cons (pe_tup (pa_cons pe_str (pa_cons pe_int (pa_cons pe_int (pa_cons pe_int (pa_cons (pv 4) pa_nil)))))) (pa_cons (pe_lst (pa_cons pe_str (pa_cons (pv 4) (pa_cons (pe_tup pa_nil) pa_nil)))) (pa_cons pe_non (pa_cons (pe_tup (pa_cons pe_str pa_nil)) pa_nil)))))))))
                          (pss_cons (ps_for PassesOwn.never rfl (pi_range1 rfl (M.free 62) (pa_cons pe_int pa_nil)) (pg_name (i := 9) sc_law.nd rfl (by first | exact Or.inl rfl | exact Or.inr rfl))
                            (pss_one (ps_expr (pe_bm PySem.F.plainAttrs_list PySem.F.slot_list_append PySem.F.type_list_append mt_append (pv 8) (pa_cons (pe_op (op_addAny M (ops M) hr) (pe_tup (pa_cons pe_str pa_nil)) (pe_callTy (T := "tuple") (call_tuple_ofK (K := K)) (by rfl) (M.free 66) (by decide +kernel) (pa_cons (pe_lc (own := [("_law_k", 13)]) (g := gName 13) (by rfl) sc_law.nd (pi_range1 rfl (M.free 62) (pa_cons pe_int pa_nil)) (by dsimp only [Cx.blk, Cx.nox, Cx.wish, cxOf, blk_sc, env_sc]; exact blkOk_by (by decide +kernel)) (fun _ _ _ _ _ => pg_name (i := 13) sc_law.nd rfl (by first | exact Or.inl rfl | exact Or.inr rfl)) (fun _ _ _ _ _ => pts_nil) (fun _ _ _ _ _ => (C8.pe_c (c_Ltake M) hr (by decide) (by rfl) (pa_cons (pv 1) (pa_cons (pv 4) pa_nil))))) pa_nil))) pa_nil)))))
                            (pss_cons (ps_if (pt_cmpR (op_eqAny M (ops M) hr) (pe_ix (ix_seqK (K := K)) (pv 7) pe_int (fun _ _ => rfl)) pe_str (nomark _))
                              (pss_one (ps_set (i := 8) sc_law.nd rfl (by first | exact Or.inl rfl | exact Or.inr rfl) (pe_op (op_addAny M (ops M) hr) (pe_op (op_addAny M (ops M) hr) (pv 8) (C8.pe_c (c_Llonger M) hr (by decide) (by rfl) (pa_cons (pv 7) pa_nil))) (C8.pe_c (c_Lleaves M) hr (by decide) (by rfl) (pa_cons (pv 7) (pa_cons (pv 4) pa_nil))))))
                              pss_nil)
                              (pss_cons (ps_for PassesOwn.never rfl (pi_range1 rfl (M.free 62) (pa_cons pe_int pa_nil)) (pg_name (i := 9) sc_law.nd rfl (by first | exact Or.inl rfl | exact Or.inr rfl))
                                (pss_cons (ps_set (i := 10) sc_law.nd rfl (by first | exact Or.inl rfl | exact Or.inr rfl) (pv 7))
                                  (pss_cons (ps_for PassesOwn.never rfl (pi_range1 rfl (M.free 62) (pa_cons (pe_op (op_addAny M (ops M) hr) pe_int (C8.pe_c (c_Ltake M) hr (by decide) (by rfl) (pa_cons (pv 1) (pa_cons pe_int pa_nil)))) pa_nil)) (pg_name (i := 11) sc_law.nd rfl (by first | exact Or.inl rfl | exact Or.inr rfl))
                                    (pss_one (ps_set (i := 10) sc_law.nd rfl (by first | exact Or.inl rfl | exact Or.inr rfl) (C8.pe_c (c_Lbend M) hr (by decide) (by rfl) (pa_cons (pv 1) (pa_cons (pv 4) (pa_cons (pv 10) (pa_cons pe_int pa_nil))))))))
                                    (pss_one (ps_expr (pe_bm PySem.F.plainAttrs_list PySem.F.slot_list_append PySem.F.type_list_append mt_append (pv 8) (pa_cons (pv 10) pa_nil)))))))
                                (pss_cons (ps_for PassesOwn.never rfl (pi_listK (K := K) (pv 8)) (pg_name (i := 10) sc_law.nd rfl (by first | exact Or.inl rfl | exact Or.inr rfl))
                                  (pss_cons (ps_set (i := 12) sc_law.nd rfl (by first | exact Or.inl rfl | exact Or.inr rfl) (C8.pe_c (c_takes_tree M) hr (by decide) (by rfl) (pa_cons (pv 6) (pa_cons (pv 10) pa_nil))))
                                    (pss_cons (ps_if (PW.pt (pw_or (PW.pt (pw_and (pt_cmpR op_notBl (pv 12) pe_bl (nomark _)) (pw_and1 (pt_cmpR op_notBl (pv 12) pe_bl (nomark _))))) (pw_or1 (pt_cmpR (op_neAny M (ops M) hr) (pv 12) (C8.pe_c (c_Ltree_holds M) hr (by decide) (by rfl) (pa_cons (pv 5) (pa_cons (pv 10) pa_nil))) (nomark _)))))
                                      (pss_one (ps_ret pe_bl))
                                      pss_nil)
                                      (pss_one (ps_if (PW.pt (pw_and (pt_val (pv 12)) (pw_and1 (pt_cmpR (op_neAny M (ops M) hr) (pe_ix (ix_seqK (K := K)) (pv 10) pe_int (fun _ _ => rfl)) (pe_ix (ix_seqK (K := K)) (pv 7) pe_int (fun _ _ => rfl)) (nomark _)))))
                                        (pss_one (ps_ret pe_bl))
                                        pss_nil)))))
                                  (pss_one (ps_ret pe_bl))))))))))))))))), ?_⟩
  try dsimp only [cx_K]
  intro b0 Z bs d h hret
  obtain ⟨_, rfl, ns, rfl, rfl⟩ := h
  refine gs_seq (gs_set (ev_callF (ea_cons (ev_var rfl (ea_nil ⟨ns, ⟨_, rfl, rfl⟩, fun c0 sp hc0 hsp0 hsp => ?_⟩)))))
  have hsp0 : b0.mem sp = none := hsp0
  have L0 : LS b0 sp (mput b0.mem sp c0) := ⟨c0, mput_same, hc0, fun z x hz => by rw [mput_ne (fun e => by rw [e, hsp] at hz; cases hz)]; exact hz⟩
  let En : List (Option B) → List (Option B) := fun ws => [some (.dat (.ro (ns.map D.int))), some (.ptr sp)] ++ ws
  show NX K b0 _ ⟨En [none, none, none, none, none, none, none, none, none, none, none, none], mput b0.mem sp c0⟩
  generalize mput b0.mem sp c0 = m0 at L0
  -- rows
  refine nx_go (gs_seq (gs_set (ev_callS (ea_cons (ev_var rfl (ea_cons (ev_op (ev_int (ev_op (ev_int (ev_cb (ea_cons (ev_op (ev_take ?_))))))))))))))
  walk_at "mpR"
  obtain ⟨c1, g1, g2, g3⟩ := id L0
  refine ⟨sp, c1, 8, rfl, rfl, g1, g2, by omega, by omega, fun v c2 hv hc2 => ?_⟩
  have L1 := L0.put hsp hc2
  show EV K b0 _ ⟨En [none, none, none, none, none, none, none, none, none, none, none, none], mput m0 sp c2⟩ _
  generalize mput m0 sp c2 = m1 at L1
  walk_at "mpR"
  have mo : ∀ b : Bool, IntMulOk 3 (if b = true then 1 else 0) := fun b => IntMulOk.of_left (by decide)
  refine ro_I (mo _) (ro_addI ?_)
  obtain ⟨mo8, hmo, hmo1, hmo8⟩ : ∃ mo8 : Nat, (5 : Int) + 3 * (if decide ((v : Int) = 0) = true then 1 else 0) = (mo8 : Int) ∧ 1 ≤ mo8 ∧ mo8 ≤ 8 := by
    by_cases h : (v : Int) = 0
    · exact ⟨8, by rw [decide_eq_true h]; rfl, by omega, by omega⟩
    · exact ⟨5, by rw [decide_eq_false h]; rfl, by omega, by omega⟩
  rw [hmo]
  obtain ⟨c3, g1, g2, g3⟩ := id L1
  refine ea_nil ⟨(sp, c3, mo8), c3, ⟨_, _, rfl, rfl, rfl, g1, g2, hmo1, by show mo8 ≤ 16; omega⟩, g1, fun d c4 hc4 ⟨n, h, hn1, hn8, hI, hd⟩ => ?_⟩
  have hd : d = rowsI n h := hd
  subst hd
  have hn8 : n ≤ 8 := Nat.le_trans (show n ≤ mo8 from hn8) hmo8
  have L2 := L1.put hsp hc4
  show NX K b0 _ ⟨En [some (.dat (rowsI n h)), none, none, none, none, none, none, none, none, none, none, none], mput m1 sp c4⟩
  generalize mput m1 sp c4 = m2 at L2
  -- factor
  obtain ⟨c5, g1, g2, g3⟩ := id L2
  refine nx_go (gs_seq (gs_set (ev_callS (ea_cons (ev_var rfl (ea_nil ⟨(sp, c5), c5, ⟨_, rfl, rfl, g1, g2⟩, g1, fun d c6 hc6 ⟨fa', fb, ha1, ha4, hb1, hb3, hd⟩ => ?_⟩))))))
  subst hd
  have L3 := L2.put hsp hc6
  show NX K b0 _ ⟨En [some (.dat (rowsI n h)), some (.dat (.tup [.int (fa' : Int), .int (fb : Int)])), none, none, none, none, none, none, none, none, none, none], mput m2 sp c6⟩
  generalize mput m2 sp c6 = m3 at L3
  have hlen : ∀ {α : Type} (f : Nat → α), ((List.range n).map f).length = n := fun f => by rw [List.length_map, List.length_range]
  have hh : ∀ x y, x < n → y < n → (h x y).natAbs ≤ 10000 := fun x y hx hy => hI.wt.le' hx hy
  have hf : MetOk n (scl h fa' fb) := scl_ok hI hn1 hn8 ha4 hb1 hb3
  have hm : IsMet n (scl h fa' fb) := scl_met hI ha1 hb1
  refine nx_go (gs_seq (gs_set (ev_cb (ea_cons (ev_var (b := .dat (rowsI n h)) rfl (ea_nil (rc_lenL (.inr ⟨_, rfl, rfl⟩) ?_)))))))
  rw [List.length_map, hlen]
  refine nx_go (gs_seq (gs_set (ev_callP (ea_cons (ev_var rfl (ea_cons (ev_var rfl (ea_nil ⟨_, ⟨_, _, rfl, n, fa', fb, h, rfl, rfl, by omega, by omega, hb1, by omega, hh, rfl⟩, ?_⟩))))))))
  refine nx_go (gs_seq (gs_set (ev_mkMet (ea_cons (ev_callP (ea_cons (ev_var rfl (ea_cons (ev_var rfl (ea_nil ⟨_, ⟨_, _, rfl, n, fa', fb, h, rfl, rfl, by omega, by omega, hb1, by omega, hh, rfl⟩, ea_nil ⟨true, n, fun x y => .rat (scl h fa' fb x y), rfl, fun _ _ _ _ => rfl, hf, hm, ?_⟩⟩))))))))))
  show NX K b0 _ ⟨En [some (.dat (rowsI n h)), some (.dat (.tup [.int (fa' : Int), .int (fb : Int)])), some (.dat (.int (n : Int))), some (.dat (tabD n (scl h fa' fb))), some (.dat (mtr n (scl h fa' fb))), none, none, none, none, none, none, none], m3⟩
  generalize scl h fa' fb = f at hf hm
  generalize rowsI n h = dR
  generalize D.tup [.int (fa' : Int), .int (fb : Int)] = dF
  -- the paper
  refine nx_go (gs_seq (gs_set (ev_callPn (ea_cons (ev_var rfl (ea_nil ⟨(n, f), ⟨_, rfl, rfl, hf, hm⟩, fun paper hp => ?_⟩))))))
  obtain ⟨tr, hP⟩ := paper_ok hf hm hp
  have hpsm : Psm paper := hP.psn.psm (by omega)
  obtain ⟨ps0, hps0⟩ := hP.p0
  let E2 : List (Option B) → List (Option B) := fun ws => En ([some (.dat dR), some (.dat dF), some (.dat (.int (n : Int))), some (.dat (tabD n f)), some (.dat (mtr n f)), some (.dat paper)] ++ ws)
  show NX K b0 _ ⟨E2 [none, none, none, none, none, none], m3⟩
  refine nx_go (gs_skip ?_ ?_)
  · walk_at "mpR"
    refine ⟨_, ⟨_, _, rfl, n, f, paper, rfl, hf, rfl, hpsm, rfl⟩, ?_⟩
    rw [hP.holds]
    walk_at "mpR"
    refine ⟨fun _ => ?_, fun h => (by cases h)⟩
    walk_at "mpR"
    refine ⟨_, ⟨_, _, rfl, n, f, paper, rfl, hf, rfl, hpsm, rfl⟩, ?_⟩
    rw [hP.holds]
    walk_at "mpR"
    exact ⟨rfl, fun h => (by cases h)⟩
  have p0E : ∀ {b0 : Ba} {a : AS} {kk : B → AS → Prop}, a.env[7]? = some (some (.dat paper)) → kk (.dat (.str (if tr = true then "tree" else "points"))) a → EV K b0 (tOp (rIx K) (tVar 7) (tC (.int 0))) a kk := fun h hk => by
    subst hps0
    exact ev_op (ev_var h (ev_int (ro_ixT (atI_nat (n := 0) rfl) hk)))
  have hkd : isS "tree" (.str (if tr = true then "tree" else "points")) = tr := by
    cases tr with
    | true => exact (by decide +kernel : isS "tree" (.str "tree") = true)
    | false => exact isS_two (p := .str "points") (by decide +kernel)
  refine gs_skip ?_ ?_
  · refine et_test (ev_op (ev_op (p0E rfl (ev_str (ro_eqS trivial ?_)))))
    rw [hkd]
    refine ev_callP (ea_cons (ev_var rfl (ea_nil ⟨_, ⟨_, rfl, n, f, rfl, hf, rfl⟩, ?_⟩)))
    rw [hP.four]
    refine ro_neBB ⟨_, rfl, rfl, fun h => ?_⟩
    simp at h
  -- no length, many edges
  refine gs_seq (gs_if (ET.mono (k := fun b a1 => b = false ∧ ∃ c8, StC c8 ∧ a1 = ⟨E2 [none, none, none, none, none, none], mput m3 sp c8⟩) ?_ ?_))
  · obtain ⟨c7, g1, g2, g3⟩ := id L3
    refine et_or (et_not (et_B (ev_callS (ea_cons (ev_var rfl (ea_nil ⟨(sp, c7), c7, ⟨_, rfl, rfl, g1, g2⟩, g1, fun d c8 hc8 hd => ?_⟩))))))
    have hd : d = .bl true := hd
    subst hd
    refine ⟨_, rfl, fun _ => ?_, fun h => (by cases h)⟩
    refine et_and (et_test (ev_op (p0E rfl (ev_str (ro_eqS trivial ?_)))))
    rw [hkd]
    refine ⟨_, rfl, fun htr => ?_, fun _ => ⟨rfl, c8, hc8, rfl⟩⟩
    obtain ⟨mm, es, hpe, q1, q2, q3, q4, q5⟩ := hP.many htr
    refine et_not (et_B (ev_callP (ea_cons (ev_var rfl (ea_cons (ev_var rfl (ea_nil ⟨_, ⟨_, _, rfl, n, mm, es, by rw [hpe], rfl, q1, by omega, by omega, q5, rfl⟩, ?_⟩)))))))
    exact ⟨_, rfl, rfl, c8, hc8, rfl⟩
  rintro b _ ⟨rfl, c8, hc8, rfl⟩
  refine ⟨fun h => (by cases h), fun _ => gs_next (nx_go ?_)⟩
  have L4 := L3.put hsp hc8
  generalize mput m3 sp c8 = m4 at L4
  -- the tries
  refine gs_seq (gs_set (ev_lstM ?_))
  walk_at "mpR"
  refine ev_lst3 ?_
  walk_at "mpR"
  refine ⟨by simp, fun r hr0 hr => ?_⟩
  have hrs : r ≠ sp := L4.fresh hr0
  let T0 : List D := [.tup [.str "tree", .int (n : Int), .tup []], .tup [.str "points", .int 0, .int 0, .int 0, .int 0], .tup [.str "points", .int 0, .int 0, .int 0], .tup [.str "points", .int 0, .int 0, .int 0, .int (n : Int)], .lst [.str "tree", .int (n : Int), .tup []], .non, .tup [.str "tree"]]
  have hT0 : ∀ p ∈ T0, Psm p := fun p hp => by
    simp only [T0, List.mem_cons, List.not_mem_nil, or_false] at hp
    rcases hp with rfl | rfl | rfl | rfl | rfl | rfl | rfl <;> first | trivial | exact ⟨trivial, trivial, trivial, trivial⟩ | exact ⟨trivial, trivial, trivial, trivial, trivial, trivial⟩ | exact ⟨trivial, trivial, trivial, trivial, trivial⟩ | exact ⟨trivial, trivial⟩
  have S0 : TS b0 sp r (mput m4 r (.lst (T0.map B.dat))) T0 7 := ⟨L4.new hr hrs, mput_same, hrs, hT0, by simp [T0]⟩
  show NX K b0 _ ⟨E2 [some (.ptr r), none, none, none, none, none], mput m4 r (.lst (T0.map B.dat))⟩
  refine nx_go (gs_seq (gs_forN1 (ea_cons (ev_int (ea_nil ⟨12, rfl, by decide, fun i a => ∃ (ps : List D) (m : Ms) (w9 : Option B), TS b0 sp r m ps (7 + i) ∧ a = ⟨E2 [some (.ptr r), w9, none, none, none, none], m⟩, ⟨T0, _, none, S0, rfl⟩, ?_, ?_⟩)))))
  · rintro i _ hi ⟨ps, m, w9, hS, rfl⟩
    refine gg_name (gs_app (ev_var rfl ⟨r, _, rfl, hS.at_, ?_⟩))
    refine ev_op (ev_tup1 (ev_str ⟨_, rfl, ev_cb (ea_cons (ev_lcN1 ⟨by decide, ea_cons (ev_int (ea_nil ⟨4, rfl, by decide, ?_⟩))⟩))⟩))
    refine ⟨fun p kk acc m => ∃ e : Nat → Nat, acc = ((List.range kk).map fun k => D.int (e k : Int)).map B.dat ∧ TS b0 sp r m ps (7 + i) ∧ p ≠ sp ∧ p ≠ r, ?_, ?_, ?_⟩
    · intro p h1 h2
      have h1 : m p = none := h1
      have hpr : p ≠ r := fun e => by rw [e, hS.at_] at h1; cases h1
      have hps := hS.ls.fresh h1
      exact ⟨fun _ => 0, rfl, ⟨hS.ls.new h2 hps, by rw [mput_ne (fun e => hpr e.symm)]; exact hS.at_, hS.ne, hS.psm, hS.len⟩, hps, hpr⟩
    · rintro p k acc mm hk hb ⟨e, rfl, hS, hps, hpr⟩ hmp
      refine et_yes ⟨fun _ => ?_, fun h => (by cases h)⟩
      obtain ⟨c9, g1, g2, g3⟩ := id hS.ls
      refine ev_take ?_
      walk_at "mpR"
      refine ⟨sp, c9, n, rfl, rfl, g1, g2, by omega, by omega, fun v c10 hv hc10 => ?_⟩
      have hS2 := hS.put hsp hc10
      refine ⟨by rw [List.length_map, List.length_map, List.length_range]; omega, ?_, fun j => if j = k then v else e j, ?_, ?_, hps, hpr⟩
      · show mput mm sp c10 p = _
        rw [mput_ne hps]
        exact hmp
      · rw [List.range_succ, List.map_append, List.map_append]
        congr 1
        · refine congrArg (List.map B.dat) (List.map_congr_left fun j hj => ?_)
          have : ¬ j = k := by have := List.mem_range.mp hj; omega
          simp [this]
        · simp
      · exact ⟨hS2.ls.new hb hps, by rw [mput_ne (fun e => hpr e.symm)]; exact hS2.at_, hS2.ne, hS2.psm, hS2.len⟩
    · rintro p acc mm h1 h2 ⟨e, rfl, hS, hps, hpr⟩ hmp
      refine ea_nil (rc_tupleL (ds := (List.range 4).map fun k => D.int (e k : Int)) (.inl ⟨p, rfl, hmp⟩) ?_)
      refine ro_addT (by simp) ?_
      refine ⟨_, hS.at_, by rw [List.length_map]; have := hS.len; omega, ?_⟩
      exact nx_inv ⟨ps ++ [ptsD e], _, some (.dat (.int (i : Int))), hS.app hr (psm_pts e), rfl⟩
  rintro _ ⟨ps, m, w9, hS, rfl⟩
  -- more of them
  refine nx_go (gs_cutS (fun a => ∃ (r : Addr) (ps : List D) (m : Ms) (w9 : Option B), b0.mem r = none ∧ TS b0 sp r m ps 1000 ∧ a = ⟨E2 [some (.ptr r), w9, none, none, none, none], m⟩) (fun f' J => ?_) ?_)
  · refine gs_if (et_test (ev_op (p0E rfl (ev_str (ro_eqS trivial ?_)))))
    rw [hkd]
    refine ⟨_, rfl, fun htr => ?_, fun _ => gs_next (nx_mk (J _ ⟨r, ps, m, w9, hr, ⟨hS.ls, hS.at_, hS.ne, hS.psm, by have := hS.len; omega⟩, rfl⟩))⟩
    obtain ⟨mm, es, hpe, q1, q2, q3, q4, q5⟩ := hP.many htr
    refine gs_set (ev_op (ev_op (ev_var rfl (ev_callPn (ea_cons (ev_var rfl (ea_nil ⟨(mm, es), ⟨_, rfl, by rw [hpe], by show mm ≤ 100; omega, q3, q4⟩, fun d ⟨ps1, hd, hl1, hp1⟩ => ?_⟩)))))))
    subst hd
    refine ro_addL (ds := ps) (es := ps1) (.inl ⟨r, rfl, hS.at_⟩) (.inr ⟨ps1, rfl, rfl⟩) (by have := hS.len; omega) ?_
    refine ev_callPn (ea_cons (ev_var rfl (ea_cons (ev_var rfl (ea_nil ⟨(n, mm, es), ⟨_, _, rfl, ⟨by rw [hpe], by show mm ≤ 100; omega, q3, q4⟩, rfl, by show n ≤ 100; omega, by show mm ≤ 2 * n; omega⟩, fun d ⟨ps2, hd, hl2, hp2⟩ => ?_⟩)))))
    subst hd
    refine ro_addM (bs := (ps ++ ps1).map B.dat) (cs := ps2.map B.dat) (.inr ⟨ps ++ ps1, rfl, rfl⟩) (.inr ⟨ps2, rfl, rfl⟩) (by simp only [List.length_map, List.length_append]; have := hS.len; omega) fun r2 h1 h2 => ?_
    refine nx_mk (J _ ⟨r2, ps ++ ps1 ++ ps2, _, w9, h2, ⟨hS.ls.new h2 (hS.ls.fresh h1), by rw [mput_same, ← List.map_append], hS.ls.fresh h1, fun p hp => ?_, by simp only [List.length_append]; have := hS.len; omega⟩, rfl⟩)
    rcases List.mem_append.mp hp with hp | hp
    · rcases List.mem_append.mp hp with hp | hp
      · exact hS.psm p hp
      · exact hp1 p hp
    · exact hp2 p hp
  clear hS hr hrs hr0 S0
  rintro _ ⟨r, ps, m, w9, hr, hS, rfl⟩
  -- changed papers
  refine gs_seq (gs_forN1 (ea_cons (ev_int (ea_nil ⟨4, rfl, by decide, fun i a => ∃ (ps : List D) (m : Ms) (w9 w10 w11 : Option B), TS b0 sp r m ps (1000 + i) ∧ a = ⟨E2 [some (.ptr r), w9, w10, w11, none, none], m⟩, ⟨ps, m, w9, none, none, hS, rfl⟩, ?_, ?_⟩))))
  · rintro i _ hi ⟨ps, m, w9, w10, w11, hS, rfl⟩
    refine gg_name (gs_seq (gs_set (ev_var rfl (nx_go (gs_seq (gs_forN1 (ea_cons (ev_op (ev_int (ev_take ?_))))))))))
    walk_at "mpR"
    obtain ⟨c9, g1, g2, g3⟩ := id hS.ls
    refine ⟨sp, c9, 2, rfl, rfl, g1, g2, by omega, by omega, fun v c10 hv hc10 => ?_⟩
    have hv : v < 2 := hv
    have hS2 := hS.put hsp hc10
    refine ro_addI (ea_nil ⟨1 + v, by rw [Int.natCast_add]; rfl, by omega, fun j a => ∃ (m : Ms) (d : D) (w11 : Option B), TS b0 sp r m ps (1000 + i) ∧ Psn j d ∧ a = ⟨E2 [some (.ptr r), some (.dat (.int (i : Int))), some (.dat d), w11, none, none], m⟩, ⟨_, paper, w11, hS2, hP.psn, rfl⟩, ?_, ?_⟩)
    · rintro j _ hj ⟨m, d, w11, hS, hd, rfl⟩
      obtain ⟨c9, g1, g2, g3⟩ := id hS.ls
      refine gg_name (gs_set (ev_callS (ea_cons (ev_var rfl (ea_cons (ev_var rfl (ea_cons (ev_var rfl (ea_cons (ev_int (ea_nil ⟨(sp, c9, n, d, j, 4), c9, ⟨_, _, _, _, rfl, rfl, rfl, rfl, rfl, g1, g2, by show n ≤ 100; omega, hd, by show j ≤ 100; omega, by show 4 < 5; omega⟩, g1, fun d' c11 hc11 hd' => ?_⟩)))))))))))
      exact nx_inv ⟨_, d', some (.dat (.int (j : Int))), hS.put hsp hc11, hd', rfl⟩
    · rintro _ ⟨m, d, w11, hS, hd, rfl⟩
      refine nx_go (gs_app (ev_var rfl ⟨r, _, rfl, hS.at_, ev_var rfl ⟨_, hS.at_, by rw [List.length_map]; have := hS.len; omega, ?_⟩⟩))
      exact nx_inv ⟨ps ++ [d], _, some (.dat (.int (i : Int))), some (.dat d), w11, hS.app hr (hd.psm (by omega)), rfl⟩
  rintro _ ⟨ps, m, w9, w10, w11, hS, rfl⟩
  -- all are asked
  refine nx_go (gs_frz (ds := ps) hr hS.at_ (e := E2 [some (.dat (.lst ps)), w9, w10, w11, none, none]) (.keep (.keep (.keep (.keep (.keep (.keep (.keep (.keep (.hit (.keep (.keep (.keep (.keep (.keep .nil)))))))))))))) ?_)
  have LL := hS.ls.del hr hS.ne
  have hpsA := hS.psm
  show GS K b0 _ _ ⟨E2 [some (.dat (.lst ps)), w9, w10, w11, none, none], mdel m r⟩
  generalize mdel m r = mF at LL
  obtain ⟨_, _, _, hall⟩ := LL
  refine gs_seq (gs_forL (ev_var rfl ⟨ps, rfl, fun i a => ∃ w10 w12, a = ⟨E2 [some (.dat (.lst ps)), w9, w10, w11, w12, none], mF⟩, ⟨w10, none, rfl⟩, ?_, ?_⟩))
  · rintro vv i d _ hd ⟨w10, w12, rfl⟩
    have hpd := hpsA d (List.mem_of_getElem? hd)
    refine gg_name (gs_seq (gs_set (ev_callP (ea_cons (ev_var rfl (ea_cons (ev_var rfl (ea_nil ⟨_, ⟨_, _, rfl, n, f, d, rfl, hf, rfl, hpd, rfl⟩, ?_⟩))))))))
    refine nx_go (gs_skip ?_ ?_)
    · cases hcv : holdsT n f d with
      | true =>
        walk_at "mpR"
        refine ⟨fun h => (by simp at h), fun _ => ⟨fun _ => ?_, fun h => (by cases h)⟩⟩
        walk_at "mpR"
        refine ⟨_, ⟨_, _, rfl, n, f, d, rfl, hf, rfl, hpd, rfl⟩, ?_⟩
        rw [hcv]
        walk_at "mpR"
        exact ⟨rfl, fun h => (by simp at h)⟩
      | false =>
        walk_at "mpR"
        refine ⟨fun _ => ?_, fun h => (by simp at h)⟩
        walk_at "mpR"
        refine ⟨fun _ => ?_, fun h => (by simp at h)⟩
        walk_at "mpR"
        refine ⟨_, ⟨_, _, rfl, n, f, d, rfl, hf, rfl, hpd, rfl⟩, ?_⟩
        rw [hcv]
        walk_at "mpR"
        exact ⟨rfl, fun h => (by simp at h)⟩
    have nxt : NX K (b0.add (.lst ps) vv) (InvS K (b0.add (.lst ps) vv) fun a => ∃ w10 w12, a = ⟨E2 [some (.dat (.lst ps)), w9, w10, w11, w12, none], mF⟩) ⟨E2 [some (.dat (.lst ps)), w9, some (.dat d), w11, some (.dat (.bl (holdsT n f d))), none], mF⟩ := nx_inv ⟨_, _, rfl⟩
    refine gs_if (et_and (et_B (ev_var rfl ⟨_, rfl, fun htrue => ?_, fun _ => ⟨fun h => (by cases h), fun _ => gs_next nxt⟩⟩)))
    obtain ⟨psd, hdd⟩ := hP.kind hf hm htrue
    subst hdd
    refine et_test (ev_op (ev_op (ev_var rfl (ev_int (ro_ixT (atI_nat (n := 0) rfl) (p0E rfl (ro_neSS ?_)))))))
    exact ⟨_, rfl, fun h => (by simp at h), fun _ => gs_next nxt⟩
  · rintro _ ⟨w10, w12, rfl⟩
    walk_at "mpR"
    exact hret.go fun p c hp => hall p c hp
end MP
/-! MPFin -/
theorem PySem.Challenge.cw_metricparts_k46_whole_papers_of_trees_holds : PySem.Challenge.rw_metricparts_k46_whole_papers_of_trees.Holds := by
  exact MP.holds_of (@fun _ _ _ _ _ M _ F => MP.law_ok M F)
